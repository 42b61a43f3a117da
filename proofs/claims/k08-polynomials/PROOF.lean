import PyProof.Rows.All
import Wide.All
import OpenK.AllK
import Wide.FinOn
import HandS.ForMost
import HandS.ForExc
import HandS.ExcInit
import HandS.Lambda
import HandS.IsInst
import KE.KSuper
import HandS.ClsMeth
import PySem.Challenge.RW_alwaysso_k08_polynomials_made_and_refuse
import KE.KTypeName
import HandS.Text
import HandS.Conv
import HandS.MakeKwOnly
import HandS.SlotsOwn
import PyProof.InstNe
import HandS.Style
import HandS.TupAny
import HandS.Star
import KE.SortData
import HandS.Dict
import PyProof.ReprRoads
import HandS.Zip
import HandS.Iter
import KE.KDictWalk
import KE.KTupSum
import KE.SortKeyHeap
import HandS.SortKw
import HandS.ExcSuper
import HandS.MakeKw
import HandS.ExcOwn
import HandS.ExcField
import HandS.ExcValue
import KE.KExcIs
import HandS.SetFor
import HandS.TryOnly
import HandS.WordsExc
import HandS.TupMul
import PyProof.StrOps2
import KE.KDictPairs
import KE.KEqNest
import PyProof.ReprLen
import PyProof.FitsInt
import HandS.EndTab
set_option Elab.async false
set_option linter.all false
set_option maxRecDepth 100000
-- part DL1
set_option maxHeartbeats 4000000
/-! a layer of values as trees over the readings of the hand layer -/
namespace DL
open PySem L2

/-! ### values as trees -/
inductive D where
  | non | bl (b : Bool) | int (i : Int) | str (x : Str)
  | lst (xs : List D) | tup (xs : List D)
  | obj (c : Str) (ns : List Str) (ds : List D)
  /-- an exception of an own class below ValueError, its attributes -/
  | exc (C : Addr) (ns : List Str) (ds : List D)
  /-- a dict whose keys are ints and texts | tuples of such -/
  | dik (ks : List Key) (vs : List D)
  | dic (ks : List (List Key)) (vs : List D)
  | opq (v : V)
  | well

structure Wd where
  K : PySem.W.Frag
  cls : Str → Option Addr
  /-- what draws, if there is such a list -/
  pw : Option Addr

def keyD : Key → D
  | .inl i => .int i
  | .inr x => .str x
def keyT (ks : List Key) : D := .tup (ks.map keyD)

mutual
def Den (W : Wd) (F : Hp) : D → V → Prop
  | .non, v => v = .non
  | .bl b, v => v = .bl b
  | .int i, v => v = .int i
  | .str x, v => v = .str x
  | .lst ds, v => ∃ a xs, v = .ref a ∧ SqL W.K F a xs ∧ DenL W F ds xs
  | .tup ds, v => ∃ a xs, v = .ref a ∧ F a = some (.tup xs) ∧ DenL W F ds xs
  | .obj c ns ds, v => ∃ a C dx gs, v = .ref a ∧ F a = some (.ins C dx gs) ∧ W.cls c = some C ∧ gs.map (·.1) = ns ∧ DenL W F ds (gs.map (·.2))
  | .exc C ns ds, v => ∃ a gs, v = .ref a ∧ ((F a = some (exo a C none) ∧ gs = []) ∨ ∃ dx, F a = some (exo a C (some dx)) ∧ F dx = some (exd dx gs)) ∧ gs.map (·.1) = ns ∧ DenL W F ds (gs.map (·.2))
  | .dik ks vs, v => ∃ (a : Addr) (kvs : List (Key × V)), v = .ref a ∧ F a = some (.dK kvs) ∧ kvs.map (·.1) = ks ∧ DenL W F vs (kvs.map (·.2))
  | .dic ks vs, v => ∃ (a : Addr) (kvs : List (List Key × V)), v = .ref a ∧ Rd F a (.dT kvs) ∧ kvs.map (·.1) = ks ∧ DenL W F vs (kvs.map (·.2))
  | .opq u, v => v = u
  | .well, v => ∃ p, W.pw = some p ∧ v = .ref p
def DenL (W : Wd) (F : Hp) : List D → List V → Prop
  | [], xs => xs = []
  | d :: ds, xs => ∃ x r, xs = x :: r ∧ Den W F d x ∧ DenL W F ds r
end

theorem rd_mono {F F' : Hp} {a : Addr} {o : HO} (e : Same F F') (h : Rd F a o) : Rd F' a o := h.elim (fun h => .inl (e _ _ h)) fun ⟨ob, h⟩ => .inr ⟨ob, e _ _ h⟩
theorem same_sqL {K : PySem.W.Frag} {F F' : Hp} {a : Addr} {xs : List V} (e : Same F F') (h : SqL K F a xs) : SqL K F' a xs := e.seq h
theorem sqT_of {K : PySem.W.Frag} {F F' : Hp} {a : Addr} {xs : List V} (e : Same F F') (h : F a = some (.tup xs)) : SqT K F' a xs := .inl (.inl (e _ _ h))
theorem same_sqT {K : PySem.W.Frag} {F F' : Hp} {a : Addr} {xs : List V} (e : Same F F') (h : SqT K F a xs) : SqT K F' a xs := by
  rcases h with (h | ⟨o, h⟩) | h
  · exact .inl (.inl (e _ _ h))
  · exact .inl (.inr ⟨o, e _ _ h⟩)
  · exact .inr h
mutual
theorem Den.mono {W : Wd} {F F' : Hp} (e : Same F F') : ∀ {d : D} {v : V}, Den W F d v → Den W F' d v
  | .non, _, h => h
  | .bl _, _, h => h
  | .int _, _, h => h
  | .str _, _, h => h
  | .lst ds, _, ⟨a, xs, ev, hs, hd⟩ => ⟨a, xs, ev, same_sqL e hs, DenL.mono e hd⟩
  | .tup ds, _, ⟨a, xs, ev, hs, hd⟩ => ⟨a, xs, ev, e _ _ hs, DenL.mono e hd⟩
  | .obj c ns ds, _, ⟨a, C, dx, gs, ev, hf, hc, hn, hd⟩ => ⟨a, C, dx, gs, ev, e _ _ hf, hc, hn, DenL.mono e hd⟩
  | .exc C ns ds, _, ⟨a, gs, ev, hf, hn, hd⟩ => ⟨a, gs, ev, hf.elim (fun h => .inl ⟨e _ _ h.1, h.2⟩) (fun ⟨dx, h1, h2⟩ => .inr ⟨dx, e _ _ h1, e _ _ h2⟩), hn, DenL.mono e hd⟩
  | .dik ks vs, _, ⟨a, kvs, ev, hf, hn, hd⟩ => ⟨a, kvs, ev, e _ _ hf, hn, DenL.mono e hd⟩
  | .dic ks vs, _, ⟨a, kvs, ev, hf, hn, hd⟩ => ⟨a, kvs, ev, rd_mono e hf, hn, DenL.mono e hd⟩
  | .opq _, _, h => h
  | .well, _, h => h
theorem DenL.mono {W : Wd} {F F' : Hp} (e : Same F F') : ∀ {ds : List D} {xs : List V}, DenL W F ds xs → DenL W F' ds xs
  | [], _, h => h
  | _ :: _, _, ⟨x, r, ev, h1, h2⟩ => ⟨x, r, ev, Den.mono e h1, DenL.mono e h2⟩
end
theorem DenL.nil {W : Wd} {F : Hp} : DenL W F [] [] := rfl
theorem DenL.cons {W : Wd} {F : Hp} {d : D} {ds : List D} {x : V} {xs : List V} (h : Den W F d x) (t : DenL W F ds xs) : DenL W F (d :: ds) (x :: xs) := ⟨x, xs, rfl, h, t⟩
theorem DenL.length {W : Wd} {F : Hp} : ∀ {ds : List D} {xs : List V}, DenL W F ds xs → ds.length = xs.length
  | [], _, h => by cases h; rfl
  | _ :: ds, _, ⟨x, r, ev, _, h2⟩ => by subst ev; rw [List.length_cons, List.length_cons, DenL.length h2]
theorem DenL.append {W : Wd} {F : Hp} : ∀ {ds es : List D} {xs ys : List V}, DenL W F ds xs → DenL W F es ys → DenL W F (ds ++ es) (xs ++ ys)
  | [], _, _, _, h, t => by cases h; exact t
  | _ :: ds, _, _, _, ⟨x, r, ev, h1, h2⟩, t => by subst ev; exact ⟨x, _, rfl, h1, DenL.append h2 t⟩
theorem DenL.get {W : Wd} {F : Hp} : ∀ {ds : List D} {xs : List V} {i : Nat} {d : D}, DenL W F ds xs → ds[i]? = some d → ∃ x, xs[i]? = some x ∧ Den W F d x
  | _ :: _, _, 0, d, ⟨x, r, ev, h1, _⟩, e => by subst ev; cases e; exact ⟨x, rfl, h1⟩
  | _ :: ds, _, i + 1, d, ⟨x, r, ev, _, h2⟩, e => by
    subst ev
    obtain ⟨y, hy, hd⟩ := DenL.get (i := i) (d := d) h2 (by simpa using e)
    exact ⟨y, by simpa using hy, hd⟩
theorem DenL.getV {W : Wd} {F : Hp} {ds : List D} {xs : List V} {i : Nat} {x : V} (h : DenL W F ds xs) (e : xs[i]? = some x) : ∃ d, ds[i]? = some d ∧ Den W F d x := by
  have hl := h.length
  obtain ⟨hi, _⟩ := List.getElem?_eq_some_iff.mp e
  have hd : ds[i]? = some (ds[i]'(by omega)) := List.getElem?_eq_getElem _
  obtain ⟨y, hy, hdy⟩ := h.get hd
  rw [e] at hy; cases hy
  exact ⟨_, hd, hdy⟩
theorem DenL.split {W : Wd} {F : Hp} : ∀ {ds es : List D} {xs : List V}, DenL W F (ds ++ es) xs → ∃ x1 x2, xs = x1 ++ x2 ∧ DenL W F ds x1 ∧ DenL W F es x2
  | [], _, xs, h => ⟨[], xs, rfl, rfl, h⟩
  | _ :: ds, _, _, ⟨x, r, ev, h1, h2⟩ => by
    subst ev
    obtain ⟨x1, x2, e, a, b⟩ := DenL.split (ds := ds) h2
    exact ⟨x :: x1, x2, by rw [e]; rfl, ⟨x, x1, rfl, h1, a⟩, b⟩
theorem DenL.take {W : Wd} {F : Hp} : ∀ {ds : List D} {xs : List V} (n : Nat), DenL W F ds xs → DenL W F (ds.take n) (xs.take n)
  | _, _, 0, _ => rfl
  | [], _, _ + 1, h => by cases h; rfl
  | _ :: _, _, n + 1, ⟨x, r, ev, h1, h2⟩ => by subst ev; exact ⟨x, r.take n, rfl, h1, DenL.take n h2⟩
theorem DenL.drop {W : Wd} {F : Hp} : ∀ {ds : List D} {xs : List V} (n : Nat), DenL W F ds xs → DenL W F (ds.drop n) (xs.drop n)
  | _, _, 0, h => h
  | [], _, _ + 1, h => by cases h; rfl
  | _ :: _, _, n + 1, ⟨x, r, ev, h1, h2⟩ => by subst ev; exact DenL.drop n h2
theorem DenL.set {W : Wd} {F : Hp} {d : D} {x : V} (h : Den W F d x) : ∀ {ds : List D} {xs : List V} (n : Nat), DenL W F ds xs → DenL W F (ds.set n d) (xs.set n x)
  | [], _, _, t => by cases t; rfl
  | _ :: _, _, 0, ⟨y, r, ev, h1, h2⟩ => by subst ev; exact ⟨x, r, rfl, h, h2⟩
  | _ :: _, _, n + 1, ⟨y, r, ev, h1, h2⟩ => by subst ev; exact ⟨y, _, rfl, h1, DenL.set h n h2⟩
theorem denL_ints {W : Wd} {F : Hp} : ∀ (ns : List Int), DenL W F (ns.map D.int) (ns.map V.int)
  | [] => rfl
  | n :: ns => ⟨_, _, rfl, rfl, denL_ints ns⟩
theorem denL_ints_inv {W : Wd} {F : Hp} : ∀ {ns : List Int} {xs : List V}, DenL W F (ns.map D.int) xs → xs = ns.map V.int
  | [], _, h => h
  | n :: ns, _, ⟨x, r, ev, h1, h2⟩ => by
    have h1 : x = .int n := h1
    rw [ev, h1, denL_ints_inv h2]; rfl

/-- an object of one's own: its content stands in H, what is in it is frozen in F -/
def OwnAt (W : Wd) (F H : Hp) (p : Addr) : D → Prop
  | .lst ds => ∃ xs, H p = some (.lst xs) ∧ DenL W F ds xs
  | .obj c ns ds => ∃ C dx gs, H p = some (.ins C dx gs) ∧ W.cls c = some C ∧ gs.map (·.1) = ns ∧ DenL W F ds (gs.map (·.2))
  | .dik ks vs => ∃ kvs : List (Key × V), H p = some (.dK kvs) ∧ kvs.map (·.1) = ks ∧ DenL W F vs (kvs.map (·.2))
  | .dic ks vs => ∃ kvs : List (List Key × V), H p = some (.dT kvs) ∧ kvs.map (·.1) = ks ∧ DenL W F vs (kvs.map (·.2))
  | _ => False
theorem OwnAt.ne {W : Wd} {F H : Hp} {p : Addr} : ∀ {d : D}, OwnAt W F H p d → ∃ o, H p = some o
  | .lst _, ⟨_, h, _⟩ => ⟨_, h⟩
  | .obj _ _ _, ⟨_, _, _, h, _⟩ => ⟨_, h⟩
  | .dik _ _, ⟨_, h, _⟩ => ⟨_, h⟩
  | .dic _ _, ⟨_, h, _⟩ => ⟨_, h⟩
theorem OwnAt.mono {W : Wd} {F F' H H' : Hp} {p : Addr} (e : Same F F') (hp : H' p = H p) : ∀ {d : D}, OwnAt W F H p d → OwnAt W F' H' p d
  | .lst _, ⟨_, h, k⟩ => ⟨_, hp.trans h, DenL.mono e k⟩
  | .obj _ _ _, ⟨_, _, _, h, c, n, k⟩ => ⟨_, _, _, hp.trans h, c, n, DenL.mono e k⟩
  | .dik _ _, ⟨_, h, n, k⟩ => ⟨_, hp.trans h, n, DenL.mono e k⟩
  | .dic _ _, ⟨_, h, n, k⟩ => ⟨_, hp.trans h, n, DenL.mono e k⟩
/-- given up: it is frozen as it stands -/
theorem OwnAt.freeze {W : Wd} {F F' H : Hp} {p : Addr} (e : Same F F') (hp : F' p = H p) : ∀ {d : D}, OwnAt W F H p d → Den W F' d (.ref p)
  | .lst _, ⟨_, h, k⟩ => ⟨p, _, rfl, .inl (.inl (hp.trans h)), DenL.mono e k⟩
  | .obj _ _ _, ⟨_, _, _, h, c, n, k⟩ => ⟨p, _, _, _, rfl, hp.trans h, c, n, DenL.mono e k⟩
  | .dik _ _, ⟨_, h, n, k⟩ => ⟨p, _, rfl, hp.trans h, n, DenL.mono e k⟩
  | .dic _ _, ⟨_, h, n, k⟩ => ⟨p, _, rfl, .inl (hp.trans h), n, DenL.mono e k⟩

/-- something stands there that is no tuple -/
def nt (x : Option HO) : Prop := x ≠ none ∧ ∀ xs, x ≠ some (.tup xs)
theorem nt_of {x : Option HO} {o : HO} (h : x = some o) (n : ∀ xs, o ≠ .tup xs) : nt x := ⟨(by rw [h]; exact fun q => nomatch q), fun xs z => n xs (Option.some.inj (h.symm.trans z))⟩
theorem nt_eq {x y : Option HO} (h : nt x) (e : ∀ o, x = some o → y = some o) : nt y := by
  cases q : x with
  | none => exact absurd q h.1
  | some o => exact nt_of (e o q) fun xs z => h.2 xs (by rw [q, z])
theorem OwnAt.nt {W : Wd} {F H : Hp} {p : Addr} : ∀ {d : D}, OwnAt W F H p d → nt (H p)
  | .lst _, ⟨_, h, _⟩ => nt_of h fun _ z => nomatch z
  | .obj _ _ _, ⟨_, _, _, h, _⟩ => nt_of h fun _ z => nomatch z
  | .dik _ _, ⟨_, h, _⟩ => nt_of h fun _ z => nomatch z
  | .dic _ _, ⟨_, h, _⟩ => nt_of h fun _ z => nomatch z
/-! ### the state -/
inductive Sl where
  | un | v (d : D) | o (d : D)
structure Ev where
  sl : List Sl
  c : Nat
def Ev.set (ρ : Ev) (i : Nat) (s : Sl) : Ev := ⟨ρ.sl.set i s, ρ.c⟩
def Ev.cnt (ρ : Ev) (c : Nat) : Ev := ⟨ρ.sl, c⟩

structure Bs where
  F0 : Hp
  H0 : Hp
  io : List Addr
  /-- objects of one's own that no slot holds (a comprehension's list) -/
  hid : List (Addr × D)

def SlOk (W : Wd) (B : Bs) (F H : Hp) (x : Option (Option V)) : Sl → Prop
  | .un => True
  | .v d => ∃ u, x = some (some u) ∧ Den W F d u
  | .o d => ∃ p, x = some (some (.ref p)) ∧ F p = none ∧ (B.H0 p = none ∨ p ∈ B.io) ∧ W.pw ≠ some p ∧ OwnAt W F H p d

/-- the name by which a world tells the table of code objects named q -/
def tabN (q : Str) : Str := ⟨#[0] ++ q.cps⟩
/-- the tables that the world tells are right -/
def TabsOk (W : Wd) (io : List Addr) (F H : Hp) : Prop := ∀ (q : Str) (P : Addr), W.cls (tabN q) = some P → F P = none ∧ P ∉ io ∧ LamX.TabS H P q
/-- kept, or a table that grew -/
def tw (o : HO) (x : Option HO) : Prop := x = some o ∨ ∃ ps qs, o = .tbl ps ∧ x = some (.tbl qs)
theorem tw.eq {o : HO} {x : Option HO} (h : tw o x) (n : ∀ ps, o ≠ .tbl ps) : x = some o := h.elim id fun ⟨ps, _, e, _⟩ => absurd e (n ps)
theorem tw.ex {o : HO} {x : Option HO} (h : tw o x) : ∃ u, x = some u := h.elim (fun h => ⟨_, h⟩) fun ⟨_, _, _, e⟩ => ⟨_, e⟩
theorem tw.nt {o : HO} {x : Option HO} (h : tw o x) (n : ∀ xs, o ≠ .tup xs) : nt x := h.elim (fun h => nt_of h n) fun ⟨_, _, _, e⟩ => nt_of e fun _ z => nomatch z
theorem tw.trans {o : HO} {x y : Option HO} (h : tw o x) (k : ∀ u, x = some u → tw u y) : tw o y := by
  rcases h with h | ⟨ps, qs, e, h⟩
  · exact k o h
  · rcases k _ h with k | ⟨ps', qs', e', k⟩
    · exact .inr ⟨ps, qs, e, k⟩
    · exact .inr ⟨ps, qs', e, k⟩
theorem nt_tw {x y : Option HO} (h : nt x) (k : ∀ o, x = some o → tw o y) : nt y := by
  cases q : x with
  | none => exact absurd q h.1
  | some o => exact (k o q).nt fun xs z => h.2 xs (by rw [q, z])
theorem tabS_at {H : Hp} {P : Addr} {q : Str} (t : LamX.TabS H P q) : ∃ ps, H P = some (.tbl ps) := let ⟨ps, h, _⟩ := t; ⟨ps, h⟩
theorem tabS_nt {H : Hp} {P : Addr} {q : Str} (t : LamX.TabS H P q) : nt (H P) := let ⟨_, h⟩ := tabS_at t; nt_of h fun _ z => nomatch z
theorem tabS_upd {H : Hp} {p P : Addr} {q : Str} {o u : HO} (t : LamX.TabS H P q) (h : H p = some u) (n1 : ∀ ps, u ≠ .tbl ps) (n2 : ∀ φ, u ≠ .ext φ) : LamX.TabS (upd H p o) P q := by
  obtain ⟨ps, h1, h2, h3⟩ := t
  refine ⟨ps, ?_, h2, fun pos cv hc => ?_⟩
  · rw [upd_ne (fun z => by rw [z, h] at h1; exact n1 _ (Option.some.inj h1))]; exact h1
  · obtain ⟨c, e1, e2⟩ := h3 pos cv hc
    refine ⟨c, e1, ?_⟩
    rw [upd_ne (fun z => by rw [z, h] at e2; exact n2 _ (Option.some.inj e2))]; exact e2
theorem TabsOk.mono {W : Wd} {io : List Addr} {F H F' H' : Hp} (h : TabsOk W io F H) (k : ∀ P q, LamX.TabS H P q → F P = none → F' P = none ∧ LamX.TabS H' P q) : TabsOk W io F' H' := fun q P e => by
  obtain ⟨a, b, c⟩ := h q P e
  obtain ⟨a', c'⟩ := k P q c a
  exact ⟨a', b, c'⟩

def WellP (W : Wd) (B : Bs) (F H : Hp) (c : Nat) : Prop :=
  match W.pw with
  | none => True
  | some p => F p = none ∧ p ∉ B.io ∧ ∃ (pc : Addr) (ns : List Int) (t r : Int), H p = some (.lst [.ref pc, .int t, .int r]) ∧ SqL W.K F pc (ns.map V.int) ∧ 0 ≤ t ∧ t ≤ (c : Int) ∧ 0 ≤ r ∧ ns.length ≤ 60

def WellOk (W : Wd) (B : Bs) (F H : Hp) (c : Nat) : Prop := WellP W B F H c ∧ TabsOk W B.io F H

structure Rel (W : Wd) (B : Bs) (F H : Hp) (σ : St) (ρ : Ev) : Prop where
  ex : Same F H
  len : σ.length = ρ.sl.length
  sl : ∀ (i : Nat) (s : Sl), ρ.sl[i]? = some s → SlOk W B F H σ[i]? s
  inj : ∀ (i j : Nat) (d e : D) (p : Addr), ρ.sl[i]? = some (.o d) → ρ.sl[j]? = some (.o e) → σ[i]? = some (some (.ref p)) → σ[j]? = some (some (.ref p)) → i = j
  well : WellOk W B F H ρ.c
  keep : ∀ a o, B.H0 a = some o → W.pw ≠ some a → a ∉ B.io → tw o (H a)
  new : ∀ a, nt (B.H0 a) → B.F0 a = none → F a = none
  f0 : Same B.F0 F
  ioH : ∀ a ∈ B.io, nt (H a)
  hid : ∀ q ∈ B.hid, F q.1 = none ∧ B.H0 q.1 = none ∧ W.pw ≠ some q.1 ∧ OwnAt W F H q.1 q.2
  hap : ∀ q ∈ B.hid, ∀ (i : Nat) (e : D), ρ.sl[i]? = some (.o e) → σ[i]? ≠ some (some (.ref q.1))
  hnd : (B.hid.map (·.1)).Nodup

section
variable {W : Wd} {B : Bs} {F F' H H' : Hp} {σ : St} {ρ : Ev}
theorem WellOk.hp {c : Nat} (h : WellOk W B F H c) {p : Addr} (e : W.pw = some p) : H p ≠ none := by
  have h := h.1
  unfold WellP at h
  rw [e] at h
  obtain ⟨_, _, _, _, _, _, h, _⟩ := h
  rw [h]; exact fun q => nomatch q
theorem WellOk.nt {c : Nat} (h : WellOk W B F H c) {p : Addr} (e : W.pw = some p) : DL.nt (H p) := by
  have h := h.1
  unfold WellP at h
  rw [e] at h
  obtain ⟨_, _, _, _, _, _, h, _⟩ := h
  exact nt_of h fun _ z => nomatch z
theorem WellOk.fp {c : Nat} (h : WellOk W B F H c) {p : Addr} (e : W.pw = some p) : F p = none := by
  have h := h.1
  unfold WellP at h
  rw [e] at h
  exact h.1
theorem WellOk.nio {c : Nat} (h : WellOk W B F H c) {p : Addr} (e : W.pw = some p) : p ∉ B.io := by
  have h := h.1
  unfold WellP at h
  rw [e] at h
  exact h.2.1
theorem WellOk.mono {c : Nat} (h : WellOk W B F H c) (e : Same F F') (hw : ∀ p, W.pw = some p → F' p = none ∧ H' p = H p) (hT : ∀ P q, LamX.TabS H P q → F P = none → F' P = none ∧ LamX.TabS H' P q) : WellOk W B F' H' c := by
  refine ⟨?_, h.2.mono hT⟩
  have h := h.1
  unfold WellP at h ⊢
  cases hp : W.pw with
  | none => trivial
  | some p =>
    rw [hp] at h
    obtain ⟨h1, h2, pc, ns, t, r, h3, h4, h5⟩ := h
    obtain ⟨q1, q2⟩ := hw p hp
    exact ⟨q1, h2, pc, ns, t, r, q2.trans h3, same_sqL e h4, h5⟩
/-- an address that H does not know was not known at the entry -/
theorem Rel.fresh0 (R : Rel W B F H σ ρ) {p : Addr} (h : H p = none) : B.H0 p = none := by
  cases q : B.H0 p with
  | none => rfl
  | some o =>
    by_cases h1 : W.pw = some p
    · exact absurd h (R.well.hp h1)
    · by_cases h2 : p ∈ B.io
      · exact absurd h (R.ioH p h2).1
      · obtain ⟨u, e⟩ := (R.keep p o q h1 h2).ex
        rw [e] at h; cases h
theorem Rel.npw (R : Rel W B F H σ ρ) {p : Addr} (h : H p = none) : W.pw ≠ some p := fun e => R.well.hp e h
theorem Rel.fF (R : Rel W B F H σ ρ) {p : Addr} (h : H p = none) : F p = none := R.ex.free h

theorem Rel.ntH (R : Rel W B F H σ ρ) {a : Addr} (h : nt (B.H0 a)) : nt (H a) := by
  by_cases h1 : W.pw = some a
  · exact R.well.nt h1
  · by_cases h2 : a ∈ B.io
    · exact R.ioH a h2
    · exact nt_tw h fun o q => R.keep a o q h1 h2
/-- both heaps grow by new objects, and in tables, alone -/
structure Stp (F H F' H' : Hp) : Prop where
  ff : Same F F'
  hh : ∀ a o, H a = some o → tw o (H' a)
  fh : Same F' H'
  new : ∀ a, nt (H a) → F a = none → F' a = none
  tab : ∀ P q, LamX.TabS H P q → LamX.TabS H' P q
theorem Stp.keepO (s : Stp F H F' H') {a : Addr} {o : HO} (h : H a = some o) (n : ∀ ps, o ≠ .tbl ps) : H' a = some o := (s.hh a o h).eq n
theorem Stp.refl (h : Same F H) : Stp F H F H := ⟨Same.refl _, fun _ _ h => .inl h, h, fun _ _ h => h, fun _ _ h => h⟩
theorem Stp.trans {F1 H1 F2 H2 : Hp} (a : Stp F H F1 H1) (b : Stp F1 H1 F2 H2) : Stp F H F2 H2 :=
  ⟨a.ff.trans b.ff, fun p o h => (a.hh p o h).trans (b.hh p), b.fh, fun p h1 h2 => b.new p (nt_tw h1 fun o q => a.hh _ _ q) (a.new p h1 h2), fun P q t => b.tab P q (a.tab P q t)⟩
theorem Stp.of {F1 H1 : Hp} (ff : Same F F1) (hh : Same H H1) (fh : Same F1 H1) (new : ∀ a, nt (H a) → F a = none → F1 a = none) : Stp F H F1 H1 := ⟨ff, fun _ _ h => .inl (hh _ _ h), fh, new, fun _ _ t => t.ext hh⟩
theorem same_upd {F : Hp} {p : Addr} {o : HO} (h : F p = none) : Same F (upd F p o) := fun b u e => by
  rw [upd_ne (ne_of_none e h)]; exact e
theorem same_upd2 {p : Addr} {o : HO} (e : Same F H) : Same (upd F p o) (upd H p o) := fun b u h => by
  by_cases hb : b = p
  · subst hb; rw [upd_same] at h ⊢; exact h
  · rw [upd_ne hb] at h ⊢; exact e _ _ h
theorem Stp.one {p : Addr} {o : HO} (e : Same F H) (h : H p = none) : Stp F H (upd F p o) (upd H p o) :=
  Stp.of (same_upd (e.free h)) (same_upd h) (same_upd2 e) fun a h1 h2 => by
    have : a ≠ p := fun z => by subst z; exact h1.1 h
    rw [upd_ne this]; exact h2
/-- an object that is laid but not frozen (an instance's own dict) -/
theorem Stp.lay {p : Addr} {o : HO} (e : Same F H) (h : H p = none) : Stp F H F (upd H p o) :=
  Stp.of (Same.refl _) (same_upd h) (e.trans (same_upd h)) fun a _ h2 => h2
theorem OwnAt.kind {p : Addr} : ∀ {d : D}, OwnAt W F H p d → ∃ o, H p = some o ∧ (∀ ps, o ≠ .tbl ps) ∧ ∀ φ, o ≠ .ext φ
  | .lst _, ⟨_, h, _⟩ => ⟨_, h, (fun _ z => nomatch z), fun _ z => nomatch z⟩
  | .obj _ _ _, ⟨_, _, _, h, _⟩ => ⟨_, h, (fun _ z => nomatch z), fun _ z => nomatch z⟩
  | .dik _ _, ⟨_, h, _⟩ => ⟨_, h, (fun _ z => nomatch z), fun _ z => nomatch z⟩
  | .dic _ _, ⟨_, h, _⟩ => ⟨_, h, (fun _ z => nomatch z), fun _ z => nomatch z⟩
theorem OwnAt.tabne {p P : Addr} {d : D} {q : Str} (own : OwnAt W F H p d) (t : LamX.TabS H P q) : P ≠ p := fun z => by
  obtain ⟨o, h, n, _⟩ := own.kind
  obtain ⟨ps, h'⟩ := tabS_at t
  rw [z, h] at h'
  exact n ps (Option.some.inj h')
theorem OwnAt.tab {p P : Addr} {d : D} {q : Str} {o : HO} (own : OwnAt W F H p d) (t : LamX.TabS H P q) : LamX.TabS (upd H p o) P q := by
  obtain ⟨u, h, n1, n2⟩ := own.kind
  exact tabS_upd t h n1 n2
theorem OwnAt.stay {p : Addr} {d : D} {H' F' : Hp} (own : OwnAt W F H p d) (e : Same F F') (k : ∀ o, H p = some o → tw o (H' p)) : OwnAt W F' H' p d := by
  obtain ⟨u, h, n1, n2⟩ := own.kind
  exact own.mono e (((k u h).eq n1).trans h.symm)
theorem Rel.stp (R : Rel W B F H σ ρ) (s : Stp F H F' H') : Rel W B F' H' σ ρ := by
  refine ⟨s.fh, R.len, fun i sl h => ?_, R.inj, ?_, fun a o h1 h2 h3 => (R.keep a o h1 h2 h3).trans (s.hh a), fun a h1 h2 => ?_, R.f0.trans s.ff, fun a ha => ?_, fun q hq => ?_, R.hap, R.hnd⟩
  · have q := R.sl i sl h
    cases sl with
    | un => trivial
    | v d => obtain ⟨u, e, hd⟩ := q; exact ⟨u, e, hd.mono s.ff⟩
    | o d =>
      obtain ⟨p, e, fp, h0, hw, own⟩ := q
      exact ⟨p, e, s.new p own.nt fp, h0, hw, own.stay s.ff fun o h => s.hh p o h⟩
  · refine R.well.mono s.ff (fun p hp => ⟨s.new p (R.well.nt hp) (R.well.fp hp), ?_⟩) fun P q t fp => ⟨s.new P (tabS_nt t) fp, s.tab P q t⟩
    have w := R.well.1
    unfold WellP at w
    rw [hp] at w
    obtain ⟨_, _, _, _, _, _, h, _⟩ := w
    exact (s.keepO h fun _ z => nomatch z).trans h.symm
  · exact s.new a (R.ntH h1) (R.new a h1 h2)
  · exact nt_tw (R.ioH a ha) fun o q => s.hh _ _ q
  · obtain ⟨h1, h2, h3, h4⟩ := R.hid q hq
    exact ⟨s.new _ h4.nt h1, h2, h3, h4.stay s.ff fun o h => s.hh _ o h⟩
end
end DL

-- part DL2
set_option maxHeartbeats 4000000
namespace DL
open PySem L2

/-! ### readings over trees -/
abbrev DE := Ev → (Ev → D → Prop) → Prop
abbrev DT := Ev → (Ev → Bool → Prop) → Prop
abbrev DA := Ev → (Ev → List D → Prop) → Prop
abbrev DI := Ev → (Ev → List D → Prop) → Prop
abbrev DG := D → Ev → (Ev → Prop) → Prop
abbrev DGs := List D → Ev → (Ev → Prop) → Prop
structure DEnds where
  nx : Ev → Prop
  rt : Ev → D → Prop
  bk : Ev → Prop := fun _ => False
  ct : Ev → Prop := fun _ => False
abbrev DS := DEnds → Ev → Prop

structure Fits (W : Wd) (B : Bs) (F : Hp) (D : Ends) (DD : DEnds) : Prop where
  nx : ∀ σ H F' ρ, Rel W B F' H σ ρ → Same F F' → DD.nx ρ → D.nx σ H
  bk : ∀ σ H F' ρ, Rel W B F' H σ ρ → Same F F' → DD.bk ρ → D.bk σ H
  ct : ∀ σ H F' ρ, Rel W B F' H σ ρ → Same F F' → DD.ct ρ → D.ct σ H
  rt : ∀ σ H F' ρ d v, Rel W B F' H σ ρ → Same F F' → Den W F' d v → DD.rt ρ d → D.rt v H

def RE (W : Wd) (B : Bs) (te : TE) (t : DE) : Prop := ∀ (σ : St) (H F : Hp) (ρ : Ev) (Q : Ev → D → Prop) (R : VK), Rel W B F H σ ρ → t ρ Q →
  (∀ v H' F' ρ' d, Rel W B F' H' σ ρ' → Same F F' → Den W F' d v → Q ρ' d → R v H') → te σ H R
def RT (W : Wd) (B : Bs) (te : TT) (t : DT) : Prop := ∀ (σ : St) (H F : Hp) (ρ : Ev) (Q : Ev → Bool → Prop) (R : Bool → Hp → Prop), Rel W B F H σ ρ → t ρ Q →
  (∀ b H' F' ρ', Rel W B F' H' σ ρ' → Same F F' → Q ρ' b → R b H') → te σ H R
def RA (W : Wd) (B : Bs) (te : TA) (t : DA) : Prop := ∀ (σ : St) (H F : Hp) (ρ : Ev) (Q : Ev → List D → Prop) (R : List V → Hp → Prop), Rel W B F H σ ρ → t ρ Q →
  (∀ vs H' F' ρ' ds, Rel W B F' H' σ ρ' → Same F F' → DenL W F' ds vs → Q ρ' ds → R vs H') → te σ H R
/-- a new object of one's own -/
structure New (W : Wd) (B : Bs) (F H : Hp) (σ : St) (ρ : Ev) (p : Addr) (d : D) : Prop where
  own : OwnAt W F H p d
  fp : F p = none
  h0 : B.H0 p = none
  pw : W.pw ≠ some p
  ap : ∀ (i : Nat) (e : D), ρ.sl[i]? = some (.o e) → σ[i]? ≠ some (some (.ref p))
  nh : ∀ q ∈ B.hid, q.1 ≠ p
def RN (W : Wd) (B : Bs) (te : TE) (t : DE) : Prop := ∀ (σ : St) (H F : Hp) (ρ : Ev) (Q : Ev → D → Prop) (R : VK), Rel W B F H σ ρ → t ρ Q →
  (∀ p H' F' ρ' d, Rel W B F' H' σ ρ' → Same F F' → New W B F' H' σ ρ' p d → Q ρ' d → R (.ref p) H') → te σ H R
def RS (W : Wd) (B : Bs) (ts : TS) (t : DS) : Prop := ∀ (σ : St) (H F : Hp) (ρ : Ev) (D : Ends) (DD : DEnds), Rel W B F H σ ρ → t DD ρ → Fits W B F D DD → ts D σ H
/-- a target; is: the slots that it sets -/
def RG (W : Wd) (B : Bs) (tg : TG) (t : DG) (is : List Nat) : Prop := ∀ (σ : St) (H F : Hp) (ρ : Ev) (v : V) (d : D) (Q : Ev → Prop) (R : St → Hp → Prop), Rel W B F H σ ρ → Den W F d v → t d ρ Q →
  (∀ σ' ρ', Rel W B F H σ' ρ' → (∀ j, j ∉ is → σ'[j]? = σ[j]?) → σ'.length = σ.length → Q ρ' → R σ' H) → tg v σ H R
def RGs (W : Wd) (B : Bs) (tg : TGs) (t : DGs) (is : List Nat) : Prop := ∀ (σ : St) (H F : Hp) (ρ : Ev) (vs : List V) (ds : List D) (Q : Ev → Prop) (R : St → Hp → Prop), Rel W B F H σ ρ → DenL W F ds vs → t ds ρ Q →
  (∀ σ' ρ', Rel W B F H σ' ρ' → (∀ j, j ∉ is → σ'[j]? = σ[j]?) → σ'.length = σ.length → Q ρ' → R σ' H) → tg vs σ H R

section
variable {W : Wd} {B : Bs} {F F' H H' : Hp} {σ : St} {ρ : Ev}
theorem Fits.mono {D : Ends} {DD : DEnds} (f : Fits W B F D DD) (e : Same F F') : Fits W B F' D DD :=
  ⟨fun σ H F2 ρ r s => f.nx σ H F2 ρ r (e.trans s), fun σ H F2 ρ r s => f.bk σ H F2 ρ r (e.trans s), fun σ H F2 ρ r s => f.ct σ H F2 ρ r (e.trans s), fun σ H F2 ρ d v r s => f.rt σ H F2 ρ d v r (e.trans s)⟩

theorem set_get_self {α : Type} {l : List α} {i : Nat} {a b : α} (h : l[i]? = some b) : (l.set i a)[i]? = some a := by
  have hi := (List.getElem?_eq_some_iff.mp h).1
  rw [List.getElem?_set_self hi]
/-- a slot gets a frozen value -/
theorem Rel.setv (R : Rel W B F H σ ρ) {i : Nat} {d : D} {v : V} (h : Den W F d v) : Rel W B F H (σ.set i (some v)) (ρ.set i (.v d)) := by
  refine ⟨R.ex, by show (σ.set i (some v)).length = (ρ.sl.set i (.v d)).length; rw [List.length_set, List.length_set]; exact R.len, fun j s hj => ?_, fun j k x y p hj hk h1 h2 => ?_, R.well, R.keep, R.new, R.f0, R.ioH, R.hid, fun q hq j x hj h1 => ?_, R.hnd⟩
  · by_cases e : i = j
    · subst e
      have hi : i < ρ.sl.length := by
        have := (List.getElem?_eq_some_iff.mp hj).1
        simpa [Ev.set] using this
      have hs : s = .v d := by
        have : (ρ.sl.set i (.v d))[i]? = some s := hj
        rw [List.getElem?_set_self hi] at this; exact (Option.some.inj this).symm
      subst hs
      exact ⟨v, by rw [List.getElem?_set_self (by rw [R.len]; exact hi)], h⟩
    · have : ρ.sl[j]? = some s := by
        have q : (ρ.sl.set i (.v d))[j]? = some s := hj
        rwa [List.getElem?_set_ne e] at q
      rw [List.getElem?_set_ne e]
      exact R.sl j s this
  · have ne : ∀ {m : Nat} {z : D}, (ρ.set i (.v d)).sl[m]? = some (.o z) → i ≠ m ∧ ρ.sl[m]? = some (.o z) := fun {m z} q => by
      have q : (ρ.sl.set i (.v d))[m]? = some (.o z) := q
      by_cases e : i = m
      · subst e
        have hi : i < ρ.sl.length := by
          have := (List.getElem?_eq_some_iff.mp q).1
          simpa using this
        rw [List.getElem?_set_self hi] at q; cases q
      · rw [List.getElem?_set_ne e] at q; exact ⟨e, q⟩
    obtain ⟨n1, q1⟩ := ne hj
    obtain ⟨n2, q2⟩ := ne hk
    rw [List.getElem?_set_ne n1] at h1
    rw [List.getElem?_set_ne n2] at h2
    exact R.inj j k x y p q1 q2 h1 h2
  · have q : (ρ.sl.set i (.v d))[j]? = some (.o x) := hj
    by_cases e : i = j
    · subst e
      have hi : i < ρ.sl.length := by
        have := (List.getElem?_eq_some_iff.mp q).1
        simpa using this
      rw [List.getElem?_set_self hi] at q; cases q
    · rw [List.getElem?_set_ne e] at q
      rw [List.getElem?_set_ne e] at h1
      exact R.hap _ hq j x q h1
/-- a slot gets an object of one's own -/
theorem Rel.seto (R : Rel W B F H σ ρ) {i : Nat} {d : D} {p : Addr} (n : New W B F H σ ρ p d) : Rel W B F H (σ.set i (some (.ref p))) (ρ.set i (.o d)) := by
  refine ⟨R.ex, by show (σ.set i _).length = (ρ.sl.set i _).length; rw [List.length_set, List.length_set]; exact R.len, fun j s hj => ?_, fun j k x y q hj hk h1 h2 => ?_, R.well, R.keep, R.new, R.f0, R.ioH, R.hid, fun q hq j x hj h1 => ?_, R.hnd⟩
  · by_cases e : i = j
    · subst e
      have hi : i < ρ.sl.length := by
        have := (List.getElem?_eq_some_iff.mp hj).1
        simpa [Ev.set] using this
      have hs : s = .o d := by
        have : (ρ.sl.set i (.o d))[i]? = some s := hj
        rw [List.getElem?_set_self hi] at this; exact (Option.some.inj this).symm
      subst hs
      exact ⟨p, by rw [List.getElem?_set_self (by rw [R.len]; exact hi)], n.fp, .inl n.h0, n.pw, n.own⟩
    · have : ρ.sl[j]? = some s := by
        have q : (ρ.sl.set i (.o d))[j]? = some s := hj
        rwa [List.getElem?_set_ne e] at q
      rw [List.getElem?_set_ne e]
      exact R.sl j s this
  · have at_ : ∀ {m : Nat} {z : D}, (ρ.set i (.o d)).sl[m]? = some (.o z) → (i = m ∧ i < σ.length) ∨ (i ≠ m ∧ ρ.sl[m]? = some (.o z)) := fun {m z} t => by
      have t : (ρ.sl.set i (.o d))[m]? = some (.o z) := t
      by_cases e : i = m
      · subst e
        have hi : i < ρ.sl.length := by
          have := (List.getElem?_eq_some_iff.mp t).1
          simpa using this
        exact .inl ⟨rfl, by rw [R.len]; exact hi⟩
      · rw [List.getElem?_set_ne e] at t; exact .inr ⟨e, t⟩
    rcases at_ hj with ⟨e1, l1⟩ | ⟨n1, q1⟩ <;> rcases at_ hk with ⟨e2, l2⟩ | ⟨n2, q2⟩
    · exact e1.symm.trans e2
    · subst e1
      rw [List.getElem?_set_self l1] at h1
      rw [List.getElem?_set_ne n2] at h2
      cases h1
      exact absurd h2 (n.ap k y q2)
    · subst e2
      rw [List.getElem?_set_self l2] at h2
      rw [List.getElem?_set_ne n1] at h1
      cases h2
      exact absurd h1 (n.ap j x q1)
    · rw [List.getElem?_set_ne n1] at h1
      rw [List.getElem?_set_ne n2] at h2
      exact R.inj j k x y q q1 q2 h1 h2
  · have t : (ρ.sl.set i (.o d))[j]? = some (.o x) := hj
    by_cases e : i = j
    · subst e
      have hi : i < σ.length := by
        have := (List.getElem?_eq_some_iff.mp t).1
        rw [R.len]; simpa using this
      rw [List.getElem?_set_self hi] at h1
      cases h1
      exact n.nh q hq rfl
    · rw [List.getElem?_set_ne e] at t
      rw [List.getElem?_set_ne e] at h1
      exact R.hap _ hq j x t h1
/-- an own slot is frozen -/
theorem Rel.frz (R : Rel W B F H σ ρ) {i : Nat} {d : D} (h : ρ.sl[i]? = some (.o d)) (hio : B.io = []) :
    ∃ v F', σ[i]? = some (some v) ∧ Same F F' ∧ Den W F' d v ∧ Rel W B F' H σ (ρ.set i (.v d)) := by
  obtain ⟨p, e, fp, h0, hw, own⟩ := R.sl i _ h
  obtain ⟨o, ho⟩ := own.ne
  have h0 : B.H0 p = none := by
    rcases h0 with h0 | h0
    · exact h0
    · rw [hio] at h0; cases h0
  have sf : Same F (upd F p o) := same_upd fp
  have den : Den W (upd F p o) d (.ref p) := own.freeze sf (by rw [upd_same, ho])
  have hi : i < ρ.sl.length := (List.getElem?_eq_some_iff.mp h).1
  refine ⟨.ref p, upd F p o, e, sf, den, ⟨fun b u q => ?_, by show σ.length = (ρ.sl.set i _).length; rw [List.length_set]; exact R.len, fun j s hj => ?_, fun j k x y q hj hk h1 h2 => ?_, ?_, R.keep, fun a h1 h2 => ?_, R.f0.trans sf, R.ioH, fun q hq => ?_, fun q hq j x hj h1 => ?_, R.hnd⟩⟩
  · by_cases hb : b = p
    · subst hb; rw [upd_same] at q; cases q; exact ho
    · rw [upd_ne hb] at q; exact R.ex _ _ q
  · by_cases ei : i = j
    · subst ei
      have hs : s = .v d := by
        have t : (ρ.sl.set i (.v d))[i]? = some s := hj
        rw [List.getElem?_set_self hi] at t; exact (Option.some.inj t).symm
      subst hs
      exact ⟨_, e, den⟩
    · have hj' : ρ.sl[j]? = some s := by
        have t : (ρ.sl.set i (.v d))[j]? = some s := hj
        rwa [List.getElem?_set_ne ei] at t
      have q := R.sl j s hj'
      cases s with
      | un => trivial
      | v x => obtain ⟨u, e1, hd⟩ := q; exact ⟨u, e1, hd.mono sf⟩
      | o x =>
        obtain ⟨p2, e2, fp2, h02, hw2, own2⟩ := q
        have hne : p2 ≠ p := fun z => by
          subst z
          exact ei (R.inj i j d x p2 h hj' e e2)
        exact ⟨p2, e2, by rw [upd_ne hne]; exact fp2, h02, hw2, own2.mono sf rfl⟩
  · have ne : ∀ {m : Nat} {z : D}, (ρ.set i (.v d)).sl[m]? = some (.o z) → ρ.sl[m]? = some (.o z) := fun {m z} t => by
      have t : (ρ.sl.set i (.v d))[m]? = some (.o z) := t
      by_cases e : i = m
      · subst e
        rw [List.getElem?_set_self hi] at t; cases t
      · rwa [List.getElem?_set_ne e] at t
    exact R.inj j k x y q (ne hj) (ne hk) h1 h2
  · refine R.well.mono sf (fun q hq => ⟨?_, rfl⟩) fun P q t fP => ⟨by rw [upd_ne (own.tabne t)]; exact fP, t⟩
    have : q ≠ p := fun z => hw (by rw [hq, z])
    rw [upd_ne this]; exact R.well.fp hq
  · have : a ≠ p := fun z => by subst z; exact h1.1 h0
    rw [upd_ne this]; exact R.new a h1 h2
  · obtain ⟨h1, h2, h3, h4⟩ := R.hid q hq
    have hne : q.1 ≠ p := fun z => R.hap q hq i d h (by rw [z]; exact e)
    exact ⟨by rw [upd_ne hne]; exact h1, h2, h3, h4.mono sf rfl⟩
  · have t : (ρ.sl.set i (.v d))[j]? = some (.o x) := hj
    by_cases ee : i = j
    · subst ee
      rw [List.getElem?_set_self hi] at t; cases t
    · rw [List.getElem?_set_ne ee] at t
      exact R.hap q hq j x t h1
/-- the count of draws may be told greater -/
theorem Rel.cnt (R : Rel W B F H σ ρ) {c : Nat} (h : ρ.c ≤ c) : Rel W B F H σ (ρ.cnt c) :=
  ⟨R.ex, R.len, R.sl, R.inj, by
    refine ⟨?_, R.well.2⟩
    have w := R.well.1
    unfold WellP at w ⊢
    cases q : W.pw with
    | none => trivial
    | some p =>
      rw [q] at w
      obtain ⟨h1, h2, pc, ns, t, r, h3, h4, h5, h6, h7⟩ := w
      exact ⟨h1, h2, pc, ns, t, r, h3, h4, h5, by show t ≤ (c : Int); omega, h7⟩, R.keep, R.new, R.f0, R.ioH, R.hid, R.hap, R.hnd⟩
end

/-! ### expressions -/
section
variable {W : Wd} {B : Bs}
def dVar (i : Nat) : DE := fun ρ Q => match ρ.sl[i]? with
  | some (.v d) => Q ρ d
  | some (.o d) => Q (ρ.set i (.v d)) d
  | _ => False
theorem re_var {i : Nat} (hio : B.io = [] := by rfl) : RE W B (tVar i) (dVar i) := by
  intro σ H F ρ Q R r h k
  unfold dVar at h
  split at h
  · rename_i d e
    obtain ⟨u, hu, hd⟩ := r.sl i _ e
    exact ⟨u, hu, k u H F ρ d r (Same.refl _) hd h⟩
  · rename_i d e
    obtain ⟨v, F', hv, sf, den, r'⟩ := r.frz e hio
    exact ⟨v, hv, k v H F' _ d r' sf den h⟩
  · exact h.elim
/-- a name whose value is not of one's own -/
def dVal (i : Nat) : DE := fun ρ Q => match ρ.sl[i]? with
  | some (.v d) => Q ρ d
  | _ => False
theorem re_val {i : Nat} : RE W B (tVar i) (dVal i) := by
  intro σ H F ρ Q R r h k
  unfold dVal at h
  split at h
  · rename_i d e
    obtain ⟨u, hu, hd⟩ := r.sl i _ e
    exact ⟨u, hu, k u H F ρ d r (Same.refl _) hd h⟩
  · exact h.elim
def dC (d : D) : DE := fun ρ Q => Q ρ d
def vC : V → D
  | .non => .non | .bl b => .bl b | .int i => .int i | .str x => .str x | v => .opq v
theorem den_vC {F : Hp} : ∀ v : V, Den W F (vC v) v
  | .non => rfl | .bl _ => rfl | .int _ => rfl | .str _ => rfl | .byt _ => rfl | .flt _ => rfl | .ref _ => rfl | .ty _ => rfl
theorem re_c {v : V} : RE W B (tC v) (dC (vC v)) := fun σ H F ρ Q R r h k => k v H F ρ _ r (Same.refl _) (den_vC v) h

/-- two operands -/
theorem re_bin {ta tb : TE} {a b : DE} {r : R2} {g : D → D → Ev → (Ev → D → Prop) → Prop} (ra : RE W B ta a) (rb : RE W B tb b)
    (hr : ∀ σ H F ρ x y dx dy Q (R : VK), Rel W B F H σ ρ → Den W F dx x → Den W F dy y → g dx dy ρ Q →
      (∀ v H' F' ρ' d, Rel W B F' H' σ ρ' → Same F F' → Den W F' d v → Q ρ' d → R v H') → r x y H R) :
    RE W B (tOp r ta tb) (fun ρ Q => a ρ fun ρ1 x => b ρ1 fun ρ2 y => g x y ρ2 Q) := by
  intro σ H F ρ Q R rl h k
  refine ra σ H F ρ _ _ rl h fun x H1 F1 ρ1 dx r1 s1 d1 h1 => ?_
  refine rb σ H1 F1 ρ1 _ _ r1 h1 fun y H2 F2 ρ2 dy r2 s2 d2 h2 => ?_
  exact hr σ H2 F2 ρ2 x y dx dy Q R r2 (d1.mono s2) d2 h2 fun v H' F' ρ' d r' s' d' q => k v H' F' ρ' d r' ((s1.trans s2).trans s') d' q

def gI (C : Int → Int → Prop) (f : Int → Int → D) : D → D → Ev → (Ev → D → Prop) → Prop := fun x y ρ Q => match x, y with
  | .int i, .int j => C i j ∧ Q ρ (f i j)
  | _, _ => False
def gI0 (f : Int → Int → D) : D → D → Ev → (Ev → D → Prop) → Prop := fun x y ρ Q => match x, y with
  | .int i, .int j => Q ρ (f i j)
  | _, _ => False
theorem re_I {ta tb : TE} {a b : DE} {C : Int → Int → Prop} {f : Int → Int → V} (ra : RE W B ta a) (rb : RE W B tb b) :
    RE W B (tOp (rI C f) ta tb) (fun ρ Q => a ρ fun ρ1 x => b ρ1 fun ρ2 y => gI C (fun i j => vC (f i j)) x y ρ2 Q) :=
  re_bin ra rb fun σ H F ρ x y dx dy Q R r d1 d2 h k => by
    unfold gI at h
    split at h
    · rename_i i j
      have e1 : x = .int i := d1
      have e2 : y = .int j := d2
      exact ⟨i, j, e1, e2, h.1, k _ H F ρ _ r (Same.refl _) (den_vC _) h.2⟩
    · exact h.elim
theorem re_I0 {ta tb : TE} {a b : DE} {f : Int → Int → V} (ra : RE W B ta a) (rb : RE W B tb b) :
    RE W B (tOp (rI0 f) ta tb) (fun ρ Q => a ρ fun ρ1 x => b ρ1 fun ρ2 y => gI0 (fun i j => vC (f i j)) x y ρ2 Q) :=
  re_bin ra rb fun σ H F ρ x y dx dy Q R r d1 d2 h k => by
    unfold gI0 at h
    split at h
    · rename_i i j
      have e1 : x = .int i := d1
      have e2 : y = .int j := d2
      exact ⟨i, j, e1, e2, k _ H F ρ _ r (Same.refl _) (den_vC _) h⟩
    · exact h.elim
def gU (f : Int → D) : D → Ev → (Ev → D → Prop) → Prop := fun x ρ Q => match x with
  | .int i => Q ρ (f i)
  | _ => False
theorem re_U {ta : TE} {a : DE} {f : Int → V} (ra : RE W B ta a) : RE W B (tUn (rU f) ta) (fun ρ Q => a ρ fun ρ1 x => gU (fun i => vC (f i)) x ρ1 Q) := by
  intro σ H F ρ Q R rl h k
  refine ra σ H F ρ _ _ rl h fun x H1 F1 ρ1 dx r1 s1 d1 h1 => ?_
  unfold gU at h1
  split at h1
  · rename_i i
    have e1 : x = .int i := d1
    exact ⟨i, e1, k _ H1 F1 ρ1 _ r1 s1 (den_vC _) h1⟩
  · exact h1.elim

/-! ### tests -/
def dB (t : DE) : DT := fun ρ Q => t ρ fun ρ1 x => match x with
  | .bl b => Q ρ1 b
  | _ => False
theorem rt_B {te : TE} {t : DE} (h : RE W B te t) : RT W B (tB te) (dB t) := by
  intro σ H F ρ Q R rl hq k
  refine h σ H F ρ _ _ rl hq fun x H1 F1 ρ1 dx r1 s1 d1 h1 => ?_
  split at h1
  · rename_i b
    have e1 : x = .bl b := d1
    exact ⟨b, e1, k b H1 F1 ρ1 r1 s1 h1⟩
  · exact h1.elim
theorem rt_test {te : TE} {t : DE} (h : RE W B te t) : RT W B (tTest te) (dB t) := rt_B h
def dAnd (t u : DT) : DT := fun ρ Q => t ρ fun ρ1 b => match b with | true => u ρ1 Q | false => Q ρ1 false
def dOr (t u : DT) : DT := fun ρ Q => t ρ fun ρ1 b => match b with | true => Q ρ1 true | false => u ρ1 Q
def dNot (t : DT) : DT := fun ρ Q => t ρ fun ρ1 b => Q ρ1 (!b)
theorem rt_and {ta tb : TT} {a b : DT} (ra : RT W B ta a) (rb : RT W B tb b) : RT W B (tAnd ta tb) (dAnd a b) := by
  intro σ H F ρ Q R rl h k
  refine ra σ H F ρ _ _ rl h fun c H1 F1 ρ1 r1 s1 h1 => ?_
  cases c with
  | true => exact iteT (rb σ H1 F1 ρ1 _ _ r1 h1 fun d H2 F2 ρ2 r2 s2 h2 => k d H2 F2 ρ2 r2 (s1.trans s2) h2)
  | false => exact iteF (k false H1 F1 ρ1 r1 s1 h1)
theorem rt_or {ta tb : TT} {a b : DT} (ra : RT W B ta a) (rb : RT W B tb b) : RT W B (tOr ta tb) (dOr a b) := by
  intro σ H F ρ Q R rl h k
  refine ra σ H F ρ _ _ rl h fun c H1 F1 ρ1 r1 s1 h1 => ?_
  cases c with
  | false => exact iteF (rb σ H1 F1 ρ1 _ _ r1 h1 fun d H2 F2 ρ2 r2 s2 h2 => k d H2 F2 ρ2 r2 (s1.trans s2) h2)
  | true => exact iteT (k true H1 F1 ρ1 r1 s1 h1)
theorem rt_not {ta : TT} {a : DT} (ra : RT W B ta a) : RT W B (tNot ta) (dNot a) := by
  intro σ H F ρ Q R rl h k
  exact ra σ H F ρ _ _ rl h fun c H1 F1 ρ1 r1 s1 h1 => k _ H1 F1 ρ1 r1 s1 h1
def dAndV (t u : DE) : DE := fun ρ Q => t ρ fun ρ1 x => match x with | .bl true => u ρ1 Q | .bl false => Q ρ1 (.bl false) | _ => False
def dOrV (t u : DE) : DE := fun ρ Q => t ρ fun ρ1 x => match x with | .bl false => u ρ1 Q | .bl true => Q ρ1 (.bl true) | _ => False
def dNotV (t : DE) : DE := fun ρ Q => t ρ fun ρ1 x => match x with | .bl b => Q ρ1 (.bl (!b)) | _ => False
theorem re_andV {ta tb : TE} {a b : DE} (ra : RE W B ta a) (rb : RE W B tb b) : RE W B (tAndV ta tb) (dAndV a b) := by
  intro σ H F ρ Q R rl h k
  refine ra σ H F ρ _ _ rl h fun x H1 F1 ρ1 dx r1 s1 d1 h1 => ?_
  split at h1
  · exact ⟨true, d1, iteT (rb σ H1 F1 ρ1 _ _ r1 h1 fun v H2 F2 ρ2 d r2 s2 d2 h2 => k v H2 F2 ρ2 d r2 (s1.trans s2) d2 h2)⟩
  · exact ⟨false, d1, iteF (k _ H1 F1 ρ1 (.bl false) r1 s1 rfl h1)⟩
  · exact h1.elim
theorem re_orV {ta tb : TE} {a b : DE} (ra : RE W B ta a) (rb : RE W B tb b) : RE W B (tOrV ta tb) (dOrV a b) := by
  intro σ H F ρ Q R rl h k
  refine ra σ H F ρ _ _ rl h fun x H1 F1 ρ1 dx r1 s1 d1 h1 => ?_
  split at h1
  · exact ⟨false, d1, iteF (rb σ H1 F1 ρ1 _ _ r1 h1 fun v H2 F2 ρ2 d r2 s2 d2 h2 => k v H2 F2 ρ2 d r2 (s1.trans s2) d2 h2)⟩
  · exact ⟨true, d1, iteT (k _ H1 F1 ρ1 (.bl true) r1 s1 rfl h1)⟩
  · exact h1.elim
theorem re_notV {ta : TE} {a : DE} (ra : RE W B ta a) : RE W B (tNotV ta) (dNotV a) := by
  intro σ H F ρ Q R rl h k
  refine ra σ H F ρ _ _ rl h fun x H1 F1 ρ1 dx r1 s1 d1 h1 => ?_
  split at h1
  · rename_i b
    exact ⟨b, d1, k _ H1 F1 ρ1 (.bl (!b)) r1 s1 rfl h1⟩
  · exact h1.elim
def dIf (t : DT) (a b : DE) : DE := fun ρ Q => t ρ fun ρ1 c => match c with | true => a ρ1 Q | false => b ρ1 Q
theorem re_if {tc : TT} {ta tb : TE} {c : DT} {a b : DE} (rc : RT W B tc c) (ra : RE W B ta a) (rb : RE W B tb b) : RE W B (tIf tc ta tb) (dIf c a b) := by
  intro σ H F ρ Q R rl h k
  refine rc σ H F ρ _ _ rl h fun x H1 F1 ρ1 r1 s1 h1 => ?_
  cases x with
  | true => exact iteT (ra σ H1 F1 ρ1 _ _ r1 h1 fun v H2 F2 ρ2 d r2 s2 d2 h2 => k v H2 F2 ρ2 d r2 (s1.trans s2) d2 h2)
  | false => exact iteF (rb σ H1 F1 ρ1 _ _ r1 h1 fun v H2 F2 ρ2 d r2 s2 d2 h2 => k v H2 F2 ρ2 d r2 (s1.trans s2) d2 h2)

/-! ### arguments, displays -/
def dNil : DA := fun ρ Q => Q ρ []
def dCons (a : DE) (r : DA) : DA := fun ρ Q => a ρ fun ρ1 x => r ρ1 fun ρ2 xs => Q ρ2 (x :: xs)
theorem ra_nil : RA W B tNil dNil := fun σ H F ρ Q R r h k => k [] H F ρ [] r (Same.refl _) rfl h
theorem ra_cons {te : TE} {ta : TA} {a : DE} {b : DA} (ra : RE W B te a) (rb : RA W B ta b) : RA W B (tCons te ta) (dCons a b) := by
  intro σ H F ρ Q R rl h k
  refine ra σ H F ρ _ _ rl h fun x H1 F1 ρ1 dx r1 s1 d1 h1 => ?_
  exact rb σ H1 F1 ρ1 _ _ r1 h1 fun ys H2 F2 ρ2 ds r2 s2 d2 h2 => k _ H2 F2 ρ2 (dx :: ds) r2 (s1.trans s2) ⟨x, ys, rfl, d1.mono s2, d2⟩ h2
def dTup (a : DA) : DE := fun ρ Q => a ρ fun ρ1 ds => ds.length ≤ sizeLine ∧ Q ρ1 (.tup ds)
def dLst (a : DA) : DE := fun ρ Q => a ρ fun ρ1 ds => ds.length ≤ sizeLine ∧ Q ρ1 (.lst ds)
theorem re_tup {ta : TA} {a : DA} (ra : RA W B ta a) : RE W B (tTup ta) (dTup a) := by
  intro σ H F ρ Q R rl h k
  refine ra σ H F ρ _ _ rl h fun xs H1 F1 ρ1 ds r1 s1 d1 h1 => ?_
  refine ⟨by rw [← d1.length]; exact h1.1, fun p hp => ?_⟩
  have st := Stp.one (o := .tup xs) r1.ex hp
  exact k _ _ _ _ (.tup ds) (r1.stp st) (s1.trans st.ff) ⟨p, xs, rfl, upd_same, d1.mono st.ff⟩ h1.2
theorem re_lst {ta : TA} {a : DA} (ra : RA W B ta a) : RE W B (tLst ta) (dLst a) := by
  intro σ H F ρ Q R rl h k
  refine ra σ H F ρ _ _ rl h fun xs H1 F1 ρ1 ds r1 s1 d1 h1 => ?_
  refine ⟨by rw [← d1.length]; exact h1.1, fun p hp => ?_⟩
  have st := Stp.one (o := .lst xs) r1.ex hp
  exact k _ _ _ _ (.lst ds) (r1.stp st) (s1.trans st.ff) ⟨p, xs, rfl, .inl (.inl upd_same), d1.mono st.ff⟩ h1.2
/-- an address that is free in H: what lies there is new -/
theorem new_of {F H : Hp} {σ : St} {ρ : Ev} {p : Addr} {o : HO} {d : D} (r : Rel W B F H σ ρ) (hp : H p = none) (own : OwnAt W F (upd H p o) p d) : New W B F (upd H p o) σ ρ p d := by
  refine ⟨own, r.fF hp, r.fresh0 hp, r.npw hp, fun i e h q => ?_, fun q hq e => ?_⟩
  · obtain ⟨p2, e2, _, _, _, own2⟩ := r.sl i _ h
    rw [q] at e2; cases e2
    obtain ⟨o2, h2⟩ := own2.ne
    rw [hp] at h2; cases h2
  · obtain ⟨_, _, _, own2⟩ := r.hid q hq
    obtain ⟨o2, h2⟩ := own2.ne
    rw [e, hp] at h2; cases h2
theorem rn_lst {ta : TA} {a : DA} (ra : RA W B ta a) : RN W B (tLst ta) (dLst a) := by
  intro σ H F ρ Q R rl h k
  refine ra σ H F ρ _ _ rl h fun xs H1 F1 ρ1 ds r1 s1 d1 h1 => ?_
  refine ⟨by rw [← d1.length]; exact h1.1, fun p hp => ?_⟩
  exact k p _ _ _ (.lst ds) (r1.stp (Stp.lay (o := .lst xs) r1.ex hp)) s1 (new_of r1 hp ⟨xs, upd_same, d1⟩) h1.2
theorem RN.re {te : TE} {t : DE} (h : RN W B te t) : RE W B te t := by
  intro σ H F ρ Q R rl hq k
  refine h σ H F ρ _ _ rl hq fun p H1 F1 ρ1 d r1 s1 n1 h1 => ?_
  obtain ⟨o, ho⟩ := n1.own.ne
  have sf : Same F1 (upd F1 p o) := same_upd n1.fp
  refine k (.ref p) H1 (upd F1 p o) ρ1 d ⟨fun b u q => ?_, r1.len, fun j s hj => ?_, r1.inj, ?_, r1.keep, fun a h1 h2 => ?_, r1.f0.trans sf, r1.ioH, fun q hq => ?_, r1.hap, r1.hnd⟩ (s1.trans sf) (n1.own.freeze sf (by rw [upd_same, ho])) h1
  · by_cases hb : b = p
    · subst hb; rw [upd_same] at q; cases q; exact ho
    · rw [upd_ne hb] at q; exact r1.ex _ _ q
  · have q := r1.sl j s hj
    cases s with
    | un => trivial
    | v x => obtain ⟨u, e1, hd⟩ := q; exact ⟨u, e1, hd.mono sf⟩
    | o x =>
      obtain ⟨p2, e2, fp2, h02, hw2, own2⟩ := q
      have hne : p2 ≠ p := fun z => by
        subst z
        exact n1.ap j x hj e2
      exact ⟨p2, e2, by rw [upd_ne hne]; exact fp2, h02, hw2, own2.mono sf rfl⟩
  · refine r1.well.mono sf (fun q hq => ⟨?_, rfl⟩) fun P q t fP => ⟨by rw [upd_ne (n1.own.tabne t)]; exact fP, t⟩
    have : q ≠ p := fun z => n1.pw (by rw [hq, z])
    rw [upd_ne this]; exact r1.well.fp hq
  · have : a ≠ p := fun z => by subst z; exact h1.1 n1.h0
    rw [upd_ne this]; exact r1.new a h1 h2
  · obtain ⟨h1, h2, h3, h4⟩ := r1.hid q hq
    have hne : q.1 ≠ p := n1.nh q hq
    exact ⟨by rw [upd_ne hne]; exact h1, h2, h3, h4.mono sf rfl⟩

/-! ### statements -/
def dSeq (t u : DS) : DS := fun DD ρ => t { DD with nx := u DD } ρ
def dNext : DS := fun DD ρ => DD.nx ρ
def dAsg (t : DE) (g : DG) : DS := fun DD ρ => t ρ fun ρ1 d => g d ρ1 DD.nx
def dAsgN (t : DE) (i : Nat) : DS := fun DD ρ => t ρ fun ρ1 d => DD.nx (ρ1.set i (.o d))
def dDrop (t : DE) : DS := fun DD ρ => t ρ fun ρ1 _ => DD.nx ρ1
def dRet (t : DE) : DS := fun DD ρ => t ρ DD.rt
def dIfS (c : DT) (t u : DS) : DS := fun DD ρ => c ρ fun ρ1 b => match b with | true => t DD ρ1 | false => u DD ρ1
theorem rs_next : RS W B tNext dNext := fun σ H F ρ D DD r h f => f.nx σ H F ρ r (Same.refl _) h
theorem rs_seq {t u : TS} {a b : DS} (ra : RS W B t a) (rb : RS W B u b) : RS W B (tSeq t u) (dSeq a b) := by
  intro σ H F ρ D DD r h f
  exact ra σ H F ρ { D with nx := u D } { DD with nx := b DD } r h ⟨fun σ' H' F' ρ' r' s' h' => rb σ' H' F' ρ' D DD r' h' (f.mono s'), f.bk, f.ct, f.rt⟩
theorem rs_asg {te : TE} {tg : TG} {t : DE} {g : DG} {is : List Nat} (ra : RE W B te t) (rg : RG W B tg g is) : RS W B (tAsg te tg) (dAsg t g) := by
  intro σ H F ρ D DD r h f
  refine ra σ H F ρ _ _ r h fun x H1 F1 ρ1 dx r1 s1 d1 h1 => ?_
  exact rg σ H1 F1 ρ1 x dx _ _ r1 d1 h1 fun σ' ρ' r' _ _ q => f.nx σ' H1 F1 ρ' r' s1 q
theorem rs_asgN {te : TE} {t : DE} {i : Nat} (ra : RN W B te t) : RS W B (tAsg te (gName i)) (dAsgN t i) := by
  intro σ H F ρ D DD r h f
  refine ra σ H F ρ _ _ r h fun p H1 F1 ρ1 dx r1 s1 n1 h1 => ?_
  exact f.nx _ H1 F1 _ (r1.seto n1) s1 h1
theorem rs_drop {te : TE} {t : DE} (ra : RE W B te t) : RS W B (tDrop te) (dDrop t) := by
  intro σ H F ρ D DD r h f
  exact ra σ H F ρ _ _ r h fun x H1 F1 ρ1 dx r1 s1 d1 h1 => f.nx σ H1 F1 ρ1 r1 s1 h1
theorem rs_ret {te : TE} {t : DE} (ra : RE W B te t) : RS W B (tRet te) (dRet t) := by
  intro σ H F ρ D DD r h f
  exact ra σ H F ρ _ _ r h fun x H1 F1 ρ1 dx r1 s1 d1 h1 => f.rt σ H1 F1 ρ1 dx x r1 s1 d1 h1
theorem rs_if {tc : TT} {t u : TS} {c : DT} {a b : DS} (rc : RT W B tc c) (ra : RS W B t a) (rb : RS W B u b) : RS W B (tIfS tc t u) (dIfS c a b) := by
  intro σ H F ρ D DD r h f
  refine rc σ H F ρ _ _ r h fun x H1 F1 ρ1 r1 s1 h1 => ?_
  cases x with
  | true => exact iteT (ra σ H1 F1 ρ1 D DD r1 h1 (f.mono s1))
  | false => exact iteF (rb σ H1 F1 ρ1 D DD r1 h1 (f.mono s1))

/-! ### targets -/
def dgName (i : Nat) : DG := fun d ρ Q => Q (ρ.set i (.v d))
theorem rg_name {i : Nat} : RG W B (gName i) (dgName i) [i] := fun σ H F ρ v d Q R r hd h k => k _ _ (r.setv hd) (fun j hj => by
  rw [List.getElem?_set_ne (fun e => hj (by rw [e]; exact List.mem_singleton.mpr rfl))]) (List.length_set ..) h
def dgNil : DGs := fun ds ρ Q => match ds with | [] => Q ρ | _ => False
def dgCons (g : DG) (r : DGs) : DGs := fun ds ρ Q => match ds with | d :: ds => g d ρ fun ρ1 => r ds ρ1 Q | [] => False
def dgTup (n : Nat) (g : DGs) : DG := fun d ρ Q => match d with | .tup ds => ds.length = n ∧ g ds ρ Q | _ => False
theorem rgs_nil : RGs W B gNil dgNil [] := by
  intro σ H F ρ vs ds Q R r hd h k
  unfold dgNil at h
  split at h
  · exact ⟨hd, k σ ρ r (fun _ _ => rfl) rfl h⟩
  · exact h.elim
theorem rgs_cons {tg : TG} {tr : TGs} {g : DG} {gs : DGs} {is js : List Nat} (ra : RG W B tg g is) (rb : RGs W B tr gs js) : RGs W B (gCons tg tr) (dgCons g gs) (is ++ js) := by
  intro σ H F ρ vs ds Q R r hd h k
  unfold dgCons at h
  split at h
  · rename_i d ds
    obtain ⟨x, xs, e, h1, h2⟩ := hd
    refine ⟨x, xs, e, ra σ H F ρ x d _ _ r h1 h fun σ' ρ' r' o1 l1 q => ?_⟩
    exact rb σ' H F ρ' xs ds _ _ r' h2 q fun σ2 ρ2 r2 o2 l2 q2 => k σ2 ρ2 r2 (fun j hj => (o2 j fun z => hj (List.mem_append_right _ z)).trans (o1 j fun z => hj (List.mem_append_left _ z))) (l2.trans l1) q2
  · exact h.elim
theorem rg_tup {n : Nat} {tr : TGs} {gs : DGs} {is : List Nat} (rb : RGs W B tr gs is) : RG W B (gTup W.K n tr) (dgTup n gs) is := by
  intro σ H F ρ v d Q R r hd h k
  unfold dgTup at h
  split at h
  · rename_i ds
    obtain ⟨a, xs, e, hs, hl⟩ := hd
    exact ⟨a, xs, e, sqT_of r.ex hs, by rw [← hl.length]; exact h.1, rb σ H F ρ xs ds _ _ r hl h.2 k⟩
  · exact h.elim
end
end DL

-- part DL3
set_option maxHeartbeats 4000000
namespace DL
open PySem L2

/-! ### what is walked -/
def Iter (W : Wd) (J : It) (F : Hp) (ds : List D) : Prop := ∀ F2 H, Same F F2 → Same F2 H →
  J.stop ds.length H ∧ ∀ (i : Nat) (d : D), ds[i]? = some d → J.go i H ∧ ∀ x H', J.yld i H x H' → ∃ F3, Stp F2 H F3 H' ∧ Den W F3 d x
def RI (W : Wd) (B : Bs) (wi : TI) (t : DI) : Prop := ∀ (σ : St) (H F : Hp) (ρ : Ev) (Q : Ev → List D → Prop) (R : It → Hp → Prop), Rel W B F H σ ρ → t ρ Q →
  (∀ J H' F' ρ' ds, Rel W B F' H' σ ρ' → Same F F' → Iter W J F' ds → Q ρ' ds → R J H') → wi σ H R
section
variable {W : Wd} {B : Bs} {F F' H H' : Hp} {σ : St} {ρ : Ev}
theorem Iter.mono {J : It} {ds : List D} (h : Iter W J F ds) (e : Same F F') : Iter W J F' ds := fun F2 H a b => h F2 H (e.trans a) b
theorem iter_list {a : Addr} {xs : List V} {ds : List D} (h : SqL W.K F a xs) (hd : DenL W F ds xs) : Iter W (Itl W.K a) F ds := by
  intro F2 H e1 e2
  refine ⟨⟨xs, same_sqL (e1.trans e2) h, by rw [hd.length]; exact Nat.le_refl _⟩, fun i d hi => ?_⟩
  obtain ⟨x, hx, dx⟩ := hd.get hi
  refine ⟨⟨xs, x, same_sqL (e1.trans e2) h, hx⟩, fun y H' ⟨e, hy⟩ => ?_⟩
  subst e
  have := hy xs (same_sqL (e1.trans e2) h)
  rw [hx] at this; cases this
  exact ⟨F2, Stp.refl e2, dx.mono e1⟩
theorem iter_tup {a : Addr} {xs : List V} {ds : List D} (h : SqT W.K F a xs) (hd : DenL W F ds xs) : Iter W (Itt W.K a) F ds := by
  intro F2 H e1 e2
  refine ⟨⟨xs, same_sqT (e1.trans e2) h, by rw [hd.length]; exact Nat.le_refl _⟩, fun i d hi => ?_⟩
  obtain ⟨x, hx, dx⟩ := hd.get hi
  refine ⟨⟨xs, x, same_sqT (e1.trans e2) h, hx⟩, fun y H' ⟨e, hy⟩ => ?_⟩
  subst e
  have := hy xs (same_sqT (e1.trans e2) h)
  rw [hx] at this; cases this
  exact ⟨F2, Stp.refl e2, dx.mono e1⟩
/-- the integers lo, lo + 1, .. -/
def intsD (lo : Int) (n : Nat) : List D := (List.range n).map fun (i : Nat) => .int (lo + (i : Int))
theorem iter_range {lo : Int} {n : Nat} : Iter W (Itr lo n) F (intsD lo n) := by
  intro F2 H e1 e2
  have hl : (intsD lo n).length = n := by unfold intsD; rw [List.length_map, List.length_range]
  refine ⟨by show n ≤ _; rw [hl]; exact Nat.le_refl _, fun i d hi => ?_⟩
  have hin : i < n := by rw [← hl]; exact (List.getElem?_eq_some_iff.mp hi).1
  have hd : d = .int (lo + i) := by
    unfold intsD at hi
    rw [List.getElem?_map, List.getElem?_range hin] at hi
    exact (Option.some.inj hi).symm
  subst hd
  refine ⟨hin, fun y H' ⟨e, hy⟩ => ?_⟩
  subst e
  exact ⟨F2, Stp.refl e2, hy⟩
/-- a list or a tuple -/
def dSq (t : DE) : DI := fun ρ Q => t ρ fun ρ1 d => match d with | .lst ds => Q ρ1 ds | .tup ds => Q ρ1 ds | _ => False
def dSqL (t : DE) : DI := fun ρ Q => t ρ fun ρ1 d => match d with | .lst ds => Q ρ1 ds | _ => False
def dSqT (t : DE) : DI := fun ρ Q => t ρ fun ρ1 d => match d with | .tup ds => Q ρ1 ds | _ => False
theorem ri_list {te : TE} {t : DE} (h : RE W B te t) : RI W B (iList W.K te) (dSqL t) := by
  intro σ H F ρ Q R rl hq k
  refine h σ H F ρ _ _ rl hq fun x H1 F1 ρ1 dx r1 s1 d1 h1 => ?_
  split at h1
  · obtain ⟨a, xs, e, hs, hd⟩ := d1
    exact ⟨a, e, ⟨xs, same_sqL r1.ex hs⟩, k _ H1 F1 ρ1 _ r1 s1 (iter_list hs hd) h1⟩
  · exact h1.elim
theorem ri_tup {te : TE} {t : DE} (h : RE W B te t) : RI W B (iTup W.K te) (dSqT t) := by
  intro σ H F ρ Q R rl hq k
  refine h σ H F ρ _ _ rl hq fun x H1 F1 ρ1 dx r1 s1 d1 h1 => ?_
  split at h1
  · obtain ⟨a, xs, e, hs, hd⟩ := d1
    exact ⟨a, e, ⟨xs, sqT_of r1.ex hs⟩, k _ H1 F1 ρ1 _ r1 s1 (iter_tup (.inl (.inl hs)) hd) h1⟩
  · exact h1.elim
/-- a walk over a list or a tuple -/
def iSeq (K : PySem.W.Frag) (tl : TE) : TI := fun σ H R => tl σ H fun x H1 => ∃ a, x = .ref a ∧ (((∃ xs, SqL K H1 a xs) ∧ R (Itl K a) H1) ∨ ((∃ xs, SqT K H1 a xs) ∧ R (Itt K a) H1))
theorem ri_seq {te : TE} {t : DE} (h : RE W B te t) : RI W B (iSeq W.K te) (dSq t) := by
  intro σ H F ρ Q R rl hq k
  refine h σ H F ρ _ _ rl hq fun x H1 F1 ρ1 dx r1 s1 d1 h1 => ?_
  split at h1
  · obtain ⟨a, xs, e, hs, hd⟩ := d1
    exact ⟨a, e, .inl ⟨⟨xs, same_sqL r1.ex hs⟩, k _ H1 F1 ρ1 _ r1 s1 (iter_list hs hd) h1⟩⟩
  · obtain ⟨a, xs, e, hs, hd⟩ := d1
    exact ⟨a, e, .inr ⟨⟨xs, sqT_of r1.ex hs⟩, k _ H1 F1 ρ1 _ r1 s1 (iter_tup (.inl (.inl hs)) hd) h1⟩⟩
  · exact h1.elim
theorem pi_seq {X : Cx} {tg l : Expr} {tl : TE} (hl : PE X l tl) : PI X tg l (iSeq X.K tl) := by
  refine ⟨fun pins s σ H R I h => ?_⟩
  refine thn (hl.run pins s σ H _ I h) fun v s1 ⟨x, H1, I1, r1, q1⟩ => ?_
  obtain ⟨a, e, q⟩ := q1
  subst e
  cases r1
  rcases q with ⟨⟨xs, hq⟩, q⟩ | ⟨⟨xs, hq⟩, q⟩
  · obtain ⟨its, rv, p, hz⟩ := I1.list hq
    refine PySem.wpAny_pyIter_list p.isList ?_
    refine ⟨s1.heap.objs.size, [s1.heap.objs.size], _, _, H1, rfl, I1.kept (t' := s1.toks) fun b o e => Heap.get?_push_of_some _ e, turn_list a _, ⟨_, Heap.get?_push_size _ rfl, rfl, rfl⟩, fun b hb => ?_, q⟩
    have e : b = s1.heap.objs.size := by simpa using hb
    subst e
    exact I1.fpOk (Nat.le_refl _) (I1.hok.fresh (Nat.le_refl _))
  · obtain ⟨its, rv, p, hz⟩ := I1.tuple hq
    refine wpAny_pyIter_tuple (show s1.heap.IsTuple a its.toArray from p) ?_
    refine ⟨s1.heap.objs.size, [s1.heap.objs.size], _, _, H1, rfl, I1.kept (t' := s1.toks) fun b o e => Heap.get?_push_of_some _ e, turn_tuple a _, ⟨_, Heap.get?_push_size _ rfl, rfl, rfl⟩, fun b hb => ?_, q⟩
    have e : b = s1.heap.objs.size := by simpa using hb
    subst e
    exact I1.fpOk (Nat.le_refl _) (I1.hok.fresh (Nat.le_refl _))
def dRng1 (t : DA) : DI := fun ρ Q => t ρ fun ρ1 ds => match ds with
  | [.int j] => (-(2 ^ 62) ≤ j ∧ j < 2 ^ 62) ∧ Q ρ1 (intsD 0 j.toNat)
  | _ => False
def dRng2 (t : DA) : DI := fun ρ Q => t ρ fun ρ1 ds => match ds with
  | [.int i, .int j] => (-(2 ^ 62) ≤ i ∧ i < 2 ^ 62 ∧ -(2 ^ 62) ≤ j ∧ j < 2 ^ 62) ∧ Q ρ1 (intsD i (j - i).toNat)
  | _ => False
theorem ri_rng1 {ta : TA} {t : DA} (h : RA W B ta t) : RI W B (iRng1 ta) (dRng1 t) := by
  intro σ H F ρ Q R rl hq k
  refine h σ H F ρ _ _ rl hq fun xs H1 F1 ρ1 ds r1 s1 d1 h1 => ?_
  split at h1
  · rename_i j
    obtain ⟨x, r, e, hx, hr⟩ := d1
    have hx : x = .int j := hx
    have hr : r = [] := hr
    subst hx hr
    exact ⟨j, e, h1.1.1, h1.1.2, k _ H1 F1 ρ1 _ r1 s1 iter_range h1.2⟩
  · exact h1.elim
theorem ri_rng2 {ta : TA} {t : DA} (h : RA W B ta t) : RI W B (iRng2 ta) (dRng2 t) := by
  intro σ H F ρ Q R rl hq k
  refine h σ H F ρ _ _ rl hq fun xs H1 F1 ρ1 ds r1 s1 d1 h1 => ?_
  split at h1
  · rename_i i j
    obtain ⟨x, r, e, hx, y, r2, e2, hy, hr⟩ := d1
    have hx : x = .int i := hx
    have hy : y = .int j := hy
    have hr : r2 = [] := hr
    subst hx hy hr e2
    exact ⟨i, j, e, h1.1, k _ H1 F1 ρ1 _ r1 s1 iter_range h1.2⟩
  · exact h1.elim
/-- enumerate of a list -/
def dEnum (t : DA) : DI := fun ρ Q => t ρ fun ρ1 ds => match ds with
  | [.lst xs] => Q ρ1 (xs.zipIdx.map fun p => .tup [.int (p.2 : Nat), p.1])
  | _ => False
theorem ri_enum {ta : TA} {t : DA} (h : RA W B ta t) : RI W B (iEnum W.K ta) (dEnum t) := by
  intro σ H F ρ Q R rl hq k
  refine h σ H F ρ _ _ rl hq fun xs H1 F1 ρ1 ds r1 s1 d1 h1 => ?_
  split at h1
  · rename_i ys
    obtain ⟨x, r, e, hx, hr⟩ := d1
    obtain ⟨a, zs, ea, hs, hd⟩ := hx
    have hr : r = [] := hr
    subst hr ea
    refine ⟨a, zs, e, same_sqL r1.ex hs, k _ H1 F1 ρ1 _ r1 s1 ?_ h1⟩
    intro F2 H2 e1 e2
    have hs2 := same_sqL (e1.trans e2) hs
    refine ⟨⟨zs, hs2, by rw [List.length_map, List.length_zipIdx, hd.length]; exact Nat.le_refl _⟩, fun i d hi => ?_⟩
    rw [List.getElem?_map, List.getElem?_zipIdx, Nat.zero_add] at hi
    cases hy : ys[i]? with
    | none => rw [hy] at hi; cases hi
    | some y =>
      rw [hy] at hi
      cases hi
      obtain ⟨z, hz, dz⟩ := hd.get hy
      refine ⟨⟨zs, z, hs2, hz⟩, fun v H' ⟨T, z', ev, hT, eH, hz'⟩ => ?_⟩
      have q := hz' zs hs2
      rw [hz] at q; cases q
      subst ev eH
      have st := Stp.one (o := .tup [.int (i : Nat), z]) e2 hT
      exact ⟨_, st, ⟨T, _, rfl, upd_same, ⟨_, _, rfl, rfl, ⟨_, _, rfl, dz.mono (e1.trans st.ff), rfl⟩⟩⟩⟩
  · exact h1.elim
/-- zip of two lists, of two tuples -/
def dZip (t : DA) : DI := fun ρ Q => t ρ fun ρ1 ds => match ds with
  | [.lst xs, .lst ys] => Q ρ1 ((xs.zip ys).map fun p => .tup [p.1, p.2])
  | [.tup xs, .tup ys] => Q ρ1 ((xs.zip ys).map fun p => .tup [p.1, p.2])
  | _ => False
theorem zip_get {α β : Type} {xs : List α} {ys : List β} {i : Nat} {p : α × β} (h : (xs.zip ys)[i]? = some p) : xs[i]? = some p.1 ∧ ys[i]? = some p.2 := by
  rw [List.getElem?_zip_eq_some] at h; exact h
theorem iter_zipL {a b : Addr} {xs ys : List V} {ds es : List D} (h1 : SqL W.K F a xs) (h2 : SqL W.K F b ys) (d1 : DenL W F ds xs) (d2 : DenL W F es ys) :
    Iter W (Itz W.K a b) F ((ds.zip es).map fun p => .tup [p.1, p.2]) := by
  intro F2 H2 e1 e2
  have q1 := same_sqL (e1.trans e2) h1
  have q2 := same_sqL (e1.trans e2) h2
  refine ⟨⟨xs, ys, q1, q2, by rw [List.length_map, List.length_zip, d1.length, d2.length]; omega⟩, fun i d hi => ?_⟩
  rw [List.getElem?_map] at hi
  cases hy : (ds.zip es)[i]? with
  | none => rw [hy] at hi; cases hi
  | some p =>
    rw [hy] at hi
    cases hi
    obtain ⟨g1, g2⟩ := zip_get hy
    obtain ⟨x, hx, dx⟩ := d1.get g1
    obtain ⟨y, hy, dy⟩ := d2.get g2
    refine ⟨⟨xs, ys, x, y, q1, q2, hx, hy⟩, fun v H' ⟨T, x', y', ev, hT, eH, hx', hy'⟩ => ?_⟩
    have z1 := hx' xs q1
    have z2 := hy' ys q2
    rw [hx] at z1; cases z1
    rw [hy] at z2; cases z2
    subst ev eH
    have st := Stp.one (o := .tup [x, y]) e2 hT
    exact ⟨_, st, ⟨T, _, rfl, upd_same, ⟨_, _, rfl, dx.mono (e1.trans st.ff), ⟨_, _, rfl, dy.mono (e1.trans st.ff), rfl⟩⟩⟩⟩
theorem ri_zip {ta : TA} {t : DA} (h : RA W B ta t) : RI W B (iZip W.K ta) (fun ρ Q => t ρ fun ρ1 ds => match ds with
  | [.lst xs, .lst ys] => Q ρ1 ((xs.zip ys).map fun p => .tup [p.1, p.2])
  | _ => False) := by
  intro σ H F ρ Q R rl hq k
  refine h σ H F ρ _ _ rl hq fun xs H1 F1 ρ1 ds r1 s1 d1 h1 => ?_
  split at h1
  · rename_i ys zs
    obtain ⟨x, r, e, hx, y, r2, e2, hy, hr⟩ := d1
    obtain ⟨a, us, ea, hs, hd⟩ := hx
    obtain ⟨b, vs, eb, hs2, hd2⟩ := hy
    have hr : r2 = [] := hr
    subst hr ea eb e2
    exact ⟨a, b, us, vs, e, same_sqL r1.ex hs, same_sqL r1.ex hs2, k _ H1 F1 ρ1 _ r1 s1 (iter_zipL hs hs2 hd hd2) h1⟩
  · exact h1.elim

/-! ### for, while -/
def dForL (g : DG) (b : DS) : List D → DS
  | [] => fun DD ρ => DD.nx ρ
  | d :: ds => fun DD ρ => g d ρ fun ρ1 => b { nx := dForL g b ds DD, ct := dForL g b ds DD, bk := DD.nx, rt := DD.rt } ρ1
def dFor (s : DI) (g : DG) (b : DS) : DS := fun DD ρ => s ρ fun ρ1 ds => dForL g b ds DD ρ1
theorem rs_for {wi : TI} {tg : TG} {tb : TS} {s : DI} {g : DG} {b : DS} {is : List Nat} (ri : RI W B wi s) (rg : RG W B tg g is) (rb : RS W B tb b) : RS W B (tFor wi tg tb) (dFor s g b) := by
  intro σ H F ρ D DD r h f
  refine ri σ H F ρ _ _ r h fun J H1 F1 ρ1 ds r1 s1 it h1 => ?_
  refine ⟨fun i m σ H => ∃ F2 ρ2, Rel W B F2 H σ ρ2 ∧ Same F1 F2 ∧ i ≤ ds.length ∧ m = ds.length - i ∧ dForL g b (ds.drop i) DD ρ2, ⟨ds.length, F1, ρ1, r1, Same.refl _, Nat.zero_le _, rfl, h1⟩, ?_⟩
  rintro i m σ2 H2 ⟨F2, ρ2, r2, s2, hi, rfl, hq⟩
  obtain ⟨st, go⟩ := it F2 H2 s2 r2.ex
  by_cases hlt : i < ds.length
  · have hd : ds[i]? = some ds[i] := List.getElem?_eq_getElem hlt
    obtain ⟨g1, y1⟩ := go i _ hd
    rw [List.drop_eq_getElem_cons hlt] at hq
    refine .inr ⟨g1, fun σ3 H3 => ∃ F3 ρ3, Rel W B F3 H3 σ3 ρ3 ∧ Same F1 F3 ∧ dForL g b (ds.drop (i + 1)) DD ρ3, fun σ3 H3 ⟨F3, ρ3, r3, s3, q3⟩ => ⟨ds.length - (i + 1), by omega, F3, ρ3, r3, s3, hlt, rfl, q3⟩, fun x H3 hy => ?_⟩
    obtain ⟨F3, st3, dx⟩ := y1 x H3 hy
    have r3 := r2.stp st3
    refine rg σ2 H3 F3 ρ2 x _ _ _ r3 dx hq fun σ4 ρ4 r4 _ _ q4 => ?_
    refine rb σ4 H3 F3 ρ4 _ _ r4 q4 ⟨fun σ5 H5 F5 ρ5 r5 s5 q5 => ⟨F5, ρ5, r5, (s2.trans st3.ff).trans s5, q5⟩, fun σ5 H5 F5 ρ5 r5 s5 q5 => f.nx σ5 H5 F5 ρ5 r5 (((s1.trans s2).trans st3.ff).trans s5) q5, fun σ5 H5 F5 ρ5 r5 s5 q5 => ⟨F5, ρ5, r5, (s2.trans st3.ff).trans s5, q5⟩, fun σ5 H5 F5 ρ5 d v r5 s5 dv q5 => f.rt σ5 H5 F5 ρ5 d v r5 (((s1.trans s2).trans st3.ff).trans s5) dv q5⟩
  · have e : i = ds.length := by omega
    subst e
    rw [List.drop_length] at hq
    exact .inl ⟨st, f.nx σ2 H2 F2 ρ2 r2 (s1.trans s2) hq⟩
def dWhileN (c : DT) (b : DS) : Nat → DS
  | 0 => fun _ _ => False
  | n + 1 => fun DD ρ => c ρ fun ρ1 t => match t with
    | true => b { nx := dWhileN c b n DD, ct := dWhileN c b n DD, bk := DD.nx, rt := DD.rt } ρ1
    | false => DD.nx ρ1
def dWhile (c : DT) (b : DS) : DS := fun DD ρ => ∃ n, dWhileN c b n DD ρ
theorem rs_while {tc : TT} {tb : TS} {c : DT} {b : DS} (rc : RT W B tc c) (rb : RS W B tb b) : RS W B (tWhile tc tb) (dWhile c b) := by
  intro σ H F ρ D DD r h f
  obtain ⟨n, h⟩ := h
  cases n with
  | zero => exact h.elim
  | succ n =>
  refine ⟨fun m σ H => ∃ F2 ρ2, Rel W B F2 H σ ρ2 ∧ Same F F2 ∧ dWhileN c b (m + 1) DD ρ2, ⟨n, F, ρ, r, Same.refl _, h⟩, ?_⟩
  rintro m σ2 H2 ⟨F2, ρ2, r2, s2, hq⟩
  refine rc σ2 H2 F2 ρ2 _ _ r2 hq fun t H3 F3 ρ3 r3 s3 q3 => ?_
  cases t with
  | false => exact iteF (f.nx σ2 H3 F3 ρ3 r3 (s2.trans s3) q3)
  | true =>
    refine iteT ⟨fun σ4 H4 => ∃ F4 ρ4, Rel W B F4 H4 σ4 ρ4 ∧ Same F F4 ∧ dWhileN c b m DD ρ4, fun σ4 H4 ⟨F4, ρ4, r4, s4, q4⟩ => ?_, ?_⟩
    · cases m with
      | zero => exact q4.elim
      | succ m => exact ⟨m, Nat.lt_succ_self _, F4, ρ4, r4, s4, q4⟩
    · refine rb σ2 H3 F3 ρ3 _ _ r3 q3 ⟨fun σ5 H5 F5 ρ5 r5 s5 q5 => ⟨F5, ρ5, r5, (s2.trans s3).trans s5, q5⟩, fun σ5 H5 F5 ρ5 r5 s5 q5 => f.nx σ5 H5 F5 ρ5 r5 ((s2.trans s3).trans s5) q5, fun σ5 H5 F5 ρ5 r5 s5 q5 => ⟨F5, ρ5, r5, (s2.trans s3).trans s5, q5⟩, fun σ5 H5 F5 ρ5 d v r5 s5 dv q5 => f.rt σ5 H5 F5 ρ5 d v r5 ((s2.trans s3).trans s5) dv q5⟩

/-! ### comprehensions -/
def wipeS (sl : List Sl) : List Nat → List Sl
  | [] => sl
  | v :: vs => (wipeS sl vs).set v .un
def Ev.wipe (ρ : Ev) (vs : List Nat) : Ev := ⟨wipeS ρ.sl vs, ρ.c⟩
theorem wipeS_length (sl : List Sl) : ∀ vs, (wipeS sl vs).length = sl.length
  | [] => rfl
  | v :: vs => by unfold wipeS; rw [List.length_set, wipeS_length sl vs]
theorem wipeS_out {sl : List Sl} {j : Nat} : ∀ {vs : List Nat}, j ∉ vs → (wipeS sl vs)[j]? = sl[j]?
  | [], _ => rfl
  | v :: vs, h => by
    unfold wipeS
    rw [List.getElem?_set_ne (fun e => h (by rw [e]; exact List.mem_cons_self))]
    exact wipeS_out fun z => h (List.mem_cons_of_mem _ z)
theorem wipeS_in {sl : List Sl} {j : Nat} : ∀ {vs : List Nat}, j ∈ vs → j < sl.length → (wipeS sl vs)[j]? = some .un
  | v :: vs, h, hl => by
    unfold wipeS
    by_cases e : v = j
    · subst e; rw [List.getElem?_set_self (by rw [wipeS_length]; exact hl)]
    · rw [List.getElem?_set_ne e]
      rcases List.mem_cons.mp h with z | z
      · exact absurd z.symm e
      · exact wipeS_in z hl
theorem wipe_out {σ : St} {j : Nat} : ∀ {vs : List Nat}, j ∉ vs → (wipe σ vs)[j]? = σ[j]?
  | [], _ => rfl
  | v :: vs, h => by
    unfold wipe
    rw [List.getElem?_set_ne (fun e => h (by rw [e]; exact List.mem_cons_self))]
    exact wipe_out fun z => h (List.mem_cons_of_mem _ z)
theorem wipe_in {σ : St} {j : Nat} : ∀ {vs : List Nat}, j ∈ vs → j < σ.length → (wipe σ vs)[j]? = some none
  | v :: vs, h, hl => by
    unfold wipe
    by_cases e : v = j
    · subst e; rw [List.getElem?_set_self (by rw [wipe_length]; exact hl)]
    · rw [List.getElem?_set_ne e]
      rcases List.mem_cons.mp h with z | z
      · exact absurd z.symm e
      · exact wipe_in z hl
theorem wipe_eq {σ τ : St} {vs : List Nat} (hl : τ.length = σ.length) (h : ∀ j, j ∉ vs → τ[j]? = σ[j]?) : wipe τ vs = wipe σ vs := by
  apply List.ext_getElem?
  intro j
  by_cases hj : j ∈ vs
  · by_cases hl2 : j < σ.length
    · rw [wipe_in hj hl2, wipe_in hj (by rw [hl]; exact hl2)]
    · rw [List.getElem?_eq_none (by rw [wipe_length, hl]; omega), List.getElem?_eq_none (by rw [wipe_length]; omega)]
  · rw [wipe_out hj, wipe_out hj, h j hj]
/-- the slots outside as they are behind the block, those of the block as ahead -/
def resS (vs : List Nat) : Nat → List Sl → List Sl → List Sl
  | k, o :: os, n :: ns => (bif vs.contains k then o else n) :: resS vs (k + 1) os ns
  | _, _, _ => []
theorem resS_length (vs : List Nat) : ∀ (k : Nat) (os ns : List Sl), ns.length = os.length → (resS vs k os ns).length = os.length
  | _, [], [], _ => rfl
  | k, o :: os, n :: ns, h => by
    show (resS vs (k + 1) os ns).length + 1 = os.length + 1
    rw [resS_length vs (k + 1) os ns (by simpa using h)]
theorem resS_get (vs : List Nat) : ∀ (k : Nat) (os ns : List Sl) (i : Nat), ns.length = os.length → (resS vs k os ns)[i]? = if vs.contains (k + i) then os[i]? else ns[i]?
  | k, [], [], i, _ => by simp [resS]
  | k, o :: os, n :: ns, 0, _ => by
    show some (bif vs.contains k then o else n) = _
    rw [Nat.add_zero]
    cases vs.contains k <;> simp
  | k, o :: os, n :: ns, i + 1, h => by
    show (resS vs (k + 1) os ns)[i]? = _
    rw [resS_get vs (k + 1) os ns i (by simpa using h)]
    have : k + 1 + i = k + (i + 1) := by omega
    rw [this]; simp
def Ev.back (ρ : Ev) (vs : List Nat) (ρ2 : Ev) : Ev := ⟨resS vs 0 ρ.sl ρ2.sl, ρ2.c⟩
/-- none of these slots is of one's own -/
def noOwn (ρ : Ev) (vs : List Nat) : Bool := vs.all fun i => match ρ.sl[i]? with | some (.o _) => false | _ => true
def dLcL (g : DG) (tt : DT) (e : DE) (vs : List Nat) : List D → Ev → List D → (Ev → List D → Prop) → Prop
  | [], ρ, acc, K => K ρ acc
  | d :: ds, ρ, acc, K => g d (ρ.wipe vs) fun ρ1 => tt ρ1 fun ρ2 b => match b with
    | true => e ρ2 fun ρ3 y => acc.length < sizeLine ∧ dLcL g tt e vs ds (ρ.back vs ρ3) (acc ++ [y]) K
    | false => dLcL g tt e vs ds (ρ.back vs ρ2) acc K
def dLc (s : DI) (g : DG) (tt : DT) (e : DE) (vs : List Nat) : DE := fun ρ Q => s ρ fun ρ1 ds => noOwn ρ1 vs = true ∧ dLcL g tt e vs ds ρ1 [] fun ρ2 acc => Q ρ2 (.lst acc)
def dYes : DT := fun ρ Q => Q ρ true
theorem rt_yes : RT W B tYes dYes := fun σ H F ρ Q R r h k => k true H F ρ r (Same.refl _) h

theorem noOwn_at {vs : List Nat} (h : noOwn ρ vs = true) {i : Nat} {d : D} (hi : i ∈ vs) : ρ.sl[i]? ≠ some (.o d) := fun e => by
  have := List.all_eq_true.mp h i hi
  rw [e] at this; cases this
/-- into a block: its own slots are forgotten -/
theorem Rel.wiped (r : Rel W B F H σ ρ) (vs : List Nat) : Rel W B F H (wipe σ vs) (ρ.wipe vs) := by
  have at_ : ∀ {j : Nat} {d : D}, (ρ.wipe vs).sl[j]? = some (.o d) → ρ.sl[j]? = some (.o d) ∧ (wipe σ vs)[j]? = σ[j]? := fun {j d} h => by
    have h : (wipeS ρ.sl vs)[j]? = some (.o d) := h
    by_cases hj : j ∈ vs
    · have hl : j < ρ.sl.length := by
        have := (List.getElem?_eq_some_iff.mp h).1
        rwa [wipeS_length] at this
      rw [wipeS_in hj hl] at h; cases h
    · rw [wipeS_out hj] at h; exact ⟨h, wipe_out hj⟩
  refine ⟨r.ex, by rw [wipe_length]; show _ = (wipeS ρ.sl vs).length; rw [wipeS_length]; exact r.len, fun j s hj => ?_, fun j k x y p hj hk h1 h2 => ?_, r.well, r.keep, r.new, r.f0, r.ioH, r.hid, fun q hq j x hj h1 => ?_, r.hnd⟩
  · have h : (wipeS ρ.sl vs)[j]? = some s := hj
    by_cases hv : j ∈ vs
    · have hl : j < ρ.sl.length := by
        have := (List.getElem?_eq_some_iff.mp h).1
        rwa [wipeS_length] at this
      rw [wipeS_in hv hl] at h; cases h; trivial
    · rw [wipeS_out hv] at h
      rw [wipe_out hv]
      exact r.sl j s h
  · obtain ⟨q1, e1⟩ := at_ hj
    obtain ⟨q2, e2⟩ := at_ hk
    exact r.inj j k x y p q1 q2 (e1.symm.trans h1) (e2.symm.trans h2)
  · obtain ⟨q1, e1⟩ := at_ hj
    exact r.hap q hq j x q1 (e1.symm.trans h1)
/-- out of a block -/
theorem Rel.backed {vs : List Nat} {τ : St} {ρ2 : Ev} (r : Rel W B F H σ ρ) (no : noOwn ρ vs = true) (sf : Same F F') (r2 : Rel W B F' H' τ ρ2) (ho : ∀ j, j ∉ vs → τ[j]? = σ[j]?) (hl : τ.length = σ.length) :
    Rel W B F' H' σ (ρ.back vs ρ2) := by
  have hlen : ρ2.sl.length = ρ.sl.length := by rw [← r2.len, ← r.len]; exact hl
  have get : ∀ j, (ρ.back vs ρ2).sl[j]? = if vs.contains j then ρ.sl[j]? else ρ2.sl[j]? := fun j => by
    have := resS_get vs 0 ρ.sl ρ2.sl j hlen
    rwa [Nat.zero_add] at this
  have at_ : ∀ {j : Nat} {d : D}, (ρ.back vs ρ2).sl[j]? = some (.o d) → j ∉ vs ∧ ρ2.sl[j]? = some (.o d) := fun {j d} h => by
    rw [get j] at h
    by_cases hj : j ∈ vs
    · rw [if_pos (by simpa using hj)] at h
      exact absurd h (noOwn_at no hj)
    · rw [if_neg (by simpa using hj)] at h
      exact ⟨hj, h⟩
  refine ⟨r2.ex, by show _ = (resS vs 0 ρ.sl ρ2.sl).length; rw [resS_length vs 0 ρ.sl ρ2.sl hlen]; exact r.len, fun j s hj => ?_, fun j k x y p hj hk h1 h2 => ?_, r2.well, r2.keep, r2.new, r2.f0, r2.ioH, r2.hid, fun q hq j x hj h1 => ?_, r2.hnd⟩
  · rw [get j] at hj
    by_cases hv : j ∈ vs
    · rw [if_pos (by simpa using hv)] at hj
      have q := r.sl j s hj
      cases s with
      | un => trivial
      | v d => obtain ⟨u, e, hd⟩ := q; exact ⟨u, e, hd.mono sf⟩
      | o d => exact absurd hj (noOwn_at no hv)
    · rw [if_neg (by simpa using hv)] at hj
      rw [← ho j hv]
      exact r2.sl j s hj
  · obtain ⟨v1, q1⟩ := at_ hj
    obtain ⟨v2, q2⟩ := at_ hk
    exact r2.inj j k x y p q1 q2 ((ho j v1).trans h1) ((ho k v2).trans h2)
  · obtain ⟨v1, q1⟩ := at_ hj
    exact r2.hap q hq j x q1 ((ho j v1).trans h1)
/-- a new object is hidden -/
def Bs.hide (B : Bs) (p : Addr) (d : D) : Bs := { B with hid := (p, d) :: B.hid }
theorem Rel.hide {p : Addr} {d : D} (r : Rel W B F H σ ρ) (n : New W B F H σ ρ p d) : Rel W (B.hide p d) F H σ ρ :=
  ⟨r.ex, r.len, r.sl, r.inj, r.well, r.keep, r.new, r.f0, r.ioH, fun q hq => by
    rcases List.mem_cons.mp hq with e | hq
    · subst e; exact ⟨n.fp, n.h0, n.pw, n.own⟩
    · exact r.hid q hq, fun q hq => by
    rcases List.mem_cons.mp hq with e | hq
    · subst e; exact n.ap
    · exact r.hap q hq, List.nodup_cons.mpr ⟨fun h => by
      obtain ⟨q, hq, e⟩ := List.mem_map.mp h
      exact n.nh q hq e, r.hnd⟩⟩
/-- it comes out again -/
theorem Rel.unhide {p : Addr} {d : D} (r : Rel W (B.hide p d) F H σ ρ) : Rel W B F H σ ρ ∧ New W B F H σ ρ p d := by
  obtain ⟨h1, h2, h3, h4⟩ := r.hid (p, d) List.mem_cons_self
  refine ⟨⟨r.ex, r.len, r.sl, r.inj, r.well, r.keep, r.new, r.f0, r.ioH, fun q hq => r.hid q (List.mem_cons_of_mem _ hq), fun q hq => r.hap q (List.mem_cons_of_mem _ hq), (List.nodup_cons.mp r.hnd).2⟩,
    h4, h1, h2, h3, r.hap (p, d) List.mem_cons_self, fun q hq e => ?_⟩
  exact (List.nodup_cons.mp r.hnd).1 (List.mem_map.mpr ⟨q, hq, e⟩)
/-- the hidden object changes -/
theorem Rel.hset {p : Addr} {d d' : D} {o : HO} (r : Rel W (B.hide p d) F H σ ρ) (own : OwnAt W F (upd H p o) p d') : Rel W (B.hide p d') F (upd H p o) σ ρ := by
  obtain ⟨h1, h2, h3, h4⟩ := r.hid (p, d) List.mem_cons_self
  have hq : ∀ q, q ≠ p → upd H p o q = H q := fun q h => upd_ne h
  refine ⟨fun b u e => ?_, r.len, fun j s hj => ?_, r.inj, ?_, fun a u e1 e2 e3 => ?_, r.new, r.f0, fun a ha => ?_, fun q hq' => ?_, fun q hq' => ?_, r.hnd⟩
  · have : b ≠ p := fun z => by subst z; rw [h1] at e; cases e
    rw [hq b this]; exact r.ex _ _ e
  · have q := r.sl j s hj
    cases s with
    | un => trivial
    | v x => exact q
    | o x =>
      obtain ⟨p2, e2, fp2, h02, hw2, own2⟩ := q
      have hne : p2 ≠ p := fun z => r.hap (p, d) List.mem_cons_self j x hj (by rw [e2, z])
      exact ⟨p2, e2, fp2, h02, hw2, own2.mono (Same.refl _) (hq p2 hne)⟩
  · refine r.well.mono (Same.refl _) (fun q hp => ⟨r.well.fp hp, hq q fun z => h3 (by rw [← z]; exact hp)⟩) fun P q t fP => ⟨fP, h4.tab t⟩
  · have : a ≠ p := fun z => by subst z; exact absurd (h2.symm.trans e1) (fun t => nomatch t)
    rw [hq a this]; exact r.keep a u e1 e2 e3
  · by_cases z : a = p
    · subst z; exact own.nt
    · rw [hq a z]; exact r.ioH a ha
  · rcases List.mem_cons.mp hq' with e | hm
    · subst e; exact ⟨h1, h2, h3, own⟩
    · obtain ⟨g1, g2, g3, g4⟩ := r.hid q (List.mem_cons_of_mem _ hm)
      have hne : q.1 ≠ p := fun z => (List.nodup_cons.mp r.hnd).1 (List.mem_map.mpr ⟨q, hm, z⟩)
      exact ⟨g1, g2, g3, g4.mono (Same.refl _) (hq q.1 hne)⟩
  · rcases List.mem_cons.mp hq' with e | hm
    · subst e; exact r.hap (p, d) List.mem_cons_self
    · exact r.hap q (List.mem_cons_of_mem _ hm)

theorem rn_lc {wi : TI} {tg : TG} {tt : TT} {te : TE} {s : DI} {g : DG} {t : DT} {e : DE} {is vs : List Nat} (ri : RI W B wi s) (rg : ∀ B', B'.io = B.io → RG W B' tg g is) (rt : ∀ B', B'.io = B.io → RT W B' tt t) (re : ∀ B', B'.io = B.io → RE W B' te e) (hs : ∀ i ∈ is, i ∈ vs) :
    RN W B (tLc wi tg tt te vs) (dLc s g t e vs) := by
  intro σ H F ρ Q R rl h k
  refine ri σ H F ρ _ _ rl h fun J H1 F1 ρ1 ds r1 s1 it h1 => ?_
  obtain ⟨no, h1⟩ := h1
  intro D hD
  have nD : New W B F1 (upd H1 D (.lst [])) σ ρ1 D (.lst []) := new_of r1 hD ⟨[], upd_same, rfl⟩
  have r1' : Rel W (B.hide D (.lst [])) F1 (upd H1 D (.lst [])) σ ρ1 := (r1.stp (Stp.lay (o := .lst []) r1.ex hD)).hide nD
  refine ⟨fun i m H => ∃ F2 ρ2 acc, Rel W (B.hide D (.lst acc)) F2 H σ ρ2 ∧ Same F1 F2 ∧ i ≤ ds.length ∧ m = ds.length - i ∧ noOwn ρ2 vs = true ∧ dLcL g t e vs (ds.drop i) ρ2 acc fun ρ2 acc => Q ρ2 (.lst acc),
    ⟨ds.length, F1, ρ1, [], r1', Same.refl _, Nat.zero_le _, rfl, no, h1⟩, ?_⟩
  rintro i m H2 ⟨F2, ρ2, acc, r2, s2, hi, rfl, no2, hq⟩
  obtain ⟨st, go⟩ := it F2 H2 s2 r2.ex
  by_cases hlt : i < ds.length
  · have hd : ds[i]? = some ds[i] := List.getElem?_eq_getElem hlt
    obtain ⟨g1, y1⟩ := go i _ hd
    rw [List.drop_eq_getElem_cons hlt] at hq
    refine .inr ⟨g1, fun H3 => ∃ F3 ρ3 acc, Rel W (B.hide D (.lst acc)) F3 H3 σ ρ3 ∧ Same F1 F3 ∧ noOwn ρ3 vs = true ∧ dLcL g t e vs (ds.drop (i + 1)) ρ3 acc fun ρ2 acc => Q ρ2 (.lst acc),
      fun H3 ⟨F3, ρ3, acc3, r3, s3, n3, q3⟩ => ⟨ds.length - (i + 1), by omega, F3, ρ3, acc3, r3, s3, hlt, rfl, n3, q3⟩, fun x H3 hy => ?_⟩
    obtain ⟨F3, st3, dx⟩ := y1 x H3 hy
    have r3 := r2.stp st3
    have r3w := r3.wiped vs
    have noBack : ∀ (ρx : Ev), ρx.sl.length = ρ2.sl.length → noOwn (ρ2.back vs ρx) vs = true := fun ρx hl => by
      refine List.all_eq_true.mpr fun j hj => ?_
      have := resS_get vs 0 ρ2.sl ρx.sl j hl
      rw [Nat.zero_add, if_pos (by simpa using hj)] at this
      have e2 : (ρ2.back vs ρx).sl[j]? = ρ2.sl[j]? := this
      rw [e2]
      exact List.all_eq_true.mp no2 j hj
    refine rg (B.hide D (.lst acc)) rfl (wipe σ vs) H3 F3 (ρ2.wipe vs) x _ _ _ r3w dx hq fun σ4 ρ4 r4 o4 l4 q4 => ?_
    have out4 : ∀ j, j ∉ vs → σ4[j]? = σ[j]? := fun j hj => (o4 j fun z => hj (hs j z)).trans (wipe_out hj)
    have len4 : σ4.length = σ.length := l4.trans (wipe_length _ _)
    have lenE : ∀ {F5 H5 ρ5} , Rel W (B.hide D (.lst acc)) F5 H5 σ4 ρ5 → ρ5.sl.length = ρ2.sl.length := fun {F5 H5 ρ5} r => by rw [← r.len, len4, r2.len]
    refine ⟨wipe_eq len4 out4, rt (B.hide D (.lst acc)) rfl σ4 H3 F3 ρ4 _ _ r4 q4 fun b H5 F5 ρ5 r5 s5 q5 => ?_⟩
    cases b with
    | false => exact iteF ⟨F5, ρ2.back vs ρ5, acc, r3.backed no2 s5 r5 out4 len4, (s2.trans st3.ff).trans s5, noBack ρ5 (lenE r5), q5⟩
    | true =>
      refine iteT (re (B.hide D (.lst acc)) rfl σ4 H5 F5 ρ5 _ _ r5 q5 fun y H6 F6 ρ6 dy r6 s6 d6 q6 => ?_)
      obtain ⟨_, _, _, ownD⟩ := r6.hid (D, .lst acc) List.mem_cons_self
      obtain ⟨xs, hxs, dxs⟩ := ownD
      refine ⟨xs, hxs, by rw [← dxs.length]; exact q6.1, F6, ρ2.back vs ρ6, acc ++ [dy], ?_, ((s2.trans st3.ff).trans s5).trans s6, noBack ρ6 (lenE r6), q6.2⟩
      exact (r3.backed no2 (s5.trans s6) r6 out4 len4).hset ⟨_, upd_same, dxs.append ⟨y, [], rfl, d6, rfl⟩⟩
  · have e : i = ds.length := by omega
    subst e
    rw [List.drop_length] at hq
    obtain ⟨r2', n2⟩ := r2.unhide
    exact .inl ⟨st, k D H2 F2 ρ2 _ r2' (s1.trans s2) n2 hq⟩
end
end DL

-- part DL4
set_option maxHeartbeats 4000000
namespace DL
open PySem L2

section
variable {W : Wd} {B : Bs} {F F' H H' : Hp} {σ : St} {ρ : Ev}

/-! ### built-in calls by values -/
theorem re_cb {r : List V → Hp → VK → Prop} {ta : TA} {a : DA} {g : List D → Ev → (Ev → D → Prop) → Prop} (ra : RA W B ta a)
    (hr : ∀ σ H F ρ vs ds Q (R : VK), Rel W B F H σ ρ → DenL W F ds vs → g ds ρ Q → (∀ v H' F' ρ' d, Rel W B F' H' σ ρ' → Same F F' → Den W F' d v → Q ρ' d → R v H') → r vs H R) :
    RE W B (tCB r ta) (fun ρ Q => a ρ fun ρ1 ds => g ds ρ1 Q) := by
  intro σ H F ρ Q R rl h k
  refine ra σ H F ρ _ _ rl h fun vs H1 F1 ρ1 ds r1 s1 d1 h1 => ?_
  exact hr σ H1 F1 ρ1 vs ds Q R r1 d1 h1 fun v H' F' ρ' d r' s' d' q => k v H' F' ρ' d r' (s1.trans s') d' q

theorem den1 {d : D} {vs : List V} (h : DenL W F [d] vs) : ∃ x, vs = [x] ∧ Den W F d x := by
  obtain ⟨x, r, e, hx, hr⟩ := h
  have hr : r = [] := hr
  subst hr
  exact ⟨x, e, hx⟩
theorem den2 {d e : D} {vs : List V} (h : DenL W F [d, e] vs) : ∃ x y, vs = [x, y] ∧ Den W F d x ∧ Den W F e y := by
  obtain ⟨x, r, e1, hx, hr⟩ := h
  obtain ⟨y, e2, hy⟩ := den1 hr
  subst e2
  exact ⟨x, y, e1, hx, hy⟩

def gLen : List D → Ev → (Ev → D → Prop) → Prop := fun ds ρ Q => match ds with
  | [.lst xs] => Q ρ (.int xs.length)
  | [.tup xs] => Q ρ (.int xs.length)
  | [.str x] => x.length ≤ sizeLine ∧ Q ρ (.int x.length)
  | _ => False
theorem re_len {ta : TA} {a : DA} (ra : RA W B ta a) : RE W B (tCB (fun xs H Q => ∃ x n, xs = [x] ∧ LenV W.K x H n ∧ Q (.int n) H) ta) (fun ρ Q => a ρ fun ρ1 ds => gLen ds ρ1 Q) :=
  re_cb ra fun σ H F ρ vs ds Q R r d h k => by
    unfold gLen at h
    split at h
    · obtain ⟨x, rfl, a, xs, rfl, hs, hd⟩ := den1 d
      exact ⟨_, _, rfl, .inl ⟨xs, same_sqL r.ex hs, rfl⟩, k _ H F ρ (.int _) r (Same.refl _) (by rw [← hd.length]; rfl) h⟩
    · obtain ⟨x, rfl, a, xs, rfl, hs, hd⟩ := den1 d
      exact ⟨_, _, rfl, .inr ⟨xs, sqT_of r.ex hs, rfl⟩, k _ H F ρ (.int _) r (Same.refl _) (by rw [← hd.length]; rfl) h⟩
    · rename_i z
      obtain ⟨x, rfl, hx⟩ := den1 d
      have hx : x = .str z := hx
      subst hx
      exact ⟨_, _, rfl, ⟨h.1, rfl⟩, k _ H F ρ (.int _) r (Same.refl _) rfl h.2⟩
    · exact h.elim
def gInt : List D → Ev → (Ev → D → Prop) → Prop := fun ds ρ Q => match ds with
  | [.int i] => Q ρ (.int i)
  | [.bl b] => Q ρ (.int (if b then 1 else 0))
  | _ => False
theorem re_int {ta : TA} {a : DA} (ra : RA W B ta a) : RE W B (tCB (fun xs H Q => (∃ i, xs = [.int i] ∧ Q (.int i) H) ∨ ∃ k, xs = [.bl k] ∧ Q (.int (if k then 1 else 0)) H) ta) (fun ρ Q => a ρ fun ρ1 ds => gInt ds ρ1 Q) :=
  re_cb ra fun σ H F ρ vs ds Q R r d h k => by
    unfold gInt at h
    split at h
    · obtain ⟨x, rfl, hx⟩ := den1 d
      have hx : x = .int _ := hx
      subst hx
      exact .inl ⟨_, rfl, k _ H F ρ (.int _) r (Same.refl _) rfl h⟩
    · obtain ⟨x, rfl, hx⟩ := den1 d
      have hx : x = .bl _ := hx
      subst hx
      exact .inr ⟨_, rfl, k _ H F ρ (.int _) r (Same.refl _) rfl h⟩
    · exact h.elim
def gAbs : List D → Ev → (Ev → D → Prop) → Prop := fun ds ρ Q => match ds with
  | [.int i] => Q ρ (.int (if i < 0 then -i else i))
  | _ => False
theorem re_abs {ta : TA} {a : DA} (ra : RA W B ta a) : RE W B (tCB (fun xs H Q => ∃ i, xs = [.int i] ∧ Q (.int (if i < 0 then -i else i)) H) ta) (fun ρ Q => a ρ fun ρ1 ds => gAbs ds ρ1 Q) :=
  re_cb ra fun σ H F ρ vs ds Q R r d h k => by
    unfold gAbs at h
    split at h
    · obtain ⟨x, rfl, hx⟩ := den1 d
      have hx : x = .int _ := hx
      subst hx
      exact ⟨_, rfl, k _ H F ρ (.int _) r (Same.refl _) rfl h⟩
    · exact h.elim
def gTupOf : List D → Ev → (Ev → D → Prop) → Prop := fun ds ρ Q => match ds with
  | [.lst xs] => Q ρ (.tup xs)
  | [.tup xs] => Q ρ (.tup xs)
  | _ => False
theorem re_tupOf {ta : TA} {a : DA} (ra : RA W B ta a) : RE W B (tCB (fun xs H Q => ∃ p ys, xs = [.ref p] ∧ ((SqL W.K H p ys ∧ ∀ l, H l = none → Q (.ref l) (upd H l (.tup ys))) ∨ (SqT W.K H p ys ∧ Q (.ref p) H))) ta) (fun ρ Q => a ρ fun ρ1 ds => gTupOf ds ρ1 Q) :=
  re_cb ra fun σ H F ρ vs ds Q R r d h k => by
    unfold gTupOf at h
    split at h
    · obtain ⟨x, rfl, a, xs, rfl, hs, hd⟩ := den1 d
      refine ⟨a, xs, rfl, .inl ⟨same_sqL r.ex hs, fun l hl => ?_⟩⟩
      have st := Stp.one (o := .tup xs) r.ex hl
      exact k _ _ _ ρ (.tup _) (r.stp st) st.ff ⟨l, xs, rfl, upd_same, hd.mono st.ff⟩ h
    · obtain ⟨x, rfl, a, xs, rfl, hs, hd⟩ := den1 d
      exact ⟨a, xs, rfl, .inr ⟨sqT_of r.ex hs, k _ H F ρ (.tup _) r (Same.refl _) ⟨a, xs, rfl, hs, hd⟩ h⟩⟩
    · exact h.elim
def gLstOf : List D → Ev → (Ev → D → Prop) → Prop := fun ds ρ Q => match ds with
  | [.lst xs] => Q ρ (.lst xs)
  | [.tup xs] => Q ρ (.lst xs)
  | _ => False
theorem rn_lstOf {ta : TA} {a : DA} (ra : RA W B ta a) : RN W B (tCB (fun xs H Q => ∃ p ys, xs = [.ref p] ∧ (SqL W.K H p ys ∨ SqT W.K H p ys) ∧ ∀ l, H l = none → Q (.ref l) (upd H l (.lst ys))) ta) (fun ρ Q => a ρ fun ρ1 ds => gLstOf ds ρ1 Q) := by
  intro σ H F ρ Q R rl h k
  refine ra σ H F ρ _ _ rl h fun vs H1 F1 ρ1 ds r1 s1 d1 h1 => ?_
  unfold gLstOf at h1
  split at h1
  · obtain ⟨x, rfl, a, xs, rfl, hs, hd⟩ := den1 d1
    refine ⟨a, xs, rfl, .inl (same_sqL r1.ex hs), fun p hp => ?_⟩
    exact k p _ _ _ (.lst _) (r1.stp (Stp.lay (o := .lst xs) r1.ex hp)) s1 (new_of r1 hp ⟨xs, upd_same, hd⟩) h1
  · obtain ⟨x, rfl, a, xs, rfl, hs, hd⟩ := den1 d1
    refine ⟨a, xs, rfl, .inr (sqT_of r1.ex hs), fun p hp => ?_⟩
    exact k p _ _ _ (.lst _) (r1.stp (Stp.lay (o := .lst xs) r1.ex hp)) s1 (new_of r1 hp ⟨xs, upd_same, hd⟩) h1
  · exact h1.elim

/-! ### subscripts -/
def gIxL : D → D → Ev → (Ev → D → Prop) → Prop := fun x y ρ Q => match x, y with
  | .lst ds, .int i => match atI ds i with | some d => Q ρ d | none => False
  | _, _ => False
def gIxT : D → D → Ev → (Ev → D → Prop) → Prop := fun x y ρ Q => match x, y with
  | .tup ds, .int i => match atI ds i with | some d => Q ρ d | none => False
  | _, _ => False
theorem denL_at {ds : List D} {xs : List V} {i : Int} {d : D} (h : DenL W F ds xs) (e : atI ds i = some d) : ∃ x, atI xs i = some x ∧ Den W F d x := by
  unfold atI at e ⊢
  rw [← h.length]
  cases q : ixN ds.length i with
  | none => rw [q] at e; cases e
  | some j =>
    rw [q] at e
    exact h.get e
theorem re_ixL {ta tb : TE} {a b : DE} (ra : RE W B ta a) (rb : RE W B tb b) : RE W B (tOp (rIxL W.K) ta tb) (fun ρ Q => a ρ fun ρ1 x => b ρ1 fun ρ2 y => gIxL x y ρ2 Q) :=
  re_bin ra rb fun σ H F ρ x y dx dy Q R r d1 d2 h k => by
    unfold gIxL at h
    split at h
    · obtain ⟨p, xs, e, hs, hd⟩ := d1
      split at h
      · rename_i d ed
        obtain ⟨v, hv, dv⟩ := denL_at hd ed
        exact ⟨p, xs, _, v, e, d2, same_sqL r.ex hs, hv, k v H F ρ d r (Same.refl _) dv h⟩
      · exact h.elim
    · exact h.elim
theorem re_ixT {ta tb : TE} {a b : DE} (ra : RE W B ta a) (rb : RE W B tb b) : RE W B (tOp (rIxT W.K) ta tb) (fun ρ Q => a ρ fun ρ1 x => b ρ1 fun ρ2 y => gIxT x y ρ2 Q) :=
  re_bin ra rb fun σ H F ρ x y dx dy Q R r d1 d2 h k => by
    unfold gIxT at h
    split at h
    · obtain ⟨p, xs, e, hs, hd⟩ := d1
      split at h
      · rename_i d ed
        obtain ⟨v, hv, dv⟩ := denL_at hd ed
        exact ⟨p, xs, _, v, e, d2, sqT_of r.ex hs, hv, k v H F ρ d r (Same.refl _) dv h⟩
      · exact h.elim
    · exact h.elim
/-- a list or a tuple -/
def gIx : D → D → Ev → (Ev → D → Prop) → Prop := fun x y ρ Q => match x, y with
  | .lst ds, .int i => match atI ds i with | some d => Q ρ d | none => False
  | .tup ds, .int i => match atI ds i with | some d => Q ρ d | none => False
  | _, _ => False
theorem re_ix {ta tb : TE} {a b : DE} (ra : RE W B ta a) (rb : RE W B tb b) : RE W B (tOp (fun x y H Q => rIxL W.K x y H Q ∨ rIxT W.K x y H Q) ta tb) (fun ρ Q => a ρ fun ρ1 x => b ρ1 fun ρ2 y => gIx x y ρ2 Q) :=
  re_bin ra rb fun σ H F ρ x y dx dy Q R r d1 d2 h k => by
    unfold gIx at h
    split at h
    · obtain ⟨p, xs, e, hs, hd⟩ := d1
      split at h
      · rename_i d ed
        obtain ⟨v, hv, dv⟩ := denL_at hd ed
        exact .inl ⟨p, xs, _, v, e, d2, same_sqL r.ex hs, hv, k v H F ρ d r (Same.refl _) dv h⟩
      · exact h.elim
    · obtain ⟨p, xs, e, hs, hd⟩ := d1
      split at h
      · rename_i d ed
        obtain ⟨v, hv, dv⟩ := denL_at hd ed
        exact .inr ⟨p, xs, _, v, e, d2, sqT_of r.ex hs, hv, k v H F ρ d r (Same.refl _) dv h⟩
      · exact h.elim
    · exact h.elim

/-! ### data: == and != -/
mutual
def toP : D → Option PyData
  | .non => some .none
  | .bl b => some (.bool b)
  | .int i => some (.int i)
  | .str x => some (.str x)
  | .lst ds => (toPs ds).map .list
  | .tup ds => (toPs ds).map .tuple
  | _ => none
def toPs : List D → Option (List PyData)
  | [] => some []
  | d :: ds => match toP d, toPs ds with
    | some p, some ps => some (p :: ps)
    | _, _ => none
end
mutual
theorem dp_of (e : Same F H) : ∀ {d : D} {v : V} {p : PyData}, Den W F d v → toP d = some p → Dp W.K H v p
  | .non, _, _, h, t => by cases t; rw [show _ = V.non from h]; exact .non
  | .bl b, _, _, h, t => by cases t; rw [show _ = V.bl b from h]; exact .bl b
  | .int i, _, _, h, t => by cases t; rw [show _ = V.int i from h]; exact .int i
  | .str x, _, _, h, t => by cases t; rw [show _ = V.str x from h]; exact .str x
  | .lst ds, _, p, ⟨a, xs, ev, hs, hd⟩, t => by
    unfold toP at t
    cases q : toPs ds with
    | none => rw [q] at t; cases t
    | some ps =>
      rw [q] at t; cases t
      subst ev
      exact .lst (same_sqL e hs) (dps_of e hd q)
  | .tup ds, _, p, ⟨a, xs, ev, hs, hd⟩, t => by
    unfold toP at t
    cases q : toPs ds with
    | none => rw [q] at t; cases t
    | some ps =>
      rw [q] at t; cases t
      subst ev
      exact .tup (sqT_of e hs) (dps_of e hd q)
  | .obj _ _ _, _, _, _, t => by cases t
  | .exc _ _ _, _, _, _, t => by cases t
  | .dik _ _, _, _, _, t => by cases t
  | .dic _ _, _, _, _, t => by cases t
  | .opq _, _, _, _, t => by cases t
  | .well, _, _, _, t => by cases t
theorem dps_of (e : Same F H) : ∀ {ds : List D} {xs : List V} {ps : List PyData}, DenL W F ds xs → toPs ds = some ps → DpAll W.K H xs ps
  | [], _, _, h, t => by cases t; rw [show _ = [] from h]; exact .nil
  | d :: ds, _, ps, ⟨x, r, ev, h1, h2⟩, t => by
    unfold toPs at t
    subst ev
    cases q : toP d with
    | none => rw [q] at t; cases t
    | some p =>
      cases q2 : toPs ds with
      | none => rw [q, q2] at t; cases t
      | some rs =>
        rw [q, q2] at t; cases t
        exact .cons (dp_of e h1 q) (dps_of e h2 q2)
end
/-- == of data; none where they are none, or too deep -/
def eqD (x y : D) : Option Bool := match toP x, toP y with
  | some p, some q => bif SeqAt.shaped p && SeqAt.shaped q then some (PyData.eqv p q) else none
  | _, _ => none
def gEq : D → D → Ev → (Ev → D → Prop) → Prop := fun x y ρ Q => ∃ b, eqD x y = some b ∧ Q ρ (.bl b)
def gNe : D → D → Ev → (Ev → D → Prop) → Prop := fun x y ρ Q => ∃ b, eqD x y = some b ∧ Q ρ (.bl (!b))
theorem eqD_some {x y : D} {b : Bool} (h : eqD x y = some b) : ∃ p q, toP x = some p ∧ toP y = some q ∧ SeqAt.shaped p = true ∧ SeqAt.shaped q = true ∧ PyData.eqv p q = b := by
  unfold eqD at h
  split at h
  · rename_i p q hp hq
    cases hs : (SeqAt.shaped p && SeqAt.shaped q) with
    | false => rw [hs] at h; cases h
    | true =>
      rw [hs] at h
      rw [Bool.and_eq_true] at hs
      exact ⟨p, q, hp, hq, hs.1, hs.2, Option.some.inj h⟩
  · cases h
theorem re_eqD {ta tb : TE} {a b : DE} (ra : RE W B ta a) (rb : RE W B tb b) : RE W B (tOp (rEqD W.K) ta tb) (fun ρ Q => a ρ fun ρ1 x => b ρ1 fun ρ2 y => gEq x y ρ2 Q) :=
  re_bin ra rb fun σ H F ρ x y dx dy Q R r d1 d2 h k => by
    obtain ⟨c, ec, h⟩ := h
    obtain ⟨p, q, hp, hq, s1, s2, e⟩ := eqD_some ec
    exact ⟨p, q, dp_of r.ex d1 hp, dp_of r.ex d2 hq, s1, s2, k _ H F ρ (.bl c) r (Same.refl _) (by rw [e]; rfl) h⟩
theorem re_neD {ta tb : TE} {a b : DE} (ra : RE W B ta a) (rb : RE W B tb b) : RE W B (tOp (rNeD W.K) ta tb) (fun ρ Q => a ρ fun ρ1 x => b ρ1 fun ρ2 y => gNe x y ρ2 Q) :=
  re_bin ra rb fun σ H F ρ x y dx dy Q R r d1 d2 h k => by
    obtain ⟨c, ec, h⟩ := h
    obtain ⟨p, q, hp, hq, s1, s2, e⟩ := eqD_some ec
    exact ⟨p, q, dp_of r.ex d1 hp, dp_of r.ex d2 hq, s1, s2, k _ H F ρ (.bl (!c)) r (Same.refl _) (by rw [e]; rfl) h⟩
/-- is None -/
def isNonD : D → Bool
  | .non => true
  | .opq v => decide (v = .non)
  | _ => false
theorem isNon_den {d : D} {v : V} (h : Den W F d v) : decide (v = V.non) = isNonD d := by
  cases d with
  | non => rw [show v = V.non from h]; rfl
  | bl b => rw [show v = V.bl b from h]; rfl
  | int i => rw [show v = V.int i from h]; rfl
  | str x => rw [show v = V.str x from h]; rfl
  | lst ds => obtain ⟨a, xs, e, _⟩ := h; rw [e]; rfl
  | tup ds => obtain ⟨a, xs, e, _⟩ := h; rw [e]; rfl
  | obj c ns ds => obtain ⟨a, C, dx, gs, e, _⟩ := h; rw [e]; rfl
  | exc c ns ds => obtain ⟨a, gs, e, _⟩ := h; rw [e]; rfl
  | dik ks vs => obtain ⟨a, kvs, e, _⟩ := h; rw [e]; rfl
  | dic ks vs => obtain ⟨a, kvs, e, _⟩ := h; rw [e]; rfl
  | opq u => rw [show v = u from h]; rfl
  | well => obtain ⟨p, _, e⟩ := h; rw [e]; rfl
theorem re_isN {ta : TE} {a : DE} (ra : RE W B ta a) : RE W B (tIsN ta) (fun ρ Q => a ρ fun ρ1 x => Q ρ1 (.bl (isNonD x))) := by
  intro σ H F ρ Q R rl h k
  exact ra σ H F ρ _ _ rl h fun x H1 F1 ρ1 dx r1 s1 d1 h1 => k _ H1 F1 ρ1 (.bl (isNonD dx)) r1 s1 (by rw [isNon_den d1]; rfl) h1
theorem re_notN {ta : TE} {a : DE} (ra : RE W B ta a) : RE W B (tNotN ta) (fun ρ Q => a ρ fun ρ1 x => Q ρ1 (.bl (!isNonD x))) := by
  intro σ H F ρ Q R rl h k
  exact ra σ H F ρ _ _ rl h fun x H1 F1 ρ1 dx r1 s1 d1 h1 => k _ H1 F1 ρ1 (.bl (!isNonD dx)) r1 s1 (by rw [isNon_den d1]; rfl) h1

/-! ### isinstance -/
/-- k tells of trees what isinstance tells of the class u (none where it does not know) -/
def tyD (W : Wd) : D → Option Value
  | .non => some (.type "NoneType") | .bl _ => some (.type "bool") | .int _ => some (.type "int") | .str _ => some (.type "str") | .lst _ => some (.type "list") | .tup _ => some (.type "tuple") | .dik _ _ => some (.type "dict") | .dic _ _ => none
  | .obj c _ _ => (W.cls c).map .ref
  | .exc C _ _ => some (.ref C)
  | .opq _ => none
  | .well => some (.type "list")
def KOk (W : Wd) (k : D → Option Bool) (u : Value) : Prop := ∀ d b, k d = some b → ∃ t, tyD W d = some t ∧ PySem.W.kitOne W.K t u = some b ∧ ∀ F H v, Same F H → Den W F d v → TyX W.K H v t
theorem tyx_lst {a : Addr} {xs : List V} (h : SqL W.K H a xs) : TyX W.K H (.ref a) (.type "list") := by
  rcases h with (h | ⟨o, h⟩) | ⟨o, its, n, h1, h2, _⟩
  · exact .base (.lst h)
  · exact .base (.frz h)
  · exact .kList h1 h2
theorem tyx_tup {a : Addr} {xs : List V} (h : SqT W.K H a xs) : TyX W.K H (.ref a) (.type "tuple") := by
  rcases h with (h | ⟨o, h⟩) | ⟨o, its, n, h1, h2, _⟩
  · exact .base (.tup h)
  · exact .fTuple h
  · exact .kTuple h1 h2
def tyName : D → Option String
  | .non => some "NoneType" | .bl _ => some "bool" | .int _ => some "int" | .str _ => some "str" | .lst _ => some "list" | .tup _ => some "tuple" | .dik _ _ => some "dict" | _ => none
theorem tyx_of (e : Same F H) {d : D} {v : V} {T : String} (h : Den W F d v) (t : tyName d = some T) : TyX W.K H v (.type T) := by
  cases d with
  | non => cases t; rw [show v = V.non from h]; exact .base .non
  | bl b => cases t; rw [show v = V.bl b from h]; exact .base (.bl b)
  | int i => cases t; rw [show v = V.int i from h]; exact .base (.int i)
  | str x => cases t; rw [show v = V.str x from h]; exact .base (.str x)
  | lst ds => cases t; obtain ⟨a, xs, ev, hs, _⟩ := h; rw [ev]; exact tyx_lst (same_sqL e hs)
  | tup ds => cases t; obtain ⟨a, xs, ev, hs, _⟩ := h; rw [ev]; exact tyx_tup (sqT_of e hs)
  | dik ks vs => cases t; obtain ⟨a, kvs, ev, hf, _⟩ := h; rw [ev]; exact .base (.dK (e _ _ hf))
  | dic ks vs => cases t
  | obj c ns ds => cases t
  | exc _ _ _ => cases t
  | opq u => cases t
  | well => cases t
def gIsi (k : D → Option Bool) : List D → Ev → (Ev → D → Prop) → Prop := fun ds ρ Q => match ds with
  | [x, .opq _] => match k x with | some b => Q ρ (.bl b) | none => False
  | _ => False
/-- isinstance(x, C): the class's value is c -/
theorem re_isi {te : TE} {t : DE} {c : V} {u : Value} {k : D → Option Bool} (re : RE W B te t) (hc : ClsV c u) (hk : KOk W k u) :
    RE W B (tCB (rIsi W.K) (tCons te (tCons (tC c) tNil))) (fun ρ Q => t ρ fun ρ1 x => ∃ b, k x = some b ∧ Q ρ1 (.bl b)) := by
  intro σ H F ρ Q R rl h kk
  refine re σ H F ρ _ _ rl h fun x H1 F1 ρ1 dx r1 s1 d1 h1 => ?_
  obtain ⟨b, eb, h1⟩ := h1
  obtain ⟨ty, _, h3, h2⟩ := hk dx b eb
  exact ⟨x, c, ty, u, b, rfl, hc, h2 F1 H1 x r1.ex d1, h3, kk _ H1 F1 ρ1 (.bl b) r1 s1 rfl h1⟩
/-- isinstance(x, (C1, C2)) -/
theorem re_isi2 {te : TE} {t : DE} {c1 c2 : V} {u1 u2 : Value} {k1 k2 : D → Option Bool} (re : RE W B te t) (hc1 : ClsV c1 u1) (hc2 : ClsV c2 u2) (hk1 : KOk W k1 u1) (hk2 : KOk W k2 u2) :
    RE W B (tCB (rIsiT W.K) (tCons te (tCons (tTup (tCons (tC c1) (tCons (tC c2) tNil))) tNil))) (fun ρ Q => t ρ fun ρ1 x => ∃ b1 b2, k1 x = some b1 ∧ k2 x = some b2 ∧ Q ρ1 (.bl (b1 || b2))) := by
  intro σ H F ρ Q R rl h kk
  refine re σ H F ρ _ _ rl h fun x H1 F1 ρ1 dx r1 s1 d1 h1 => ?_
  obtain ⟨b1, b2, e1, e2, h1⟩ := h1
  · refine ⟨by show 2 ≤ sizeLine; decide, fun p hp => ?_⟩
    have st := Stp.one (o := .tup [c1, c2]) r1.ex hp
    obtain ⟨ty1, t1, g2, g1⟩ := hk1 dx b1 e1
    obtain ⟨ty2, t2, same, _⟩ := hk2 dx b2 e2
    have et : ty2 = ty1 := Option.some.inj (t2.symm.trans t1)
    rw [et] at same
    refine ⟨x, p, [c1, c2], ty1, [u1, u2], b1 || b2, rfl, upd_same, .cons hc1 (.cons hc2 .nil), g1 _ _ x st.fh (d1.mono st.ff), ?_, kk _ _ _ ρ1 (.bl (b1 || b2)) (r1.stp st) (s1.trans st.ff) rfl h1⟩
    refine kitAny_cons g2 (fun e => ?_) (fun e => by rw [e]; rfl)
    rw [e]
    refine kitAny_cons same (fun e2 => ?_) (fun e2 => by rw [e2]; rfl)
    rw [e2]
    exact kitAny_nil
end
end DL

-- part DL5
set_option maxHeartbeats 4000000
namespace DL
open PySem L2

/-- what a def does, over trees: its arguments, the draws so far, what is wanted of its value and of the draws -/
abbrev GF := List D → Nat → (D → Nat → Prop) → Prop

/-- the base at a def's entry -/
def bs0 (F H : Hp) : Bs := ⟨F, H, [], []⟩
/-- what is kept from H to H' by a call: all but the well and the objects in io -/
structure Kept (F H F' H' : Hp) (pw : Option Addr) (io : List Addr) : Prop where
  ff : Same F F'
  fh : Same F' H'
  hh : ∀ a o, H a = some o → pw ≠ some a → a ∉ io → tw o (H' a)
  new : ∀ a, nt (H a) → F a = none → F' a = none

/-- the promise of a def that changes nothing but the well -/
def spD (K : PySem.W.Frag) (cls : Str → Option Addr) (G : GF) : Sp := fun vs H Q _ => ∃ (F : Hp) (ds : List D) (c : Nat) (pw : Option Addr) (QD : D → Nat → Prop), Same F H ∧ DenL ⟨K, cls, pw⟩ F ds vs ∧ WellOk ⟨K, cls, pw⟩ (bs0 F H) F H c ∧ G ds c QD ∧
  ∀ v H' F' d c', Kept F H F' H' pw [] → Den ⟨K, cls, pw⟩ F' d v → WellOk ⟨K, cls, pw⟩ (bs0 F H) F' H' c' → QD d c' → Q v H'

section
variable {W : Wd} {B : Bs} {F F' H H' : Hp} {σ : St} {ρ : Ev}
theorem WellOk.base {B B' : Bs} {c : Nat} (h : WellOk W B F H c) (hio : ∀ p, W.pw = some p → p ∉ B'.io) (hT : ∀ q P, W.cls (tabN q) = some P → P ∉ B'.io) : WellOk W B' F H c := by
  refine ⟨?_, fun q P e => ⟨(h.2 q P e).1, hT q P e, (h.2 q P e).2.2⟩⟩
  have h := h.1
  unfold WellP at h ⊢
  cases q : W.pw with
  | none => trivial
  | some p =>
    rw [q] at h
    obtain ⟨h1, h2, h3⟩ := h
    exact ⟨h1, hio p q, h3⟩
/-- the entry -/
def ent (n : Nat) (ds : List D) (c : Nat) : Ev := ⟨ds.map .v ++ List.replicate (n - ds.length) Sl.un, c⟩
theorem rel_start {N : List Str} {vs : List V} {ds : List D} {c : Nat} (ex : Same F H) (hd : DenL W F ds vs) (w : WellOk W (bs0 F H) F H c) (hn : ds.length ≤ N.length) :
    Rel W (bs0 F H) F H (start N vs) (ent N.length ds c) := by
  have hl := hd.length
  have get : ∀ (i : Nat) (s : Sl), (ent N.length ds c).sl[i]? = some s → (s = .un ∨ ∃ d v, s = .v d ∧ (start N vs)[i]? = some (some v) ∧ Den W F d v) := fun i s h => by
    unfold ent at h
    by_cases hi : i < ds.length
    · rw [List.getElem?_append_left (by rw [List.length_map]; exact hi), List.getElem?_map] at h
      have e : ds[i]? = some ds[i] := List.getElem?_eq_getElem hi
      rw [e] at h
      obtain ⟨v, hv, dv⟩ := hd.get e
      refine .inr ⟨_, v, (Option.some.inj h).symm, ?_, dv⟩
      unfold L2.start
      rw [List.getElem?_append_left (by rw [List.length_map, ← hl]; exact hi), List.getElem?_map, hv]
      rfl
    · rw [List.getElem?_append_right (by rw [List.length_map]; omega), List.getElem?_replicate] at h
      split at h
      · exact .inl (Option.some.inj h).symm
      · cases h
  refine ⟨ex, ?_, fun i s h => ?_, fun i j d e p h => ?_, w, fun a o h _ _ => .inl h, fun a h1 h2 => h2, Same.refl _, (fun a ha => nomatch ha), (fun q hq => nomatch hq), (fun q hq => nomatch hq), List.nodup_nil⟩
  · show (start N vs).length = (ds.map Sl.v ++ List.replicate (N.length - ds.length) Sl.un).length
    unfold L2.start
    simp only [List.length_append, List.length_map, List.length_replicate]
    omega
  · rcases get i s h with e | ⟨d, v, e, hv, dv⟩
    · subst e; trivial
    · subst e; exact ⟨v, hv, dv⟩
  · rcases get i _ h with e | ⟨d, v, e, _⟩ <;> cases e

/-- a def's body keeps its promise -/
theorem body_of {K : PySem.W.Frag} {cls : Str → Option Addr} {G : GF} {N : List Str} {ts : TS} {T : DS} {vs : List V} {Q : VK} {E : XK} (rs : ∀ pw B, B.io = [] → RS ⟨K, cls, pw⟩ B ts T)
    (hG : ∀ ds c QD, G ds c QD → ds.length ≤ N.length ∧ T { nx := fun ρ => QD .non ρ.c, rt := fun ρ d => QD d ρ.c } (ent N.length ds c))
    (h : spD K cls G vs H Q E) : ts { nx := fun _ H' => Q .non H', rt := Q } (start N vs) H := by
  obtain ⟨F, ds, c, pw, QD, ex, hd, w, g, k⟩ := h
  obtain ⟨hn, ht⟩ := hG ds c QD g
  have kp : ∀ {F' H' σ' ρ'}, Rel ⟨K, cls, pw⟩ (bs0 F H) F' H' σ' ρ' → Kept F H F' H' pw [] := fun {F' H' σ' ρ'} r =>
    ⟨r.f0, r.ex, fun a o h1 h2 h3 => r.keep a o h1 h2 h3, fun a h1 h2 => r.new a h1 h2⟩
  refine rs pw (bs0 F H) rfl (start N vs) H F (ent N.length ds c) _ _ (rel_start ex hd w hn) ht ⟨fun σ' H' F' ρ' r' s' q => ?_, fun σ' H' F' ρ' r' s' q => q.elim, fun σ' H' F' ρ' r' s' q => q.elim, fun σ' H' F' ρ' d v r' s' dv q => ?_⟩
  · exact k .non H' F' .non ρ'.c (kp r') rfl r'.well q
  · exact k v H' F' d ρ'.c (kp r') dv r'.well q
/-- a def of the text keeps its promise, by its body's reading over trees -/
theorem len_of {K : PySem.W.Frag} {cls : Str → Option Addr} {G : GF} {n : Nat} (hG : ∀ ds c QD, G ds c QD → ds.length = n) {vs : List V} {Q : VK} {E : XK} (h : spD K cls G vs H Q E) : vs.length = n := by
  obtain ⟨F, ds, c, pw, QD, ex, hd, w, g, k⟩ := h
  rw [← hd.length]; exact hG ds c QD g

/-- behind a call -/
theorem Rel.called {c' : Nat} (r : Rel W B F H σ ρ) (k : Kept F H F' H' W.pw []) (w : WellOk W (bs0 F H) F' H' c') : Rel W B F' H' σ (ρ.cnt c') := by
  have wk : WellOk W B F' H' c' := w.base (fun p hp => r.well.nio hp) fun q P e => (r.well.2 q P e).2.1
  have hne : ∀ {p : Addr} {o : HO}, H p = some o → H p ≠ none := fun h q => by rw [h] at q; cases q
  have keepO : ∀ {p : Addr} {d : D}, OwnAt W F H p d → F p = none → W.pw ≠ some p → F' p = none ∧ OwnAt W F' H' p d := fun {p d} own fp hw => by
    exact ⟨k.new p own.nt fp, own.stay k.ff fun o ho => k.hh p o ho hw (fun z => nomatch z)⟩
  refine ⟨k.fh, r.len, fun i s h => ?_, r.inj, wk, fun a o h1 h2 h3 => (r.keep a o h1 h2 h3).trans fun u e => k.hh a u e h2 (fun z => nomatch z), fun a h1 h2 => ?_, r.f0.trans k.ff, fun a ha => ?_, fun q hq => ?_, r.hap, r.hnd⟩
  · have q := r.sl i s h
    cases s with
    | un => trivial
    | v d => obtain ⟨u, e, hd⟩ := q; exact ⟨u, e, hd.mono k.ff⟩
    | o d =>
      obtain ⟨p, e, fp, h0, hw, own⟩ := q
      obtain ⟨f', own'⟩ := keepO own fp hw
      exact ⟨p, e, f', h0, hw, own'⟩
  · exact k.new a (r.ntH h1) (r.new a h1 h2)
  · have hw : W.pw ≠ some a := fun e => r.well.nio e ha
    exact nt_tw (r.ioH a ha) fun o q => k.hh a o q hw (fun z => nomatch z)
  · obtain ⟨h1, h2, h3, h4⟩ := r.hid q hq
    obtain ⟨f', own'⟩ := keepO h4 h1 h3
    exact ⟨f', h2, h3, own'⟩
/-- from a body: what a callee is told -/
theorem Rel.spD {G : GF} {vs : List V} {ds : List D} {Q : Ev → D → Prop} {R : VK} {E : XK} (r : Rel W B F H σ ρ) (hd : DenL W F ds vs) (g : G ds ρ.c fun d c' => Q (ρ.cnt c') d)
    (k : ∀ v H' F' ρ' d, Rel W B F' H' σ ρ' → Same F F' → Den W F' d v → Q ρ' d → R v H') : DL.spD W.K W.cls G vs H R E :=
  ⟨F, ds, ρ.c, W.pw, _, r.ex, hd, r.well.base (fun p hp z => nomatch z) (fun _ _ _ z => nomatch z), g, fun v H' F' d c' kp dv w q => k v H' F' _ d (r.called kp w) kp.ff dv q⟩

def dCall (G : GF) (a : DA) : DE := fun ρ Q => a ρ fun ρ1 ds => G ds ρ1.c fun d c' => Q (ρ1.cnt c') d
theorem re_call {G : GF} {ta : TA} {a : DA} {E : XK} (ra : RA W B ta a) : RE W B (tCall (spD W.K W.cls G) [] E ta) (dCall G a) := by
  intro σ H F ρ Q R rl h k
  refine ra σ H F ρ _ _ rl h fun vs H1 F1 ρ1 ds r1 s1 d1 h1 => ?_
  rw [List.append_nil]
  exact r1.spD d1 h1 fun v H' F' ρ' d r' s' dv q => k v H' F' ρ' d r' (s1.trans s') dv q
/-- o.m(..) -/
def dMeth (c m : Str) (G : GF) (t : DE) (a : DA) : DE := fun ρ Q => t ρ fun ρ1 x => match x with
  | .obj c' ns ds => c' = c ∧ m ∉ ns ∧ a ρ1 fun ρ2 es => G (.obj c' ns ds :: es) ρ2.c fun d c' => Q (ρ2.cnt c') d
  | _ => False
theorem lookup_none {gs : List (Str × V)} {m : Str} (h : m ∉ gs.map (·.1)) : gs.lookup m = none := by
  induction gs with
  | nil => rfl
  | cons g r ih =>
    obtain ⟨k, v⟩ := g
    rw [List.map_cons, List.mem_cons, not_or] at h
    have hb : (m == k) = false := beq_eq_false_iff_ne.mpr h.1
    rw [List.lookup_cons, hb]
    exact ih h.2
theorem re_meth {C : Addr} {c m : Str} {G : GF} {te : TE} {t : DE} {ta : TA} {a : DA} {E : XK} (hc : W.cls c = some C) (re : RE W B te t) (ra : RA W B ta a) : RE W B (tMeth C m (spD W.K W.cls G) [] E te ta) (dMeth c m G t a) := by
  intro σ H F ρ Q R rl h k
  refine re σ H F ρ _ _ rl h fun x H1 F1 ρ1 dx r1 s1 d1 h1 => ?_
  split at h1
  · rename_i c' ns ds
    obtain ⟨e, hm, h1⟩ := h1
    subst e
    have d1' := d1
    obtain ⟨p, C', dx, gs, ev, hf, hc', hn, hl⟩ := d1
    have : C' = C := Option.some.inj (hc'.symm.trans hc)
    subst this
    refine ⟨p, dx, gs, ev, r1.ex _ _ hf, lookup_none (by rw [hn]; exact hm), ?_⟩
    refine ra σ H1 F1 ρ1 _ _ r1 h1 fun vs H2 F2 ρ2 es r2 s2 d2 h2 => ?_
    rw [List.append_nil]
    exact r2.spD (.cons (d1'.mono s2) d2) h2 fun v H' F' ρ' d r' s' dv q => k v H' F' ρ' d r' ((s1.trans s2).trans s') dv q
  · exact h1.elim
/-! ### attributes -/
def fldD : List Str → List D → Str → Option D
  | n :: ns, d :: ds, f => bif n == f then some d else fldD ns ds f
  | _, _, _ => none
def dFld (t : DE) (f : Str) : DE := fun ρ Q => t ρ fun ρ1 x => match x with
  | .obj _ ns ds => match fldD ns ds f with | some d => Q ρ1 d | none => False
  | _ => False
theorem fld_lookup {f : Str} {d : D} : ∀ {gs : List (Str × V)} {ds : List D}, DenL W F ds (gs.map (·.2)) → fldD (gs.map (·.1)) ds f = some d → ∃ v, gs.lookup f = some v ∧ Den W F d v
  | [], [], _, e => by cases e
  | (n, v) :: gs, d0 :: ds, ⟨x, r, ev, h1, h2⟩, e => by
    cases ev
    have e : (bif n == f then some d0 else fldD (gs.map (·.1)) ds f) = some d := e
    cases hb : n == f with
    | true =>
      rw [hb] at e
      cases e
      have hb2 : (f == n) = true := by rw [beq_iff_eq] at hb ⊢; exact hb.symm
      exact ⟨v, by rw [List.lookup_cons, hb2], h1⟩
    | false =>
      rw [hb] at e
      have hb2 : (f == n) = false := by rw [beq_eq_false_iff_ne] at hb ⊢; exact hb.symm
      obtain ⟨v', hv, dv⟩ := fld_lookup h2 e
      exact ⟨v', by rw [List.lookup_cons, hb2]; exact hv, dv⟩
  | [], _ :: _, ⟨_, _, ev, _⟩, _ => by cases ev
  | _ :: _, [], h, _ => by cases h
/-- what of a class its attributes ask: NoAttr of the attribute for all classes that may stand here -/
theorem re_fld {te : TE} {t : DE} {f : Str} (re : RE W B te t) (hcls : ∀ c C, W.cls c = some C → Cls W.K C) (hno : ∀ c C, W.cls c = some C → NoAttr W.K C f) : RE W B (tFld W.K te f) (dFld t f) := by
  intro σ H F ρ Q R rl h k
  refine re σ H F ρ _ _ rl h fun x H1 F1 ρ1 dx r1 s1 d1 h1 => ?_
  split at h1
  · obtain ⟨p, C, dx, gs, ev, hf, hc, hn, hl⟩ := d1
    split at h1
    · rename_i d ed
      subst hn
      obtain ⟨v, hv, dv⟩ := fld_lookup hl ed
      exact ⟨p, C, dx, gs, v, ev, r1.ex _ _ hf, hcls _ _ hc, hno _ _ hc, hv, k v H1 F1 ρ1 d r1 s1 dv h1⟩
    · exact h1.elim
  · exact h1.elim

/-! ### a list of one's own changes -/
/-- the content of an own slot's object changes -/
theorem Rel.oset {i : Nat} {d d' : D} {p : Addr} {o : HO} (r : Rel W B F H σ ρ) (hs : ρ.sl[i]? = some (.o d)) (hp : σ[i]? = some (some (.ref p))) (own : OwnAt W F (upd H p o) p d') : Rel W B F (upd H p o) σ (ρ.set i (.o d')) := by
  obtain ⟨p', e, fp, h0, hw, ow⟩ := r.sl i _ hs
  rw [hp] at e
  cases e
  obtain ⟨o0, ho0⟩ := ow.ne
  have hi : i < ρ.sl.length := (List.getElem?_eq_some_iff.mp hs).1
  have hq : ∀ q, q ≠ p → upd H p o q = H q := fun q h => upd_ne h
  have at_ : ∀ {m : Nat} {z : D}, (ρ.set i (.o d')).sl[m]? = some (.o z) → (i = m ∧ z = d') ∨ (i ≠ m ∧ ρ.sl[m]? = some (.o z)) := fun {m z} t => by
    have t : (ρ.sl.set i (.o d'))[m]? = some (.o z) := t
    by_cases e : i = m
    · subst e
      rw [List.getElem?_set_self hi] at t
      cases t
      exact .inl ⟨rfl, rfl⟩
    · rw [List.getElem?_set_ne e] at t; exact .inr ⟨e, t⟩
  refine ⟨fun b u e => ?_, by show σ.length = (ρ.sl.set i _).length; rw [List.length_set]; exact r.len, fun j s hj => ?_, fun j k x y q hj hk h1 h2 => ?_, ?_, fun a u e1 e2 e3 => ?_, r.new, r.f0, fun a ha => ?_, fun q hq' => ?_, fun q hq' j x hj h1 => ?_, r.hnd⟩
  · have : b ≠ p := fun z => by subst z; rw [fp] at e; cases e
    rw [hq b this]; exact r.ex _ _ e
  · by_cases ei : i = j
    · subst ei
      have t : (ρ.sl.set i (.o d'))[i]? = some s := hj
      rw [List.getElem?_set_self hi] at t
      cases t
      exact ⟨p, hp, fp, h0, hw, own⟩
    · have t : (ρ.sl.set i (.o d'))[j]? = some s := hj
      rw [List.getElem?_set_ne ei] at t
      have q := r.sl j s t
      cases s with
      | un => trivial
      | v x => exact q
      | o x =>
        obtain ⟨p2, e2, fp2, h02, hw2, own2⟩ := q
        have hne : p2 ≠ p := fun z => ei (r.inj i j d x p hs t hp (by rw [e2, z]))
        exact ⟨p2, e2, fp2, h02, hw2, own2.mono (Same.refl _) (hq p2 hne)⟩
  · rcases at_ hj with ⟨e1, _⟩ | ⟨n1, q1⟩ <;> rcases at_ hk with ⟨e2, _⟩ | ⟨n2, q2⟩
    · exact e1.symm.trans e2
    · subst e1
      exact r.inj i k d y q hs q2 h1 h2
    · subst e2
      exact r.inj j i x d q q1 hs h1 h2
    · exact r.inj j k x y q q1 q2 h1 h2
  · refine r.well.mono (Same.refl _) (fun q hp2 => ⟨r.well.fp hp2, hq q fun z => hw (by rw [← z]; exact hp2)⟩) fun P q t fP => ⟨fP, ow.tab t⟩
  · have : a ≠ p := fun z => by
      subst z
      rcases h0 with h0 | h0
      · rw [h0] at e1; cases e1
      · exact e3 h0
    rw [hq a this]; exact r.keep a u e1 e2 e3
  · by_cases z : a = p
    · subst z; exact own.nt
    · rw [hq a z]; exact r.ioH a ha
  · obtain ⟨g1, g2, g3, g4⟩ := r.hid q hq'
    have hne : q.1 ≠ p := fun z => r.hap q hq' i d hs (by rw [z]; exact hp)
    exact ⟨g1, g2, g3, g4.mono (Same.refl _) (hq q.1 hne)⟩
  · rcases at_ hj with ⟨e1, _⟩ | ⟨n1, q1⟩
    · subst e1; exact r.hap q hq' i d hs h1
    · exact r.hap q hq' j x q1 h1
/-- the object at an own slot -/
def getO (ρ : Ev) (i : Nat) : Option D := match ρ.sl[i]? with | some (.o d) => some d | _ => none
theorem Rel.own {i : Nat} {d : D} (r : Rel W B F H σ ρ) (h : getO ρ i = some d) : ∃ p, ρ.sl[i]? = some (.o d) ∧ σ[i]? = some (some (.ref p)) ∧ OwnAt W F H p d := by
  unfold getO at h
  split at h
  · rename_i d' e
    cases h
    obtain ⟨p, e1, _, _, _, ow⟩ := r.sl i _ e
    exact ⟨p, e, e1, ow⟩
  · cases h
/-- x.append(e), x at slot i -/
def dApp (i : Nat) (t : DE) : DS := fun DD ρ => t ρ fun ρ1 d => match getO ρ1 i with
  | some (.lst ds) => ds.length < sizeLine ∧ DD.nx (ρ1.set i (.o (.lst (ds ++ [d]))))
  | _ => False
/-- the slot is of one's own ahead of the argument, too -/
theorem rs_app {i : Nat} {te : TE} {t : DE} (re : RE W B te t) (ho : ∀ ρ Q, t ρ Q → ∃ ds, getO ρ i = some (.lst ds)) : RS W B (tDrop (tBM W.K "list" rAppend (tVar i) (tCons te tNil))) (dApp i t) := by
  intro σ H F ρ D DD r h f
  obtain ⟨ds0, g0⟩ := ho ρ _ h
  obtain ⟨p0, e0, e1, xs0, hx0, _⟩ := r.own g0
  refine ⟨.ref p0, e1, .inl ⟨rfl, xs0, .inl (.inl hx0)⟩, ?_⟩
  refine re σ H F ρ _ _ r h fun y H1 F1 ρ1 dy r1 s1 d1 h1 => ?_
  split at h1
  · rename_i ds g1
    obtain ⟨p, e2, e3, xs, hx, hd⟩ := r1.own g1
    have ep : p0 = p := by rw [e1] at e3; cases e3; rfl
    subst ep
    refine ⟨p0, xs, y, rfl, rfl, hx, by rw [← hd.length]; exact h1.1, ?_⟩
    exact f.nx σ _ F1 _ (r1.oset (d' := .lst (ds ++ [dy])) e2 e3 ⟨_, upd_same, hd.append ⟨y, [], rfl, d1, rfl⟩⟩) s1 h1.2
  · exact h1.elim
end
end DL

-- part DX1
set_option maxHeartbeats 4000000
/-! super().__init__(..) in a def of an own class -/
namespace DL
open PySem PySem.Spec PyProof.Rows L2

abbrev envS (qual : Str) (scope : Scope) (L f : Addr) (cd : Value) (cc : Addr) : Env := PySem.W.envX qual scope L f cd [("__class__", cc)]
/-- the context of a def's body that closes over its class -/
def cxS (CX : CXT) (P : Program) (w : World) (K : PySem.W.Frag) (mg : Str → Option Value) (base : Heap) (N : List Str) (qual : Str) (scope : Scope) (f : Addr) (cd : Value) (cc : Addr) (A : Around) (outer : List Env) (s : Shared) (H : Hp) (E : XK) : Cx where
  prog := P
  w := w
  K := K
  mg := mg
  base := base
  A := A.deeper (envS qual scope s.heap.objs.size f cd cc)
  N := N
  s_0 := s
  H_0 := H
  env := envS qual scope s.heap.objs.size f cd cc
  outer := outer
  stack := envS qual scope s.heap.objs.size f cd cc :: outer
  ex := []
  calm := true
  fn := fun x => !(x == ("__class__" : Str))
  pn := []
  xe := fun e s' => wpAny (model P w) (A.deeper (envS qual scope s.heap.objs.size f cd cc)) (leaving (envS qual scope s.heap.objs.size f cd cc) e) (fun _ s'' => CX outer H s E e s'') (fun e' s'' => CX outer H s E e' s'') s'

structure FnScopeS (N P : List Str) (sc : Scope) : Prop where
  kind : sc.kind = .function
  co : sc.isCoroutine = false
  gen : sc.isGenerator = false
  nd : N.Nodup
  pre : N.take P.length = P
  par : ∀ x ∈ P, sc.names.lookup x = some .local
  nocell : ∀ y ∈ sc.names, y.2 ≠ .cell
  free : ∀ y ∈ sc.names, y.2 = .free → y.1 = ("__class__" : Str)

theorem lookup_nodup {α : Type} {x : Str} {u : α} : ∀ {l : List (Str × α)}, (l.map (·.1)).Nodup → (x, u) ∈ l → l.lookup x = some u
  | (k, v) :: r, nd, h => by
    rw [List.lookup_cons]
    rcases List.mem_cons.mp h with e | h'
    · cases e; simp
    · have hne : (x == k) = false := beq_eq_false_iff_ne.mpr fun e => by
        subst e
        exact (List.nodup_cons.mp nd).1 (List.mem_map.mpr ⟨_, h', rfl⟩)
      rw [hne]
      exact lookup_nodup (List.nodup_cons.mp nd).2 h'
theorem map_fst_zip_sub {α β : Type} : ∀ (xs : List α) (ys : List β), ((xs.zip ys).map Prod.fst).Sublist xs
  | [], _ => by simp
  | x :: xs, [] => by simp
  | x :: xs, y :: ys => by
    rw [List.zip_cons_cons, List.map_cons]
    exact (map_fst_zip_sub xs ys).cons_cons x
theorem lookup_rev_zip {x : Str} {u : Value} {ps : List Str} {us : List Value} {i : Nat} (nd : ps.Nodup) (h1 : ps[i]? = some x) (h2 : us[i]? = some u) : (ps.zip us).reverse.lookup x = some u := by
  refine lookup_nodup ?_ ?_
  · rw [List.map_reverse]
    refine (List.reverse_perm _).symm.nodup ?_
    rw [show (ps.zip us).map (·.1) = (ps.zip us).map Prod.fst from rfl]
    exact nd.sublist (map_fst_zip_sub _ _)
  · rw [List.mem_reverse]
    have : (ps.zip us)[i]? = some (x, u) := by rw [List.getElem?_zip_eq_some]; exact ⟨h1, h2⟩
    exact List.mem_of_getElem? this

theorem inv_startS {CX : CXT} {P : Program} {w : World} {K : PySem.W.Frag} {mg : Str → Option Value} {base : Heap} {N ps : List Str} {qual : Str} {scope : Scope} {f cc : Addr} {cd : Value} {A : Around} {outer : List Env} {s : Shared} {H : Hp} {E : XK} {us : List Value} {vs : List V} {h1 : Heap} {tk : Nat}
    {oc : Obj} {vc : Option Value} (S : FnScopeS N ps scope) (hd : A.handled = none) (e0 : Env0 P w K mg base A outer s H) (hl : vs.length = ps.length) (r : Vals vs us) (lc : K.lookup cc = some oc) (lv : oc.data = .cell vc)
    (hns : h1.Ns s.heap.objs.size (fun x => (ps.zip us).reverse.lookup x)) (hk : ∀ b o, s.heap.get? b = some o → h1.get? b = some o) :
    Inv (cxS CX P w K mg base N qual scope f cd cc A outer s H E) [] (start N vs) H { s with heap := h1, toks := tk } := by
  have hpl : ps.length ≤ N.length := by have := congrArg List.length S.pre; rw [List.length_take] at this; omega
  have ccb : base.get? cc = some oc := e0.mod.kin _ _ lc
  have cch : s.heap.get? cc = some oc := (e0.bs _ _ ccb).1
  have ccn : H cc = none := (e0.bs _ _ ccb).2
  have noA : ∀ b : Addr, b ∉ (cxS CX P w K mg base N qual scope f cd cc A outer s H E).ex := fun b z => absurd (show b ∈ ([] : List Addr) from z) (by simp)
  have look : ∀ {x : Str} {c : Addr}, (cxS CX P w K mg base N qual scope f cd cc A outer s H E).env.cells.lookup x = some c → x = ("__class__" : Str) ∧ c = cc := fun {x c} h => by
    have h : List.lookup x [(("__class__" : Str), cc)] = some c := h
    rw [List.lookup_cons] at h
    cases q : x == ("__class__" : Str) with
    | true => rw [q] at h; exact ⟨beq_iff_eq.mp q, (Option.some.inj h).symm⟩
    | false => rw [q] at h; cases h
  refine ⟨⟨e0.mod, S.kind, rfl, rfl, Nat.le_refl _, fun y z c q1 q2 => (look q1).1.trans (look q2).1.symm, fun y hy => ?_, fun y c q h => ?_, fun _ => hd, Around.frames_deeper e0.frames, .inr ⟨rfl, rfl⟩, fun b z => absurd z (noA b), e0.bs, e0.bsz, fun b _ _ => noA b, fun b z => absurd z (noA b), e0.funs, e0.frf⟩,
    rfl, e0.bare, Un.kept hk, ⟨_, hns, fun i y v q1 q2 q3 => ?_⟩, fun y c h => ?_, e0.hok.fresh (Nat.le_refl _), fun y c h => ?_, fun p hp => absurd (show p ∈ ([] : List (Addr × Obj)) from hp) (by simp), e0.hok.kept hk, ?_⟩
  · rcases hy with hy | hy
    · exact absurd rfl (S.nocell _ (PySem.mem_of_lookup (show scope.names.lookup y = some .cell from hy)))
    · have e := S.free _ (PySem.mem_of_lookup (show scope.names.lookup y = some .free from hy)) rfl
      have e : y = ("__class__" : Str) := e
      subst e
      exact ⟨cc, rfl⟩
  · have e := (look h).1
    subst e
    have q : (!(("__class__" : Str) == ("__class__" : Str))) = true := q
    simp at q
  · have hi : i < vs.length := by
      unfold L2.start at q2
      by_cases hi : i < vs.length
      · exact hi
      · rw [List.getElem?_append_right (by simpa using hi)] at q2
        rw [List.getElem?_replicate] at q2
        split at q2 <;> cases q2
    have ha : vs[i]? = some v := by
      unfold L2.start at q2
      rw [List.getElem?_append_left (by simpa using hi), List.getElem?_map] at q2
      cases e : vs[i]? with
      | none => rw [e] at q2; cases q2
      | some a => rw [e] at q2; cases q2; rfl
    obtain ⟨u, hu, rv⟩ := r.get ha
    have hp : ps[i]? = some y := by
      rw [← S.pre, List.getElem?_take_of_lt (by omega)]; exact q1
    have ndP : ps.Nodup := by rw [← S.pre]; exact S.nd.sublist (List.take_sublist _ _)
    exact ⟨u, rv, .inl ⟨S.par y (List.mem_of_getElem? hp), lookup_rev_zip ndP hp hu⟩⟩
  · obtain ⟨_, e⟩ := look h
    subst e
    exact ⟨vc, oc, hk _ _ cch, lv⟩
  · obtain ⟨_, e⟩ := look h
    subst e
    exact ccn
  · unfold L2.start
    show _ = N.length
    rw [List.length_append, List.length_map, List.length_replicate]
    omega

/-- a statement that stands at the def's own top -/
structure PST (X : Cx) (body : List Stmt) (st : Stmt) (t : TS) : Prop where
  run : ∀ (pins : List (Addr × Obj)) (s : Shared) (σ : L2.St) (H : Hp) (D : Ends), Inv X pins σ H s → t D σ H → PySem.wpAt (model X.prog X.w) X.A (.func body X.env) (exec st X.env) (SP X pins D) X.xe s

/-- THE RULE for a def that closes over its class -/
theorem fn_sup {CX : CXT} {P : Program} {w : World} {K : PySem.W.Frag} {mg : Str → Option Value} {base : Heap} {k : Nat} {f cc : Addr} {name qual : Str} {params : Arguments} {st0 : Stmt} {rest : List Stmt} {scope : Scope} {dV kV doc pm cdv ct oc : Value} {an od : Option Addr}
    {osl : Array (Option Value)} {N ps : List Str} {sp : Sp} {occ : Obj} {vc : Option Value} (lk : K.lookup f = some ⟨oc, od, .func (PySem.W.fnX name qual params (st0 :: rest) scope [("__class__", cc)] dV kV doc pm an cdv ct), osl⟩) (hcd : PySem.W.codeIn K cdv qual = true) (S : FnScopeS N ps scope)
    (lc : K.lookup cc = some occ) (lv : occ.data = .cell vc) (len : ∀ vs H Q E, sp vs H Q E → vs.length = ps.length)
    (hbody : ∀ (A : Around) (outer : List Env) (s : Shared) (H : Hp) (vs : List V) (Q : VK) (E : XK), Room k (A.deeper (envS qual scope s.heap.objs.size f cdv cc)) → sp vs H Q E →
      ∃ t u, PST (cxS CX P w K mg base N qual scope f cdv cc A outer s H E) (st0 :: rest) st0 t ∧ PSs (cxS CX P w K mg base N qual scope f cdv cc A outer s H E) rest u ∧ tSeq t u { nx := fun _ H' => Q .non H', rt := Q } (start N vs) H) :
    FnOk P w K mg base CX (k + 1) f (PySem.W.fnX name qual params (st0 :: rest) scope [("__class__", cc)] dV kV doc pm an cdv ct) ps sp := by
  refine ⟨len, fun A outer s H args us vs Q E hr e0 hb r hsp => ?_⟩
  have hl := len _ _ _ _ hsp
  have KX : K.In s.heap := e0.mod.kin.keeps fun b o e => (e0.bs b o e).1
  have lim : s.heap.NoLimit := e0.mod.nolimit.keeps fun b o e => (e0.bs b o e).1
  refine ks_codeAny_call_defAt (fd := PySem.W.fnX name qual params (st0 :: rest) scope [("__class__", cc)] dV kV doc pm an cdv ct) (body := st0 :: rest) (binds := ps.zip us) hr.depth (KX _ _ lk) rfl lim (PySem.W.codeRec_of KX hcd) rfl hb S.nocell
    (fun y hy => S.par y.1 (List.of_mem_zip hy).1) (fun h₁ hns hk₁ => ?_) S.co S.gen S.kind
  obtain ⟨t, u, ht, hu, hq⟩ := hbody A outer s H vs Q E (hr.deeper _) hsp
  have I : Inv (cxS CX P w K mg base N qual scope f cdv cc A outer s H E) [] (start N vs) H { s with heap := h₁, toks := s.toks + (ps.zip us).length } := inv_startS S hr.hd e0 hl r lc lv hns hk₁
  have fin : ∀ {σ' : L2.St} {H' : Hp} {v : V} {u : Value} {s' : Shared}, Inv (cxS CX P w K mg base N qual scope f cdv cc A outer s H E) [] σ' H' s' → RelV v u → Q v H' → CE outer P w H s Q u s' :=
    fun {σ' H' v u s'} J rv q => ⟨v, H', J.os, J.bare, J.base, J.hok, rv, q⟩
  have last : ∀ (fl : Flow) (s' : Shared), SP (cxS CX P w K mg base N qual scope f cdv cc A outer s H E) [] { nx := fun _ H' => Q .non H', rt := Q } fl s' → CR CX outer P w H s Q E (.ok (.ret (match fl with | .ret v => v | _ => .none))) s' := fun fl s' hs => by
    cases fl with
    | ret u =>
      obtain ⟨v, σ', H', J, rv, q⟩ := hs
      exact fin J rv q
    | next =>
      obtain ⟨σ', H', J, q⟩ := hs
      exact fin (v := V.non) (u := Value.none) J rfl q
    | brk =>
      obtain ⟨_, _, _, q⟩ := hs
      exact False.elim q
    | cont =>
      obtain ⟨_, _, _, q⟩ := hs
      exact False.elim q
  refine ks_wpAt_execs_cons (ks_wpAt_mono (ht.run [] _ (start N vs) H _ I hq) (fun fl s' hs => ?_) fun e s' hs => hs)
  cases fl with
  | next =>
    obtain ⟨σ', H', J, q⟩ := hs
    exact wpAt_of_wpAny (wpAny_mono (hu.run [] s' σ' H' _ J q) (fun fl s'' z => last fl s'' z) fun e s'' z => z)
  | ret u => exact last (.ret u) s' hs
  | brk => exact last .brk s' hs
  | cont => exact last .cont s' hs

/-- super().__init__(..): D is the def's class, f2 the def that is found above it -/
def tSup (K : PySem.W.Frag) (D f2 : Addr) (sp : Sp) (E : XK) (t : TA) : TS := fun DD σ H => ∃ x C dx fs, σ[0]? = some (some (.ref x)) ∧ H x = some (.ins C dx fs) ∧ PySem.W.mroIn K C (.ref D) = some true ∧
  PySem.W.ks_superIn K C D "__init__" = some (some (.ref f2)) ∧ t σ H fun vs H1 => sp (.ref x :: vs) H1 (fun _ H2 => DD.nx σ H2) E
section
variable {X : Cx} {pins : List (Addr × Obj)} {σ : L2.St} {H : Hp} {s : Shared}
theorem met_newI {g x : Addr} (I : Inv X pins σ H s) : Inv X ((s.heap.objs.size, PySem.W.methodObj (.ref g) (.ref x)) :: pins) σ H { s with heap := s.heap.push (PySem.W.methodObj (.ref g) (.ref x)), toks := s.toks + 1 } :=
  ClX.pin_new I (fun _ _ z => Heap.get?_push_of_some _ z) (Nat.le_refl _) (Heap.get?_push_size s.heap rfl) (fun v z => nomatch z)
theorem run_met {CX : CXT} {k : Nat} {q g x : Addr} {sp : Sp} {E : XK} {Q : VK} {us : List Value} {vs : List V} (F : FnR X.prog X.w X.K X.mg X.base CX k g sp) (hr : Room k X.A) (hx : Passes CX X E) (I : Inv X ((q, PySem.W.methodObj (.ref g) (.ref x)) :: pins) σ H s)
    (r : Vals vs us) (h : sp (.ref x :: vs) H Q E) : wpAny (model X.prog X.w) X.A (call (.ref q) us) (EP X pins σ Q) X.xe s := by
  have z : wpAny (model X.prog X.w) X.A (call (.ref q) us) (EP X ((q, PySem.W.methodObj (.ref g) (.ref x)) :: pins) σ Q) X.xe s :=
    wpAny_call (PySem.W.method_call (ClX.pin_at I) (run_fnR (us := .ref x :: us) (vs := .ref x :: vs) F hr hx I (.cons rfl r) h))
  exact thn z fun _ _ y => ClX.unpinE y
theorem callwith_met {pos : Pos} {e : Expr} {es : List Expr} {q g x : Addr} {Q : Value → Shared → Prop} {E : Value → Shared → Prop} {A : Around} (I : Inv X ((q, PySem.W.methodObj (.ref g) (.ref x)) :: pins) σ H s) (hb : X.base.get? q = none) (hf : PySem.W.fnIn X.K g = true)
    (h : wpAny (model X.prog X.w) A (spliced (backTo pos (starEach (e :: es) X.env))) (fun vs s₁ => PySem.W.MethP X.K q g (.ref x) s₁.heap ∧ wpAny (model X.prog X.w) A (call (.ref q) vs) Q E s₁) E s)
    (he : starEach (e :: es) X.env = (false, eval e X.env) :: starEach es X.env) (hpl : (backTo pos (starEach es X.env)).any (·.1) = false) :
    wpAny (model X.prog X.w) A (callWith pos (.ref q) [] (backTo pos (starEach (e :: es) X.env)) []) Q E s := by
  have hq := ClX.pin_at I
  have hL : q ≠ X.env.locals := (I.pin (q, PySem.W.methodObj (.ref g) (.ref x)) (List.mem_append_right _ List.mem_cons_self)).2.2.1
  exact PySem.W.callWith_M (K := X.K) (h₀ := X.base) (first := []) I.ok.mod.kin (news_at hL hb hq) List.mem_cons_self hf h he hpl
end
section
variable {X : Cx} {CX : CXT} {k : Nat} {f f2 cda cc D : Addr} {slf : Str} {fd : FuncData} {ar : Arg} {vs : Array Value} {file : Str} {tf : Tok} {oc ccl cl : Value} {od cdd cld : Option Addr} {osl ccs csl : Array (Option Value)} {cdD : ClassData}
  {sp : Sp} {E : XK} {e : Expr} {es : List Expr} {t : TA} {body : List Stmt} {p0 p1 apos cpos epos : Pos}
theorem ps_super (hN0 : X.N[0]? = some slf) (hks : X.env.kindOf "super" = some .globalImplicit) (hkc : X.env.kindOf "__class__" = some .free) (hka : X.env.kindOf slf = some .local)
    (hfu : X.env.func = some f) (lk : X.K.lookup f = some ⟨oc, od, .func fd, osl⟩) (hp : (fd.params.posonlyargs ++ fd.params.args).head? = some ar) (har : ar.arg = slf)
    (hco : X.env.code = .ref cda) (lc : X.K.lookup cda = some ⟨ccl, cdd, .fields vs, ccs⟩) (hvs : vs[2]? = some (.str file tf)) (hfile : ((X.prog.main.file : Str) == file) = true)
    (hcl : X.env.cells.lookup ("__class__" : Str) = some cc) (lcc : X.K.lookup cc = some ⟨cl, cld, .cell (some (.ref D)), csl⟩) (hD : PySem.W.clsIn X.K D = some cdD) (hms : X.mg "super" = none) (htop : (X.prog.main.scope.names.lookup ("super" : Str)).isSome = false)
    (hno : PySem.W.nsIn X.K cStatics "thirdparty.any" = some none) (F : FnR X.prog X.w X.K X.mg X.base CX k f2 sp) (hr : Room k X.A) (ht : PySem.W.typeIn X.K (.ref f2) = some (.type "function")) (hf : PySem.W.fnIn X.K f2 = true) (hx : Passes CX X E) (ha : PA X (e :: es) t)
    (hboot : bootBuiltins "super" = some (.type "super")) (he : starEach (e :: es) X.env = (false, eval e X.env) :: starEach es X.env := by rfl) (hpl : (backTo cpos (starEach es X.env)).any (·.1) = false := by rfl)
    (hi : interactive X.env = false := by rfl) (hsw : swapsWith (.Call (.Attribute (.Call (.Name "super" p0) [] [] p1) "__init__" apos) (e :: es) [] cpos) none epos.line X.env = pure false := by rfl)
    {pl : Sem Bool} (hev : eval (.Call (.Attribute (.Call (.Name "super" p0) [] [] p1) "__init__" apos) (e :: es) [] cpos) X.env = (do
      let ov ← attributeBase (.Call (.Name "super" p0) [] [] p1) "__init__" X.env (eval (.Call (.Name "super" p0) [] [] p1) X.env)
      standAt apos.atName
      let (f, first) ← holding [ov] (getMethod ov "__init__" pl)
      callWith cpos f first (backTo cpos (starEach (e :: es) X.env)) []) := by rfl) :
    PST X body (.Expr (.Call (.Attribute (.Call (.Name "super" p0) [] [] p1) "__init__" apos) (e :: es) [] cpos) epos) (tSup X.K D f2 sp E t) := by
  refine ⟨fun pins s σ H DD I h => ?_⟩
  obtain ⟨x, C, dx, fs, hσ, hH, hmro, hsup, hq⟩ := h
  obtain ⟨m, hn, hl⟩ := id I.loc
  obtain ⟨u, ru, lu⟩ := hl 0 slf (.ref x) hN0 hσ (.inl hka)
  obtain rfl : u = Value.ref x := ru
  have hm : m slf = some (.ref x) := by
    rcases lu with ⟨_, h⟩ | ⟨k, _⟩
    · exact h
    · rcases k with k | k <;> rw [hka] at k <;> cases k
  obtain ⟨mA, O, _⟩ := ins_get I.hok hH
  obtain ⟨oda, J, _⟩ := O.look
  obtain ⟨oD, hD1, hD2⟩ : ∃ oD, s.heap.get? D = some oD ∧ oD.data = .cls cdD := by
    have hD' := hD
    unfold PySem.W.clsIn at hD'
    split at hD'
    · rename_i c d cd' sl ho
      cases hD'
      exact ⟨_, I.kIn _ _ ho, rfl⟩
    · cases hD'
  refine ks_wpAt_Expr_any (ks_wpAt_MethodCall (pl := pl) ?_ hev) hi hsw
  subst har
  refine ks_wpAt_super_base hks hkc (by decide) hfu (I.kIn _ _ lk) rfl hp hco (I.kIn _ _ lc) rfl hvs hfile htop ?_
  obtain ⟨mb, hb1, hb2⟩ := I.mod.blt
  refine PySem.W.ks_loadName_global I.ok.kind hks (Calls.loadGlobal_builtin (by rw [I.ok.glob]; exact I.mod.glob.keeps I.bk) hms (by rw [I.ok.blt]; exact hb1.keeps I.bk) ((hb2 _ (by decide +kernel)).trans hboot) ⟨rfl, ?_⟩)
  refine wpAny_loadName_free I.ok.kind hkc hcl ⟨_, I.kIn _ _ lcc, rfl⟩ ?_
  refine wpAny_loadName_local I.ok.kind hka hn hm ?_
  have hD1' : s.heap.get? D = some oD := hD1
  refine ks_wpAny_isType_cls hD1' hD2 ⟨rfl, ?_⟩
  refine ks_wpAny_call_super hD1' hD2 J.at_ J.cls (fun c e => ?_) (PySem.W.looks_mroIn I.kIn hmro) (fun h' e1 k1 => ?_)
  · have := J.no
    unfold PySem.W.notCls at this
    rw [e] at this
    exact Bool.noConfusion this
  · have I1 : Inv X pins σ H { s with heap := h' } := I.kept (t' := s.toks) k1
    cases hc : PySem.W.clsIn X.K C with
    | none => unfold PySem.W.ks_superIn at hsup; rw [hc] at hsup; cases hsup
    | some cd =>
      unfold PySem.W.ks_superIn at hsup
      rw [hc] at hsup
      obtain ⟨of, hof, hofc⟩ : ∃ of, h'.get? f2 = some of ∧ of.cls = .type "function" := by
        have ht' : (X.K.lookup f2).map (·.cls) = some (.type "function") := ht
        cases z : X.K.lookup f2 with
        | none => rw [z] at ht'; cases ht'
        | some of => rw [z] at ht'; exact ⟨of, I1.kIn _ _ z, Option.some.inj ht'⟩
      refine ks_wpAny_getMethod_super e1 (PySem.W.looks_opaque I1.kIn hno) (l₀ := cd.mro) ?_ rfl I1.kIn hsup hof hofc (PySem.W.ks_ne I.kIn J hc) (by decide) ?_
      · exact fun A Q E s k q => wpAny_bind ((PySem.W.looks_clsIn I1.kIn hc) A _ E s k (wpAny_pure q))
      · have I2 := met_newI (g := f2) (x := x) I1
        have hb : X.base.get? h'.objs.size = none := by
          cases q : X.base.get? h'.objs.size with
          | none => rfl
          | some o => exact absurd (Heap.lt_size (I1.bs _ _ q).1) (Nat.lt_irrefl _)
        refine callwith_met I2 hb hf (thn (ha.run cpos _ _ σ H _ I2 hq) fun us s3 ⟨ws, H3, I3, r3, q3⟩ => ⟨⟨ClX.pin_at I3, I3.kIn⟩, ?_⟩) he hpl
        exact thn (run_met F hr hx I3 r3 q3) fun v s4 ⟨y, H4, I4, r4, q4⟩ => ⟨σ, H4, I4, q4⟩
end
end DL

-- part K08A
set_option maxHeartbeats 4000000
/-! K08: what all laws have: the well, the draw, one of some -/
namespace DL
namespace K08
open PySem PySem.Spec PyProof.Rows L2
def topS (i : Nat) : Stmt := PySem.Challenge.pw_alwaysso_k08_polynomials_made_and_refuse.main.body.getD i (.Pass ⟨0, 0, 0, 0⟩)
abbrev sWell : Stmt := topS 24
abbrev sDraw : Stmt := topS 25
abbrev sOne : Stmt := topS 26
theorem scW : FnScope ["script", "cell"] ["script"] (defScope sWell) := ⟨rfl, rfl, rfl, by decide +kernel, rfl, by decide +kernel, by decide +kernel⟩
theorem scD : FnScope ["well", "many", "rest", "turn", "cell", "blend"] ["well", "many"] (defScope sDraw) := ⟨rfl, rfl, rfl, by decide +kernel, rfl, by decide +kernel, by decide +kernel⟩
theorem scO : FnScope ["well", "some"] ["well", "some"] (defScope sOne) := ⟨rfl, rfl, rfl, by decide +kernel, rfl, by decide +kernel, by decide +kernel⟩
/-- what a draw gives: a number below m -/
def gDraw : GF := fun ds c Q => ∃ m : Int, ds = [.well, .int m] ∧ m < 1073741824 ∧ c < 1048576 ∧ ∀ k : Int, 0 ≤ k → (k < m ∨ (m < 2 ∧ k = 0)) → Q (.int k) (c + 1)
theorem depthAll_ints : ∀ ns : List Int, PyData.depthAll (ns.map PyData.int) = 0
  | [] => rfl
  | n :: ns => by
    show max (PyData.depth (.int n)) (PyData.depthAll (ns.map PyData.int)) = 0
    rw [depthAll_ints ns]; rfl
theorem canAll_ints : ∀ ns : List Int, PyData.canLayAll0 (ns.map PyData.int) = true
  | [] => rfl
  | n :: ns => by
    show (PyData.canLay0 (.int n) && PyData.canLayAll0 (ns.map PyData.int)) = true
    rw [canAll_ints ns]; rfl
theorem shaped_ints (ns : List Int) : SeqAt.shaped (.list (ns.map PyData.int)) = true := by
  unfold SeqAt.shaped
  rw [Bool.and_eq_true]
  refine ⟨canAll_ints ns, decide_eq_true ?_⟩
  show PyData.depthAll (ns.map PyData.int) + 1 ≤ 64
  rw [depthAll_ints ns]; decide
theorem dpall_ints {K : PySem.W.Frag} {H : Hp} : ∀ ns : List Int, DpAll K H (ns.map V.int) (ns.map PyData.int)
  | [] => .nil
  | n :: ns => .cons (.int n) (dpall_ints ns)
theorem seq_mid {a b : TS} {D : Ends} {σ : L2.St} {H : Hp} (M : L2.St → Hp → Prop) (ha : ∀ nx : L2.St → Hp → Prop, (∀ σ' H', M σ' H' → nx σ' H') → a { D with nx := nx } σ H) (hb : ∀ σ' H', M σ' H' → b D σ' H') : tSeq a b D σ H := ha (b D) hb
theorem gName_of {i : Nat} {v : V} {σ : L2.St} {H : Hp} {nx : L2.St → Hp → Prop} (h : nx (σ.set i (some v)) H) : gName i v σ H nx := h
theorem pow_pos' (a : Int) (n : Nat) (h : 0 ≤ a) : 0 ≤ a ^ n := Int.pow_nonneg h
theorem tabS_off {H H' : Hp} {p P : Addr} {q : Str} {u : HO} (t : LamX.TabS H P q) (h : H p = some u) (n1 : ∀ ps, u ≠ .tbl ps) (n2 : ∀ φ, u ≠ .ext φ) (k : ∀ a o, H a = some o → a ≠ p → H' a = some o) : LamX.TabS H' P q := by
  obtain ⟨ps, a1, a2, a3⟩ := t
  refine ⟨ps, k _ _ a1 (fun z => by rw [z, h] at a1; exact n1 _ (Option.some.inj a1)), a2, fun pos cv hc => ?_⟩
  obtain ⟨c, e1, e2⟩ := a3 pos cv hc
  exact ⟨c, e1, k _ _ e2 (fun z => by rw [z, h] at e2; exact n2 _ (Option.some.inj e2))⟩
section
variable {P : Program} {w : World} {K : PySem.W.Frag} {mg : Str → Option Value} {base : Heap} {cls : Str → Option Addr}
theorem ok_draw {f : Addr} {fd : FuncData} {k : Nat} (F : Fun K "_law_draw" "_law_draw" sDraw f fd) (m_int : mg "int" = none) (m_abs : mg "abs" = none) (m_len : mg "len" = none) : FnOk P w K mg base CX0 (k + 1) f fd ["well", "many"] (spD K cls gDraw) := by
  refine F.ok scD (fun vs H Q E h => len_of (n := 2) (fun ds c QD ⟨m, e, _⟩ => by rw [e]; rfl) h) (fun cdv A outer s H vs Q E hr h => ?_)
  obtain ⟨F0, ds, c, pw, QD, ex, hd, hw, ⟨m, rfl, hm, hc, hk⟩, q⟩ := h
  obtain ⟨v0, r0, rfl, dv0, v1, r1, rfl, dv1, er⟩ := hd
  subst er
  obtain ⟨p, hp, rfl⟩ := dv0
  have e1 : v1 = .int m := dv1
  subst e1
  have hp : pw = some p := hp
  subst hp
  have hu := hr.units
  refine ⟨_, (pss_cons (ps_if (pt_cmpR op_lt (pv 1) pe_int (nomark _)) (pss_one (ps_ret pe_int)) pss_nil)
    (pss_cons (ps_if (pt_cmpR op_gt (pe_ix ix_list (pv 0) pe_int (fun _ _ => rfl)) pe_int (nomark _)) (pss_cons (ps_set (i := 2) scD.nd rfl (.inl rfl) (pe_callTy call_int1 (by rfl) m_int (by decide +kernel) (pa_cons (pe_ix ix_list (pv 0) pe_int (fun _ _ => rfl)) pa_nil)))
    (pss_cons (ps_asg (pe_op op_fdiv (pv 2) (pv 1)) (pg_sub (pv 0) pe_int set_list))
    (pss_one (ps_ret (pe_op op_mod (pe_callTy call_int1 (by rfl) m_int (by decide +kernel) (pa_cons (pv 2) pa_nil)) (pv 1)))))) pss_nil)
    (pss_cons (ps_set (i := 3) scD.nd rfl (.inl rfl) (pe_ix ix_list (pv 0) pe_int (fun _ _ => rfl)))
    (pss_cons (ps_asg (pe_op op_add (pv 3) pe_int) (pg_sub (pv 0) pe_int set_list))
    (pss_cons (ps_set (i := 4) scD.nd rfl (.inl rfl) (pe_op op_add (pe_op op_mul pe_int (pv 3)) pe_int))
    (pss_cons (ps_if (pt_cmpR (op_neD hu) (pe_ix ix_list (pv 0) pe_int (fun _ _ => rfl)) (pe_lst pa_nil) (nomark _)) (pss_one (ps_set (i := 4) scD.nd rfl (.inl rfl) (pe_ix ix_list (pe_ix ix_list (pv 0) pe_int (fun _ _ => rfl)) (pe_op op_mod (pe_callTy call_int1 (by rfl) m_int (by decide +kernel) (pa_cons (pv 3) pa_nil)) (pe_callB call_len (by rfl) m_len PySem.boot_len (pa_cons (pe_ix ix_list (pv 0) pe_int (fun _ _ => rfl)) pa_nil))) (fun _ _ => rfl)))) pss_nil)
    (pss_cons (ps_if (PW.pt (pw_and (pt_cmpR op_lt (pv 3) (pe_callB call_len (by rfl) m_len PySem.boot_len (pa_cons (pe_ix ix_list (pv 0) pe_int (fun _ _ => rfl)) pa_nil)) (nomark _)) (pw_and1 (pt_cmpR op_ge (pe_callB call_abs (by rfl) m_abs (by decide +kernel) (pa_cons (pv 4) pa_nil)) (pe_op op_pow pe_int pe_int) (nomark _))))) (pss_cons (ps_set (i := 2) scD.nd rfl (.inl rfl) (pe_op op_add (pe_op op_mul pe_int (pe_op op_sub (pe_callB call_abs (by rfl) m_abs (by decide +kernel) (pa_cons (pv 4) pa_nil)) (pe_op op_pow pe_int pe_int))) (pe_callTy call_int1 (by rfl) m_int (by decide +kernel) (pa_cons (pe_cmpR op_lt (pv 4) pe_int (nomark _)) pa_nil))))
    (pss_cons (ps_asg (pe_op op_fdiv (pv 2) (pv 1)) (pg_sub (pv 0) pe_int set_list))
    (pss_one (ps_ret (pe_op op_mod (pe_callTy call_int1 (by rfl) m_int (by decide +kernel) (pa_cons (pv 2) pa_nil)) (pv 1)))))) pss_nil)
    (pss_cons (ps_set (i := 5) scD.nd rfl (.inl rfl) (pe_op op_mod (pe_callTy call_int1 (by rfl) m_int (by decide +kernel) (pa_cons (pe_op op_pow (pe_op op_add (pe_op op_add (pe_op op_mod (pe_callTy call_int1 (by rfl) m_int (by decide +kernel) (pa_cons (pv 4) pa_nil)) pe_int) (pe_op op_mul pe_int (pv 3))) pe_int) pe_int) pa_nil)) pe_int))
    (pss_cons (ps_set (i := 5) scD.nd rfl (.inl rfl) (pe_op op_mod (pe_callTy call_int1 (by rfl) m_int (by decide +kernel) (pa_cons (pe_op op_pow (pe_op op_add (pe_op op_add (pe_op op_mul (pv 5) (pe_op op_add (pe_op op_mul pe_int (pv 3)) pe_int)) (pe_op op_mul (pe_op op_mul pe_int (pv 3)) (pv 3))) pe_int) pe_int) pa_nil)) pe_int))
    (pss_one (ps_ret (pe_op op_mod (pe_callTy call_int1 (by rfl) m_int (by decide +kernel) (pa_cons (pe_op op_fdiv (pv 5) pe_int) pa_nil)) (pv 1))))))))))))), ?_⟩
  obtain ⟨⟨fp, _, pc, ns, t, r, hH, hS, t0, tc, r0, hl⟩, tb⟩ := hw
  have fin : ∀ (H1 : Hp) (t' r' k : Int), H1 p = some (.lst [.ref pc, .int t', .int r']) → (∀ a o, H a = some o → a ≠ p → H1 a = some o) → 0 ≤ t' → t' ≤ (c : Int) + 1 → 0 ≤ r' → 0 ≤ k → (k < m ∨ (m < 2 ∧ k = 0)) → Q (.int k) H1 := by
    intro H1 t' r' k h1 h2 h3 h4 h5 h6 h7
    have sf : Same F0 H1 := fun b o e => by
      have : b ≠ p := fun z => by subst z; rw [fp] at e; cases e
      exact h2 b o (ex b o e) this
    refine q (.int k) H1 F0 (.int k) (c + 1) ⟨Same.refl _, sf, fun a o e1 e2 _ => ?_, fun a _ e => e⟩ rfl ?_ (hk k h6 h7)
    · have : a ≠ p := fun z => e2 (by rw [z])
      exact .inl (h2 a o e1 this)
    · exact ⟨⟨fp, (fun z => nomatch z), pc, ns, t', r', h1, hS, h3, by push_cast; omega, h5, hl⟩, tb.mono fun P' q' t' f0 => ⟨f0, tabS_off t' hH (fun _ z => nomatch z) (fun _ z => nomatch z) h2⟩⟩
  have sq : ∀ (H1 : Hp), (∀ a o, H a = some o → a ≠ p → H1 a = some o) → SqL K H1 pc (ns.map V.int) := fun H1 h => by
    refine same_sqL (F := F0) (fun b o e => ?_) hS
    have : b ≠ p := fun z => by subst z; rw [fp] at e; cases e
    exact h b o (ex b o e) this
  have sp : SqL K H p [.ref pc, .int t, .int r] := .inl (.inl hH)
  -- many < 2
  refine ⟨_, rfl, _, _, rfl, rfl, _, rfl, ite2 (fun h => ?_) (fun h => ?_)⟩
  · exact fin H t r 0 hH (fun _ _ e _ => e) t0 (by omega) r0 (by omega) (.inr ⟨of_decide_eq_true h, rfl⟩)
  have hm2 : 2 ≤ m := by have := of_decide_eq_false (Bool.eq_false_iff.mpr h); omega
  -- well[2] > 0
  refine ⟨_, rfl, p, _, 2, .int r, rfl, rfl, sp, rfl, _, _, rfl, rfl, _, rfl, ite2 (fun h2 => ?_) (fun h2 => ?_)⟩
  · refine ⟨_, rfl, p, _, 2, .int r, rfl, rfl, sp, rfl, .inl ⟨_, rfl, _, rfl, _, rfl, _, _, rfl, rfl, ⟨by omega, by omega⟩, _, rfl, p, _, _, 2, rfl, rfl, hH, rfl, ?_⟩⟩
    refine ⟨_, rfl, .inl ⟨_, rfl, _, rfl, _, _, rfl, rfl, (by show 0 < m; omega), ?_⟩⟩
    exact fin _ t (r / m) (r % m) upd_same (fun a o e h => (upd_ne h).trans e) t0 (by omega) (Int.ediv_nonneg r0 (by omega)) (Int.emod_nonneg _ (by omega)) (.inl (Int.emod_lt_of_pos _ (by omega)))
  -- turn = well[1]; well[1] = turn + 1; cell = ..
  refine ⟨_, rfl, p, _, 1, .int t, rfl, rfl, sp, rfl, _, rfl, _, _, rfl, rfl, _, rfl, p, _, _, 1, rfl, rfl, hH, rfl, ?_⟩
  have hH1 : (upd H p (.lst [.ref pc, .int (t + 1), .int r])) p = some (.lst [.ref pc, .int (t + 1), .int r]) := upd_same
  have hO1 : ∀ a o, H a = some o → a ≠ p → (upd H p (.lst [.ref pc, .int (t + 1), .int r])) a = some o := fun a o e h => (upd_ne h).trans e
  revert hH1 hO1
  show _ → _ → tSeq _ _ _ _ (upd H p (.lst [.ref pc, .int (t + 1), .int r]))
  generalize upd H p (.lst [.ref pc, .int (t + 1), .int r]) = H1
  intro hH1 hO1
  have sp1 : SqL K H1 p [.ref pc, .int (t + 1), .int r] := .inl (.inl hH1)
  have sq1 := sq H1 hO1
  have lt1 : t < 1048577 := by omega
  refine ⟨_, rfl, _, _, rfl, rfl, .inl (by omega), _, _, rfl, rfl, gName_of ?_⟩
  -- well[0] != []
  dsimp only
  refine seq_mid (fun σ' H' => ∃ (cell : Int) (z : Option V), σ' = [some (.ref p), some (.int m), z, some (.int t), some (.int cell), none] ∧ H' p = some (.lst [.ref pc, .int (t + 1), .int r]) ∧ ∀ a o, H a = some o → a ≠ p → H' a = some o) (fun nx hnx => ?_) ?_
  · refine ⟨_, rfl, p, _, 0, _, rfl, rfl, sp1, rfl, by decide, fun l hl => ?_⟩
    have nlp : p ≠ l := fun z => by rw [← z, hH1] at hl; cases hl
    have hO2 : ∀ a o, H a = some o → a ≠ p → (upd H1 l (.lst [])) a = some o := fun a o e h => by
      have : a ≠ l := fun z => by have := hO1 a o e h; rw [z, hl] at this; cases this
      rw [upd_ne this]; exact hO1 a o e h
    have hH2 : (upd H1 l (.lst [])) p = some (.lst [.ref pc, .int (t + 1), .int r]) := by rw [upd_ne nlp]; exact hH1
    have sp2 : SqL K (upd H1 l (.lst [])) p [.ref pc, .int (t + 1), .int r] := .inl (.inl hH2)
    have sq2 := sq _ hO2
    refine ⟨.list (ns.map PyData.int), .list [], .lst sq2 (dpall_ints ns), .lst (.inl (.inl upd_same)) .nil, shaped_ints ns, by decide, _, rfl, ite2 (fun h => ?_) (fun h => ?_)⟩
    · have hpos : 0 < ns.length := by
        cases ns with
        | nil => exact absurd h (by decide)
        | cons _ _ => exact Nat.succ_pos _
      have hlt : t % ((ns.map V.int).length : Int) < ((ns.map V.int).length : Int) := Int.emod_lt_of_pos _ (by rw [List.length_map]; omega)
      have hge : 0 ≤ t % ((ns.map V.int).length : Int) := Int.emod_nonneg _ (by rw [List.length_map]; omega)
      obtain ⟨j, hj⟩ : ∃ j : Nat, t % ((ns.map V.int).length : Int) = (j : Int) := ⟨_, (Int.toNat_of_nonneg hge).symm⟩
      have hjl : j < ns.length := by rw [hj, List.length_map] at hlt; omega
      have at_ : atI (ns.map V.int) (t % ((ns.map V.int).length : Int)) = some (.int ns[j]) := by
        rw [hj]
        exact atI_nat (by rw [List.getElem?_map, List.getElem?_eq_getElem hjl]; rfl)
      refine ⟨_, rfl, p, _, 0, _, rfl, rfl, sp2, rfl, _, rfl, .inl ⟨_, rfl, _, rfl, p, _, 0, _, rfl, rfl, sp2, rfl, _, _, rfl, .inl ⟨_, sq2, rfl⟩, _, _, rfl, rfl, (by rw [List.length_map]; omega), pc, _, _, _, rfl, rfl, sq2, at_, hnx _ _ ⟨_, _, rfl, hH2, hO2⟩⟩⟩
    · exact hnx _ _ ⟨_, _, rfl, hH2, hO2⟩
  rintro σ' H2 ⟨cell, z, rfl, hH2, hO2⟩
  have sp2 : SqL K H2 p [.ref pc, .int (t + 1), .int r] := .inl (.inl hH2)
  have sq2 := sq _ hO2
  -- turn < len(well[0]) and abs(cell) >= 10 ** 18
  refine seq_mid (fun σ' H' => H' = H2 ∧ ∃ (z : Option V), σ' = [some (.ref p), some (.int m), z, some (.int t), some (.int cell), none]) (fun nx hnx => ?_) ?_
  · have cl : (0 : Int) ≤ (if cell < 0 then -cell else cell) := by split <;> omega
    refine ⟨_, rfl, _, rfl, p, _, 0, _, rfl, rfl, sp2, rfl, _, _, rfl, .inl ⟨_, sq2, rfl⟩, _, _, rfl, rfl, _, rfl, ite2 (fun h => ?_) (fun h => hnx _ _ ⟨rfl, _, rfl⟩)⟩
    refine ⟨_, rfl, _, rfl, _, _, rfl, rfl, ⟨by decide, by decide, by decide⟩, _, _, rfl, rfl, _, rfl, ite2 (fun h2 => ?_) (fun h => hnx _ _ ⟨rfl, _, rfl⟩)⟩
    have h2 : (10 : Int) ^ (18 : Int).toNat ≤ (if cell < 0 then -cell else cell) := of_decide_eq_true h2
    have h3 : (0 : Int) ≤ 2 * ((if cell < 0 then -cell else cell) - (10 : Int) ^ (18 : Int).toNat) + (if decide (cell < 0) = true then 1 else 0) := by
      have : (0 : Int) ≤ (if decide (cell < 0) = true then 1 else 0) := by split <;> decide
      omega
    refine ⟨_, rfl, _, rfl, _, _, rfl, rfl, ⟨by decide, by decide, by decide⟩, _, _, rfl, rfl, _, _, rfl, rfl, .inl (by decide), _, rfl, _, _, rfl, rfl, .inr ⟨_, rfl, _, _, rfl, rfl, ?_⟩⟩
    refine ⟨_, rfl, _, rfl, _, _, rfl, rfl, ⟨by omega, by omega⟩, _, rfl, p, _, _, 2, rfl, rfl, hH2, rfl, ?_⟩
    refine ⟨_, rfl, .inl ⟨_, rfl, _, rfl, _, _, rfl, rfl, (by show 0 < m; omega), ?_⟩⟩
    exact fin _ (t + 1) _ _ upd_same (fun a o e h => (upd_ne h).trans (hO2 a o e h)) (by omega) (by omega) (Int.ediv_nonneg h3 (by omega)) (Int.emod_nonneg _ (by omega)) (.inl (Int.emod_lt_of_pos _ (by omega)))
  rintro σ' _ ⟨rfl, z, rfl⟩
  have b1 : 0 ≤ cell % 2147483549 := Int.emod_nonneg _ (by decide)
  have b2 : cell % 2147483549 < 2147483549 := Int.emod_lt_of_pos _ (by decide)
  have c1 : 0 ≤ (cell % 2147483549 + 41183 * t + 8087) ^ 5 := pow_pos' _ _ (by omega)
  have d1 : ∀ i : Int, 0 ≤ i % m := fun i => Int.emod_nonneg _ (by omega)
  have d2 : ∀ i : Int, i % m < m := fun i => Int.emod_lt_of_pos _ (by omega)
  -- blend = ..
  refine ⟨_, rfl, .inl ⟨_, rfl, _, _, rfl, rfl, (by show (0 : Int) < 2147483549; decide), _, rfl, _, _, rfl, rfl, .inl (by omega), _, _, rfl, rfl, _, _, rfl, rfl, _, _, rfl, rfl, ⟨by decide, by decide, (by show Int.natAbs (cell % 2147483549 + 41183 * t + 8087) < _; omega)⟩,
    .inl ⟨_, rfl, _, _, rfl, rfl, (by show (0 : Int) < 2147483587; decide), ?_⟩⟩⟩
  have e1 : 0 ≤ (cell % 2147483549 + 41183 * t + 8087) ^ (5 : Int).toNat % 2147483587 := Int.emod_nonneg _ (by decide)
  have e2 : (cell % 2147483549 + 41183 * t + 8087) ^ (5 : Int).toNat % 2147483587 < 2147483587 := Int.emod_lt_of_pos _ (by decide)
  obtain ⟨bl, hbl⟩ : ∃ bl, (cell % 2147483549 + 41183 * t + 8087) ^ (5 : Int).toNat % 2147483587 = bl := ⟨_, rfl⟩
  rw [hbl] at e1 e2
  have m1 : 0 ≤ bl * (2 * t + 5227) := Int.mul_nonneg e1 (by omega)
  have m2 : bl * (2 * t + 5227) ≤ 2147483587 * 2102381 := Int.mul_le_mul (by omega) (by omega) (by omega) (by omega)
  have m3 : 0 ≤ 50087 * t * t := Int.mul_nonneg (by omega) t0
  have m4 : 50087 * t * t ≤ 50087 * 1048577 * 1048577 := Int.mul_le_mul (by omega) (by omega) (by omega) (by omega)
  refine ⟨_, rfl, _, rfl, _, _, rfl, rfl, .inl (by omega), _, _, rfl, rfl, _, _, rfl, rfl, .inl (by omega), _, rfl, _, _, rfl, rfl, .inl (by omega), _, rfl, _, _, rfl, rfl, .inr (by omega), _, _, rfl, rfl, _, _, rfl, rfl, _, _, rfl, rfl,
    ⟨by decide, by decide, (by show Int.natAbs ((cell % 2147483549 + 41183 * t + 8087) ^ (5 : Int).toNat % 2147483587 * (2 * t + 5227) + 50087 * t * t + 41183) < _; rw [hbl]; omega)⟩, ?_⟩
  refine .inl ⟨_, rfl, _, _, rfl, rfl, (by show (0 : Int) < 2147483629; decide), _, rfl, _, _, rfl, rfl, ⟨by decide, by decide⟩, .inl ⟨_, rfl, _, rfl, _, _, rfl, rfl, (by show 0 < m; omega), ?_⟩⟩
  exact fin _ (t + 1) r _ hH2 hO2 (by omega) (by omega) r0 (d1 _) (.inl (d2 _))
end
end K08
end DL

-- part DL6
set_option maxHeartbeats 4000000
namespace DL
open PySem L2
/-! ### slices of lists -/
abbrev DO := Ev → (Ev → Option Int → Prop) → Prop
def RO (W : Wd) (B : Bs) (te : TO) (t : DO) : Prop := ∀ (σ : St) (H F : Hp) (ρ : Ev) (Q : Ev → Option Int → Prop) (R : Option Int → Hp → Prop), Rel W B F H σ ρ → t ρ Q →
  (∀ v H' F' ρ', Rel W B F' H' σ ρ' → Same F F' → Q ρ' v → R v H') → te σ H R
def cutD (xs : List D) (lo hi : Option Int) : List D := (xs.drop (HT.sIx xs.length 0 lo)).take (HT.sIx xs.length xs.length hi - HT.sIx xs.length 0 lo)
section
variable {W : Wd} {B : Bs} {F F' H H' : Hp} {σ : St} {ρ : Ev}
theorem ro_none : RO W B tNoPart (fun ρ Q => Q ρ none) := fun σ H F ρ Q R r h k => k none H F ρ r (Same.refl _) h
theorem ro_some {te : TE} {t : DE} (re : RE W B te t) : RO W B (tPart te) (fun ρ Q => t ρ fun ρ1 x => match x with | .int i => Q ρ1 (some i) | _ => False) := by
  intro σ H F ρ Q R rl h k
  refine re σ H F ρ _ _ rl h fun x H1 F1 ρ1 dx r1 s1 d1 h1 => ?_
  split at h1
  · rename_i i
    have e : x = .int i := d1
    exact ⟨i, e, k _ H1 F1 ρ1 r1 s1 h1⟩
  · exact h1.elim
theorem denL_cut {ds : List D} {xs : List V} {lo hi : Option Int} (h : DenL W F ds xs) : DenL W F (cutD ds lo hi) (cutV xs lo hi) := by
  unfold cutD cutV
  rw [h.length]
  exact (h.drop _).take _
theorem re_slL {te : TE} {tl th : TO} {t : DE} {a b : DO} (re : RE W B te t) (ra : RO W B tl a) (rb : RO W B th b) :
    RE W B (tSl (rSlL W.K) te tl th) (fun ρ Q => t ρ fun ρ1 x => a ρ1 fun ρ2 lo => b ρ2 fun ρ3 hi => match x with | .lst ds => Q ρ3 (.lst (cutD ds lo hi)) | _ => False) := by
  intro σ H F ρ Q R rl h k
  refine re σ H F ρ _ _ rl h fun x H1 F1 ρ1 dx r1 s1 d1 h1 => ?_
  refine ra σ H1 F1 ρ1 _ _ r1 h1 fun lo H2 F2 ρ2 r2 s2 h2 => ?_
  refine rb σ H2 F2 ρ2 _ _ r2 h2 fun hi H3 F3 ρ3 r3 s3 h3 => ?_
  split at h3
  · rename_i ds
    obtain ⟨a, xs, e, hs, hd⟩ := (d1.mono (s2.trans s3))
    refine ⟨a, xs, e, same_sqL r3.ex hs, fun p hp => ?_⟩
    have st := Stp.one (o := .lst (cutV xs lo hi)) r3.ex hp
    exact k _ _ _ ρ3 (.lst (cutD ds lo hi)) (r3.stp st) (((s1.trans s2).trans s3).trans st.ff) ⟨p, _, rfl, .inl (.inl upd_same), (denL_cut hd).mono st.ff⟩ h3
  · exact h3.elim
end
/-- [int(x) for x in ints] -/
theorem lc_ints {i : Nat} {e : DE} {K : Ev → List D → Prop} (he : ∀ ρ n Q, ρ.sl[i]? = some (.v (.int n)) → Q ρ (.int n) → e ρ Q) :
    ∀ (ns : List Int) (ρ : Ev) (acc : List D), i < ρ.sl.length → acc.length + ns.length ≤ sizeLine → (∀ ρ', ρ'.c = ρ.c → ρ'.sl.length = ρ.sl.length → K ρ' (acc ++ ns.map D.int)) → dLcL (dgName i) dYes e [i] (ns.map D.int) ρ acc K
  | [], ρ, acc, hi, hl, k => by
    show K ρ acc
    have := k ρ rfl rfl
    rw [List.map_nil, List.append_nil] at this
    exact this
  | n :: ns, ρ, acc, hi, hl, k => by
    show e ((ρ.wipe [i]).set i (.v (.int n))) _
    have hlen : ((ρ.wipe [i]).set i (.v (.int n))).sl.length = ρ.sl.length := by
      show ((wipeS ρ.sl [i]).set i _).length = _
      rw [List.length_set, wipeS_length]
    refine he _ n _ ?_ ⟨by rw [List.length_cons] at hl; omega, ?_⟩
    · show ((wipeS ρ.sl [i]).set i _)[i]? = _
      rw [List.getElem?_set_self (by rw [wipeS_length]; exact hi)]
    · have hb : (ρ.back [i] ((ρ.wipe [i]).set i (.v (.int n)))).sl.length = ρ.sl.length := resS_length [i] 0 ρ.sl _ hlen
      refine lc_ints he ns _ _ (by rw [hb]; exact hi) (by rw [List.length_append, List.length_cons] at *; simp only [List.length_nil] at *; omega) fun ρ' h1 h2 => ?_
      rw [List.append_assoc]
      exact k ρ' h1 (h2.trans hb)
end DL

-- part K08B
set_option maxHeartbeats 4000000
/-! K08: the well, one of some -/
namespace DL
namespace K08
open PySem PySem.Spec PyProof.Rows L2
theorem gIxL_of {ds : List D} {i : Int} {d : D} {ρ : Ev} {Q : Ev → D → Prop} (h : atI ds i = some d) (q : Q ρ d) : gIxL (.lst ds) (.int i) ρ Q := by
  unfold gIxL
  simp only [h]
  exact q
theorem RN.go {W : Wd} {B : Bs} {te : TE} {t : DE} {σ : L2.St} {H F : Hp} {ρ : Ev} {R : VK} (h : RN W B te t) (rl : Rel W B F H σ ρ) (Q : Ev → D → Prop) (k : ∀ p H' F' ρ' d, Rel W B F' H' σ ρ' → Same F F' → New W B F' H' σ ρ' p d → Q ρ' d → R (.ref p) H') (q : t ρ Q) : te σ H R := h σ H F ρ Q R rl q k
/-- one of some: whichever -/
def gOne : GF := fun ds c Q => ∃ xs : List D, ds = [.well, .lst xs] ∧ 0 < xs.length ∧ xs.length < 1073741824 ∧ c < 1048576 ∧ ∀ d ∈ xs, Q d (c + 1)
/-- the well of a script -/
def spWell (K : PySem.W.Frag) (cls : Str → Option Addr) : Sp := fun vs H Q _ => ∃ (F : Hp) (a : Addr) (ns : List Int), vs = [.ref a] ∧ Same F H ∧ SqL K F a (ns.map V.int) ∧ ns.length ≤ 1000 ∧ TabsOk ⟨K, cls, none⟩ [] F H ∧
  ∀ (p pc : Addr) (H' F' : Hp) (ns' : List Int), Kept F H F' H' none [] → H p = none → F' p = none → ns'.length ≤ 60 → H' p = some (.lst [.ref pc, .int 0, .int 0]) → SqL K F' pc (ns'.map V.int) → TabsOk ⟨K, cls, none⟩ [] F' H' → Q (.ref p) H'
section
variable {P : Program} {w : World} {K : PySem.W.Frag} {mg : Str → Option Value} {base : Heap} {cls : Str → Option Addr}
theorem ok_one {f fd0 : Addr} {fd fdD : FuncData} {k : Nat} (F : Fun K "_law_one" "_law_one" sOne f fd) (FD : Fun K "_law_draw" "_law_draw" sDraw fd0 fdD) (bD : Binds K fdD ["well", "many"] []) (gD : mg "_law_draw" = some (.ref fd0)) (m_int : mg "int" = none) (m_abs : mg "abs" = none) (m_len : mg "len" = none) :
    FnOk P w K mg base CX0 (k + 2) f fd ["well", "some"] (spD K cls gOne) := by
  have GD : FnOk P w K mg base CX0 (k + 1) fd0 fdD ["well", "many"] (spD K cls gDraw) := ok_draw FD m_int m_abs m_len
  refine F.ok scO (fun vs H Q E h => len_of (n := 2) (fun ds c QD ⟨m, e, _⟩ => by rw [e]; rfl) h) (fun cdv A outer s H vs Q E hr h => ?_)
  refine ⟨_, (pss_one (ps_ret (pe_ix ix_list (pv 1) (pe_call GD hr (by rfl) gD FD.kp bD .nil pass0 (pa_cons (pv 0) (pa_cons (pe_callB call_len (by rfl) m_len PySem.boot_len (pa_cons (pv 1) pa_nil)) pa_nil))) (fun _ _ => rfl)))), body_of (fun pw B hio => (rs_ret (re_ixL (re_var (i := 1) hio) (re_call (E := E0) (ra_cons (re_var (i := 0) hio) (ra_cons (re_len (ra_cons (re_var (i := 1) hio) ra_nil)) ra_nil)))))) ?_ h⟩
  rintro ds c QD ⟨xs, rfl, h0, h1, h2, hq⟩
  refine ⟨Nat.le_refl 2, ?_⟩
  refine ⟨_, rfl, by omega, h2, fun k k0 hk => ?_⟩
  have hk' : k < (xs.length : Int) := by omega
  obtain ⟨j, rfl⟩ : ∃ j : Nat, k = (j : Int) := ⟨_, (Int.toNat_of_nonneg k0).symm⟩
  have hj : j < xs.length := by omega
  have e : atI xs (j : Int) = some xs[j] := atI_nat (List.getElem?_eq_getElem hj)
  exact gIxL_of e (hq _ (List.getElem_mem hj))
theorem ok_well {f : Addr} {fd : FuncData} {k : Nat} (F : Fun K "_law_well" "_law_well" sWell f fd) (m_int : mg "int" = none) : FnOk P w K mg base CX0 (k + 1) f fd ["script"] (spWell K cls) := by
  refine F.ok scW (fun vs H Q E ⟨F0, a, ns, e, _⟩ => by rw [e]; rfl) (fun cdv A outer s H vs Q E hr h => ?_)
  obtain ⟨F0, a, ns, rfl, ex, hS, hl, tb, q⟩ := h
  have hio : (bs0 F0 H).io = [] := rfl
  refine ⟨_, pss_one (ps_ret (pe_lst (pa_cons (pe_lc rfl scW.nd (pi_seq (pe_slice sl_list (pv 0) po_none (po_some pe_int))) (own := [("cell", 1)]) (blkOk_by rfl) (fun _ _ _ _ _ => (pg_name (i := 1) scW.nd rfl (.inl rfl))) (fun _ _ _ _ _ => pts_nil) (fun _ _ _ _ _ => (pe_callTy call_int1 (by rfl) m_int (by decide +kernel) (pa_cons (pv 1) pa_nil)))) (pa_cons pe_int (pa_cons pe_int pa_nil))))), ?_⟩
  show tLst _ (start ["script", "cell"] [V.ref a]) H _
  refine RN.go (W := ⟨K, cls, none⟩) (B := bs0 F0 H) (F := F0) (ρ := ent 2 [.lst (ns.map D.int)] 0) (rn_lst (ra_cons (RN.re (rn_lc (is := [1]) (vs := [1]) (ri_seq (re_slL (re_var (i := 0) hio) ro_none (ro_some re_c))) (fun B hb => by have hio := hb.trans hio; exact (rg_name (i := 1))) (fun B hb => by have hio := hb.trans hio; exact rt_yes) (fun B hb => by have hio := hb.trans hio; exact (re_int (ra_cons (re_var (i := 1) hio) ra_nil))) (fun _ h => h))) (ra_cons re_c (ra_cons re_c ra_nil))))
    (rel_start (N := ["script", "cell"]) ex (.cons ⟨a, _, rfl, hS, denL_ints ns⟩ rfl) ⟨trivial, tb⟩ (by show 1 ≤ 2; decide)) (fun ρ d => ∃ ns' : List Int, d = .lst [.lst (ns'.map D.int), .int 0, .int 0] ∧ ns'.length ≤ 60) (fun p H' F' ρ' d r sf n ⟨ns', e, hl'⟩ => ?_) ?_
  · subst e
    obtain ⟨xs, h1, x1, r1, e1, ⟨pc, ys, e2, hs2, hd2⟩, x2, r2, e3, e4, x3, r3, e5, e6, e7⟩ := n.own
    have e4 : x2 = .int 0 := e4
    have e6 : x3 = .int 0 := e6
    have e7 : r3 = [] := e7
    subst e1 e2 e3 e4 e5 e6 e7
    rw [denL_ints_inv hd2] at hs2
    exact q p pc H' F' ns' ⟨r.f0, r.ex, fun a o h1 h2 h3 => r.keep a o h1 h2 h3, fun a h1 h2 => r.new a h1 h2⟩ n.h0 n.fp hl' h1 hs2 r.well.2
  · have ec : cutD (ns.map D.int) none (some 60) = (ns.take 60).map D.int := by
      unfold cutD
      rw [show HT.sIx (ns.map D.int).length (ns.map D.int).length (some 60) = min 60 (ns.map D.int).length from HT.sIx_nat _ _ 60, HT.sIx_none]
      rw [List.drop_zero, Nat.sub_zero, ← List.map_take, List.length_map]
      congr 1
      rw [List.take_eq_take_iff]
      omega
    refine ⟨rfl, ?_⟩
    rw [ec]
    refine lc_ints (fun ρ n Q h q => ?_) (ns.take 60) _ [] (by show 1 < 2; decide) (by rw [List.length_take]; show 0 + _ ≤ sizeLine; rw [sizeLine_eq]; omega) fun ρ' _ _ => ?_
    · show dVar 1 ρ _
      unfold dVar
      rw [h]
      exact q
    · refine ⟨by show 3 ≤ sizeLine; decide, ns.take 60, rfl, by rw [List.length_take]; omega⟩
end
end K08
end DL

-- part DX2
set_option maxHeartbeats 4000000
/-! type(x).__name__ of an instance of an own class -/
namespace DL
open PySem PySem.Spec PyProof.Rows L2
/-- what the written part tells of a class's name -/
structure CName (K : PySem.W.Frag) (C : Addr) (nm : Str) : Prop where
  at_ : ∃ o cd tk, K.lookup C = some o ∧ o.cls = .type "type" ∧ o.data = .cls cd ∧ o.slots[2]? = some (some (.str nm tk))
  found : PySem.W.findCls K (.ref C) (.type "type") "__name__" = some (.get (.builtin "getset_descriptor.__get__") (.builtin "type.__name__") (.ref C) (.type "type"))
  no : PySem.W.nsIn K cStatics "thirdparty.any" = some none
open PySem.W PySem.Calls Builtin Builtin.ObjectAttr Builtin.Getset_descriptor in
theorem cn_dga (C : Addr) (d tp : Value) : descrGetArgs ⟨[d, .ref C, tp], []⟩ = pure (d, some (.ref C), given tp) := by kernel_rfl
section
variable {prog : Program} {w : World} {A : Around} {E : Value → Shared → Prop} {s : Shared} {K : PySem.W.Frag} {C : Addr} {nm : Str}
open PySem.W PySem.Calls Builtin Builtin.ObjectAttr Builtin.Getset_descriptor in
theorem own_name {expr : Bool} {Q : Value → Shared → Prop} (X : K.In s.heap) (N : CName K C nm) (h : ∀ tk u, Q (.str nm tk) { s with toks := u }) : wpAny (model prog w) A (getAttr (.ref C) "__name__" expr) Q E s := by
  obtain ⟨o, cd, tk, lc, hc, hd, hs⟩ := N.at_
  have L0 : PySem.W.Looks (model prog w) s.heap (typeOf (.ref C)) (.type "type") := PySem.W.looks_typeIn X (by show (K.lookup C).map (·.cls) = _; rw [lc]; exact congrArg some hc)
  have hg : PySem.W.findIn K (.type "type") "__getattribute__" = some (some (.builtin "type.__getattribute__")) := PySem.W.type_tga
  refine PySem.W.cls_open X (PySem.W.looks_opaque X N.no) L0 hg (PySem.W.looks_hook X (r := none) (by rfl)) (by show PySem.W.subIn K _ _ = _; rfl) N.found ?_
  show wpAny _ _ (do ret (← holding [Value.builtin "type.__name__"] (call (.builtin "getset_descriptor.__get__") [.builtin "type.__name__", .ref C, .type "type"]))) _ _ _
  refine wpAny_bind (wpAny_holding (wpAny_call ?_))
  have hC : s.heap.get? C = some o := X _ _ lc
  obtain ⟨hh, g, dr, t, os⟩ := s
  dsimp only at L0 hC ⊢
  have L1 : PySem.W.Looks (model prog w) hh (isSubtype (.type "type") (.type "type")) true := PySem.W.Looks.of_pure (by rw [isSubtype_type]; kernel_rfl)
  refine codeAny_call_builtin KF.slot_gs.plain KF.entry_gs (KF.slot_gs.check _ _ _ _ _ _ _ _ PySem.W.ktyn_type (KF.args_gs _ _ _) ?_)
  unfold Builtin.«getset_descriptor.__get__» descrGet
  rw [cn_dga]
  refine wpAny_bind (wpAny_pure ?_)
  unfold descrGetter descrCheckInstance descrNameAndClass isInstance
  simp only [PySem.W.ktyn_owner]
  repeat lk
  refine ⟨Code.quiet_builtin _ (by decide +kernel), codeAny_builtin PySem.W.ktyn_entry ?_⟩
  unfold Builtin.«type.__name__»
  dsimp only
  unfold keptObject PySem.slotAt
  dsimp only
  refine wpAny_bind (wpAny_bind (wpAny_loadPart (o := o) hC ?_))
  rw [hs]
  refine wpAny_pure ?_
  show wpAny _ _ (ret (Value.str nm tk)) _ _ _
  refine wpAny_pure ?_
  show wpAny _ _ (ret (Value.str nm tk)) _ _ _
  refine wpAny_pure ?_
  exact handed_on rfl (h tk _)
end
/-- type(e).__name__ -/
def tTn (K : PySem.W.Frag) (ta : TE) : TE := fun σ H Q => ta σ H fun x H1 => ∃ p C dx fs nm, x = .ref p ∧ H1 p = some (.ins C dx fs) ∧ CName K C nm ∧ Q (.str nm) H1
section
variable {X : Cx} {o : Expr} {ta : TE} {p0 p1 p2 : Pos}
theorem pe_tname (ha : PE X o ta) (hg : Gl X "type") (hm : X.mg "type" = none) (na : starEach [o] X.env = (false, eval o X.env) :: starEach [] X.env := by rfl)
    (hb : attributeBase (.Call (.Name "type" p0) [o] [] p1) "__name__" X.env (eval (.Call (.Name "type" p0) [o] [] p1) X.env) = eval (.Call (.Name "type" p0) [o] [] p1) X.env := by rfl) :
    PE X (.Attribute (.Call (.Name "type" p0) [o] [] p1) "__name__" p2) (tTn X.K ta) := by
  refine ⟨fun pins s σ H Q I h => ?_⟩
  refine attr_of hb ?_
  refine Call_ (ld_blt (u := .type "type") I hg hm (by decide +kernel) (PyProof.Rows.callWith_type1 (one_arg ha I h (fun v s2 x H2 I2 r q => ?_) na) na))
  obtain ⟨p, C, dx, fs, nm, e, hp, hn, q⟩ := q
  subst e
  obtain rfl : v = Value.ref p := r
  obtain ⟨mA, O, _⟩ := ins_get I2.hok hp
  obtain ⟨oda, J, _⟩ := O.look
  refine PySem.W.kto_own J ?_
  exact own_name I2.kIn hn fun tk u => ⟨.str nm, H2, I2.tok u, ⟨_, rfl⟩, q⟩
end
end DL

-- part DL7
set_option maxHeartbeats 4000000
/-! what __init__ does: an object of one's own that the caller gave -/
namespace DL
open PySem L2
/-- class, arguments, draws; the attributes, draws -/
abbrev GI := Str → List D → Nat → (List Str → List D → Nat → Prop) → Prop
def spI (K : PySem.W.Frag) (cls : Str → Option Addr) (G : GI) : Sp := fun vs H Q _ => ∃ (F : Hp) (us : List V) (ds : List D) (c : Nat) (cn : Str) (C dx p : Addr) (pw : Option Addr) (QD : List Str → List D → Nat → Prop),
  vs = .ref p :: us ∧ Same F H ∧ F p = none ∧ pw ≠ some p ∧ H p = some (.ins C dx []) ∧ cls cn = some C ∧ DenL ⟨K, cls, pw⟩ F ds us ∧ WellOk ⟨K, cls, pw⟩ (bs0 F H) F H c ∧ G cn ds c QD ∧
  ∀ H' F' ns es c', Kept F H F' H' pw [p] → F' p = none → OwnAt ⟨K, cls, pw⟩ F' H' p (.obj cn ns es) → WellOk ⟨K, cls, pw⟩ (bs0 F H) F' H' c' → QD ns es c' → Q .non H'
def bsI (F H : Hp) (p : Addr) : Bs := ⟨F, H, [p], []⟩
def entI (n : Nat) (cn : Str) (ds : List D) (c : Nat) : Ev := ⟨Sl.o (.obj cn [] []) :: (ds.map .v ++ List.replicate (n - 1 - ds.length) Sl.un), c⟩
section
variable {W : Wd} {B : Bs} {F F' H H' : Hp} {σ : St} {ρ : Ev}
theorem WellOk.npw {c : Nat} {p : Addr} (h : WellOk W B F H c) (hp : p ∈ B.io) : W.pw ≠ some p := fun e => by
  exact h.nio e hp
theorem rel_startI {N : List Str} {us : List V} {ds : List D} {c : Nat} {cn : Str} {C dx p : Addr} (ex : Same F H) (fp : F p = none) (hw : W.pw ≠ some p) (hp : H p = some (.ins C dx [])) (hc : W.cls cn = some C) (hd : DenL W F ds us) (w : WellOk W (bs0 F H) F H c) (hn : ds.length + 1 ≤ N.length) :
    Rel W (bsI F H p) F H (start N (.ref p :: us)) (entI N.length cn ds c) := by
  have hl := hd.length
  have own : OwnAt W F H p (.obj cn [] []) := ⟨C, dx, [], hp, hc, rfl, rfl⟩
  have get : ∀ (i : Nat) (s : Sl), (entI N.length cn ds c).sl[i]? = some s → (i = 0 ∧ s = .o (.obj cn [] [])) ∨ s = .un ∨ ∃ d v, s = .v d ∧ (start N (.ref p :: us))[i]? = some (some v) ∧ Den W F d v := fun i s h => by
    cases i with
    | zero => exact .inl ⟨rfl, (Option.some.inj h).symm⟩
    | succ i =>
      have h : (ds.map Sl.v ++ List.replicate (N.length - 1 - ds.length) Sl.un)[i]? = some s := h
      by_cases hi : i < ds.length
      · rw [List.getElem?_append_left (by rw [List.length_map]; exact hi), List.getElem?_map] at h
        have e : ds[i]? = some ds[i] := List.getElem?_eq_getElem hi
        rw [e] at h
        obtain ⟨v, hv, dv⟩ := hd.get e
        refine .inr (.inr ⟨_, v, (Option.some.inj h).symm, ?_, dv⟩)
        unfold L2.start
        rw [List.getElem?_append_left (by rw [List.length_map, List.length_cons, ← hl]; omega), List.getElem?_map, List.getElem?_cons_succ, hv]
        rfl
      · rw [List.getElem?_append_right (by rw [List.length_map]; omega), List.getElem?_replicate] at h
        split at h
        · exact .inr (.inl (Option.some.inj h).symm)
        · cases h
  have z0 : (start N (.ref p :: us))[0]? = some (some (.ref p)) := by
    unfold L2.start
    rw [List.getElem?_append_left (by rw [List.length_map, List.length_cons]; omega)]
    rfl
  refine ⟨ex, ?_, fun i s h => ?_, fun i j d e q h h' h1 h2 => ?_, ?_, fun a o h _ _ => .inl h, fun a h1 h2 => h2, Same.refl _, (fun a ha => ?_), (fun q hq => nomatch hq), (fun q hq => nomatch hq), List.nodup_nil⟩
  · show (start N (.ref p :: us)).length = (Sl.o (.obj cn [] []) :: (ds.map Sl.v ++ List.replicate (N.length - 1 - ds.length) Sl.un)).length
    unfold L2.start
    simp only [List.length_append, List.length_map, List.length_replicate, List.length_cons]
    omega
  · rcases get i s h with ⟨e0, e⟩ | e | ⟨d, v, e, hv, dv⟩
    · subst e e0
      exact ⟨p, z0, fp, .inr (by show p ∈ [p]; simp), hw, own⟩
    · subst e; trivial
    · subst e; exact ⟨v, hv, dv⟩
  · rcases get i _ h with ⟨e0, e⟩ | e | ⟨d, v, e, _⟩
    · rcases get j _ h' with ⟨e1, e⟩ | e | ⟨d, v, e, _⟩
      · rw [e0, e1]
      · cases e
      · cases e
    · cases e
    · cases e
  · refine w.base (fun q hq => ?_) fun q P e z => ?_
    · show q ∉ [p]
      rw [List.mem_singleton]
      intro z
      exact hw (by rw [hq, z])
    · have z : P = p := List.mem_singleton.mp z
      exact own.tabne (w.2 q P e).2.2 z
  · have : a = p := List.mem_singleton.mp ha
    rw [this]; exact nt_of hp fun _ z => nomatch z
/-- a statement that sets no slot -/
def RSI (W : Wd) (B : Bs) (ts : TS) (t : DS) : Prop := ∀ (σ : St) (H F : Hp) (ρ : Ev) (D : Ends) (DD : DEnds), Rel W B F H σ ρ → t DD ρ → (∀ H' F' ρ', Rel W B F' H' σ ρ' → Same F F' → DD.nx ρ' → D.nx σ H') → ts D σ H
theorem rsi_next : RSI W B tNext dNext := fun σ H F ρ D DD r h f => f H F ρ r (Same.refl _) h
theorem rsi_seq {t u : TS} {a b : DS} (ra : RSI W B t a) (rb : RSI W B u b) : RSI W B (tSeq t u) (dSeq a b) := fun σ H F ρ D DD r h f =>
  ra σ H F ρ _ { DD with nx := b DD } r h fun H1 F1 ρ1 r1 s1 h1 => rb σ H1 F1 ρ1 D DD r1 h1 fun H2 F2 ρ2 r2 s2 h2 => f H2 F2 ρ2 r2 (s1.trans s2) h2
/-- an __init__'s body keeps its promise -/
theorem bodyI_of {K : PySem.W.Frag} {cls : Str → Option Addr} {G : GI} {N : List Str} {ts : TS} {T : DS} {vs : List V} {Q : VK} {E : XK} (rs : ∀ pw B p, B.io = [p] → RSI ⟨K, cls, pw⟩ B ts T)
    (hG : ∀ cn ds c QD, G cn ds c QD → ds.length + 1 ≤ N.length ∧ T { nx := fun ρ => ∃ ns es, getO ρ 0 = some (.obj cn ns es) ∧ QD ns es ρ.c, rt := fun _ _ => False } (entI N.length cn ds c))
    (h : spI K cls G vs H Q E) : ts { nx := fun _ H' => Q .non H', rt := Q } (start N vs) H := by
  obtain ⟨F, us, ds, c, cn, C, dx, p, pw, QD, rfl, ex, fp, hw, hp, hc, hd, w, g, k⟩ := h
  obtain ⟨hn, ht⟩ := hG cn ds c QD g
  have r0 := rel_startI (W := ⟨K, cls, pw⟩) (N := N) ex fp hw hp hc hd w hn
  refine rs pw (bsI F H p) p rfl (start N (.ref p :: us)) H F (entI N.length cn ds c) _ _ r0 ht (fun H' F' ρ' r' s' ⟨ns, es, q1, q2⟩ => ?_)
  have z0 : (start N (.ref p :: us))[0]? = some (some (.ref p)) := by
    unfold L2.start
    rw [List.getElem?_append_left (by rw [List.length_map, List.length_cons]; omega)]
    rfl
  unfold getO at q1
  split at q1
  · rename_i d e
    cases q1
    obtain ⟨p', e1, fp', _, _, ow⟩ := r'.sl 0 _ e
    rw [z0] at e1
    cases e1
    exact k H' F' ns es ρ'.c ⟨r'.f0, r'.ex, fun a o h1 h2 h3 => r'.keep a o h1 h2 h3, fun a h1 h2 => r'.new a h1 h2⟩ fp' ow (r'.well.base (fun p hp z => nomatch z) fun _ _ _ z => nomatch z) q2
  · cases q1
/-- behind an __init__ of the object at p, which is at slot i or new -/
theorem Rel.calledI {c' : Nat} {p : Addr} (r : Rel W B F H σ ρ) (hp : B.H0 p = none ∨ p ∈ B.io) (ap : ∀ (i : Nat) (e : D), ρ.sl[i]? = some (.o e) → σ[i]? ≠ some (some (.ref p))) (nh : ∀ q ∈ B.hid, q.1 ≠ p) (hne : nt (H' p))
    (k : Kept F H F' H' W.pw [p]) (w : WellOk W (bs0 F H) F' H' c') : Rel W B F' H' σ (ρ.cnt c') := by
  have wk : WellOk W B F' H' c' := w.base (fun p hp => r.well.nio hp) fun q P e => (r.well.2 q P e).2.1
  have hneH : ∀ {p : Addr} {o : HO}, H p = some o → H p ≠ none := fun h q => by rw [h] at q; cases q
  have keepO : ∀ {q : Addr} {d : D}, OwnAt W F H q d → F q = none → W.pw ≠ some q → q ≠ p → F' q = none ∧ OwnAt W F' H' q d := fun {q d} own fp hw hq => by
    exact ⟨k.new q own.nt fp, own.stay k.ff fun o ho => k.hh q o ho hw (by rw [List.mem_singleton]; exact hq)⟩
  refine ⟨k.fh, r.len, fun i s h => ?_, r.inj, wk, fun a o h1 h2 h3 => ?_, fun a h1 h2 => ?_, r.f0.trans k.ff, fun a ha => ?_, fun q hq => ?_, r.hap, r.hnd⟩
  · have q := r.sl i s h
    cases s with
    | un => trivial
    | v d => obtain ⟨u, e, hd⟩ := q; exact ⟨u, e, hd.mono k.ff⟩
    | o d =>
      obtain ⟨q, e, fp, h0, hw, own⟩ := q
      obtain ⟨f', own'⟩ := keepO own fp hw fun z => ap i d h (by rw [e, z])
      exact ⟨q, e, f', h0, hw, own'⟩
  · have ha : a ≠ p := fun z => by
      subst z
      rcases hp with hp | hp
      · rw [hp] at h1; cases h1
      · exact h3 hp
    exact (r.keep a o h1 h2 h3).trans fun u e => k.hh a u e h2 (by rw [List.mem_singleton]; exact ha)
  · exact k.new a (r.ntH h1) (r.new a h1 h2)
  · by_cases ha2 : a = p
    · rw [ha2]; exact hne
    · have hw : W.pw ≠ some a := fun e => r.well.nio e ha
      exact nt_tw (r.ioH a ha) fun o q => k.hh a o q hw (by rw [List.mem_singleton]; exact ha2)
  · obtain ⟨h1, h2, h3, h4⟩ := r.hid q hq
    obtain ⟨f', own'⟩ := keepO h4 h1 h3 (nh q hq)
    exact ⟨f', h2, h3, own'⟩
/-! ### C(..): a new instance -/
def dMakeI (cn : Str) (G : GI) (a : DA) : DE := fun ρ Q => a ρ fun ρ1 ds => G cn ds ρ1.c fun ns es c' => Q (ρ1.cnt c') (.obj cn ns es)
theorem Rel.made {G : GI} {C x dx : Addr} {cn : Str} {us : List V} {ds : List D} {Q : Ev → D → Prop} {R : VK} {E : XK} (r : Rel W B F H σ ρ) (hc : W.cls cn = some C) (hd : DenL W F ds us) (g : G cn ds ρ.c fun ns es c' => Q (ρ.cnt c') (.obj cn ns es))
    (hx : H x = none) (hdx : H dx = none) (hne : dx ≠ x) (k : ∀ p H' F' ρ' d, Rel W B F' H' σ ρ' → Same F F' → New W B F' H' σ ρ' p d → Q ρ' d → R (.ref p) H') :
    spI W.K W.cls G (.ref x :: us) (upd (upd H dx (.own x)) x (.ins C dx [])) (fun v H2 => v = .non ∧ R (.ref x) H2) E := by
  have s1 : Stp F H F (upd H dx (.own x)) := Stp.lay r.ex hdx
  have hx2 : (upd H dx (.own x)) x = none := by rw [upd_ne hne.symm]; exact hx
  have s2 : Stp F (upd H dx (.own x)) F (upd (upd H dx (.own x)) x (.ins C dx [])) := Stp.lay s1.fh hx2
  have r2 := (r.stp s1).stp s2
  refine ⟨F, us, ds, ρ.c, cn, C, dx, x, W.pw, _, rfl, r2.ex, r.fF hx, r.npw hx, upd_same, hc, hd, r2.well.base (fun p hp z => nomatch z) (fun _ _ _ z => nomatch z), g, fun H' F' ns es c' kp fx own w q => ⟨rfl, ?_⟩⟩
  have ap : ∀ (i : Nat) (e : D), ρ.sl[i]? = some (.o e) → σ[i]? ≠ some (some (.ref x)) := fun i e h z => by
    obtain ⟨p, e1, _, _, _, ow⟩ := r.sl i _ h
    rw [z] at e1; cases e1
    obtain ⟨o, ho⟩ := ow.ne
    rw [hx] at ho; cases ho
  have nh : ∀ q ∈ B.hid, q.1 ≠ x := fun q hq z => by
    obtain ⟨_, _, _, ow⟩ := r.hid q hq
    obtain ⟨o, ho⟩ := ow.ne
    rw [z, hx] at ho; cases ho
  obtain ⟨o', ho'⟩ := own.ne
  have r3 := r2.calledI (c' := c') (.inl (r.fresh0 hx)) ap nh own.nt kp w
  exact k x H' F' _ (.obj cn ns es) r3 kp.ff ⟨own, fx, r.fresh0 hx, r.npw hx, ap, nh⟩ q
theorem rn_make {G : GI} {C : Addr} {cn : Str} {ta : TA} {a : DA} {E : XK} (hc : W.cls cn = some C) (ra : RA W B ta a) : RN W B (tMake C (spI W.K W.cls G) [] E ta) (dMakeI cn G a) := by
  intro σ H F ρ Q R rl h k
  refine ra σ H F ρ _ _ rl h fun vs H1 F1 ρ1 ds r1 s1 d1 h1 => ?_
  intro x dx hx hdx hne
  rw [List.append_nil]
  exact r1.made hc d1 h1 hx hdx hne fun p H' F' ρ' d r' s' n q => k p H' F' ρ' d r' (s1.trans s') n q
theorem rn_makeK0 {G : GI} {C : Addr} {cn : Str} {ta : TA} {a : DA} {E : XK} {m : Nat} {gV : List V → List V → List V} {pm : List D → List D} (hc : W.cls cn = some C) (ra : RA W B ta a)
    (hp : ∀ F x zs ds, DenL W F ds zs → ds.length = m → ∃ us, gV [x] zs = x :: us ∧ DenL W F (pm ds) us) : RN W B (tMakeK C 0 m (spI W.K W.cls G) gV E tNil ta) (fun ρ Q => a ρ fun ρ1 ds => ds.length = m ∧ G cn (pm ds) ρ1.c fun ns es c' => Q (ρ1.cnt c') (.obj cn ns es)) := by
  intro σ H F ρ Q R rl h k
  refine ra σ H F ρ _ _ rl h fun vs H1 F1 ρ1 ds r1 s1 d1 h1 => ?_
  refine ⟨rfl, by rw [← d1.length]; exact h1.1, fun x dx hx hdx hne => ?_⟩
  obtain ⟨us, e, hd⟩ := hp F1 (.ref x) vs ds d1 h1.1
  rw [e]
  exact r1.made hc hd h1.2 hx hdx hne fun p H' F' ρ' d r' s' n q => k p H' F' ρ' d r' (s1.trans s') n q
/-! ### in the body of an __init__ -/
/-- self.f = e -/
def dSetA (i : Nat) (f : Str) (t : DE) : DS := fun DD ρ => t ρ fun ρ1 d => match getO ρ1 i with
  | some (.obj c ns ds) => ns.contains f = false ∧ ns.length < 1000 ∧ DD.nx (ρ1.set i (.o (.obj c (ns ++ [f]) (ds ++ [d]))))
  | _ => False
theorem putF_new {f : Str} {v : V} : ∀ {gs : List (Str × V)}, (gs.map (·.1)).contains f = false → putF f v gs = gs ++ [(f, v)]
  | [], _ => rfl
  | (g, x) :: r, h => by
    rw [List.map_cons, List.contains_cons, Bool.or_eq_false_iff] at h
    have hne : ¬ g = f := fun z => by
      subst z
      rw [beq_self_eq_true] at h
      exact Bool.noConfusion h.1
    show (if g = f then (g, v) :: r else (g, x) :: putF f v r) = _
    rw [if_neg hne, putF_new h.2]; rfl
theorem rsi_setA {i : Nat} {f : Str} {te : TE} {t : DE} (re : RE W B te t) (hcls : ∀ c C, W.cls c = some C → Cls W.K C) (hno : ∀ c C, W.cls c = some C → NoAttr W.K C f) : RSI W B (sFld W.K (tVar i) te f) (dSetA i f t) := by
  intro σ H F ρ D DD rl h k
  refine re σ H F ρ _ _ rl h fun y H1 F1 ρ1 d r1 s1 d1 h1 => ?_
  split at h1
  · rename_i c ns ds g1
    obtain ⟨p, e2, e3, C, dx, gs, hx, hc, hn, hd⟩ := r1.own g1
    subst hn
    refine ⟨.ref p, e3, p, C, dx, gs, rfl, hx, hcls _ _ hc, hno _ _ hc, (by have := h1.2.1; rw [List.length_map] at this; exact this), ?_⟩
    rw [putF_new h1.1]
    exact k _ F1 _ (r1.oset (d' := .obj c (gs.map (·.1) ++ [f]) (ds ++ [d])) e2 e3 ⟨C, dx, _, upd_same, hc, by rw [List.map_append]; rfl, by rw [List.map_append]; exact hd.append ⟨y, [], rfl, d1, rfl⟩⟩) s1 h1.2.2
  · exact h1.elim
/-- self.f -/
def dFldO (i : Nat) (f : Str) : DE := fun ρ Q => match getO ρ i with
  | some (.obj _ ns ds) => match fldD ns ds f with | some d => Q ρ d | none => False
  | _ => False
theorem re_fldO {i : Nat} {f : Str} (hcls : ∀ c C, W.cls c = some C → Cls W.K C) (hno : ∀ c C, W.cls c = some C → NoAttr W.K C f) : RE W B (tFld W.K (tVar i) f) (dFldO i f) := by
  intro σ H F ρ Q R rl h k
  unfold dFldO at h
  split at h
  · rename_i c ns ds g1
    obtain ⟨p, e2, e3, C, dx, gs, hx, hc, hn, hd⟩ := rl.own g1
    split at h
    · rename_i d ed
      subst hn
      obtain ⟨v, hv, dv⟩ := fld_lookup hd ed
      exact ⟨.ref p, e3, p, C, dx, gs, v, rfl, hx, hcls _ _ hc, hno _ _ hc, hv, k v H F ρ d rl (Same.refl _) dv h⟩
    · exact h.elim
  · exact h.elim
/-- type(self).__name__ -/
def dTnO (nmOf : Str → Option Str) (i : Nat) : DE := fun ρ Q => match getO ρ i with
  | some (.obj c _ _) => match nmOf c with | some nm => Q ρ (.str nm) | none => False
  | _ => False
theorem re_tnO {i : Nat} {nmOf : Str → Option Str} (hn : ∀ c C nm, W.cls c = some C → nmOf c = some nm → CName W.K C nm) : RE W B (tTn W.K (tVar i)) (dTnO nmOf i) := by
  intro σ H F ρ Q R rl h k
  unfold dTnO at h
  split at h
  · rename_i c ns ds g1
    obtain ⟨p, e2, e3, C, dx, gs, hx, hc, _, hd⟩ := rl.own g1
    split at h
    · rename_i nm en
      exact ⟨.ref p, e3, p, C, dx, gs, nm, rfl, hx, hn _ _ _ hc en, k _ H F ρ (.str nm) rl (Same.refl _) rfl h⟩
    · exact h.elim
  · exact h.elim
def dLower (t : DE) : DE := fun ρ Q => t ρ fun ρ1 x => match x with | .str a => a.length ≤ 5592405 ∧ Q ρ1 (.str (Txt.lower a)) | _ => False
theorem re_lower {te : TE} {t : DE} (re : RE W B te t) : RE W B (tM0 (fun x xs H Q => ∃ a, x = .str a ∧ xs = [] ∧ a.length ≤ 5592405 ∧ Q (.str (Txt.lower a)) H) te) (dLower t) := by
  intro σ H F ρ Q R rl h k
  refine re σ H F ρ _ _ rl h fun x H1 F1 ρ1 dx r1 s1 d1 h1 => ?_
  split at h1
  · rename_i a
    have e : x = .str a := d1
    exact ⟨⟨a, e⟩, a, e, rfl, h1.1, k _ H1 F1 ρ1 (.str _) r1 s1 rfl h1.2⟩
  · exact h1.elim
/-- self.f, self.g = a tuple of two -/
def gFld (K : PySem.W.Frag) (ta : TE) (f : Str) : TG := fun v σ H Q => ta σ H fun x H1 => ∃ a C dx fs, x = .ref a ∧ H1 a = some (.ins C dx fs) ∧ Cls K C ∧ NoAttr K C f ∧ fs.length < 1000 ∧ Q σ (upd H1 a (.ins C dx (putF f v fs)))
theorem pg_fld {X : Cx} {o : Expr} {f : Str} {ta : TE} {pos : Pos} (ha : PE X o ta) : PG X (.Attribute o f pos) (gFld X.K ta f) := by
  refine ⟨fun pins s σ H v u Q I r h => ?_⟩
  rw [arm_assign_Attribute]
  refine wpAny_bind (wpAny_holding (thn (ha.run pins s σ H _ I h) fun ov s1 ⟨x, H1, I1, r1, a, C, dx, fs, ex, ea, c, n, l, q⟩ => ?_))
  subst ex
  obtain rfl : ov = Value.ref a := r1
  refine wpAny_bind (wpAny_standAt (wpAny_bind (wpAny_holding ?_)))
  exact setattr_ok I1 ea c n l r fun s3 I3 => wpAny_release ⟨σ, _, I3, q⟩
def dUnp2 (i : Nat) (f g : Str) (t : DE) : DS := fun DD ρ => t ρ fun ρ1 d => match d, getO ρ1 i with
  | .tup [x, y], some (.obj c ns ds) => ns.contains f = false ∧ (ns ++ [f]).contains g = false ∧ ns.length < 900 ∧ DD.nx ((ρ1.set i (.o (.obj c (ns ++ [f]) (ds ++ [x])))).set i (.o (.obj c (ns ++ [f] ++ [g]) (ds ++ [x] ++ [y]))))
  | _, _ => False
theorem getO_set {ρ : Ev} {i : Nat} {d : D} {s : Sl} (h : ρ.sl[i]? = some s) : (ρ.set i (.o d)).sl[i]? = some (.o d) := by
  have hi : i < ρ.sl.length := (List.getElem?_eq_some_iff.mp h).1
  show (ρ.sl.set i _)[i]? = _
  rw [List.getElem?_set_self hi]
theorem rsi_unp2 {i : Nat} {f g : Str} {te : TE} {t : DE} (re : RE W B te t) (hcls : ∀ c C, W.cls c = some C → Cls W.K C) (hnf : ∀ c C, W.cls c = some C → NoAttr W.K C f) (hng : ∀ c C, W.cls c = some C → NoAttr W.K C g) :
    RSI W B (tAsg te (gTup W.K 2 (gCons (gFld W.K (tVar i) f) (gCons (gFld W.K (tVar i) g) gNil)))) (dUnp2 i f g t) := by
  intro σ H F ρ D DD rl h k
  refine re σ H F ρ _ _ rl h fun y H1 F1 ρ1 d r1 s1 d1 h1 => ?_
  split at h1
  · rename_i x1 x2 c ns ds g1
    obtain ⟨a, xs, e, hs, hd1⟩ := d1
    obtain ⟨v1, v2, rfl, dv1, dv2⟩ := den2 hd1
    obtain ⟨p, e2, e3, C, dx, gs, hx, hc, hn, hd⟩ := r1.own g1
    subst hn
    obtain ⟨c1, c2, hl, hq⟩ := h1
    rw [List.length_map] at hl
    have own1 : OwnAt W F1 (upd H1 p (.ins C dx (gs ++ [(f, v1)]))) p (.obj c (gs.map (·.1) ++ [f]) (ds ++ [x1])) := ⟨C, dx, _, upd_same, hc, by rw [List.map_append]; rfl, by rw [List.map_append]; exact hd.append ⟨v1, [], rfl, dv1, rfl⟩⟩
    have r2 := r1.oset e2 e3 own1
    have own2 : OwnAt W F1 (upd (upd H1 p (.ins C dx (gs ++ [(f, v1)]))) p (.ins C dx (gs ++ [(f, v1)] ++ [(g, v2)]))) p (.obj c (gs.map (·.1) ++ [f] ++ [g]) (ds ++ [x1] ++ [x2])) := ⟨C, dx, _, upd_same, hc, by rw [List.map_append, List.map_append]; rfl, by
      rw [List.map_append, List.map_append]; exact (hd.append (DenL.cons dv1 DenL.nil)).append (DenL.cons dv2 DenL.nil)⟩
    have r3 := r2.oset (getO_set e2) e3 own2
    refine ⟨a, [v1, v2], e, sqT_of r1.ex hs, rfl, v1, [v2], rfl, .ref p, e3, p, C, dx, gs, rfl, hx, hcls _ _ hc, hnf _ _ hc, by omega, ?_⟩
    rw [putF_new c1]
    refine ⟨v2, [], rfl, .ref p, e3, p, C, dx, _, rfl, upd_same, hcls _ _ hc, hng _ _ hc, by rw [List.length_append, List.length_singleton]; omega, ?_⟩
    rw [putF_new (by rw [List.map_append]; exact c2)]
    exact ⟨rfl, k _ F1 _ r3 s1 hq⟩
  · exact h1.elim
/-- super().__init__(..): what stands above sets the attributes -/
def dSup (okc : Str → Bool) (G : GI) (a : DA) : DS := fun DD ρ => match getO ρ 0 with
  | some (.obj c0 _ _) => okc c0 = true ∧ a ρ fun ρ1 es => match getO ρ1 0 with
    | some (.obj c [] []) => G c es ρ1.c fun ns ds c' => DD.nx ((ρ1.set 0 (.o (.obj c ns ds))).cnt c')
    | _ => False
  | _ => False
theorem Rel.setO {i : Nat} {d d' : D} {p : Addr} (r : Rel W B F H σ ρ) (hs : ρ.sl[i]? = some (.o d)) (hp : σ[i]? = some (some (.ref p))) (own : OwnAt W F H p d') : Rel W B F H σ (ρ.set i (.o d')) := by
  obtain ⟨o, ho⟩ := own.ne
  have e : upd H p o = H := by
    funext b
    by_cases hb : b = p
    · subst hb; rw [upd_same, ho]
    · rw [upd_ne hb]
  have := r.oset (o := o) (d' := d') hs hp (by rw [e]; exact own)
  rw [e] at this
  exact this
/-- an own slot's object is changed by a call -/
theorem Rel.calledO {i c' : Nat} {d d' : D} {p : Addr} (r : Rel W B F H σ ρ) (hs : ρ.sl[i]? = some (.o d)) (hp : σ[i]? = some (some (.ref p))) (own : OwnAt W F' H' p d') (fp' : F' p = none)
    (k : Kept F H F' H' W.pw [p]) (w : WellOk W (bs0 F H) F' H' c') : Rel W B F' H' σ ((ρ.set i (.o d')).cnt c') := by
  have hi : i < ρ.sl.length := (List.getElem?_eq_some_iff.mp hs).1
  obtain ⟨p', e, fp, h0, hw, ow⟩ := r.sl i _ hs
  rw [hp] at e; cases e
  obtain ⟨o', ho'⟩ := own.ne
  -- the slot is emptied first
  have ru : Rel W B F H σ (ρ.set i .un) := by
    have at_ : ∀ {m : Nat} {z : D}, (ρ.set i .un).sl[m]? = some (.o z) → i ≠ m ∧ ρ.sl[m]? = some (.o z) := fun {m z} t => by
      have t : (ρ.sl.set i .un)[m]? = some (.o z) := t
      by_cases e : i = m
      · subst e
        rw [List.getElem?_set_self hi] at t; cases t
      · rw [List.getElem?_set_ne e] at t; exact ⟨e, t⟩
    refine ⟨r.ex, by show σ.length = (ρ.sl.set i _).length; rw [List.length_set]; exact r.len, fun j s hj => ?_, fun j k x y q hj hk h1 h2 => r.inj j k x y q (at_ hj).2 (at_ hk).2 h1 h2, r.well, r.keep, r.new, r.f0, r.ioH, r.hid, fun q hq j x hj h1 => r.hap q hq j x (at_ hj).2 h1, r.hnd⟩
    have t : (ρ.sl.set i .un)[j]? = some s := hj
    by_cases e : i = j
    · subst e
      rw [List.getElem?_set_self hi] at t; cases t; trivial
    · rw [List.getElem?_set_ne e] at t; exact r.sl j s t
  have ap : ∀ (j : Nat) (e : D), (ρ.set i .un).sl[j]? = some (.o e) → σ[j]? ≠ some (some (.ref p)) := fun j e h z => by
    have t : (ρ.sl.set i .un)[j]? = some (.o e) := h
    by_cases hij : i = j
    · subst hij
      rw [List.getElem?_set_self hi] at t; cases t
    · rw [List.getElem?_set_ne hij] at t
      exact hij (r.inj i j d e p hs t hp z)
  have nh : ∀ q ∈ B.hid, q.1 ≠ p := fun q hq z => r.hap q hq i d hs (by rw [z]; exact hp)
  have r3 := ru.calledI (c' := c') h0 ap nh own.nt k w
  -- and filled again
  have e : ∀ j, ((ρ.set i (.o d')).cnt c').sl[j]? = if i = j then some (.o d') else ((ρ.set i .un).cnt c').sl[j]? := fun j => by
    show (ρ.sl.set i (.o d'))[j]? = if i = j then some (.o d') else (ρ.sl.set i .un)[j]?
    by_cases hij : i = j
    · subst hij; rw [if_pos rfl, List.getElem?_set_self hi]
    · rw [if_neg hij, List.getElem?_set_ne hij, List.getElem?_set_ne hij]
  refine ⟨r3.ex, by show σ.length = (ρ.sl.set i _).length; rw [List.length_set]; exact r.len, fun j s hj => ?_, fun j k x y q hj hk h1 h2 => ?_, r3.well, r3.keep, r3.new, r3.f0, r3.ioH, r3.hid, fun q hq j x hj h1 => ?_, r3.hnd⟩
  · rw [e] at hj
    by_cases hij : i = j
    · subst hij
      rw [if_pos rfl] at hj
      cases hj
      exact ⟨p, hp, fp', h0, hw, own⟩
    · rw [if_neg hij] at hj; exact r3.sl j s hj
  · rw [e] at hj hk
    by_cases h3 : i = j <;> by_cases h4 : i = k
    · rw [← h3, ← h4]
    · rw [if_neg h4] at hk
      subst h3
      rw [hp] at h1; cases h1
      exact absurd h2 (ap k y hk)
    · rw [if_neg h3] at hj
      subst h4
      rw [hp] at h2; cases h2
      exact absurd h1 (ap j x hj)
    · rw [if_neg h3] at hj
      rw [if_neg h4] at hk
      exact r3.inj j k x y q hj hk h1 h2
  · rw [e] at hj
    by_cases hij : i = j
    · subst hij
      rw [hp] at h1; cases h1
      exact nh q hq rfl
    · rw [if_neg hij] at hj; exact r3.hap q hq j x hj h1
theorem rsi_sup {G : GI} {sp : Sp} {Dc f2 : Addr} {ta : TA} {a : DA} {E : XK} {okc : Str → Bool} (hsp : ∀ vs H Q E, spI W.K W.cls G vs H Q E → sp vs H Q E) (ra : RA W B ta a)
    (hok : ∀ c C, W.cls c = some C → okc c = true → PySem.W.mroIn W.K C (.ref Dc) = some true ∧ PySem.W.ks_superIn W.K C Dc "__init__" = some (some (.ref f2))) : RSI W B (tSup W.K Dc f2 sp E ta) (dSup okc G a) := by
  intro σ H F ρ D DD rl h k
  unfold dSup at h
  split at h
  · rename_i c0 ns0 ds0 g0
    obtain ⟨p, e2, e3, C, dx, gs, hx, hc, hn, hd⟩ := rl.own g0
    obtain ⟨hc0, h⟩ := h
    obtain ⟨m1, m2⟩ := hok c0 C hc hc0
    refine ⟨p, C, dx, gs, e3, hx, m1, m2, ?_⟩
    refine ra σ H F ρ _ _ rl h fun vs H1 F1 ρ1 es r1 s1 d1 h1 => ?_
    split at h1
    · rename_i c g1
      obtain ⟨p1, e4, e5, C1, dx1, gs1, hx1, hc1, hn1, hd1⟩ := r1.own g1
      have ep : p = p1 := by rw [e3] at e5; cases e5; rfl
      subst ep
      have eg : gs1 = [] := List.map_eq_nil_iff.mp hn1
      subst eg
      obtain ⟨p2, e6, fp, h0, hw, _⟩ := r1.sl 0 _ e4
      rw [e5] at e6; cases e6
      refine hsp _ _ _ _ ⟨F1, vs, es, ρ1.c, c, C1, dx1, p, W.pw, _, rfl, r1.ex, fp, hw, hx1, hc1, d1, r1.well.base (fun p hp z => nomatch z) (fun _ _ _ z => nomatch z), h1, fun H' F' ns ds c' kp fx own w q => ?_⟩
      exact k H' F' _ (r1.calledO e4 e5 own fx kp w) (s1.trans kp.ff) q
    · exact h1.elim
  · exact h.elim
/-- def __init__(self, *parts) -/
theorem star_of {K : PySem.W.Frag} {cls : Str → Option Addr} {G : GI} {vs : List V} {Q : VK} {E : XK} (h : spI K cls (fun cn ds c QD => ds.length ≤ sizeLine ∧ G cn [.tup ds] c QD) vs H Q E) :
    ∃ ws rest, vs = ws ++ rest ∧ ws.length = 1 ∧ rest.length ≤ sizeLine ∧ ∀ p, H p = none → spI K cls G (ws ++ [V.ref p]) (upd H p (.tup rest)) Q E := by
  obtain ⟨F, us, ds, c, cn, C, dx, p, pw, QD, rfl, ex, fp, hw, hp, hc, hd, w, ⟨hl, g⟩, k⟩ := h
  refine ⟨[.ref p], us, rfl, rfl, by rw [← hd.length]; exact hl, fun q hq => ?_⟩
  have st := Stp.one (o := .tup us) ex hq
  have hpq : p ≠ q := fun z => by rw [← z, hp] at hq; cases hq
  have w2 : WellOk ⟨K, cls, pw⟩ (bs0 (upd F q (.tup us)) (upd H q (.tup us))) (upd F q (.tup us)) (upd H q (.tup us)) c := (w.mono st.ff (fun a ha => by
    have hna : a ≠ q := fun z => w.hp (p := a) ha (by rw [z]; exact hq)
    exact ⟨by rw [upd_ne hna]; exact w.fp ha, by rw [upd_ne hna]⟩) fun P q t fP => ⟨st.new P (tabS_nt t) fP, st.tab P q t⟩).base (fun p hp z => nomatch z) fun _ _ _ z => nomatch z
  refine ⟨upd F q (.tup us), [.ref q], [.tup ds], c, cn, C, dx, p, pw, QD, rfl, st.fh, by rw [upd_ne hpq]; exact fp, hw, by rw [upd_ne hpq]; exact hp, hc, .cons ⟨q, us, rfl, upd_same, hd.mono st.ff⟩ rfl, w2, g, fun H' F' ns es c' kp fx own w' q' => ?_⟩
  refine k H' F' ns es c' ⟨st.ff.trans kp.ff, kp.fh, fun a o h1 h2 h3 => (st.hh _ _ h1).trans fun u e => kp.hh a u e h2 h3, fun a h1 h2 => kp.new a ?_ (st.new a h1 h2)⟩ fx own (w'.base (fun p hp z => nomatch z) fun _ _ _ z => nomatch z) q'
  exact nt_tw h1 fun o e => st.hh _ _ e
end
end DL

-- part DX3
set_option maxHeartbeats 4000000
/-! == and != by an own __eq__; bool by an own __bool__ -/
namespace DL
open PySem PySem.Spec PyProof.Rows L2
section
variable {M : Model} {prog : Program} {w : World} {A : Around} {E : Value → Shared → Prop} {s : Shared} {K : PySem.W.Frag} {x C f L : Addr} {ox : Obj} {od : Option Obj} {b tb : Value} {h₀ : Heap} {m : Str → Option Value}
open PySem.W in
theorem ifBound_objNe {args : List Value} {Q : Option Value → Shared → Prop} (X : K.In s.heap) (I : PySem.W.InstAt s.heap x ox C od) (hs : PySem.W.findIn K (.ref C) "__ne__" = some (some (.builtin "object.__ne__")))
    (h : wpAny M A (call (.builtin "object.__ne__") (.ref x :: args)) (fun v => Q (some v)) E s) : wpAny M A (callSpecialIfBound? (.ref x) "__ne__" args) Q E s := by
  simp only [callSpecialIfBound?, bindSpecialIfBound?]
  refine wpAny_holding (wpAny_bind (wpAny_bind (wpAny_bind (I.type.here ((PySem.W.looks_findIn X hs).here ?_)))))
  refine wpAny_bind (wpAny_askSetting (wpAny_ite ?_))
  have fin : wpAny M A (call (.builtin "object.__ne__") ([.ref x] ++ args) >>= fun v => pure (some v)) Q E s := wpAny_bind (wpAny_mono h (fun v s' h' => wpAny_pure h') fun _ _ h' => h')
  split
  · exact wpAny_bind (wpAny_of_eq (F.cmp_object.ne.bind _) (wpAny_pure (by exact fin)))
  · exact wpAny_tryCatch (wpAny_bind (wpAny_of_eq (F.cmp_object.ne.bind _) (wpAny_pure (by exact fin))))
theorem entry_objNe {Q : Fin → Shared → Prop} (X : K.In s.heap) (I : PySem.W.InstAt s.heap x ox C od) (hs : PySem.W.findIn K (.ref C) "__eq__" = some (some (.ref f))) (hf : PySem.W.isFn K (.ref f) = true) (hu : A.units < cLine)
    (hcall : wpAny (model prog w) A (call (.ref f) [.ref x, b]) (fun v s' => ∃ c, v = .bool c ∧ Q (.done (.ret (.bool (!c)))) s') E s) : wpAny (model prog w) A (Builtin.«object.__ne__» ⟨[.ref x, b], []⟩) Q E s := by
  obtain ⟨h, g, d, t, os⟩ := s
  unfold Builtin.«object.__ne__»
  repeat (first
    | with_reducible refine wpAny_cRoomFor hu ?_
    | (refine wpAny_bind (m := callSpecialIfBound? (.ref x) (Str.ofString "__eq__") [b])
        (PySem.W.ifBound_K X I hs hf (wpAny_mono hcall (fun r s' hr => by
          obtain ⟨b, rfl, hq⟩ := hr
          repeat (first | exact hq | exact wpAny_pure hq | exact wpAny_truthy_bool hq | (refine wpAny_bind (m := truthy (.bool _)) (wpAny_truthy_bool ?_)) | wp_step)) fun _ _ e => e)))
    | wp_step)
theorem ne_K {Q : Value → Shared → Prop} (hu : A.units + 1 < cLine) (X : K.In s.heap) (I : PySem.W.InstAt s.heap x ox C od) (hb : PySem.W.Looks (model prog w) s.heap (typeOf b) tb) (hn : PySem.W.notFirst K C tb = true)
    (hne : PySem.W.findIn K (.ref C) "__ne__" = some (some (.builtin "object.__ne__"))) (hm : PySem.W.mroIn K C (.type "object") = some true) (hs : PySem.W.findIn K (.ref C) "__eq__" = some (some (.ref f))) (hf : PySem.W.isFn K (.ref f) = true)
    (h : wpAny (model prog w) A.in1 (call (.ref f) [.ref x, b]) (fun v s' => ∃ c, v = .bool c ∧ Q (.bool (!c)) s') E s) : wpAny (model prog w) A (richCompare .NotEq (.ref x) b) Q E s := by
  have one : wpAny (model prog w) A (tryCompare (.ref x) "__ne__" b) (fun r s' => ∃ v, r = some v ∧ Q v s') E s := by
    unfold tryCompare
    refine wpAny_bind (ifBound_objNe X I hne (wpAny_call (codeAny_call_builtin F.cmp_object.ne.plain F.cmpEntry_ne (PySem.W.check_slot F.cmpKind_ne F.cmpSplit_ne (I.type.andThen (PySem.W.looks_mroIn X hm)) (F.cmpArgs_ne _ _)
      (entry_objNe X I hs hf hu (wpAny_mono h (fun v s' hv => ?_) fun _ _ e => e))))))
    obtain ⟨c, rfl, hq⟩ := hv
    first | exact ⟨c, rfl, wpAny_pure ⟨_, rfl, hq⟩⟩ | exact ⟨c, rfl, wpAny_pure (wpAny_pure ⟨_, rfl, hq⟩)⟩
  unfold richCompare
  simp only [oneThing_ref]
  refine wpAny_holding (wpAny_bind (wpAny_cRoomFor (Nat.lt_of_succ_lt hu) ?_))
  refine wpAny_bind (I.type.here (wpAny_bind (hb.here ?_)))
  rw [cmpInfo_NotEq]
  dsimp only
  split
  · rename_i q
    have e : PySem.W.subIn K tb (.ref C) = some false := by
      rcases Bool.or_eq_true_iff.mp hn with e | e
      · rw [beq_iff_eq.mp e] at q; simp at q
      · exact beq_iff_eq.mp e
    refine wpAny_bind ((PySem.W.looks_subIn X e).here ?_)
    simp only [Bool.false_eq_true, if_false]
    refine wpAny_bind (wpAny_mono one (fun r s' z => ?_) fun _ _ e => e)
    obtain ⟨v, rfl, hq⟩ := z
    exact wpAny_pure hq
  · refine wpAny_bind (wpAny_pure ?_)
    simp only [Bool.false_eq_true, if_false]
    refine wpAny_bind (wpAny_mono one (fun r s' z => ?_) fun _ _ e => e)
    obtain ⟨v, rfl, hq⟩ := z
    exact wpAny_pure hq
end
/-- x == y, x an instance of an own class whose __eq__ is at f -/
def rEqI (K : PySem.W.Frag) (f : Addr) (sp : Sp) (E : XK) : R2 := fun x y H Q => ∃ a C dx fs tb, x = .ref a ∧ H a = some (.ins C dx fs) ∧ TyX K H y tb ∧ PySem.W.notFirst K C tb = true ∧ PySem.W.findIn K (.ref C) "__eq__" = some (some (.ref f)) ∧ sp [x, y] H Q E
def rNeI (K : PySem.W.Frag) (f : Addr) (sp : Sp) (E : XK) : R2 := fun x y H Q => ∃ a C dx fs tb, x = .ref a ∧ H a = some (.ins C dx fs) ∧ TyX K H y tb ∧ PySem.W.notFirst K C tb = true ∧ PySem.W.findIn K (.ref C) "__eq__" = some (some (.ref f)) ∧
  PySem.W.findIn K (.ref C) "__ne__" = some (some (.builtin "object.__ne__")) ∧ PySem.W.mroIn K C (.type "object") = some true ∧ sp [x, y] H (fun v H' => ∃ b, v = .bl b ∧ Q (.bl (!b)) H') E
section
variable {X : Cx} {CX : CXT} {n : Nat} {f : Addr} {sp : Sp} {E : XK}
theorem op_eqI (hf : PySem.W.isFn X.K (.ref f) = true) (F : FnR X.prog X.w X.K X.mg X.base CX n f sp) (hr : Room n X.A) (hx : Passes CX X E) : OpR X (compareOp .Eq) (rEqI X.K f sp E) := by
  intro pins s σ H x y v u Q I rx ry h
  obtain ⟨a, C, dx, fs, tb, rfl, ha, ty, hn, hs, q⟩ := h
  cases (show v = Value.ref a from rx)
  obtain ⟨mA, O, _⟩ := ins_get I.hok ha
  obtain ⟨oda, J, _⟩ := O.look
  obtain ⟨P, kx, hP, _⟩ := kit_of I ry ty
  obtain ⟨m, hF⟩ := I.fr
  refine PySem.W.cmp_K (op := .Eq) (tb := tb) hr.units0 hF I.ok.mod.kin J (kx.ty _ _ I.kIn hP) hn hs hf ?_
  refine wpAny_mono (wpAny_call (run_fnR (us := [.ref a, u]) (vs := [.ref a, y]) F hr hx I (.cons rfl (.cons ry .nil)) q)) (fun w s' z => ?_) fun _ _ x => x
  obtain ⟨z', H', I', rz, qz⟩ := z
  exact SlX.cmpback rz ⟨z', H', I', rz, qz⟩
theorem op_neI (hf : PySem.W.isFn X.K (.ref f) = true) (F : FnR X.prog X.w X.K X.mg X.base CX n f sp) (hr : Room (n + 1) X.A) (hx : Passes CX X E) : OpR X (compareOp .NotEq) (rNeI X.K f sp E) := by
  intro pins s σ H x y v u Q I rx ry h
  obtain ⟨a, C, dx, fs, tb, rfl, ha, ty, hn, hs, hne, hm, q⟩ := h
  cases (show v = Value.ref a from rx)
  obtain ⟨mA, O, _⟩ := ins_get I.hok ha
  obtain ⟨oda, J, _⟩ := O.look
  obtain ⟨P, kx, hP, _⟩ := kit_of I ry ty
  refine ne_K (tb := tb) (by have := hr.un; omega) I.kIn J (kx.ty _ _ I.kIn hP) hn hne hm hs hf ?_
  refine wpAny_call (codeAny_mono (F X.A.in1 X.stack s H [.ref a, u] [.ref a, y] _ E hr.in1 I.env0.in1 (.cons rfl (.cons ry .nil)) q) fun r s' hq => ?_)
  cases r with
  | error e => exact hx pins σ _ _ e s' I hq
  | ok fl =>
    cases fl with
    | ret u' =>
      obtain ⟨v', H', I3, rv, c, ev, q3⟩ := I.after hq
      subst ev
      exact ⟨c, rv, .bl (!c), H', I3, rfl, q3⟩
    | next => exact False.elim hq
    | brk => exact False.elim hq
    | cont => exact False.elim hq
end
/-! ### bool(x) -/
theorem meets_boolI {prog : Program} {w : World} (x : Addr) : PySem.MeetsIn prog w (Builtin.«bool.__new__» ⟨[.type "bool", .ref x], []⟩) (fun A R s => wpAny (model prog w) A.in1 (truthy (.ref x)) (fun b s' => R (.ok (.ret (.bool b))) s') (fun e s' => R (.error e) s') s) := fun A R s hs => by
  obtain ⟨hp, g, d, tk, os⟩ := s
  have f1 := F.conv_sub_bool
  have hs' : wpAny (model prog w) A.in1 (truthy (.ref x)) (fun b s' => R (.ok (.ret (.bool b))) s') (fun e s' => R (.error e) s') ⟨hp, g, d, tk, os⟩ := hs
  unfold Builtin.«bool.__new__»
  repeat (any_goals (first | assumption | (with_reducible refine wpAny_mono hs' (fun b s2 h2 => ?_) fun _ _ z => z) | wp_step))
/-- bool(x), x an instance of an own class with its own __bool__ -/
def rBoolI (K : PySem.W.Frag) (G : Addr → Prop) (sp : Addr → Sp) (E : XK) : List V → Hp → VK → Prop := fun xs H Q => ∃ a C dx fs g, xs = [.ref a] ∧ H a = some (.ins C dx fs) ∧ PySem.W.findIn K (.ref C) "__bool__" = some (some (.ref g)) ∧ G g ∧ sp g [.ref a] H (fun v H' => ∃ b, v = .bl b ∧ Q (.bl b) H') E
section
variable {X : Cx} {CX : CXT} {n : Nat} {G : Addr → Prop} {sp : Addr → Sp} {E : XK}
theorem call_boolI (hf : ∀ g, G g → PySem.W.isFn X.K (.ref g) = true) (Fb : ∀ g, G g → FnR X.prog X.w X.K X.mg X.base CX n g (sp g)) (hr : Room (n + 2) X.A) (hx : Passes CX X E) : CallR X (.type "bool") (rBoolI X.K G sp E) := by
  intro pins s σ H xs us Q I r h
  obtain ⟨a, C, dx, fs, g, rfl, ha, hs, hg, q⟩ := h
  obtain rfl := Vals.ref1 r
  obtain ⟨mA, O, _⟩ := ins_get I.hok ha
  obtain ⟨oda, J, _⟩ := O.look
  obtain ⟨m, hF⟩ := I.fr
  refine callType_newIn F.called_bool F.newNe_bool (F.typeCall_bool_1 _) (F.newCall_bool_1 _) (fun obj => F.args_object_init_2 obj _) F.entry_bool_new (meets_boolI a) ?_
  show wpAny (model X.prog X.w) X.A.in1.in1 (truthy (.ref a)) _ _ s
  refine PySem.W.truthy_K hF I.ok.mod.kin J hs (hf g hg) ?_
  refine wpAny_call (codeAny_mono (Fb g hg X.A.in1.in1 X.stack s H [.ref a] [.ref a] _ E hr.in1.in1 I.env0.in1.in1 (.cons rfl .nil) q) fun r s' hq => ?_)
  cases r with
  | error e => exact hx pins σ _ _ e s' I hq
  | ok fl =>
    cases fl with
    | ret u' =>
      obtain ⟨v', H', I3, rv, c, ev, q3⟩ := I.after hq
      subst ev
      obtain rfl : u' = Value.bool c := rv
      exact ⟨rfl, .bl c, H', I3, rfl, q3⟩
    | next => exact False.elim hq
    | brk => exact False.elim hq
    | cont => exact False.elim hq
end
end DL

-- part DL8
set_option maxHeartbeats 4000000
/-! == and != and bool of instances, isinstance of an own class, over trees -/
namespace DL
open PySem L2
structure InsT (K : PySem.W.Frag) (cls : Str → Option Addr) : Prop where
  cl : ∀ c C, cls c = some C → Cls K C
  ha : ∀ c C, cls c = some C → PySem.W.findIn K (.ref C) "__class__" = some (some (.builtin "object.__class__"))
  hn : PySem.W.specialIn K (.builtin "object.__class__") "__get__" = some (some (.builtin "getset_descriptor.__get__"))
  ht : PySem.W.takesIn K (.builtin "object.__class__") = some true
  hm : ∀ c C, cls c = some C → PySem.W.mroIn K C (.type "object") = some true
section
variable {W : Wd} {B : Bs} {F F' H H' : Hp} {σ : St} {ρ : Ev}
theorem tyx_obj (T : InsT W.K W.cls) (e : Same F H) {c : Str} {ns : List Str} {ds : List D} {v : V} {t : Value} (h : Den W F (.obj c ns ds) v) (ht : tyD W (.obj c ns ds) = some t) : TyX W.K H v t := by
  obtain ⟨a, C, dx, gs, ev, hf, hc, hn, hd⟩ := h
  have ht : (W.cls c).map Value.ref = some t := ht
  rw [hc] at ht
  cases ht
  rw [ev]
  exact .base (.ins (e _ _ hf) (T.cl _ _ hc) (T.ha _ _ hc) T.hn T.ht (T.hm _ _ hc))
/-- isinstance(x, an own class): of instances and tuples -/
def isSubD (isSub : Str → Option Bool) : D → Option Bool
  | .obj c _ _ => isSub c
  | .tup _ => some false
  | _ => none
theorem kok_own (T : InsT W.K W.cls) {C0 : Addr} {isSub : Str → Option Bool} (h1 : ∀ c C b, W.cls c = some C → isSub c = some b → PySem.W.kitOne W.K (.ref C) (.ref C0) = some b) (hcl : ∀ c b, isSub c = some b → ∃ C, W.cls c = some C)
    (h2 : PySem.W.kitOne W.K (.type "tuple") (.ref C0) = some false) : KOk W (isSubD isSub) (.ref C0) := fun d b h => by
  cases d with
  | obj c ns ds =>
    obtain ⟨C, hC⟩ := hcl c b h
    exact ⟨.ref C, by show (W.cls c).map Value.ref = _; rw [hC]; rfl, h1 c C b hC h, fun F H v e dv => tyx_obj T e dv (by show (W.cls c).map Value.ref = _; rw [hC]; rfl)⟩
  | tup xs =>
    cases h
    exact ⟨_, rfl, h2, fun F H v e dv => tyx_of e dv rfl⟩
  | _ => cases h
def isOT : D → Bool
  | .obj _ _ _ => true
  | .tup _ => true
  | _ => false
/-- what the written part tells of comparisons -/
structure EqT (K : PySem.W.Frag) (cls : Str → Option Addr) (f : Addr) : Prop where
  ins : InsT K cls
  eq : ∀ c C, cls c = some C → PySem.W.findIn K (.ref C) "__eq__" = some (some (.ref f))
  ne : ∀ c C, cls c = some C → PySem.W.findIn K (.ref C) "__ne__" = some (some (.builtin "object.__ne__"))
  nf : ∀ c C c' C', cls c = some C → cls c' = some C' → PySem.W.notFirst K C (.ref C') = true
  nt : ∀ c C, cls c = some C → PySem.W.notFirst K C (.type "tuple") = true
theorem EqT.ty (T : EqT W.K W.cls f) (e : Same F H) {c : Str} {C : Addr} {d : D} {v : V} (hc : W.cls c = some C) (ho : isOT d = true) (h : Den W F d v) : ∃ t, TyX W.K H v t ∧ PySem.W.notFirst W.K C t = true := by
  cases d with
  | obj c' ns ds =>
    have h' := h
    obtain ⟨a, C', dx, gs, ev, hf, hc', hn, hd⟩ := h
    exact ⟨.ref C', tyx_obj T.ins e h' (by show (W.cls c').map Value.ref = _; rw [hc']; rfl), T.nf _ _ _ _ hc hc'⟩
  | tup xs => exact ⟨_, tyx_of e h rfl, T.nt _ _ hc⟩
  | _ => cases ho
def gEqO (G : GF) : D → D → Ev → (Ev → D → Prop) → Prop := fun x y ρ Q => match x with
  | .obj c ns ds => isOT y = true ∧ G [.obj c ns ds, y] ρ.c fun d c' => Q (ρ.cnt c') d
  | _ => False
def gNeO (G : GF) : D → D → Ev → (Ev → D → Prop) → Prop := fun x y ρ Q => match x with
  | .obj c ns ds => isOT y = true ∧ G [.obj c ns ds, y] ρ.c fun d c' => match d with | .bl b => Q (ρ.cnt c') (.bl (!b)) | _ => False
  | _ => False
theorem re_eqI {f : Addr} {G : GF} {ta tb : TE} {a b : DE} {E : XK} (T : EqT W.K W.cls f) (ra : RE W B ta a) (rb : RE W B tb b) : RE W B (tOp (rEqI W.K f (spD W.K W.cls G) E) ta tb) (fun ρ Q => a ρ fun ρ1 x => b ρ1 fun ρ2 y => gEqO G x y ρ2 Q) :=
  re_bin ra rb fun σ H F ρ x y dx dy Q R r d1 d2 h k => by
    unfold gEqO at h
    split at h
    · rename_i c ns ds
      obtain ⟨ho, h⟩ := h
      have d1' := d1
      obtain ⟨p, C, dxx, gs, ev, hf, hc, hn, hd⟩ := d1
      obtain ⟨t, ht, hnf⟩ := T.ty r.ex hc ho d2
      refine ⟨p, C, dxx, gs, t, ev, r.ex _ _ hf, ht, hnf, T.eq _ _ hc, ?_⟩
      exact r.spD (.cons d1' (.cons d2 DenL.nil)) h fun v H' F' ρ' d r' s' dv q => k v H' F' ρ' d r' s' dv q
    · exact h.elim
theorem re_neI {f : Addr} {G : GF} {ta tb : TE} {a b : DE} {E : XK} (T : EqT W.K W.cls f) (ra : RE W B ta a) (rb : RE W B tb b) : RE W B (tOp (rNeI W.K f (spD W.K W.cls G) E) ta tb) (fun ρ Q => a ρ fun ρ1 x => b ρ1 fun ρ2 y => gNeO G x y ρ2 Q) :=
  re_bin ra rb fun σ H F ρ x y dx dy Q R r d1 d2 h k => by
    unfold gNeO at h
    split at h
    · rename_i c ns ds
      obtain ⟨ho, h⟩ := h
      have d1' := d1
      obtain ⟨p, C, dxx, gs, ev, hf, hc, hn, hd⟩ := d1
      obtain ⟨t, ht, hnf⟩ := T.ty r.ex hc ho d2
      refine ⟨p, C, dxx, gs, t, ev, r.ex _ _ hf, ht, hnf, T.eq _ _ hc, T.ne _ _ hc, T.ins.hm _ _ hc, ?_⟩
      refine r.spD (Q := fun ρ' d => match d with | .bl b => Q ρ' (.bl (!b)) | _ => False) (.cons d1' (.cons d2 DenL.nil)) h fun v H' F' ρ' d r' s' dv q => ?_
      split at q
      · rename_i b
        have ev : v = .bl b := dv
        exact ⟨b, ev, k (.bl (!b)) H' F' ρ' (.bl (!b)) r' s' rfl q⟩
      · exact q.elim
    · exact h.elim
/-- bool(x) -/
def gBoolO (bOf : Str → Option Bool) : List D → Ev → (Ev → D → Prop) → Prop := fun ds ρ Q => match ds with
  | [.obj c _ _] => match bOf c with | some b => Q ρ (.bl b) | none => False
  | _ => False
def gB (b : Bool) : GF := fun ds c Q => ∃ x, ds = [x] ∧ Q (.bl b) c
theorem re_boolI {G : Addr → Prop} {bv : Addr → Bool} {bOf : Str → Option Bool} {ta : TA} {a : DA} {E : XK} (hb : ∀ c C b, W.cls c = some C → bOf c = some b → ∃ g, PySem.W.findIn W.K (.ref C) "__bool__" = some (some (.ref g)) ∧ G g ∧ bv g = b) (ra : RA W B ta a) :
    RE W B (tCB (rBoolI W.K G (fun g => spD W.K W.cls (gB (bv g))) E) ta) (fun ρ Q => a ρ fun ρ1 ds => gBoolO bOf ds ρ1 Q) :=
  re_cb ra fun σ H F ρ vs ds Q R r d h k => by
    unfold gBoolO at h
    split at h
    · rename_i c ns ds
      obtain ⟨x, rfl, d1⟩ := den1 d
      have d1' := d1
      split at h
      · rename_i b eb
        obtain ⟨p, C, dxx, gs, ev, hf, hc, hn, hd⟩ := d1
        obtain ⟨g, hg, gg, bg⟩ := hb c C b hc eb
        subst ev
        refine ⟨p, C, dxx, gs, g, rfl, r.ex _ _ hf, hg, gg, ?_⟩
        refine r.spD (G := gB (bv g)) (Q := fun ρ' d => d = .bl b ∧ Q ρ' (.bl b)) (.cons d1' DenL.nil) ⟨_, rfl, by rw [bg]; exact ⟨rfl, h⟩⟩ fun v H' F' ρ' d r' s' dv q => ?_
        obtain ⟨q1, q2⟩ := q
        subst q1
        have ev : v = .bl b := dv
        exact ⟨b, ev, k (.bl b) H' F' ρ' (.bl b) r' s' rfl q2⟩
      · exact h.elim
    · exact h.elim
/-- x, y, z = a, b, c -/
def dPar3 (i j l : Nat) (t : DA) : DS := fun DD ρ => t ρ fun ρ1 ds => match ds with | [x, y, z] => DD.nx (((ρ1.set i (.v x)).set j (.v y)).set l (.v z)) | _ => False
theorem rs_par3 {i j l : Nat} {ta : TA} {t : DA} (ra : RA W B ta t) : RS W B (tPar3 i j l ta) (dPar3 i j l t) := by
  intro σ H F ρ D DD rl h f
  refine ra σ H F ρ _ _ rl h fun vs H1 F1 ρ1 ds r1 s1 d1 h1 => ?_
  split at h1
  · rename_i x y z
    obtain ⟨u, r0, e0, du, hr⟩ := d1
    obtain ⟨v, w', e1, dv, dw⟩ := den2 hr
    subst e1 e0
    exact ⟨u, v, w', rfl, f.nx _ _ F1 _ (((r1.setv du).setv dv).setv dw) s1 h1⟩
  · exact h1.elim
end
end DL

-- part DL9
set_option maxHeartbeats 4000000
/-! sums, all, any, greatest, least, sorted, joined, stars, slices of tuples, over trees -/
namespace DL
open PySem PySem.Spec PyProof.Rows L2
/-- list + list, whatever lists -/
def rCatS (K : PySem.W.Frag) : R2 := fun x y H Q => ∃ l b xs zs, x = .ref l ∧ y = .ref b ∧ SqL K H l xs ∧ SqL K H b zs ∧ xs.length + zs.length ≤ sizeLine ∧ ∀ p, H p = none → Q (.ref p) (upd H p (.lst (xs ++ zs)))
theorem op_catS {X : Cx} : OpR X (binaryOp .Add) (rCatS X.K) := by
  intro pins s σ H x y v u Q I rx ry h
  obtain ⟨l, b, xs, zs, rfl, rfl, hH, hB, hz, q⟩ := h
  cases rx
  cases ry
  obtain ⟨its, r, pl, z⟩ := I.list hH
  obtain ⟨its2, r2, pl2, z2⟩ := I.list hB
  obtain ⟨⟨c1, d1, da1, s1⟩, n1, g1, hc1, _, hd1⟩ := pl
  obtain ⟨⟨c2, d2, da2, s2⟩, n2, g2, hc2, _, hd2⟩ := pl2
  simp only at hc1 hd1 hc2 hd2
  subst hc1 hd1 hc2 hd2
  have hl := r.length
  have hl2 := r2.length
  refine concat_meets ⟨_, g1, rfl⟩ ⟨_, g2, rfl⟩ noFill_list_add seq_list_add PySem.F.slot_list_add PySem.F.entry_list_add (PySem.F.args_list_add_2 _ _) (list_addW l b its.toArray its2.toArray n1 n2 d1 d2 s1 s2 (by rw [List.size_toArray, List.size_toArray]; omega)) ⟨g1, g2, ?_⟩
  have ea : its.toArray ++ its2.toArray = (its ++ its2).toArray := by simp
  rw [ea]
  exact ⟨.ref _, _, I.lnew (t' := s.toks) (r.append r2) (by rw [List.length_append]; omega), rfl, q _ I.fresh⟩
section
variable {W : Wd} {B : Bs} {F F' H H' : Hp} {σ : L2.St} {ρ : Ev}
def gCat : D → D → Ev → (Ev → D → Prop) → Prop := fun x y ρ Q => match x, y with
  | .lst xs, .lst ys => xs.length + ys.length ≤ sizeLine ∧ Q ρ (.lst (xs ++ ys))
  | _, _ => False
theorem re_catS {ta tb : TE} {a b : DE} (ra : RE W B ta a) (rb : RE W B tb b) : RE W B (tOp (rCatS W.K) ta tb) (fun ρ Q => a ρ fun ρ1 x => b ρ1 fun ρ2 y => gCat x y ρ2 Q) :=
  re_bin ra rb fun σ H F ρ x y dx dy Q R r d1 d2 h k => by
    unfold gCat at h
    split at h
    · obtain ⟨p, xs, e1, hs1, hd1⟩ := d1
      obtain ⟨q, ys, e2, hs2, hd2⟩ := d2
      refine ⟨p, q, xs, ys, e1, e2, same_sqL r.ex hs1, same_sqL r.ex hs2, by rw [← hd1.length, ← hd2.length]; exact h.1, fun l hl => ?_⟩
      have st := Stp.one (o := .lst (xs ++ ys)) r.ex hl
      exact k _ _ _ ρ (.lst _) (r.stp st) st.ff ⟨l, _, rfl, .inl (.inl upd_same), (hd1.append hd2).mono st.ff⟩ h.2
    · exact h.elim
def gCatT : D → D → Ev → (Ev → D → Prop) → Prop := fun x y ρ Q => match x, y with
  | .tup xs, .tup ys => xs ≠ [] ∧ xs.length + ys.length ≤ sizeLine ∧ Q ρ (.tup (xs ++ ys))
  | _, _ => False
theorem re_catT {ta tb : TE} {a b : DE} (ra : RE W B ta a) (rb : RE W B tb b) : RE W B (tOp (rCatT W.K) ta tb) (fun ρ Q => a ρ fun ρ1 x => b ρ1 fun ρ2 y => gCatT x y ρ2 Q) :=
  re_bin ra rb fun σ H F ρ x y dx dy Q R r d1 d2 h k => by
    unfold gCatT at h
    split at h
    · obtain ⟨p, xs, e1, hs1, hd1⟩ := d1
      obtain ⟨q, ys, e2, hs2, hd2⟩ := d2
      have l1 := hd1.length
      have l2 := hd2.length
      refine ⟨p, q, xs, ys, e1, e2, sqT_of r.ex hs1, sqT_of r.ex hs2, fun z => h.1 (List.length_eq_zero_iff.mp (by rw [l1, z]; rfl)), by rw [← l1, ← l2]; exact h.2.1, fun z => ?_, fun _ l hl => ?_⟩
      · subst z
        have e0 := List.length_eq_zero_iff.mp (l2.trans rfl)
        subst e0
        exact k _ H F ρ (.tup _) r (Same.refl _) ⟨p, xs, rfl, hs1, by rw [List.append_nil]; exact hd1⟩ h.2.2
      · have st := Stp.one (o := .tup (xs ++ ys)) r.ex hl
        exact k _ _ _ ρ (.tup _) (r.stp st) st.ff ⟨l, _, rfl, upd_same, (hd1.append hd2).mono st.ff⟩ h.2.2
    · exact h.elim
/-- sum of a list of ints -/
theorem re_sum {ta : TA} {a : DA} (ra : RA W B ta a) : RE W B (tCB (rSum W.K) ta) (fun ρ Q => a ρ fun ρ1 ds => ∃ ns : List Int, ds = [.lst (ns.map .int)] ∧ Q ρ1 (.int ns.sum)) :=
  re_cb ra (g := fun ds ρ1 Q => ∃ ns : List Int, ds = [.lst (ns.map .int)] ∧ Q ρ1 (.int ns.sum)) fun σ H F ρ vs ds Q R r d h k => by
    obtain ⟨ns, rfl, h⟩ := h
    obtain ⟨x, rfl, p, xs, rfl, hs, hd⟩ := den1 d
    rw [denL_ints_inv hd] at hs
    exact ⟨p, ns, rfl, same_sqL r.ex hs, k _ H F ρ (.int _) r (Same.refl _) rfl h⟩
theorem denL_bls_inv {W : Wd} {F : Hp} : ∀ {ns : List Bool} {xs : List V}, DenL W F (ns.map D.bl) xs → xs = ns.map V.bl
  | [], _, h => h
  | n :: ns, _, ⟨x, r, ev, h1, h2⟩ => by
    have h1 : x = .bl n := h1
    rw [ev, h1, denL_bls_inv h2]; rfl
theorem re_all {ta : TA} {a : DA} (ra : RA W B ta a) : RE W B (tCB (rAll W.K) ta) (fun ρ Q => a ρ fun ρ1 ds => ∃ bs : List Bool, ds = [.lst (bs.map .bl)] ∧ Q ρ1 (.bl (bs.all id))) :=
  re_cb ra (g := fun ds ρ1 Q => ∃ bs : List Bool, ds = [.lst (bs.map .bl)] ∧ Q ρ1 (.bl (bs.all id))) fun σ H F ρ vs ds Q R r d h k => by
    obtain ⟨ns, rfl, h⟩ := h
    obtain ⟨x, rfl, p, xs, rfl, hs, hd⟩ := den1 d
    rw [denL_bls_inv hd] at hs
    exact ⟨p, ns, rfl, same_sqL r.ex hs, k _ H F ρ (.bl _) r (Same.refl _) rfl h⟩
theorem re_any {ta : TA} {a : DA} (ra : RA W B ta a) : RE W B (tCB (rAny W.K) ta) (fun ρ Q => a ρ fun ρ1 ds => ∃ bs : List Bool, ds = [.lst (bs.map .bl)] ∧ Q ρ1 (.bl (bs.any id))) :=
  re_cb ra (g := fun ds ρ1 Q => ∃ bs : List Bool, ds = [.lst (bs.map .bl)] ∧ Q ρ1 (.bl (bs.any id))) fun σ H F ρ vs ds Q R r d h k => by
    obtain ⟨ns, rfl, h⟩ := h
    obtain ⟨x, rfl, p, xs, rfl, hs, hd⟩ := den1 d
    rw [denL_bls_inv hd] at hs
    exact ⟨p, ns, rfl, same_sqL r.ex hs, k _ H F ρ (.bl _) r (Same.refl _) rfl h⟩
theorem re_max {ta : TA} {a : DA} (ra : RA W B ta a) : RE W B (tCB (rMax W.K) ta) (fun ρ Q => a ρ fun ρ1 ds => ∃ ns : List Int, ds = [.lst (ns.map .int)] ∧ 0 < ns.length ∧ ∀ m, m ∈ ns → (∀ y, y ∈ ns → y ≤ m) → Q ρ1 (.int m)) :=
  re_cb ra (g := fun ds ρ1 Q => ∃ ns : List Int, ds = [.lst (ns.map .int)] ∧ 0 < ns.length ∧ ∀ m, m ∈ ns → (∀ y, y ∈ ns → y ≤ m) → Q ρ1 (.int m)) fun σ H F ρ vs ds Q R r d h k => by
    obtain ⟨ns, rfl, h0, h⟩ := h
    obtain ⟨x, rfl, p, xs, rfl, hs, hd⟩ := den1 d
    rw [denL_ints_inv hd] at hs
    exact ⟨p, ns, rfl, same_sqL r.ex hs, h0, fun m h1 h2 => k _ H F ρ (.int _) r (Same.refl _) rfl (h m h1 h2)⟩
theorem re_min {ta : TA} {a : DA} (ra : RA W B ta a) : RE W B (tCB (rMin W.K) ta) (fun ρ Q => a ρ fun ρ1 ds => ∃ ns : List Int, ds = [.lst (ns.map .int)] ∧ 0 < ns.length ∧ ∀ m, m ∈ ns → (∀ y, y ∈ ns → m ≤ y) → Q ρ1 (.int m)) :=
  re_cb ra (g := fun ds ρ1 Q => ∃ ns : List Int, ds = [.lst (ns.map .int)] ∧ 0 < ns.length ∧ ∀ m, m ∈ ns → (∀ y, y ∈ ns → m ≤ y) → Q ρ1 (.int m)) fun σ H F ρ vs ds Q R r d h k => by
    obtain ⟨ns, rfl, h0, h⟩ := h
    obtain ⟨x, rfl, p, xs, rfl, hs, hd⟩ := den1 d
    rw [denL_ints_inv hd] at hs
    exact ⟨p, ns, rfl, same_sqL r.ex hs, h0, fun m h1 h2 => k _ H F ρ (.int _) r (Same.refl _) rfl (h m h1 h2)⟩
theorem re_sortedI {ta : TA} {a : DA} (ra : RA W B ta a) : RE W B (tCB (rSorted W.K) ta) (fun ρ Q => a ρ fun ρ1 ds => ∃ ns : List Int, ds = [.lst (ns.map .int)] ∧ ns.length < 64 ∧ ∀ ms : List Int, ms.Perm ns → ms.Pairwise (· ≤ ·) → Q ρ1 (.lst (ms.map .int))) :=
  re_cb ra (g := fun ds ρ1 Q => ∃ ns : List Int, ds = [.lst (ns.map .int)] ∧ ns.length < 64 ∧ ∀ ms : List Int, ms.Perm ns → ms.Pairwise (· ≤ ·) → Q ρ1 (.lst (ms.map .int))) fun σ H F ρ vs ds Q R r d h k => by
    obtain ⟨ns, rfl, h0, h⟩ := h
    obtain ⟨x, rfl, p, xs, rfl, hs, hd⟩ := den1 d
    rw [denL_ints_inv hd] at hs
    refine ⟨p, ns, rfl, same_sqL r.ex hs, h0, fun ms q h1 h2 hq => ?_⟩
    have st := Stp.one (o := .lst (ms.map V.int)) r.ex hq
    exact k _ _ _ ρ (.lst _) (r.stp st) st.ff ⟨q, _, rfl, .inl (.inl upd_same), denL_ints ms⟩ (h ms h1 h2)
/-- *e among arguments or in a display -/
theorem ra_star {te : TE} {t : DE} {ta : TA} {a : DA} (re : RE W B te t) (ra : RA W B ta a) : RA W B (StX.tStar W.K te ta) (fun ρ Q => t ρ fun ρ1 x => match x with
    | .lst xs => a ρ1 fun ρ2 ys => Q ρ2 (xs ++ ys)
    | .tup xs => a ρ1 fun ρ2 ys => Q ρ2 (xs ++ ys)
    | _ => False) := by
  intro σ H F ρ Q R rl h k
  refine re σ H F ρ _ _ rl h fun x H1 F1 ρ1 dx r1 s1 d1 h1 => ?_
  split at h1
  · obtain ⟨p, xs, e, hs, hd⟩ := d1
    refine ⟨p, xs, e, .inr (same_sqL r1.ex hs), ?_⟩
    exact ra σ H1 F1 ρ1 _ _ r1 h1 fun vs H2 F2 ρ2 ds r2 s2 d2 h2 => k _ H2 F2 ρ2 _ r2 (s1.trans s2) ((hd.mono s2).append d2) h2
  · obtain ⟨p, xs, e, hs, hd⟩ := d1
    refine ⟨p, xs, e, .inl (sqT_of r1.ex hs), ?_⟩
    exact ra σ H1 F1 ρ1 _ _ r1 h1 fun vs H2 F2 ρ2 ds r2 s2 d2 h2 => k _ H2 F2 ρ2 _ r2 (s1.trans s2) ((hd.mono s2).append d2) h2
  · exact h1.elim
/-- a slice of a tuple, the whole of it too -/
theorem re_slT {te : TE} {tl th : TO} {t : DE} {a b : DO} (re : RE W B te t) (ra : RO W B tl a) (rb : RO W B th b) :
    RE W B (tSl (rSlA W.K) te tl th) (fun ρ Q => t ρ fun ρ1 x => a ρ1 fun ρ2 lo => b ρ2 fun ρ3 hi => match x with | .tup ds => Q ρ3 (.tup (cutD ds lo hi)) | _ => False) := by
  intro σ H F ρ Q R rl h k
  refine re σ H F ρ _ _ rl h fun x H1 F1 ρ1 dx r1 s1 d1 h1 => ?_
  refine ra σ H1 F1 ρ1 _ _ r1 h1 fun lo H2 F2 ρ2 r2 s2 h2 => ?_
  refine rb σ H2 F2 ρ2 _ _ r2 h2 fun hi H3 F3 ρ3 r3 s3 h3 => ?_
  split at h3
  · rename_i ds
    obtain ⟨a, xs, e, hs, hd⟩ := (d1.mono (s2.trans s3))
    have hl := hd.length
    refine ⟨a, xs, e, sqT_of r3.ex hs, fun w => ?_, fun _ p hp => ?_⟩
    · have ec : cutD ds lo hi = ds := by
        unfold cutD
        rw [hl, w.1, w.2, List.drop_zero, Nat.sub_zero, ← hl, List.take_length]
      rw [ec] at h3
      exact k _ H3 F3 ρ3 (.tup ds) r3 ((s1.trans s2).trans s3) ⟨a, xs, rfl, hs, hd⟩ h3
    · have st := Stp.one (o := .tup (cutV xs lo hi)) r3.ex hp
      exact k _ _ _ ρ3 (.tup (cutD ds lo hi)) (r3.stp st) (((s1.trans s2).trans s3).trans st.ff) ⟨p, _, rfl, upd_same, (denL_cut hd).mono st.ff⟩ h3
  · exact h3.elim
end
end DL

-- part DX5
set_option maxHeartbeats 4000000
/-! sorted(a list of data that are alike) -/
namespace DL
open PySem PySem.Spec PyProof.Rows L2
def pD (d : D) : PyData := (toP d).getD .none
def leD (x y : D) : Bool := PySem.W.dataLe false pD x y
def rSortedDat (K : PySem.W.Frag) : List V → Hp → VK → Prop := fun vs H Q => ∃ (a : Addr) (bs : List (V × D)), vs = [V.ref a] ∧ SqL K H a (bs.map (·.1)) ∧ (∀ b ∈ bs, Dp K H b.1 (pD b.2)) ∧ PySem.W.AllAlike (bs.map fun b => pD b.2) ∧ PySem.W.Sortable (bs.map fun b => pD b.2) ∧ (∀ b ∈ bs, (pD b.2).depth ≤ 60) ∧
  ∀ p, H p = none → Q (.ref p) (upd H p (.lst ((bs.mergeSort (PySem.W.dataLe false fun b => pD b.2)).map (·.1))))
theorem each_vals : ∀ {bs : List (V × D)} {us : List Value}, Vals (bs.map (·.1)) us → PySem.W.EachIs (fun v (b : V × D) => RelV b.1 v) us bs
  | [], _, .nil => .nil
  | _ :: _, _, .cons a r => .cons a (each_vals r)
theorem vals_each : ∀ {bs : List (V × D)} {us : List Value}, PySem.W.EachIs (fun v (b : V × D) => RelV b.1 v) us bs → Vals (bs.map (·.1)) us
  | [], _, .nil => .nil
  | _ :: _, _, .cons a r => .cons a (vals_each r)
theorem cr_sortedDat {X : Cx} (hu : X.A.units + 64 < cLine) : CallR X (.builtin "sorted") (rSortedDat X.K) := by
  intro pins s σ H vs us Q I r h
  obtain ⟨a, bs, rfl, hs, hd, hal, hk, hdep, q⟩ := h
  obtain ⟨its, rv, hl, hz⟩ := I.list hs
  rw [Vals.ref1 r]
  have e := each_vals rv
  have er : PySem.W.EachIs (fun v (b : V × D) => ∃ as, Reads s.heap v (pD b.2) as) its bs := (PySem.W.each_mem e).mono fun v b ⟨rb, hm⟩ => Dp.reads I _ _ _ (hd b hm) rb
  rw [List.length_map] at hz
  refine PySem.W.sorted_data (enc := fun b : V × D => pD b.2) hl.isList e er hal hk hz (fun b hb => by have := hdep b hb; omega) fun out hlen ho => ?_
  obtain ⟨ep, he'⟩ := PyProof.Rows.sortedAll_at s.heap its out.toArray
  have hv := vals_each ho
  exact ⟨.ref _, upd H (s.heap.objs.size + 1) (.lst ((bs.mergeSort (PySem.W.dataLe false fun b => pD b.2)).map (·.1))), I.laid (t' := s.toks) (fun _ _ => PyProof.Rows.sortedAll_old) (Nat.le_succ _) ⟨by rw [hv.length, hlen]; exact hz, out, ep, hv, he'⟩, rfl, q _ (I.hok.fresh (Nat.le_succ _))⟩
section
variable {W : Wd} {B : Bs} {F F' H H' : Hp} {σ : L2.St} {ρ : Ev}
theorem denL_pairs : ∀ {l : List (V × D)}, (∀ b ∈ l, Den W F b.2 b.1) → DenL W F (l.map (·.2)) (l.map (·.1))
  | [], _ => rfl
  | b :: l, h => ⟨b.1, l.map (·.1), rfl, h b List.mem_cons_self, denL_pairs fun c hc => h c (List.mem_cons_of_mem _ hc)⟩
theorem denL_zip : ∀ {ds : List D} {xs : List V}, DenL W F ds xs → (xs.zip ds).map (·.1) = xs ∧ (xs.zip ds).map (·.2) = ds ∧ ∀ b ∈ xs.zip ds, Den W F b.2 b.1
  | [], _, h => by cases h; exact ⟨rfl, rfl, fun b hb => by cases hb⟩
  | d :: ds, _, ⟨x, r, e, h1, h2⟩ => by
    subst e
    obtain ⟨a, b, c⟩ := denL_zip h2
    refine ⟨by rw [List.zip_cons_cons, List.map_cons, a], by rw [List.zip_cons_cons, List.map_cons, b], fun p hp => ?_⟩
    rw [List.zip_cons_cons] at hp
    rcases List.mem_cons.mp hp with e | hp
    · rw [e]; exact h1
    · exact c p hp
/-- data: toP tells it -/
def isData (d : D) : Prop := ∃ p, toP d = some p
theorem re_sortedD {ta : TA} {a : DA} (ra : RA W B ta a) : RE W B (tCB (rSortedDat W.K) ta) (fun ρ Q => a ρ fun ρ1 ds => ∃ xs : List D, ds = [.lst xs] ∧ (∀ d ∈ xs, isData d) ∧ PySem.W.AllAlike (xs.map pD) ∧ PySem.W.Sortable (xs.map pD) ∧ (∀ d ∈ xs, (pD d).depth ≤ 60) ∧ Q ρ1 (.lst (xs.mergeSort leD))) :=
  re_cb ra (g := fun ds ρ1 Q => ∃ xs : List D, ds = [.lst xs] ∧ (∀ d ∈ xs, isData d) ∧ PySem.W.AllAlike (xs.map pD) ∧ PySem.W.Sortable (xs.map pD) ∧ (∀ d ∈ xs, (pD d).depth ≤ 60) ∧ Q ρ1 (.lst (xs.mergeSort leD))) fun σ H F ρ vs ds Q R r d h k => by
    obtain ⟨xs, rfl, h1, h2, h3, h4, h⟩ := h
    obtain ⟨x, rfl, p, us, rfl, hs, hd⟩ := den1 d
    obtain ⟨z1, z2, z3⟩ := denL_zip hd
    have em : ∀ b ∈ us.zip xs, b.2 ∈ xs := fun b hb => by rw [← z2]; exact List.mem_map.mpr ⟨b, hb, rfl⟩
    have ez : (us.zip xs).map (fun b => pD b.2) = xs.map pD := by
      conv => rhs; rw [← z2]
      rw [List.map_map]; rfl
    refine ⟨p, us.zip xs, rfl, by rw [z1]; exact same_sqL r.ex hs, fun b hb => ?_, by rw [ez]; exact h2, by rw [ez]; exact h3, fun b hb => h4 _ (em b hb), fun q hq => ?_⟩
    · obtain ⟨py, hp⟩ := h1 b.2 (em b hb)
      have : pD b.2 = py := by unfold pD; rw [hp]; rfl
      rw [this]
      exact dp_of r.ex (z3 b hb) hp
    · have em2 : ((us.zip xs).mergeSort (PySem.W.dataLe false fun b => pD b.2)).map (·.2) = xs.mergeSort leD := by
        have e3 := List.map_mergeSort (r := PySem.W.dataLe false fun b : V × D => pD b.2) (s := leD) (f := fun b : V × D => b.2) (l := us.zip xs) (fun a _ b _ => rfl)
        rw [e3, z2]
      have st := Stp.one (o := .lst (((us.zip xs).mergeSort (PySem.W.dataLe false fun b => pD b.2)).map (·.1))) r.ex hq
      refine k _ _ _ ρ (.lst (xs.mergeSort leD)) (r.stp st) st.ff ⟨q, _, rfl, .inl (.inl upd_same), ?_⟩ h
      rw [← em2]
      exact (denL_pairs fun b hb => z3 b (List.mem_mergeSort.mp hb)).mono st.ff
end
end DL

-- part DL10
set_option maxHeartbeats 4000000
/-! dicts with tuple keys, over trees -/
namespace DL
open PySem L2
def keyOf1 : D → Option Key
  | .int i => some (.inl i)
  | .str x => some (.inr x)
  | _ => none
def keyOfL : List D → Option (List Key)
  | [] => some []
  | d :: ds => match keyOf1 d, keyOfL ds with
    | some k, some ks => some (k :: ks)
    | _, _ => none
def keyOfD : D → Option (List Key)
  | .tup ds => keyOfL ds
  | _ => none
def lookP (l : List (List Key × D)) (k : List Key) : Option D := (l.find? fun p => decide (p.1 = k)).map (·.2)
def putP (l : List (List Key × D)) (k : List Key) (d : D) : List (List Key × D) :=
  if (l.any fun p => decide (p.1 = k)) = true then l.map (fun p => if p.1 = k then (p.1, d) else p) else l ++ [(k, d)]
def dicP (l : List (List Key × D)) : D := .dic (l.map (·.1)) (l.map (·.2))
theorem dget_t {H : Hp} {a b : Addr} {kvs : List (List Key × V)} {k : List Key} (e : Rd H a (.dT kvs)) (eb : H b = some (.tup (k.map kV))) : DGet H a (.ref b) (valV kvs k) := .inr ⟨kvs, k, b, e, rfl, eb, rfl⟩
section
variable {W : Wd} {B : Bs} {F F' H H' : Hp} {σ : St} {ρ : Ev}
theorem key_den : ∀ {ds : List D} {xs : List V} {k : List Key}, DenL W F ds xs → keyOfL ds = some k → xs = k.map kV
  | [], _, _, h, e => by cases e; exact h
  | d :: ds, _, k, ⟨x, r, ev, h1, h2⟩, e => by
    unfold keyOfL at e
    subst ev
    cases e1 : keyOf1 d with
    | none => rw [e1] at e; cases e
    | some k1 =>
      cases e2 : keyOfL ds with
      | none => rw [e1, e2] at e; cases e
      | some ks =>
        rw [e1, e2] at e
        cases e
        rw [key_den h2 e2]
        cases d with
        | int i => cases e1; rw [show x = .int i from h1]; rfl
        | str y => cases e1; rw [show x = .str y from h1]; rfl
        | _ => cases e1
/-- what a dict's content is over trees -/
def DenP (W : Wd) (F : Hp) (l : List (List Key × D)) (kvs : List (List Key × V)) : Prop := kvs.map (·.1) = l.map (·.1) ∧ DenL W F (l.map (·.2)) (kvs.map (·.2))
theorem DenP.look : ∀ {l : List (List Key × D)} {kvs : List (List Key × V)} {k : List Key}, DenP W F l kvs → (valV kvs k = none ∧ lookP l k = none) ∨ ∃ v d, valV kvs k = some v ∧ lookP l k = some d ∧ Den W F d v
  | [], [], _, _ => .inl ⟨rfl, rfl⟩
  | [], _ :: _, _, h => by have := h.1; simp at this
  | _ :: _, [], _, h => by have := h.1; simp at this
  | (k1, d) :: l, (k2, v) :: kvs, k, ⟨h1, h2⟩ => by
    rw [List.map_cons, List.map_cons, List.cons.injEq] at h1
    obtain ⟨x, r, ev, g1, g2⟩ := h2
    rw [List.map_cons, List.cons.injEq] at ev
    obtain ⟨e1, e2⟩ := ev
    subst e1 e2
    have hk : k2 = k1 := h1.1
    subst hk
    unfold valV lookP
    by_cases hq : k2 = k
    · refine .inr ⟨v, d, ?_, ?_, g1⟩
      · rw [List.find?_cons_of_pos (by exact decide_eq_true hq)]; rfl
      · rw [List.find?_cons_of_pos (by exact decide_eq_true hq)]; rfl
    · rw [List.find?_cons_of_neg (by simpa using hq), List.find?_cons_of_neg (by simpa using hq)]
      exact DenP.look ⟨h1.2, g2⟩
theorem any_keys {α : Type} {k : List Key} : ∀ {l : List (List Key × α)}, (l.any fun p => decide (p.1 = k)) = (l.map (·.1)).any fun q => decide (q = k)
  | [] => rfl
  | p :: r => by rw [List.any_cons, List.map_cons, List.any_cons, any_keys]
theorem DenP.mapped {k : List Key} {d : D} {v : V} (hd : Den W F d v) : ∀ {l : List (List Key × D)} {kvs : List (List Key × V)}, DenP W F l kvs → DenP W F (l.map (fun p => if p.1 = k then (p.1, d) else p)) (kvs.map (fun p => if p.1 = k then (p.1, v) else p))
  | [], [], _ => ⟨rfl, rfl⟩
  | [], _ :: _, h => by have := h.1; simp at this
  | _ :: _, [], h => by have := h.1; simp at this
  | (k1, d1) :: l, (k2, v1) :: kvs, ⟨h1, h2⟩ => by
    rw [List.map_cons, List.map_cons, List.cons.injEq] at h1
    obtain ⟨x, r, ev, g1, g2⟩ := h2
    rw [List.map_cons, List.cons.injEq] at ev
    obtain ⟨e1, e2⟩ := ev
    subst e1 e2
    have hk : k2 = k1 := h1.1
    subst hk
    obtain ⟨i1, i2⟩ := DenP.mapped (k := k) hd (l := l) (kvs := kvs) ⟨h1.2, g2⟩
    by_cases hq : k2 = k
    · rw [List.map_cons, List.map_cons, if_pos hq, if_pos hq]
      exact ⟨by rw [List.map_cons, List.map_cons, i1], _, _, rfl, hd, i2⟩
    · rw [List.map_cons, List.map_cons, if_neg hq, if_neg hq]
      exact ⟨by rw [List.map_cons, List.map_cons, i1], _, _, rfl, g1, i2⟩
theorem DenP.put {k : List Key} {d : D} {v : V} {l : List (List Key × D)} {kvs : List (List Key × V)} (h : DenP W F l kvs) (hd : Den W F d v) : DenP W F (putP l k d) (putK kvs k v) := by
  have e : (l.any fun p => decide (p.1 = k)) = (kvs.any fun p => decide (p.1 = k)) := by rw [any_keys, any_keys, h.1]
  unfold putP putK
  rw [e]
  by_cases c : (kvs.any fun p => decide (p.1 = k)) = true
  · rw [if_pos c, if_pos c]; exact h.mapped hd
  · rw [if_neg c, if_neg c]
    exact ⟨by rw [List.map_append, List.map_append, h.1]; rfl, by rw [List.map_append, List.map_append]; exact h.2.append (DenL.cons hd DenL.nil)⟩
theorem DenP.mono {l : List (List Key × D)} {kvs : List (List Key × V)} (e : Same F F') (h : DenP W F l kvs) : DenP W F' l kvs := ⟨h.1, h.2.mono e⟩
theorem DenP.length {l : List (List Key × D)} {kvs : List (List Key × V)} (h : DenP W F l kvs) : l.length = kvs.length := by
  have := congrArg List.length h.1
  rw [List.length_map, List.length_map] at this
  exact this.symm
/-- {} -/
theorem rn_dnewT : RN W B tDNewT (dC (dicP [])) := by
  intro σ H F ρ Q R r h k
  intro p hp
  exact k p _ F ρ (dicP []) (r.stp (Stp.lay (o := .dT []) r.ex hp)) (Same.refl _) (new_of r hp ⟨[], upd_same, rfl, rfl⟩) h
/-- a key's value -/
theorem key_at {y : D} {v : V} {k : List Key} (e : Same F H) (hd : Den W F y v) (hk : keyOfD y = some k) : ∃ b, v = .ref b ∧ H b = some (.tup (k.map kV)) := by
  cases y with
  | tup ds =>
    obtain ⟨b, xs, ev, hf, hl⟩ := hd
    rw [key_den hl hk] at hf
    exact ⟨b, ev, e _ _ hf⟩
  | _ => cases hk
/-- x.get(k, z), x at slot i -/
theorem re_get2O {i : Nat} {ty tx : TE} {t z : DE} (rt : RE W B ty t) (rz : RE W B tx z) :
    RE W B (tDGet2 (tVar i) ty tx) (fun ρ Q => (∃ l, getO ρ i = some (dicP l)) ∧ t ρ fun ρ1 y => z ρ1 fun ρ2 d => ∃ l k, getO ρ2 i = some (dicP l) ∧ keyOfD y = some k ∧ Q ρ2 ((lookP l k).getD d)) := by
  intro σ H F ρ Q R rl h kk
  obtain ⟨⟨l0, g0⟩, h⟩ := h
  obtain ⟨p, e2, e3, kv0, hp0, _⟩ := rl.own g0
  refine ⟨.ref p, e3, p, rfl, .inr ⟨kv0, .inl hp0⟩, ?_⟩
  refine rt σ H F ρ _ _ rl h fun y H1 F1 ρ1 dy r1 s1 d1 h1 => ?_
  refine rz σ H1 F1 ρ1 _ _ r1 h1 fun w H2 F2 ρ2 dw r2 s2 d2 h2 => ?_
  obtain ⟨l, k, g2, hk, hq⟩ := h2
  obtain ⟨p2, e4, e5, kvs, hp, hks, hvs⟩ := r2.own g2
  have ep : p = p2 := by rw [e3] at e5; cases e5; rfl
  subst ep
  obtain ⟨b, rfl, hb⟩ := key_at r2.ex (d1.mono s2) hk
  refine ⟨valV kvs k, .t hp hb, ?_⟩
  rcases DenP.look (l := l) (kvs := kvs) (k := k) ⟨hks, hvs⟩ with ⟨q1, q2⟩ | ⟨v, d, q1, q2, q3⟩
  · rw [q1]; rw [q2] at hq
    exact kk w H2 F2 ρ2 dw r2 (s1.trans s2) d2 hq
  · rw [q1]; rw [q2] at hq
    exact kk v H2 F2 ρ2 d r2 (s1.trans s2) q3 hq
/-- x.get(k, z) -/
theorem re_get2 {td ty tx : TE} {td' t z : DE} (re : RE W B td td') (rt : RE W B ty t) (rz : RE W B tx z) :
    RE W B (tDGet2 td ty tx) (fun ρ Q => td' ρ fun ρ0 x => ∃ l, x = dicP l ∧ t ρ0 fun ρ1 y => z ρ1 fun ρ2 d => ∃ k, keyOfD y = some k ∧ Q ρ2 ((lookP l k).getD d)) := by
  intro σ H F ρ Q R rl h kk
  refine re σ H F ρ _ _ rl h fun x H0 F0 ρ0 dx r0 s0 d0 h => ?_
  obtain ⟨l, rfl, h⟩ := h
  obtain ⟨p, kvs, ev, hp, hks, hvs⟩ := d0
  subst ev
  refine ⟨p, rfl, .inr ⟨kvs, rd_mono r0.ex hp⟩, ?_⟩
  refine rt σ H0 F0 ρ0 _ _ r0 h fun y H1 F1 ρ1 dy r1 s1 d1 h1 => ?_
  refine rz σ H1 F1 ρ1 _ _ r1 h1 fun w H2 F2 ρ2 dw r2 s2 d2 h2 => ?_
  obtain ⟨k, hk, hq⟩ := h2
  obtain ⟨b, rfl, hb⟩ := key_at r2.ex (d1.mono s2) hk
  refine ⟨valV kvs k, dget_t (rd_mono (Same.trans (Same.trans s1 s2) r2.ex) hp) hb, ?_⟩
  rcases DenP.look (l := l) (kvs := kvs) (k := k) ⟨hks, hvs.mono (s1.trans s2)⟩ with ⟨q1, q2⟩ | ⟨v, d, q1, q2, q3⟩
  · rw [q1]; rw [q2] at hq
    exact kk w H2 F2 ρ2 dw r2 ((s0.trans s1).trans s2) d2 hq
  · rw [q1]; rw [q2] at hq
    exact kk v H2 F2 ρ2 d r2 ((s0.trans s1).trans s2) q3 hq
/-- x[k], x at slot i -/
theorem re_getO {i : Nat} {ty : TE} {t : DE} (rt : RE W B ty t) :
    RE W B (tDGet (tVar i) ty) (fun ρ Q => (∃ l, getO ρ i = some (dicP l)) ∧ t ρ fun ρ1 y => ∃ l k d, getO ρ1 i = some (dicP l) ∧ keyOfD y = some k ∧ lookP l k = some d ∧ Q ρ1 d) := by
  intro σ H F ρ Q R rl h kk
  obtain ⟨⟨l0, g0⟩, h⟩ := h
  obtain ⟨p, e2, e3, kv0, hp0, _⟩ := rl.own g0
  refine ⟨.ref p, e3, ?_⟩
  refine rt σ H F ρ _ _ rl h fun y H1 F1 ρ1 dy r1 s1 d1 h1 => ?_
  obtain ⟨l, k, d, g2, hk, hl, hq⟩ := h1
  obtain ⟨p2, e4, e5, kvs, hp, hks, hvs⟩ := r1.own g2
  have ep : p = p2 := by rw [e3] at e5; cases e5; rfl
  subst ep
  obtain ⟨b, rfl, hb⟩ := key_at r1.ex d1 hk
  rcases DenP.look (l := l) (kvs := kvs) (k := k) ⟨hks, hvs⟩ with ⟨q1, q2⟩ | ⟨v, d', q1, q2, q3⟩
  · rw [q2] at hl; cases hl
  · rw [q2] at hl; cases hl
    exact ⟨p, v, rfl, by rw [← q1]; exact .t hp hb, kk v H1 F1 ρ1 d r1 s1 q3 hq⟩
/-- x[k] -/
theorem re_get {td ty : TE} {td' t : DE} (re : RE W B td td') (rt : RE W B ty t) :
    RE W B (tDGet td ty) (fun ρ Q => td' ρ fun ρ0 x => ∃ l, x = dicP l ∧ t ρ0 fun ρ1 y => ∃ k d, keyOfD y = some k ∧ lookP l k = some d ∧ Q ρ1 d) := by
  intro σ H F ρ Q R rl h kk
  refine re σ H F ρ _ _ rl h fun x H0 F0 ρ0 dx r0 s0 d0 h => ?_
  obtain ⟨l, rfl, h⟩ := h
  obtain ⟨p, kvs, ev, hp, hks, hvs⟩ := d0
  subst ev
  refine rt σ H0 F0 ρ0 _ _ r0 h fun y H1 F1 ρ1 dy r1 s1 d1 h1 => ?_
  obtain ⟨k, d, hk, hl, hq⟩ := h1
  obtain ⟨b, rfl, hb⟩ := key_at r1.ex d1 hk
  rcases DenP.look (l := l) (kvs := kvs) (k := k) ⟨hks, hvs.mono s1⟩ with ⟨q1, q2⟩ | ⟨v, d', q1, q2, q3⟩
  · rw [q2] at hl; cases hl
  · rw [q2] at hl; cases hl
    exact ⟨p, v, rfl, by rw [← q1]; exact dget_t (rd_mono (s1.trans r1.ex) hp) hb, kk v H1 F1 ρ1 d r1 (s0.trans s1) q3 hq⟩
/-- x[k] = e, x at slot i -/
theorem rs_putO {i : Nat} {ty tv : TE} {t v : DE} (rv : RE W B tv v) (rt : RE W B ty t) :
    RS W B (sDPut (tVar i) ty tv) (fun DD ρ => v ρ fun ρ1 d => (∃ l, getO ρ1 i = some (dicP l)) ∧ t ρ1 fun ρ2 y => ∃ l k, getO ρ2 i = some (dicP l) ∧ keyOfD y = some k ∧ l.length < sizeLine ∧ DD.nx (ρ2.set i (.o (dicP (putP l k d))))) := by
  intro σ H F ρ D DD rl h f
  refine rv σ H F ρ _ _ rl h fun w H1 F1 ρ1 dw r1 s1 d1 h1 => ?_
  obtain ⟨⟨l0, g0⟩, h1⟩ := h1
  obtain ⟨p, e2, e3, kv0, hp0, _⟩ := r1.own g0
  refine ⟨.ref p, e3, ?_⟩
  refine rt σ H1 F1 ρ1 _ _ r1 h1 fun y H2 F2 ρ2 dy r2 s2 d2 h2 => ?_
  obtain ⟨l, k, g2, hk, hz, hq⟩ := h2
  obtain ⟨p2, e4, e5, kvs, hp, hks, hvs⟩ := r2.own g2
  have ep : p = p2 := by rw [e3] at e5; cases e5; rfl
  subst ep
  obtain ⟨b, rfl, hb⟩ := key_at r2.ex d2 hk
  have dp : DenP W F2 l kvs := ⟨hks, hvs⟩
  have dq := dp.put (k := k) (d1.mono s2)
  refine ⟨p, _, rfl, .inr ⟨kvs, k, b, hp, rfl, hb, by rw [← dp.length]; exact hz, rfl⟩, ?_⟩
  exact f.nx _ _ F2 _ (r2.oset (d' := dicP (putP l k dw)) e4 e5 ⟨_, upd_same, dq.1, dq.2⟩) (s1.trans s2) hq
end
end DL

-- part DX6
set_option maxHeartbeats 4000000
/-! defs that ask for repr: the promise told where nothing is being shown -/
namespace DL
open PySem PySem.Spec PyProof.Rows L2
/-- a def's promise where no repr is under way -/
structure FnG (P : Program) (w : World) (K : PySem.W.Frag) (mg : Str → Option Value) (base : Heap) (CX : CXT) (k : Nat) (f : Addr) (fd : FuncData) (ps : List Str) (sp : Sp) : Prop where
  len : ∀ vs H Q E, sp vs H Q E → vs.length = ps.length
  run : ∀ (A : Around), Room k A → A.guards = some [] → ∀ (outer : List Env) (s : Shared) (H : Hp) (args : Args) (us : List Value) (vs : List V) (Q : VK) (E : XK), Env0 P w K mg base A outer s H → BindsTo s fd args (ps.zip us) → Vals vs us → sp vs H Q E →
    codeAny (model P w) A (.call (.ref f) args) (CR CX outer P w H s Q E) s
section
variable {CX : CXT} {P : Program} {w : World} {K : PySem.W.Frag} {mg : Str → Option Value} {base : Heap} {k : Nat} {f : Addr} {N ps : List Str} {sp : Sp}
theorem FnOk.g {fd : FuncData} (F : FnOk P w K mg base CX k f fd ps sp) : FnG P w K mg base CX k f fd ps sp := ⟨F.len, fun A hr _ outer s H args us vs Q E => F.run A outer s H args us vs Q E hr⟩
theorem okG {x qual : Str} {st : Stmt} {fd : FuncData} (F : Fun K x qual st f fd) (S : FnScope N ps (defScope st)) (len : ∀ vs H Q E, sp vs H Q E → vs.length = ps.length)
    (hbody : ∀ (cdv : Value) (A : Around) (outer : List Env) (s : Shared) (H : Hp) (vs : List V) (Q : VK) (E : XK), Room k (A.deeper (envOfC qual (defScope st) s.heap.objs.size f cdv)) → A.guards = some [] → sp vs H Q E →
      ∃ t, PSs (cxOf CX0 P w K mg base N qual (defScope st) f cdv A outer s H E).nox (defBody st) t ∧ t { nx := fun _ H' => Q .non H', rt := Q } (start N vs) H) : FnG P w K mg base CX0 (k + 1) f fd ps sp := by
  obtain ⟨oc, od, kV, doc, pm, an, cdv, ct, osl, rfl, lk, hcd⟩ := F.ex
  refine ⟨len, fun A hr hg outer s H args us vs Q E e0 hb r hsp => ?_⟩
  have inK : K.In s.heap := e0.mod.kin.keeps fun b o e => (e0.bs b o e).1
  have noLim : s.heap.NoLimit := e0.mod.nolimit.keeps fun b o e => (e0.bs b o e).1
  have kinds : ∀ y ∈ ps.zip us, (defScope st).names.lookup y.1 = some .local ∨ ((defScope st).names.lookup y.1 = some .cell ∧ ((cellsFrom (s.heap.objs.size + 1) (defScope st).names []).lookup y.1).isSome = true) := fun y hy =>
    (S.par y.1 (List.of_mem_zip hy).1).imp id fun q => ⟨q, PySem.W.cellsFrom_some _ _ _ (.inl q)⟩
  refine codeAny_call_function hr.depth (inK _ _ lk) rfl S.co S.gen rfl (PySem.W.codeRec_of inK hcd) (hb _ _ _ _ (wpAny_newFunctionEnv_cells S.kind kinds fun env he s1 x => ?_))
  subst he
  refine ⟨noLim.keeps x.toInCall.keep, codeAny_func ?_⟩
  obtain ⟨t, ht, hq⟩ := hbody cdv A outer s H vs Q E (hr.deeper _) hg hsp
  have I : Inv (cxOf CX0 P w K mg base N qual (defScope st) f cdv A outer s H E) [] (start N vs) H s1 := inv_start S hr.hd e0 (len _ _ _ _ hsp) r x
  refine wpAny_mono (ht.nox.run [] s1 (start N vs) H _ I hq) (fun fl s' hs => ?_) fun e s' hs => hs
  cases fl with
  | ret u =>
    obtain ⟨v, σ', H', J, rv, q⟩ := hs
    exact ⟨v, H', J.os, J.bare, J.base, J.hok, rv, q⟩
  | next =>
    obtain ⟨σ', H', J, q⟩ := hs
    exact ⟨V.non, H', J.os, J.bare, J.base, J.hok, rfl, q⟩
  | brk =>
    obtain ⟨_, _, _, q⟩ := hs
    exact q.elim
  | cont =>
    obtain ⟨_, _, _, q⟩ := hs
    exact q.elim
end
section
variable {X : Cx} {CX : CXT} {k : Nat} {f : Addr} {fd : FuncData} {ps : List Str} {sp : Sp} {E : XK} {ds : List Value} {dvs : List V} {x : Str} {p pos : Pos} {e : Expr} {es : List Expr} {t : TA}
theorem pe_callG (F : FnG X.prog X.w X.K X.mg X.base CX k f fd ps sp) (hr : Room k X.A) (hgd : X.A.guards = some []) (hg : Gl X x) (hm : X.mg x = some (.ref f)) (hk : PySem.W.keepIn X.K (.ref f) = true) (hb : Binds X.K fd ps ds) (hd : Vals dvs ds) (hx : Passes CX X E)
    (ha : PA X (e :: es) t) (hdb : (x == ("__debug__" : Str)) = false := by decide) (he : starEach (e :: es) X.env = (false, eval e X.env) :: starEach es X.env := by rfl) (hpl : (backTo pos (starEach es X.env)).any (·.1) = false := by rfl) :
    PE X (.Call (.Name x p) (e :: es) [] pos) (tCall sp dvs E t) := by
  refine ⟨fun pins s σ H Q I h => ?_⟩
  refine wpAny_Call_Name_kw (ld_glob I hg hm ?_ hdb)
  refine PySem.W.callWith_K (h₀ := X.base) I.ok.mod.kin hk (thn (ha.run pos pins s σ H _ I h) fun us s1 ⟨vs, H1, I1, r, q⟩ => ⟨I1.kIn, ?_⟩) he hpl
  have r2 : Vals (vs ++ dvs) (us ++ ds) := r.append hd
  refine wpAny_call (codeAny_mono (F.run X.A hr hgd X.stack s1 H1 ⟨us, []⟩ (us ++ ds) (vs ++ dvs) Q E I1.env0 (hb s1 us I1.kIn (by rw [← r2.length]; exact F.len _ _ _ _ q)) r2 q) fun r s' hq => ?_)
  cases r with
  | error e => exact hx pins σ H1 s1 e s' I1 hq
  | ok fl =>
    cases fl with
    | ret u => exact I1.after hq
    | next => exact hq.elim
    | brk => exact hq.elim
    | cont => exact hq.elim
end
/-! ### repr of data -/
def rRepr (K : PySem.W.Frag) : List V → Hp → VK → Prop := fun xs H Q => ∃ (a : Addr) (d : PyData), xs = [.ref a] ∧ Dp K H (.ref a) d ∧ d.showable = true ∧ d.hasDict = false ∧ d.depth ≤ 60 ∧ d.shown.length ≤ sizeLine ∧ Q (.str d.shown) H
theorem call_reprD {X : Cx} (hgd : X.A.guards = some []) (hu : X.A.units + 64 < cLine) : CallR X (.builtin "repr") (rRepr X.K) := by
  intro pins s σ H xs us Q I r h
  obtain ⟨a, d, rfl, hd, h1, h2, h3, h4, q⟩ := h
  obtain rfl := Vals.ref1 r
  obtain ⟨as, rd⟩ := Dp.reads I d (.ref a) (.ref a) hd rfl
  refine repr_of_reads' rd h1 (fun z => by rw [h2] at z; cases z) hgd (by omega) (fun _ _ e => e) (fun h' u tk k => ?_) h4
  exact ⟨.str d.shown, H, I.kept k, ⟨u, rfl⟩, q⟩
end DL

-- part DX7
set_option maxHeartbeats 4000000
/-! the end for a law whose def asks for repr: the kit's walk_of, for the weaker promise FnG -/
namespace DL
open PySem PySem.Spec PyProof.Rows L2
section
variable {P : Program} {w : World} {K : PySem.W.Frag} {mg mb : Str → Option Value} {k : Nat} {fa a : Addr} {fd : FuncData} {x : Str} {sp : Sp} {s₁ : Shared} {vs : List Value} {ns : List Int}
/-- from a tracked heap that holds the script at most -/
theorem law_coreG (inK : K.In s₁.heap) (gl : s₁.heap.Ns mainGlobals mg) (bl : s₁.heap.Ns builtinsNs mb) (bb : ∀ x : Str, x ≠ "__name__" → mb x = bootBuiltins x) (lim : s₁.heap.NoLimit) (hg : s₁.gens = #[])
    (ha : s₁.heap.get? a = some { cls := .type "list", data := .seq vs.toArray }) (hr : Room k callerA)
    (F : ∀ base : Heap, K.In base → base.Ns mainGlobals mg → FnG P w K mg base CX0 k fa fd [x] sp) (bind : ∀ (s : Shared) (u : Value), BindsTo s fd ⟨[u], []⟩ [(x, u)])
    (H : Hp) (only : Only H) (hok : HOk P w H s₁.heap) (hA : ∀ b, H b ≠ none → b = a) (hK : H a ≠ none → K.lookup a = none) (law : sp [.ref a] H (fun v _ => v = .bl true) fun _ _ _ => False) :
    codeAny (model P w) callerA (.call (.ref fa) ⟨[.ref a], []⟩) (fun r s' => r = .ok (.ret (.bool true)) ∧ OldK s₁.heap s'.heap ∧ s'.os = s₁.os ∧ AllBare s'.gens) s₁ := by
  -- whatever stands and is not the script stands in the base
  have none_of : ∀ {b : Addr} {o : Obj}, s₁.heap.get? b = some o → (b = a → False) → H b = none := fun {b o} e n => by
    cases q : H b with
    | none => rfl
    | some u => exact (n (hA b (by rw [q]; exact fun z => nomatch z))).elim
  have dict_ne : ∀ {b : Addr} {o : Obj} {es : Array DictEntry} {ep : Nat}, s₁.heap.get? b = some o → o.data = .dict es ep → b = a → False := fun {b o es ep} e d z => by
    rw [z, ha] at e
    cases e
    have d' : Data.seq vs.toArray _ = Data.dict es ep := d
    cases d'
  have ns_of : ∀ {b : Addr} {m : Str → Option Value}, s₁.heap.Ns b m → (hidT s₁.heap H).Ns b m := fun {b m} ⟨o, es, ep, e, d, r⟩ => ⟨o, es, ep, hidT_get e (none_of e (dict_ne e d)), d, r⟩
  have inB : K.In (hidT s₁.heap H) := fun b o e => hidT_get (inK b o e) (by
    cases q : H b with
    | none => rfl
    | some u =>
      have z := hA b (by rw [q]; exact fun z => nomatch z)
      rw [z] at q e
      rw [hK (by rw [q]; exact fun z => nomatch z)] at e
      cases e)
  obtain ⟨mc, l1, l2⟩ := lim
  have e0 : Env0 P w K mg (hidT s₁.heap H) callerA [] s₁ H := ⟨rfl, ⟨inB, ns_of gl, ⟨mb, ns_of bl, bb⟩, ⟨mc, ns_of l1, l2⟩⟩, fun b o e => of_hidT e, Nat.le_of_eq (hidT_size _ _), trivial, (fun b hb => nomatch hb), hok, .of_eq hg⟩
  refine codeAny_mono ((F _ inB (ns_of gl)).run callerA hr rfl [] s₁ H ⟨[.ref a], []⟩ [.ref a] [.ref a] _ _ e0 (bind s₁ (.ref a)) (.cons rfl .nil) law) fun r s' h => ?_
  match r, h with
  | .ok (.ret u), ⟨v, H', os, bare, un, hok', r', q⟩ =>
    have q : v = .bl true := q
    subst q
    obtain rfl : u = Value.bool true := r'
    refine ⟨rfl, OldK.of_keep fun b o e => ?_, os, bare⟩
    rcases only b with q | ⟨ob, xs, q⟩
    · exact un.keep b o e q (fun z => nomatch z) (fun z => nomatch z)
    · have e1 := (hok b _ q).1
      have e2 := (hok' b _ (un.frzs b ob _ q)).1
      rw [e] at e1
      cases e1
      exact e2
theorem law_callG (inK : K.In s₁.heap) (gl : s₁.heap.Ns mainGlobals mg) (bl : s₁.heap.Ns builtinsNs mb) (bb : ∀ x : Str, x ≠ "__name__" → mb x = bootBuiltins x) (lim : s₁.heap.NoLimit) (hg : s₁.gens = #[])
    (ha : s₁.heap.get? a = some { cls := .type "list", data := .seq vs.toArray }) (hi : IntsAre vs ns) (hl : ns.length ≤ sizeLine) (hr : Room k callerA)
    (F : ∀ base : Heap, K.In base → base.Ns mainGlobals mg → FnG P w K mg base CX0 k fa fd [x] sp) (bind : ∀ (s : Shared) (u : Value), BindsTo s fd ⟨[u], []⟩ [(x, u)])
    (law : ∀ H : Hp, Only H → SqL K H a (ns.map V.int) → sp [.ref a] H (fun v _ => v = .bl true) fun _ _ _ => False) :
    codeAny (model P w) callerA (.call (.ref fa) ⟨[.ref a], []⟩) (fun r s' => r = .ok (.ret (.bool true)) ∧ OldK s₁.heap s'.heap ∧ s'.os = s₁.os ∧ AllBare s'.gens) s₁ := by
  have rv := vals_ints hi
  cases hk : K.lookup a with
  | some o =>
    have e := inK a o hk
    rw [ha] at e
    cases e
    have only0 : Only (fun _ => none) := fun _ => .inl rfl
    refine law_coreG inK gl bl bb lim hg ha hr F bind (fun _ => none) only0 (fun b u z => nomatch z) (fun b z => absurd rfl z) (fun z => absurd rfl z) (law _ only0 ?_)
    exact .inr ⟨_, vs.toArray, _, hk, rfl, rfl, rfl, by rw [List.size_toArray, hi.length]; exact hl, by simpa using rv⟩
  | none =>
    obtain ⟨H, hH⟩ : ∃ H : Hp, H = fun b => if b = a then some (.frz { cls := .type "list", data := .seq vs.toArray } (.lst (ns.map V.int))) else none := ⟨_, rfl⟩
    have at_ : H a = some (.frz { cls := .type "list", data := .seq vs.toArray } (.lst (ns.map V.int))) := by rw [hH]; exact if_pos rfl
    have off : ∀ b, b ≠ a → H b = none := fun b hb => by rw [hH]; exact if_neg hb
    have only1 : Only H := fun b => by
      by_cases hb : b = a
      · rw [hb]; exact .inr ⟨_, _, at_⟩
      · exact .inl (off b hb)
    refine law_coreG inK gl bl bb lim hg ha hr F bind H only1 (fun b u z => ?_) (fun b z => ?_) (fun _ => hk) (law _ only1 (.inl (.inr ⟨_, at_⟩)))
    · by_cases hb : b = a
      · subst hb
        rw [at_] at z
        cases z
        exact ⟨ha, by rw [List.length_map]; exact hl, vs, _, rv, ha⟩
      · rw [off b hb] at z; cases z
    · by_cases hb : b = a
      · exact hb
      · exact absurd (off b hb) z
end
theorem walk_ofG {l : PySem.W.OpenLaw} {n k : Nat} {q : Program} {loose : List Str} {XP : (Str → Option Value) → Heap → Prop} {YP : World → Heap → Prop} {d : PySem.DefRec} {K : Params → PySem.W.Frag} {sp : World → Sp} {x : Str}
    (hn : l.most = some n) (hn2 : n ≤ sizeLine) (hdf : d.params.defaults = []) (hr : Room k callerA) (hY : ∀ (w : World) (h : Heap), YP w h → (K w.params).In h)
    (F : ∀ (w : World) (mg : Str → Option Value) (fa : Addr) (h : Heap), (K w.params).In h → h.Ns mainGlobals mg → mg d.name = some (.ref fa) →
      ∃ fd : FuncData, (∀ (s : Shared) (u : Value), BindsTo s fd ⟨[u], []⟩ [(x, u)]) ∧ ∀ base : Heap, (K w.params).In base → base.Ns mainGlobals mg → FnG l.prog w (K w.params) mg base CX0 k fa fd [x] (sp w))
    (hsp : ∀ (w : World) (H : Hp) (a : Addr) (ns : List Int), ns.length ≤ n → Only H → SqL (K w.params) H a (ns.map V.int) → sp w [.ref a] H (fun v _ => v = .bl true) fun _ _ _ => False) :
    PySem.W.WalkO q loose XP YP l.row.toRowW d [] (fun f vs => PySem.call f vs) := by
  refine Att.attach_call hn hdf fun w s₀ s₁ mg mb fa o pm cd doc a vs ns G Y ho hd hcd hmg hobj hints hlen hg => ?_
  have inK := hY w _ Y
  obtain ⟨fd, hb, hF⟩ := F w mg fa _ inK G.T.g hmg
  exact law_callG inK G.T.g G.T.b G.T.builtins G.T.nolimit hg hobj hints (Nat.le_trans hlen hn2) hr hF hb fun H hO hS => hsp w H a ns hlen hO hS
end DL

-- part DL11
set_option maxHeartbeats 4000000
/-! tuples that stand may be frozen; repr over trees -/
namespace DL
open PySem L2
section
variable {W : Wd} {B : Bs} {F F' H H' : Hp} {σ : St} {ρ : Ev}
/-- a tuple that stands is frozen -/
theorem Stp.letT {q : Addr} {xs : List V} (e : Same F H) (h : H q = some (.tup xs)) : ∃ F', Stp F H F' H ∧ F' q = some (.tup xs) := by
  cases hf : F q with
  | some o =>
    have := e _ _ hf
    rw [h] at this
    cases this
    exact ⟨F, Stp.refl e, hf⟩
  | none =>
    refine ⟨upd F q (.tup xs), Stp.of (same_upd hf) (Same.refl _) (fun b u z => ?_) (fun a h1 h2 => ?_), upd_same⟩
    · by_cases hb : b = q
      · subst hb; rw [upd_same] at z; cases z; exact h
      · rw [upd_ne hb] at z; exact e _ _ z
    · have : a ≠ q := fun z => by
        subst z
        exact h1.2 xs h
      rw [upd_ne this]; exact h2
/-- the tree of a key -/
def keyT1 : Key → D
  | .inl i => .int i
  | .inr x => .str x
theorem den_key : ∀ (k : List Key), DenL W F (k.map keyT1) (k.map kV)
  | [] => rfl
  | .inl i :: k => ⟨_, _, rfl, rfl, den_key k⟩
  | .inr x :: k => ⟨_, _, rfl, rfl, den_key k⟩
/-! ### repr -/
theorem re_repr {ta : TA} {a : DA} (ra : RA W B ta a) : RE W B (tCB (rRepr W.K) ta) (fun ρ Q => a ρ fun ρ1 ds => ∃ x p, ds = [x] ∧ toP x = some p ∧ (∃ xs, x = .lst xs ∨ x = .tup xs) ∧ p.showable = true ∧ p.hasDict = false ∧ p.depth ≤ 60 ∧ p.shown.length ≤ sizeLine ∧ Q ρ1 (.str p.shown)) :=
  re_cb ra (g := fun ds ρ1 Q => ∃ x p, ds = [x] ∧ toP x = some p ∧ (∃ xs, x = .lst xs ∨ x = .tup xs) ∧ p.showable = true ∧ p.hasDict = false ∧ p.depth ≤ 60 ∧ p.shown.length ≤ sizeLine ∧ Q ρ1 (.str p.shown)) fun σ H F ρ vs ds Q R r d h k => by
    obtain ⟨x, p, rfl, hp, ⟨xs, hx⟩, h1, h2, h3, h4, h⟩ := h
    obtain ⟨v, rfl, hd⟩ := den1 d
    have dp := dp_of r.ex hd hp
    have hv : ∃ a, v = .ref a := by
      rcases hx with e | e
      · subst e; obtain ⟨a, _, e, _⟩ := hd; exact ⟨a, e⟩
      · subst e; obtain ⟨a, _, e, _⟩ := hd; exact ⟨a, e⟩
    obtain ⟨a, rfl⟩ := hv
    exact ⟨a, p, rfl, dp, h1, h2, h3, h4, k _ H F ρ (.str p.shown) r (Same.refl _) rfl h⟩
end
/-- a text is itself -/
theorem eqD_self {x : Str} (h : SeqAt.shaped (.str x) = true) : eqD (.str x) (.str x) = some true := by
  have e : PyData.eqv (.str x) (.str x) = true := by simp [PyData.eqv]
  show (bif SeqAt.shaped (.str x) && SeqAt.shaped (.str x) then some (PyData.eqv (.str x) (.str x)) else none) = some true
  rw [h, e]
  rfl
end DL

-- part K08C
set_option maxHeartbeats 4000000
/-! K08: checks: is_integer, is_within, is_row, are_integers -/
namespace DL
namespace K08
open PySem PySem.Spec PyProof.Rows L2
abbrev sIsI : Stmt := topS 1
abbrev sIsW : Stmt := topS 2
abbrev sIsR : Stmt := topS 3
abbrev sAreI : Stmt := topS 4
theorem scIsI : FnScope ["value"] ["value"] (defScope sIsI) := ⟨rfl, rfl, rfl, by decide +kernel, rfl, by decide +kernel, by decide +kernel⟩
theorem scIsW : FnScope ["value", "least", "most"] ["value", "least", "most"] (defScope sIsW) := ⟨rfl, rfl, rfl, by decide +kernel, rfl, by decide +kernel, by decide +kernel⟩
theorem scIsR : FnScope ["value"] ["value"] (defScope sIsR) := ⟨rfl, rfl, rfl, by decide +kernel, rfl, by decide +kernel, by decide +kernel⟩
theorem scAreI : FnScope ["value", "size", "one"] ["value", "size"] (defScope sAreI) := ⟨rfl, rfl, rfl, by decide +kernel, rfl, by decide +kernel, by decide +kernel⟩
/-- isinstance(x, int), isinstance(x, bool), of data -/
def tyInt : D → Option Bool
  | .non => some false | .bl _ => some true | .int _ => some true | .str _ => some false | .lst _ => some false | .tup _ => some false | .dik _ _ => some false | _ => none
def tyBool : D → Option Bool
  | .non => some false | .bl _ => some true | .int _ => some false | .str _ => some false | .lst _ => some false | .tup _ => some false | .dik _ _ => some false | _ => none
def tyLst : D → Option Bool
  | .non => some false | .bl _ => some false | .int _ => some false | .str _ => some false | .lst _ => some true | .tup _ => some false | .dik _ _ => some false | _ => none
def tyTup : D → Option Bool
  | .non => some false | .bl _ => some false | .int _ => some false | .str _ => some false | .lst _ => some false | .tup _ => some true | .dik _ _ => some false | _ => none
theorem kok_int {W : Wd} : KOk W tyInt (.type "int") := fun d b h => by
  cases d <;> cases h <;> exact ⟨_, rfl, by kernel_rfl, fun F H v e dv => tyx_of e dv rfl⟩
theorem kok_bool {W : Wd} : KOk W tyBool (.type "bool") := fun d b h => by
  cases d <;> cases h <;> exact ⟨_, rfl, by kernel_rfl, fun F H v e dv => tyx_of e dv rfl⟩
theorem kok_list {W : Wd} : KOk W tyLst (.type "list") := fun d b h => by
  cases d <;> cases h <;> exact ⟨_, rfl, by kernel_rfl, fun F H v e dv => tyx_of e dv rfl⟩
theorem kok_tuple {W : Wd} : KOk W tyTup (.type "tuple") := fun d b h => by
  cases d <;> cases h <;> exact ⟨_, rfl, by kernel_rfl, fun F H v e dv => tyx_of e dv rfl⟩
/-- data at the top -/
def plain : D → Bool
  | .non => true | .bl _ => true | .int _ => true | .str _ => true | .lst _ => true | .tup _ => true | .dik _ _ => true | _ => false
def isInt : D → Bool
  | .int _ => true
  | _ => false
def isRow : D → Bool
  | .lst _ => true
  | .tup _ => true
  | _ => false
def gIsI : GF := fun ds c Q => ∃ x, ds = [x] ∧ plain x = true ∧ Q (.bl (isInt x)) c
def gIsR : GF := fun ds c Q => ∃ x, ds = [x] ∧ plain x = true ∧ Q (.bl (isRow x)) c
section
variable {P : Program} {w : World} {K : PySem.W.Frag} {mg : Str → Option Value} {base : Heap} {cls : Str → Option Addr}
theorem ok_isI {f : Addr} {fd : FuncData} {k : Nat} (F : Fun K "is_integer" "is_integer" sIsI f fd) (m_isinstance : mg "isinstance" = none) (m_int : mg "int" = none) (m_bool : mg "bool" = none) : FnOk P w K mg base CX0 (k + 1) f fd ["value"] (spD K cls gIsI) := by
  refine F.ok scIsI (fun vs H Q E h => len_of (n := 1) (fun ds c QD ⟨m, e, _⟩ => by rw [e]; rfl) h) (fun cdv A outer s H vs Q E hr h => ?_)
  refine ⟨_, (pss_one (ps_ret (pe_and (pe_callB (r := rIsi K) call_isi (by rfl) m_isinstance (by decide +kernel) (pa_cons (pv 0) (pa_cons (pe_bltn (by rfl) m_int (by decide +kernel) (v := .ty "int") rfl) pa_nil))) (pe_one (pe_not (pe_callB (r := rIsi K) call_isi (by rfl) m_isinstance (by decide +kernel) (pa_cons (pv 0) (pa_cons (pe_bltn (by rfl) m_bool (by decide +kernel) (v := .ty "bool") rfl) pa_nil)))))))), body_of (fun pw B hio => (rs_ret (re_andV (re_isi (re_var (i := 0) hio) (.ty "int") (k := tyInt) kok_int) (re_notV (re_isi (re_var (i := 0) hio) (.ty "bool") (k := tyBool) kok_bool))))) ?_ h⟩
  rintro ds c QD ⟨x, rfl, ho, q⟩
  refine ⟨by show 1 ≤ 1; decide, ?_⟩
  cases x with
  | non => exact ⟨false, rfl, q⟩
  | bl b => exact ⟨true, rfl, true, rfl, q⟩
  | int i => exact ⟨true, rfl, false, rfl, q⟩
  | str z => exact ⟨false, rfl, q⟩
  | lst xs => exact ⟨false, rfl, q⟩
  | tup xs => exact ⟨false, rfl, q⟩
  | dik ks vs => exact ⟨false, rfl, q⟩
  | _ => cases ho
theorem ok_isR {f : Addr} {fd : FuncData} {k : Nat} (F : Fun K "is_row" "is_row" sIsR f fd) (m_isinstance : mg "isinstance" = none) (m_list : mg "list" = none) (m_tuple : mg "tuple" = none) : FnOk P w K mg base CX0 (k + 1) f fd ["value"] (spD K cls gIsR) := by
  refine F.ok scIsR (fun vs H Q E h => len_of (n := 1) (fun ds c QD ⟨m, e, _⟩ => by rw [e]; rfl) h) (fun cdv A outer s H vs Q E hr h => ?_)
  refine ⟨_, (pss_one (ps_ret (pe_callB (r := rIsiT K) call_isiT (by rfl) m_isinstance (by decide +kernel) (pa_cons (pv 0) (pa_cons (pe_tup (pa_cons (pe_bltn (by rfl) m_list (by decide +kernel) (v := .ty "list") rfl) (pa_cons (pe_bltn (by rfl) m_tuple (by decide +kernel) (v := .ty "tuple") rfl) pa_nil))) pa_nil))))), body_of (fun pw B hio => (rs_ret (re_isi2 (re_var (i := 0) hio) (.ty "list") (.ty "tuple") (k1 := tyLst) (k2 := tyTup) kok_list kok_tuple))) ?_ h⟩
  rintro ds c QD ⟨x, rfl, ho, q⟩
  refine ⟨by show 1 ≤ 1; decide, ?_⟩
  cases x with
  | non => exact ⟨false, false, rfl, rfl, q⟩
  | bl b => exact ⟨false, false, rfl, rfl, q⟩
  | int i => exact ⟨false, false, rfl, rfl, q⟩
  | str z => exact ⟨false, false, rfl, rfl, q⟩
  | lst xs => exact ⟨true, false, rfl, rfl, q⟩
  | tup xs => exact ⟨false, true, rfl, rfl, q⟩
  | dik ks vs => exact ⟨false, false, rfl, rfl, q⟩
  | _ => cases ho
end
end K08
end DL

-- part DL12
set_option maxHeartbeats 4000000
/-! a <= b <= c of ints; zip of two lists or of two tuples -/
namespace DL
open PySem L2 RZ
section
variable {W : Wd} {B : Bs} {F F' H H' : Hp} {σ : St} {ρ : Ev}
/-- a op1 b op2 c of ints -/
theorem re_chainI {ta tb tc : TE} {a b c : DE} {f g : Int → Int → Bool} (ra : RE W B ta a) (rb : RE W B tb b) (rc : RE W B tc c) :
    RE W B (tChain (rI0 fun i j => .bl (f i j)) (rI0 fun i j => .bl (g i j)) ta tb tc) (fun ρ Q => a ρ fun ρ1 x => b ρ1 fun ρ2 y => ∃ i j, x = .int i ∧ y = .int j ∧ ((f i j = true ∧ c ρ2 fun ρ3 z => ∃ k, z = .int k ∧ Q ρ3 (.bl (g j k))) ∨ (f i j = false ∧ Q ρ2 (.bl false)))) := by
  intro σ H F ρ Q R rl h k
  refine ra σ H F ρ _ _ rl h fun x H1 F1 ρ1 dx r1 s1 d1 h1 => ?_
  refine rb σ H1 F1 ρ1 _ _ r1 h1 fun y H2 F2 ρ2 dy r2 s2 d2 h2 => ?_
  obtain ⟨i, j, rfl, rfl, h2⟩ := h2
  have e1 : x = .int i := d1
  have e2 : y = .int j := d2
  refine ⟨i, j, e1, e2, f i j, rfl, ?_⟩
  rcases h2 with ⟨ef, h2⟩ | ⟨ef, h2⟩
  · rw [if_pos ef]
    refine rc σ H2 F2 ρ2 _ _ r2 h2 fun z H3 F3 ρ3 dz r3 s3 d3 h3 => ?_
    obtain ⟨m, rfl, h3⟩ := h3
    have e3 : z = .int m := d3
    exact ⟨j, m, e2, e3, k _ H3 F3 ρ3 (.bl _) r3 ((s1.trans s2).trans s3) rfl h3⟩
  · rw [if_neg (by rw [ef]; exact Bool.false_ne_true)]
    exact k _ H2 F2 ρ2 (.bl false) r2 (s1.trans s2) rfl h2
theorem iter_zipT {a b : Addr} {xs ys : List V} {ds es : List D} (h1 : F a = some (.tup xs)) (h2 : F b = some (.tup ys)) (d1 : DenL W F ds xs) (d2 : DenL W F es ys) :
    Iter W (ItzT W.K a b) F ((ds.zip es).map fun p => .tup [p.1, p.2]) := by
  intro F2 H e1 e2
  have q1 : SqT W.K H a xs := sqT_of (e1.trans e2) h1
  have q2 : SqT W.K H b ys := sqT_of (e1.trans e2) h2
  have l1 := d1.length
  have l2 := d2.length
  refine ⟨⟨xs, ys, q1, q2, ?_⟩, fun i d hi => ?_⟩
  · rw [List.length_map, List.length_zip]
    omega
  · rw [List.getElem?_map] at hi
    cases hz : (ds.zip es)[i]? with
    | none => rw [hz] at hi; cases hi
    | some p =>
      rw [hz] at hi
      cases hi
      obtain ⟨g1, g2⟩ := zip_get hz
      obtain ⟨x, hx, dx⟩ := d1.get g1
      obtain ⟨y, hy, dy⟩ := d2.get g2
      refine ⟨⟨xs, ys, x, y, q1, q2, hx, hy⟩, fun v H' ⟨T, x', y', ev, hT, eH, a1, a2⟩ => ?_⟩
      have ex : x' = x := Option.some.inj ((a1 xs q1).symm.trans hx)
      have ey : y' = y := Option.some.inj ((a2 ys q2).symm.trans hy)
      subst ex ey ev eH
      have st := Stp.one (o := .tup [x', y']) e2 hT
      exact ⟨_, st, ⟨T, _, rfl, upd_same, ⟨_, _, rfl, dx.mono (e1.trans st.ff), ⟨_, _, rfl, dy.mono (e1.trans st.ff), rfl⟩⟩⟩⟩
theorem ri_zipA {ta : TA} {t : DA} (h : RA W B ta t) : RI W B (iZipA W.K ta) (dZip t) := by
  intro σ H F ρ Q R rl hq k
  refine h σ H F ρ _ _ rl hq fun xs H1 F1 ρ1 ds r1 s1 d1 h1 => ?_
  split at h1
  · obtain ⟨u, v, rfl, ⟨a, xs, e1, hs, hd⟩, ⟨b, ys, e2, hs2, hd2⟩⟩ := den2 d1
    subst e1 e2
    exact ⟨a, b, xs, ys, rfl, .inl ⟨same_sqL r1.ex hs, same_sqL r1.ex hs2, k _ H1 F1 ρ1 _ r1 s1 (iter_zipL hs hs2 hd hd2) h1⟩⟩
  · obtain ⟨u, v, rfl, ⟨a, xs, e1, hs, hd⟩, ⟨b, ys, e2, hs2, hd2⟩⟩ := den2 d1
    subst e1 e2
    exact ⟨a, b, xs, ys, rfl, .inr ⟨sqT_of r1.ex hs, sqT_of r1.ex hs2, k _ H1 F1 ρ1 _ r1 s1 (iter_zipT hs hs2 hd hd2) h1⟩⟩
  · exact h1.elim
end
end DL

-- part DL13
set_option maxHeartbeats 4000000
/-! comprehensions and for loops by an invariant; a comprehension that is a map -/
namespace DL
open PySem L2
/-- two states alike but for the slots vs and the counter -/
def Agr (vs : List Nat) (ρ ρ' : Ev) : Prop := ρ'.sl.length = ρ.sl.length ∧ ∀ j, j ∉ vs → ρ'.sl[j]? = ρ.sl[j]?
theorem Agr.refl {vs : List Nat} {ρ : Ev} : Agr vs ρ ρ := ⟨rfl, fun _ _ => rfl⟩
theorem Agr.back {vs : List Nat} {ρ ρ' : Ev} (h : Agr vs ρ ρ') : ρ.back vs ρ' = ρ.cnt ρ'.c := by
  show (⟨resS vs 0 ρ.sl ρ'.sl, ρ'.c⟩ : Ev) = ⟨ρ.sl, ρ'.c⟩
  congr 1
  refine List.ext_getElem? fun i => ?_
  rw [resS_get vs 0 ρ.sl ρ'.sl i h.1, Nat.zero_add]
  split
  · rfl
  · rename_i hc
    exact h.2 i fun hm => hc (by simpa using hm)
theorem lc_inv {g : DG} {tt : DT} {e : DE} {vs : List Nat} {ρ : Ev} {K : Ev → List D → Prop} {ds : List D} (I : Nat → Nat → List D → Prop)
    (step : ∀ k d acc c (T : Ev → D → Prop) (U : Ev → Prop), ds[k]? = some d → I k c acc → (∀ ρ3 y, Agr vs ρ ρ3 → I (k + 1) ρ3.c (acc ++ [y]) → T ρ3 y) → (∀ ρ2, Agr vs ρ ρ2 → I (k + 1) ρ2.c acc → U ρ2) →
      g d ((ρ.cnt c).wipe vs) fun ρ1 => tt ρ1 fun ρ2 b => match b with | true => e ρ2 T | false => U ρ2)
    (hl : ∀ k c acc, k < ds.length → I k c acc → acc.length < sizeLine) (h0 : I 0 ρ.c []) (hK : ∀ c acc, I ds.length c acc → K (ρ.cnt c) acc) : dLcL g tt e vs ds ρ [] K := by
  have go : ∀ m k c acc, k + m = ds.length → I k c acc → dLcL g tt e vs (ds.drop k) (ρ.cnt c) acc K := by
    intro m
    induction m with
    | zero =>
      intro k c acc hk hi
      rw [List.drop_eq_nil_of_le (by omega)]
      have : k = ds.length := by omega
      subst this
      exact hK c acc hi
    | succ m ih =>
      intro k c acc hk hi
      have hlt : k < ds.length := by omega
      rw [List.drop_eq_getElem_cons hlt]
      refine step k ds[k] acc c _ _ (List.getElem?_eq_getElem hlt) hi (fun ρ3 y ha h => ⟨hl k c acc hlt hi, ?_⟩) (fun ρ2 ha h => ?_)
      · have hb : (ρ.cnt c).back vs ρ3 = ρ.cnt ρ3.c := Agr.back (ρ := ρ.cnt c) ha
        rw [hb]
        exact ih (k + 1) _ _ (by omega) h
      · have hb : (ρ.cnt c).back vs ρ2 = ρ.cnt ρ2.c := Agr.back (ρ := ρ.cnt c) ha
        rw [hb]
        exact ih (k + 1) _ _ (by omega) h
  exact go ds.length 0 ρ.c [] (by omega) h0
theorem Agr.setw {i : Nat} {s : Sl} {ρ : Ev} {c : Nat} : Agr [i] ρ (((ρ.cnt c).wipe [i]).set i s) := by
  refine ⟨?_, fun j hj => ?_⟩
  · show ((wipeS ρ.sl [i]).set i s).length = _
    rw [List.length_set, wipeS_length]
  · have hne : i ≠ j := fun e => hj (e ▸ List.mem_singleton.mpr rfl)
    show ((wipeS ρ.sl [i]).set i s)[j]? = _
    rw [List.getElem?_set_ne hne]
    show (wipeS ρ.sl [i])[j]? = _
    unfold wipeS
    rw [List.getElem?_set_ne hne]; rfl
/-- [f(one) for one in ds], where f draws nothing -/
theorem lc_map {i : Nat} {e : DE} {ρ : Ev} {K : Ev → List D → Prop} {ds : List D} (f : D → D) (hs : ds.length ≤ sizeLine)
    (he : ∀ d ∈ ds, ∀ ρ1 Q, Agr [i] ρ ρ1 → ρ1.c = ρ.c → ρ1.sl[i]? = some (.v d) → Q ρ1 (f d) → e ρ1 Q) (hi : i < ρ.sl.length) (hK : K ρ (ds.map f)) : dLcL (dgName i) dYes e [i] ds ρ [] K := by
  refine lc_inv (fun k c acc => c = ρ.c ∧ acc = (ds.take k).map f) (fun k d acc c T U hd hI hT hU => ?_) (fun k c acc hk hI => ?_) ⟨rfl, by rw [List.take_zero]; rfl⟩ (fun c acc hI => ?_)
  · obtain ⟨rfl, rfl⟩ := hI
    have hlt : k < ds.length := by
      rcases Nat.lt_or_ge k ds.length with h | h
      · exact h
      · rw [List.getElem?_eq_none h] at hd; cases hd
    show e (((ρ.cnt ρ.c).wipe [i]).set i (.v d)) T
    refine he d (List.mem_of_getElem? hd) _ _ Agr.setw rfl ?_ (hT _ _ Agr.setw ⟨rfl, ?_⟩)
    · show ((wipeS ρ.sl [i]).set i _)[i]? = _
      rw [List.getElem?_set_self (by rw [wipeS_length]; exact hi)]
    · rw [List.take_add_one, hd, List.map_append]; rfl
  · rw [hI.2, List.length_map, List.length_take]; omega
  · obtain ⟨rfl, rfl⟩ := hI
    rw [List.take_length]; exact hK
/-- for: by an invariant, where the body does not break -/
theorem for_inv {g : DG} {b : DS} {ds : List D} {DD : DEnds} {ρ : Ev} (J : Nat → Ev → Prop)
    (step : ∀ k d ρ (N : Ev → Prop), ds[k]? = some d → J k ρ → (∀ ρ', J (k + 1) ρ' → N ρ') → g d ρ fun ρ1 => b { nx := N, ct := N, bk := DD.nx, rt := DD.rt } ρ1)
    (h0 : J 0 ρ) (hK : ∀ ρ, J ds.length ρ → DD.nx ρ) : dForL g b ds DD ρ := by
  have go : ∀ m k ρ, k + m = ds.length → J k ρ → dForL g b (ds.drop k) DD ρ := by
    intro m
    induction m with
    | zero =>
      intro k ρ hk hi
      rw [List.drop_eq_nil_of_le (by omega)]
      have : k = ds.length := by omega
      subst this
      exact hK ρ hi
    | succ m ih =>
      intro k ρ hk hi
      have hlt : k < ds.length := by omega
      rw [List.drop_eq_getElem_cons hlt]
      exact step k ds[k] ρ _ (List.getElem?_eq_getElem hlt) hi fun ρ' h => ih (k + 1) ρ' (by omega) h
  exact go ds.length 0 ρ (by omega) h0
end DL

-- part DM1
set_option maxHeartbeats 4000000
/-! a dict with tuple keys is locked while it is walked -/
namespace DL
open PySem L2
section
variable {W : Wd} {B : Bs} {F F' H H' : Hp} {σ : St} {ρ : Ev}
/-- a dict's object, locked or not -/
def DTo (kvs : List (List Key × V)) (x : HO) : Prop := x = .dT kvs ∨ ∃ od, x = .frz od (.dT kvs)
/-- alike but for the lock at a -/
structure Sim (a : Addr) (kvs : List (List Key × V)) (y : HO) (F F1 : Hp) : Prop where
  off : ∀ b, b ≠ a → F1 b = F b
  old : ∃ x, F a = some x ∧ DTo kvs x
  new : F1 a = some y
  ok : DTo kvs y
theorem Sim.upd {a : Addr} {kvs : List (List Key × V)} {x y : HO} (h : F a = some x) (hx : DTo kvs x) (hy : DTo kvs y) : Sim a kvs y F (upd F a y) := ⟨fun b hb => upd_ne hb, ⟨x, h, hx⟩, upd_same, hy⟩
theorem Sim.at {a b : Addr} {kvs : List (List Key × V)} {y o : HO} (s : Sim a kvs y F F') (h : F b = some o) (n : ∀ kvs, o ≠ .dT kvs) (n2 : ∀ od kvs, o ≠ .frz od (.dT kvs)) : F' b = some o := by
  by_cases hb : b = a
  · obtain ⟨x, hx, ok⟩ := s.old
    rw [hb, hx] at h
    cases h
    rcases ok with e | ⟨od, e⟩
    · exact absurd e (n _)
    · exact absurd e (n2 _ _)
  · rw [s.off b hb]; exact h
theorem Sim.rd {a b : Addr} {kvs : List (List Key × V)} {y o : HO} (s : Sim a kvs y F F') (h : Rd F b o) (n : ∀ kvs, o ≠ .dT kvs) (n2 : ∀ od kvs, o ≠ .frz od (.dT kvs)) : Rd F' b o := by
  rcases h with h | ⟨od, h⟩
  · exact .inl (s.at h n n2)
  · exact .inr ⟨od, s.at h (fun _ z => nomatch z) fun od' kvs' z => by cases z; exact n _ rfl⟩
theorem Sim.rdT {a b : Addr} {kvs kv2 : List (List Key × V)} {y : HO} (s : Sim a kvs y F F') (h : Rd F b (.dT kv2)) : Rd F' b (.dT kv2) := by
  by_cases hb : b = a
  · obtain ⟨x, hx, ok⟩ := s.old
    have e : kvs = kv2 := by
      rw [hb] at h
      rcases h with h | ⟨od, h⟩ <;> rw [hx] at h <;> cases h <;> rcases ok with z | ⟨_, z⟩ <;> cases z <;> rfl
    subst e hb
    rcases s.ok with z | ⟨od, z⟩
    · exact .inl (by rw [s.new, z])
    · exact .inr ⟨od, by rw [s.new, z]⟩
  · rcases h with h | ⟨od, h⟩
    · exact .inl (by rw [s.off b hb]; exact h)
    · exact .inr ⟨od, by rw [s.off b hb]; exact h⟩
theorem Sim.seq {a b : Addr} {kvs : List (List Key × V)} {y : HO} {K : PySem.W.Frag} {xs : List V} (s : Sim a kvs y F F') (h : SqL K F b xs) : SqL K F' b xs := h.imp (fun h => s.rd h (fun _ z => nomatch z) fun _ _ z => nomatch z) id
mutual
theorem Den.sim {a : Addr} {kvs : List (List Key × V)} {y : HO} (s : Sim a kvs y F F') : ∀ {d : D} {v : V}, Den W F d v → Den W F' d v
  | .non, _, h => h
  | .bl _, _, h => h
  | .int _, _, h => h
  | .str _, _, h => h
  | .lst ds, _, ⟨a, xs, ev, hs, hd⟩ => ⟨a, xs, ev, s.seq hs, DenL.sim s hd⟩
  | .tup ds, _, ⟨a, xs, ev, hs, hd⟩ => ⟨a, xs, ev, s.at hs (fun _ z => nomatch z) (fun _ _ z => nomatch z), DenL.sim s hd⟩
  | .obj c ns ds, _, ⟨a, C, dx, gs, ev, hf, hc, hn, hd⟩ => ⟨a, C, dx, gs, ev, s.at hf (fun _ z => nomatch z) (fun _ _ z => nomatch z), hc, hn, DenL.sim s hd⟩
  | .exc C ns ds, _, ⟨a, gs, ev, hf, hn, hd⟩ => ⟨a, gs, ev, hf.elim (fun h => .inl ⟨s.at h.1 (fun _ z => nomatch z) (fun _ _ z => nomatch z), h.2⟩) (fun ⟨dx, h1, h2⟩ => .inr ⟨dx, s.at h1 (fun _ z => nomatch z) (fun _ _ z => nomatch z), s.at h2 (fun _ z => nomatch z) (fun _ _ z => nomatch z)⟩), hn, DenL.sim s hd⟩
  | .dik ks vs, _, ⟨a, kvs, ev, hf, hn, hd⟩ => ⟨a, kvs, ev, s.at hf (fun _ z => nomatch z) (fun _ _ z => nomatch z), hn, DenL.sim s hd⟩
  | .dic ks vs, _, ⟨a, kvs, ev, hf, hn, hd⟩ => ⟨a, kvs, ev, s.rdT hf, hn, DenL.sim s hd⟩
  | .opq _, _, h => h
  | .well, _, h => h
theorem DenL.sim {a : Addr} {kvs : List (List Key × V)} {y : HO} (s : Sim a kvs y F F') : ∀ {ds : List D} {xs : List V}, DenL W F ds xs → DenL W F' ds xs
  | [], _, h => h
  | _ :: _, _, ⟨x, r, ev, h1, h2⟩ => ⟨x, r, ev, Den.sim s h1, DenL.sim s h2⟩
end
theorem OwnAt.sim {a p : Addr} {kvs : List (List Key × V)} {y : HO} (s : Sim a kvs y F F') (e : H' p = H p) : ∀ {d : D}, OwnAt W F H p d → OwnAt W F' H' p d
  | .lst _, ⟨_, h, k⟩ => ⟨_, e.trans h, k.sim s⟩
  | .obj _ _ _, ⟨_, _, _, h, c, n, k⟩ => ⟨_, _, _, e.trans h, c, n, k.sim s⟩
  | .dik _ _, ⟨_, h, n, k⟩ => ⟨_, e.trans h, n, k.sim s⟩
  | .dic _ _, ⟨_, h, n, k⟩ => ⟨_, e.trans h, n, k.sim s⟩
theorem TabS_sim {a P : Addr} {kvs : List (List Key × V)} {y : HO} {q : Str} (s : Sim a kvs y H H') (t : LamX.TabS H P q) : LamX.TabS H' P q := by
  obtain ⟨ps, h1, h2, h3⟩ := t
  exact ⟨ps, s.at h1 (fun _ z => nomatch z) (fun _ _ z => nomatch z), h2, fun pos cv hc => let ⟨c, e1, e2⟩ := h3 pos cv hc; ⟨c, e1, s.at e2 (fun _ z => nomatch z) (fun _ _ z => nomatch z)⟩⟩
/-- the lock at a goes on or off -/
theorem Rel.sim {a : Addr} {kvs : List (List Key × V)} {y : HO} {G0 J0 : Hp} (r : Rel W B F H σ ρ) (s : Sim a kvs y F F') (t : Sim a kvs y H H') (hJ : ∀ b, b ≠ a → J0 b = B.H0 b) (hG : ∀ b, b ≠ a → G0 b = B.F0 b)
    (kp : ∀ o, J0 a = some o → a ∉ B.io → o = y) (nw : nt (J0 a) → G0 a ≠ none) (f0 : ∀ o, G0 a = some o → o = y) (io : a ∈ B.io → nt (some y)) (z0 : J0 a = none → B.H0 a = none) (z1 : B.H0 a = none → J0 a = none) : Rel W ⟨G0, J0, B.io, B.hid⟩ F' H' σ ρ := by
  have ne : ∀ {b : Addr}, F b = none → b ≠ a := fun {b} h z => by
    obtain ⟨x, hx, _⟩ := s.old
    rw [z, hx] at h; cases h
  have fr : ∀ {b : Addr}, F b = none → F' b = none := fun {b} h => by rw [s.off b (ne h)]; exact h
  refine ⟨fun b o h => ?_, r.len, fun i sl h => ?_, r.inj, ⟨?_, ?_⟩, fun b o h1 h2 h3 => ?_, fun b h1 h2 => ?_, fun b o h => ?_, fun b hb => ?_, fun q hq => ?_, r.hap, r.hnd⟩
  · by_cases hb : b = a
    · rw [hb, s.new] at h; rw [hb, t.new]; exact h
    · rw [s.off b hb] at h; rw [t.off b hb]; exact r.ex _ _ h
  · have q := r.sl i sl h
    cases sl with
    | un => trivial
    | v d => obtain ⟨u, e, hd⟩ := q; exact ⟨u, e, hd.sim s⟩
    | o d =>
      obtain ⟨p, e, fp, h0, hw, own⟩ := q
      refine ⟨p, e, fr fp, h0.imp (fun h0 => ?_) id, hw, own.sim s (t.off p (ne fp))⟩
      show J0 p = none
      rw [hJ p (ne fp)]; exact h0
  · have w := r.well.1
    unfold WellP at w ⊢
    cases hp : W.pw with
    | none => trivial
    | some p =>
      rw [hp] at w
      obtain ⟨h1, h2, pc, ns, tt, rr, h3, h4, h5⟩ := w
      exact ⟨fr h1, h2, pc, ns, tt, rr, (t.off p (ne h1)).trans h3, s.seq h4, h5⟩
  · intro q P e
    obtain ⟨h1, h2, h3⟩ := r.well.2 q P e
    exact ⟨fr h1, h2, TabS_sim t h3⟩
  · by_cases hb : b = a
    · subst hb
      rw [kp o h1 h3]
      exact .inl t.new
    · have h1 : J0 b = some o := h1
      rw [hJ b hb] at h1
      rw [t.off b hb]
      exact r.keep b o h1 h2 h3
  · by_cases hb : b = a
    · subst hb; exact absurd h2 (nw h1)
    · have h1 : nt (J0 b) := h1
      have h2 : G0 b = none := h2
      rw [hJ b hb] at h1
      rw [hG b hb] at h2
      rw [s.off b hb]; exact r.new b h1 h2
  · by_cases hb : b = a
    · subst hb; rw [f0 o h]; exact s.new
    · have h : G0 b = some o := h
      rw [hG b hb] at h
      rw [s.off b hb]; exact r.f0 _ _ h
  · by_cases e : b = a
    · subst e; rw [t.new]; exact io hb
    · rw [t.off b e]; exact r.ioH b hb
  · obtain ⟨h1, h2, h3, h4⟩ := r.hid q hq
    refine ⟨fr h1, ?_, h3, h4.sim s (t.off _ (ne h1))⟩
    show J0 q.1 = none
    rw [hJ _ (ne h1)]; exact h2
/-- the base while the dict at a is locked -/
def Bs.lk (B : Bs) (a : Addr) (y : HO) : Bs := ⟨upd B.F0 a y, fun b => if b = a then (if (B.H0 a).isSome then some y else none) else B.H0 b, B.io, B.hid⟩
theorem DTo.nt {kvs : List (List Key × V)} {y : HO} (h : DTo kvs y) : nt (some y) := nt_of rfl fun xs z => by
  rcases h with e | ⟨_, e⟩ <;> rw [e] at z <;> cases z
theorem Rel.lock {a : Addr} {kvs : List (List Key × V)} {y : HO} (r : Rel W B F H σ ρ) (h : F a = some (.dT kvs)) (hy : DTo kvs y) : Rel W (B.lk a y) (upd F a y) (upd H a y) σ ρ := by
  refine r.sim (a := a) (kvs := kvs) (y := y) (Sim.upd h (.inl rfl) hy) (Sim.upd (r.ex _ _ h) (.inl rfl) hy) (fun b hb => if_neg hb) (fun b hb => upd_ne hb) (fun o h1 h2 => ?_) (fun h1 h2 => ?_) (fun o h1 => ?_) (fun _ => hy.nt) (fun h1 => ?_) fun h1 => ?_
  · rw [if_pos rfl] at h1
    split at h1
    · exact (Option.some.inj h1).symm
    · cases h1
  · rw [upd_same] at h2; cases h2
  · rw [upd_same] at h1; exact (Option.some.inj h1).symm
  · rw [if_pos rfl] at h1
    split at h1
    · cases h1
    · rename_i z
      simpa using z
  · rw [if_pos rfl, if_neg (by rw [h1]; simp)]
/-- what was so at the lock, for the unlocking -/
theorem Rel.unlock {a : Addr} {kvs : List (List Key × V)} {y : HO} {F1 H1 : Hp} {σ1 : St} {ρ1 : Ev} (r0 : Rel W B F H σ ρ) (h : F a = some (.dT kvs)) (hy : DTo kvs y) (r : Rel W (B.lk a y) F1 H1 σ1 ρ1) :
    Rel W B (upd F1 a (.dT kvs)) (upd H1 a (.dT kvs)) σ1 ρ1 := by
  have e1 : F1 a = some y := r.f0 a y upd_same
  have kp0 : ∀ o, B.H0 a = some o → a ∉ B.io → o = .dT kvs := fun o h1 h2 => by
    have hw : W.pw ≠ some a := fun z => by rw [r0.well.fp z] at h; cases h
    rcases r0.keep a o h1 hw h2 with e | ⟨ps, qs, _, e⟩
    · rw [r0.ex _ _ h] at e; exact (Option.some.inj e).symm
    · rw [r0.ex _ _ h] at e; cases e
  have h0 : ∀ o, B.H0 a = some o → nt (B.H0 a) → B.F0 a ≠ none := fun o h1 h2 h3 => by rw [r0.new a h2 h3] at h; cases h
  refine r.sim (a := a) (kvs := kvs) (y := .dT kvs) (G0 := B.F0) (J0 := B.H0) (Sim.upd e1 hy (.inl rfl)) (Sim.upd (r.ex _ _ e1) hy (.inl rfl)) (fun b hb => ?_) (fun b hb => ?_) (fun o h1 h2 => kp0 o h1 h2) (fun h1 => ?_) (fun o h1 => ?_) (fun _ => DTo.nt (.inl rfl)) (fun h1 => ?_) fun h1 => ?_
  · show B.H0 b = if b = a then _ else B.H0 b
    rw [if_neg hb]
  · show B.F0 b = upd B.F0 a y b
    rw [upd_ne hb]
  · cases q : B.H0 a with
    | none => rw [q] at h1; exact absurd rfl h1.1
    | some o => exact h0 o q h1
  · have := r0.f0 _ _ h1
    rw [h] at this
    exact (Option.some.inj this).symm
  · show (if a = a then (if (B.H0 a).isSome then some y else none) else B.H0 a) = none
    rw [if_pos rfl, if_neg (by rw [h1]; simp)]
  · have h1 : (if a = a then (if (B.H0 a).isSome then some y else none) else B.H0 a) = none := h1
    rw [if_pos rfl] at h1
    split at h1
    · cases h1
    · rename_i z
      simpa using z
theorem same_unlock {a : Addr} {kvs : List (List Key × V)} {y : HO} {F1 : Hp} (h : F a = some (.dT kvs)) (s : Same (upd F a y) F1) : Same F (upd F1 a (.dT kvs)) := fun b o e => by
  by_cases hb : b = a
  · subst hb; rw [h] at e; cases e; exact upd_same
  · rw [upd_ne hb]; exact s b o (by rw [upd_ne hb]; exact e)
theorem sim_back {a : Addr} {kvs : List (List Key × V)} {y : HO} {F1 : Hp} (hy : DTo kvs y) (s : Same (upd F a y) F1) : Sim a kvs (.dT kvs) F1 (upd F1 a (.dT kvs)) := Sim.upd (s a y upd_same) hy (.inl rfl)
theorem Fits.lock {a : Addr} {kvs : List (List Key × V)} {od : Obj} {D : Ends} {DD : DEnds} (r0 : Rel W B F H σ ρ) (h : F a = some (.dT kvs)) (f : Fits W B F D DD) :
    Fits W (B.lk a (.frz od (.dT kvs))) (upd F a (.frz od (.dT kvs))) ⟨fun σ' H' => H' a = some (.frz od (.dT kvs)) ∧ D.nx σ' (upd H' a (.dT kvs)), fun v H' => H' a = some (.frz od (.dT kvs)) ∧ D.rt v (upd H' a (.dT kvs)), fun σ' H' => H' a = some (.frz od (.dT kvs)) ∧ D.bk σ' (upd H' a (.dT kvs)), fun σ' H' => H' a = some (.frz od (.dT kvs)) ∧ D.ct σ' (upd H' a (.dT kvs))⟩ DD := by
  have hy : DTo kvs (.frz od (.dT kvs)) := .inr ⟨od, rfl⟩
  have at_ : ∀ {F1 H1 σ1 ρ1}, Rel W (B.lk a (.frz od (.dT kvs))) F1 H1 σ1 ρ1 → H1 a = some (.frz od (.dT kvs)) := fun {F1 H1 σ1 ρ1} r => r.ex _ _ (r.f0 a _ upd_same)
  exact ⟨fun σ1 H1 F1 ρ1 r s q => ⟨at_ r, f.nx σ1 _ _ ρ1 (r0.unlock h hy r) (same_unlock h s) q⟩, fun σ1 H1 F1 ρ1 r s q => ⟨at_ r, f.bk σ1 _ _ ρ1 (r0.unlock h hy r) (same_unlock h s) q⟩, fun σ1 H1 F1 ρ1 r s q => ⟨at_ r, f.ct σ1 _ _ ρ1 (r0.unlock h hy r) (same_unlock h s) q⟩,
    fun σ1 H1 F1 ρ1 d v r s dv q => ⟨at_ r, f.rt σ1 _ _ ρ1 d v (r0.unlock h hy r) (same_unlock h s) (dv.sim (sim_back hy s)) q⟩⟩
end
end DL

-- part DM2
set_option maxHeartbeats 4000000
/-! for loops and comprehensions over a dict with tuple keys -/
namespace DL
open PySem L2
/-- locked meanwhile, unless it is locked already -/
def tLk (t : TS) : TS := fun D σ H => tLock t D σ H ∨ t D σ H
def tLkE (t : TE) : TE := fun σ H Q => tLockE t σ H Q ∨ t σ H Q
theorem ps_lk {X : Cx} {st : Stmt} {t : TS} (h : PS X st t) : PS X st (tLk t) := ⟨fun pins s σ H D I hw => hw.elim (fun hw => (ps_lock h).run pins s σ H D I hw) fun hw => h.run pins s σ H D I hw⟩
theorem pe_lk {X : Cx} {e : Expr} {t : TE} (h : PE X e t) : PE X e (tLkE t) := ⟨fun pins s σ H Q I hw => hw.elim (fun hw => (pe_lock h).run pins s σ H Q I hw) fun hw => h.run pins s σ H Q I hw⟩
/-- a walk over the locked dict at slot i: what it yields -/
def WalkT (W : Wd) (wi : TE → TI) (fn : List (List Key × D) → List D) : Prop := ∀ (i : Nat) (σ : St) (H F : Hp) (R : It → Hp → Prop) (a : Addr) (od : Obj) (l : List (List Key × D)) (kvs : List (List Key × V)),
  σ[i]? = some (some (.ref a)) → F a = some (.frz od (.dT kvs)) → Same F H → DenP W F l kvs → (∀ J, Iter W J F (fn l) → R J H) → wi (tVar i) σ H R
section
variable {W : Wd} {B : Bs} {F F' H H' : Hp} {σ : St} {ρ : Ev}
theorem denL_key : ∀ (k : List Key), DenL W F (k.map keyD) (k.map kV)
  | [] => rfl
  | .inl i :: k => ⟨_, _, rfl, rfl, denL_key k⟩
  | .inr x :: k => ⟨_, _, rfl, rfl, denL_key k⟩
theorem walk_keys : WalkT W iKeys fun l => l.map fun p => keyT p.1 := by
  intro i σ H F R a od l kvs hs hf ex dp k
  refine ⟨.ref a, hs, a, od, rfl, .inr ⟨kvs, ex _ _ hf, k _ ?_⟩⟩
  intro F2 H2 e1 e2
  have h2 : H2 a = some (.frz od (.dT kvs)) := e2 _ _ (e1 _ _ hf)
  refine ⟨⟨h2, by rw [List.length_map, dp.length]; exact Nat.le_refl _⟩, fun j d hj => ?_⟩
  rw [List.getElem?_map] at hj
  cases q : l[j]? with
  | none => rw [q] at hj; cases hj
  | some p =>
    rw [q] at hj
    cases hj
    have hlt : j < kvs.length := by rw [← dp.length]; exact (List.getElem?_eq_some_iff.mp q).1
    refine ⟨⟨h2, hlt⟩, fun x H' ⟨eH, kk, v, b, hk, ex', hb⟩ => ?_⟩
    subst eH ex'
    have e : kk = p.1 := by
      have h1 : (kvs.map (·.1))[j]? = (l.map (·.1))[j]? := by rw [dp.1]
      rw [List.getElem?_map, List.getElem?_map, hk, q] at h1
      exact Option.some.inj h1
    subst e
    obtain ⟨F3, st, h3⟩ := Stp.letT e2 hb
    exact ⟨F3, st, b, _, rfl, h3, denL_key _⟩
theorem for_core {tg : TG} {tb : TS} {g : DG} {b : DS} {is : List Nat} {J : It} {ds : List D} {D : Ends} {DD : DEnds} (rg : RG W B tg g is) (rb : RS W B tb b) (r1 : Rel W B F H σ ρ) (it : Iter W J F ds) (h1 : dForL g b ds DD ρ) (f : Fits W B F D DD) :
    ∃ W : Nat → Nat → St → Hp → Prop, (∃ m, W 0 m σ H) ∧ ∀ i m σ H, W i m σ H →
      (J.stop i H ∧ D.nx σ H) ∨ (J.go i H ∧ ∃ N : St → Hp → Prop, (∀ σ' H', N σ' H' → ∃ m', m' < m ∧ W (i + 1) m' σ' H') ∧ ∀ x H', J.yld i H x H' → tg x σ H' fun σ2 H2 => tb { D with nx := N, ct := N, bk := D.nx } σ2 H2) := by
  refine ⟨fun i m σ H => ∃ F2 ρ2, Rel W B F2 H σ ρ2 ∧ Same F F2 ∧ i ≤ ds.length ∧ m = ds.length - i ∧ dForL g b (ds.drop i) DD ρ2, ⟨ds.length, F, ρ, r1, Same.refl _, Nat.zero_le _, rfl, h1⟩, ?_⟩
  rintro i m σ2 H2 ⟨F2, ρ2, r2, s2, hi, rfl, hq⟩
  obtain ⟨st, go⟩ := it F2 H2 s2 r2.ex
  by_cases hlt : i < ds.length
  · have hd : ds[i]? = some ds[i] := List.getElem?_eq_getElem hlt
    obtain ⟨g1, y1⟩ := go i _ hd
    rw [List.drop_eq_getElem_cons hlt] at hq
    refine .inr ⟨g1, fun σ3 H3 => ∃ F3 ρ3, Rel W B F3 H3 σ3 ρ3 ∧ Same F F3 ∧ dForL g b (ds.drop (i + 1)) DD ρ3, fun σ3 H3 ⟨F3, ρ3, r3, s3, q3⟩ => ⟨ds.length - (i + 1), by omega, F3, ρ3, r3, s3, hlt, rfl, q3⟩, fun x H3 hy => ?_⟩
    obtain ⟨F3, st3, dx⟩ := y1 x H3 hy
    have r3 := r2.stp st3
    refine rg σ2 H3 F3 ρ2 x _ _ _ r3 dx hq fun σ4 ρ4 r4 _ _ q4 => ?_
    refine rb σ4 H3 F3 ρ4 _ _ r4 q4 ⟨fun σ5 H5 F5 ρ5 r5 s5 q5 => ⟨F5, ρ5, r5, (s2.trans st3.ff).trans s5, q5⟩, fun σ5 H5 F5 ρ5 r5 s5 q5 => f.nx σ5 H5 F5 ρ5 r5 ((s2.trans st3.ff).trans s5) q5, fun σ5 H5 F5 ρ5 r5 s5 q5 => ⟨F5, ρ5, r5, (s2.trans st3.ff).trans s5, q5⟩, fun σ5 H5 F5 ρ5 d v r5 s5 dv q5 => f.rt σ5 H5 F5 ρ5 d v r5 ((s2.trans st3.ff).trans s5) dv q5⟩
  · have e : i = ds.length := by omega
    subst e
    rw [List.drop_length] at hq
    exact .inl ⟨st, f.nx σ2 H2 F2 ρ2 r2 s2 hq⟩
theorem Rel.look {i : Nat} {Q : Ev → D → Prop} (r : Rel W B F H σ ρ) (h : dVar i ρ Q) (hio : B.io = []) : ∃ v F1 ρ1 d, σ[i]? = some (some v) ∧ Rel W B F1 H σ ρ1 ∧ Same F F1 ∧ Den W F1 d v ∧ Q ρ1 d := by
  unfold dVar at h
  split at h
  · rename_i d e
    obtain ⟨u, hu, hd⟩ := r.sl i _ e
    exact ⟨u, F, ρ, d, hu, r, Same.refl _, hd, h⟩
  · rename_i d e
    obtain ⟨v, F', hv, sf, den, r'⟩ := r.frz e hio
    exact ⟨v, F', _, d, hv, r', sf, den, h⟩
  · exact h.elim
/-- for .. in x, x a dict at slot i -/
def dForK (fn : List (List Key × D) → List D) (i : Nat) (g : DG) (b : DS) : DS := fun DD ρ => dVar i ρ fun ρ1 d => ∃ l, d = dicP l ∧ dForL g b (fn l) DD ρ1
theorem rs_forK {wi : TE → TI} {fn : List (List Key × D) → List D} {i : Nat} {tg : TG} {tb : TS} {g : DG} {b : DS} {is : List Nat} (wk : WalkT W wi fn) (rg : ∀ B', B'.io = B.io → RG W B' tg g is) (rb : ∀ B', B'.io = B.io → RS W B' tb b) (hio : B.io = [] := by rfl) :
    RS W B (tLk (tFor (wi (tVar i)) tg tb)) (dForK fn i g b) := by
  intro σ H F ρ D DD r h f
  obtain ⟨v, F1, ρ1, d, hv, r1, s1, dv, l, rfl, hq⟩ := r.look h hio
  obtain ⟨a, kvs, rfl, hr, hks, hvs⟩ := dv
  have dp : DenP W F1 l kvs := ⟨hks, hvs⟩
  rcases hr with hr | ⟨od, hr⟩
  · refine .inl ⟨a, .dT kvs, r1.ex _ _ hr, trivial, fun od => ?_⟩
    have hy : DTo kvs (.frz od (.dT kvs)) := .inr ⟨od, rfl⟩
    have r2 := r1.lock hr hy
    refine wk i σ _ _ _ a od l kvs hv upd_same r2.ex ⟨dp.1, dp.2.sim (Sim.upd hr (.inl rfl) hy)⟩ fun J it => ?_
    exact for_core (rg (B.lk a (.frz od (.dT kvs))) rfl) (rb (B.lk a (.frz od (.dT kvs))) rfl) r2 it hq ((f.mono s1).lock r1 hr)
  · refine .inr (wk i σ H F1 _ a od l kvs hv hr r1.ex dp fun J it => ?_)
    exact for_core (rg B rfl) (rb B rfl) r1 it hq (f.mono s1)
theorem lc_coreD {tg : TG} {tt : TT} {te : TE} {g : DG} {t : DT} {e : DE} {is vs : List Nat} {J : It} {ds : List D} {Q : Ev → D → Prop} {R : VK} (rg : ∀ B', B'.io = B.io → RG W B' tg g is) (rt : ∀ B', B'.io = B.io → RT W B' tt t) (re : ∀ B', B'.io = B.io → RE W B' te e) (hs : ∀ i ∈ is, i ∈ vs)
    (rl : Rel W B F H σ ρ) (it : Iter W J F ds) (no : noOwn ρ vs = true) (h : dLcL g t e vs ds ρ [] fun ρ2 acc => Q ρ2 (.lst acc)) (k : ∀ p H' F' ρ' d, Rel W B F' H' σ ρ' → Same F F' → New W B F' H' σ ρ' p d → Q ρ' d → R (.ref p) H') :
    ∀ D, H D = none → ∃ W : Nat → Nat → Hp → Prop, (∃ m, W 0 m (upd H D (.lst []))) ∧ ∀ i m H, W i m H →
  (J.stop i H ∧ R (.ref D) H) ∨ (J.go i H ∧ ∃ Nx : Hp → Prop, (∀ H', Nx H' → ∃ m', m' < m ∧ W (i + 1) m' H') ∧ ∀ x H', J.yld i H x H' → tg x (wipe σ vs) H' fun σ2 H2 => wipe σ2 vs = wipe σ vs ∧ tt σ2 H2 fun b H3 =>
    if b = true then te σ2 H3 fun y H4 => ∃ acc, H4 D = some (.lst acc) ∧ acc.length < sizeLine ∧ Nx (upd H4 D (.lst (acc ++ [y]))) else Nx H3) := by
  intro D hD
  have nD : New W B F (upd H D (.lst [])) σ ρ D (.lst []) := new_of rl hD ⟨[], upd_same, rfl⟩
  have rl' : Rel W (B.hide D (.lst [])) F (upd H D (.lst [])) σ ρ := (rl.stp (Stp.lay (o := .lst []) rl.ex hD)).hide nD
  refine ⟨fun i m H => ∃ F2 ρ2 acc, Rel W (B.hide D (.lst acc)) F2 H σ ρ2 ∧ Same F F2 ∧ i ≤ ds.length ∧ m = ds.length - i ∧ noOwn ρ2 vs = true ∧ dLcL g t e vs (ds.drop i) ρ2 acc fun ρ2 acc => Q ρ2 (.lst acc),
    ⟨ds.length, F, ρ, [], rl', Same.refl _, Nat.zero_le _, rfl, no, h⟩, ?_⟩
  rintro i m H2 ⟨F2, ρ2, acc, r2, s2, hi, rfl, no2, hq⟩
  obtain ⟨st, go⟩ := it F2 H2 s2 r2.ex
  by_cases hlt : i < ds.length
  · have hd : ds[i]? = some ds[i] := List.getElem?_eq_getElem hlt
    obtain ⟨g1, y1⟩ := go i _ hd
    rw [List.drop_eq_getElem_cons hlt] at hq
    refine .inr ⟨g1, fun H3 => ∃ F3 ρ3 acc, Rel W (B.hide D (.lst acc)) F3 H3 σ ρ3 ∧ Same F F3 ∧ noOwn ρ3 vs = true ∧ dLcL g t e vs (ds.drop (i + 1)) ρ3 acc fun ρ2 acc => Q ρ2 (.lst acc),
      fun H3 ⟨F3, ρ3, acc3, r3, s3, n3, q3⟩ => ⟨ds.length - (i + 1), by omega, F3, ρ3, acc3, r3, s3, hlt, rfl, n3, q3⟩, fun x H3 hy => ?_⟩
    obtain ⟨F3, st3, dx⟩ := y1 x H3 hy
    have r3 := r2.stp st3
    have r3w := r3.wiped vs
    have noBack : ∀ (ρx : Ev), ρx.sl.length = ρ2.sl.length → noOwn (ρ2.back vs ρx) vs = true := fun ρx hl => by
      refine List.all_eq_true.mpr fun j hj => ?_
      have := resS_get vs 0 ρ2.sl ρx.sl j hl
      rw [Nat.zero_add, if_pos (by simpa using hj)] at this
      have e2 : (ρ2.back vs ρx).sl[j]? = ρ2.sl[j]? := this
      rw [e2]
      exact List.all_eq_true.mp no2 j hj
    refine rg (B.hide D (.lst acc)) rfl (wipe σ vs) H3 F3 (ρ2.wipe vs) x _ _ _ r3w dx hq fun σ4 ρ4 r4 o4 l4 q4 => ?_
    have out4 : ∀ j, j ∉ vs → σ4[j]? = σ[j]? := fun j hj => (o4 j fun z => hj (hs j z)).trans (wipe_out hj)
    have len4 : σ4.length = σ.length := l4.trans (wipe_length _ _)
    have lenE : ∀ {F5 H5 ρ5} , Rel W (B.hide D (.lst acc)) F5 H5 σ4 ρ5 → ρ5.sl.length = ρ2.sl.length := fun {F5 H5 ρ5} r => by rw [← r.len, len4, r2.len]
    refine ⟨wipe_eq len4 out4, rt (B.hide D (.lst acc)) rfl σ4 H3 F3 ρ4 _ _ r4 q4 fun b H5 F5 ρ5 r5 s5 q5 => ?_⟩
    cases b with
    | false => exact iteF ⟨F5, ρ2.back vs ρ5, acc, r3.backed no2 s5 r5 out4 len4, (s2.trans st3.ff).trans s5, noBack ρ5 (lenE r5), q5⟩
    | true =>
      refine iteT (re (B.hide D (.lst acc)) rfl σ4 H5 F5 ρ5 _ _ r5 q5 fun y H6 F6 ρ6 dy r6 s6 d6 q6 => ?_)
      obtain ⟨_, _, _, ownD⟩ := r6.hid (D, .lst acc) List.mem_cons_self
      obtain ⟨xs, hxs, dxs⟩ := ownD
      refine ⟨xs, hxs, by rw [← dxs.length]; exact q6.1, F6, ρ2.back vs ρ6, acc ++ [dy], ?_, ((s2.trans st3.ff).trans s5).trans s6, noBack ρ6 (lenE r6), q6.2⟩
      exact (r3.backed no2 (s5.trans s6) r6 out4 len4).hset ⟨_, upd_same, dxs.append ⟨y, [], rfl, d6, rfl⟩⟩
  · have e : i = ds.length := by omega
    subst e
    rw [List.drop_length] at hq
    obtain ⟨r2', n2⟩ := r2.unhide
    exact .inl ⟨st, k D H2 F2 ρ2 _ r2' s2 n2 hq⟩
/-- [e for .. in x if ..], x a dict at slot i -/
def dLcK (fn : List (List Key × D) → List D) (i : Nat) (g : DG) (tt : DT) (e : DE) (vs : List Nat) : DE := fun ρ Q => dVar i ρ fun ρ1 d => ∃ l, d = dicP l ∧ noOwn ρ1 vs = true ∧ dLcL g tt e vs (fn l) ρ1 [] fun ρ2 acc => Q ρ2 (.lst acc)
theorem rn_lcK {wi : TE → TI} {fn : List (List Key × D) → List D} {i : Nat} {tg : TG} {tt : TT} {te : TE} {g : DG} {t : DT} {e : DE} {is vs : List Nat} (wk : WalkT W wi fn) (rg : ∀ B', B'.io = B.io → RG W B' tg g is) (rt : ∀ B', B'.io = B.io → RT W B' tt t) (re : ∀ B', B'.io = B.io → RE W B' te e) (hs : ∀ i ∈ is, i ∈ vs) (hio : B.io = [] := by rfl) :
    RN W B (tLkE (tLc (wi (tVar i)) tg tt te vs)) (dLcK fn i g t e vs) := by
  intro σ H F ρ Q R r h k
  obtain ⟨v, F1, ρ1, d, hv, r1, s1, dv, l, rfl, no, hq⟩ := r.look h hio
  obtain ⟨a, kvs, rfl, hr, hks, hvs⟩ := dv
  have dp : DenP W F1 l kvs := ⟨hks, hvs⟩
  rcases hr with hr | ⟨od, hr⟩
  · refine .inl ⟨a, .dT kvs, r1.ex _ _ hr, trivial, fun od => ?_⟩
    have hy : DTo kvs (.frz od (.dT kvs)) := .inr ⟨od, rfl⟩
    have r2 := r1.lock hr hy
    refine wk i σ _ _ _ a od l kvs hv upd_same r2.ex ⟨dp.1, dp.2.sim (Sim.upd hr (.inl rfl) hy)⟩ fun J it => ?_
    refine lc_coreD (B := B.lk a (.frz od (.dT kvs))) (R := fun v H' => H' a = some (.frz od (.dT kvs)) ∧ R v (upd H' a (.dT kvs))) (fun B' hB => rg B' hB) (fun B' hB => rt B' hB) (fun B' hB => re B' hB) hs r2 it no hq fun p H' F' ρ' d' r' s' n' q' => ?_
    have hf : F' a = some (.frz od (.dT kvs)) := s' _ _ upd_same
    have hp : p ≠ a := fun z => by rw [← z, n'.fp] at hf; cases hf
    have h0 : B.H0 p = none := by
      have := n'.h0
      have this : (if p = a then _ else B.H0 p) = none := this
      rwa [if_neg hp] at this
    refine ⟨r'.ex _ _ hf, k p _ _ ρ' d' (r1.unlock hr hy r') (s1.trans (same_unlock hr s')) ⟨n'.own.sim (sim_back hy s') (upd_ne hp), by rw [upd_ne hp]; exact n'.fp, h0, n'.pw, n'.ap, n'.nh⟩ q'⟩
  · refine .inr (wk i σ H F1 _ a od l kvs hv hr r1.ex dp fun J it => ?_)
    exact lc_coreD (B := B) rg rt re hs r1 it no hq fun p H' F' ρ' d' r' s' n' q' => k p H' F' ρ' d' r' (s1.trans s') n' q'
end
end DL

-- part DM3
set_option maxHeartbeats 4000000
/-! for k, v in d.items(), d a dict with tuple keys -/
namespace DL
open PySem PySem.Spec PyProof.Rows L2
/-- the items of the locked dict at d: pairs of the key's own tuple and the value, each a new tuple -/
def ItiT (d : Addr) (o : Obj) (kvs : List (List Key × V)) : It :=
  ⟨fun i H => H d = some (.frz o (.dT kvs)) ∧ i < kvs.length, fun i H x H' => ∃ (T : Addr) (k : List Key) (v : V) (q : Addr), kvs[i]? = some (k, v) ∧ x = .ref T ∧ H T = none ∧ H q = some (.tup (k.map kV)) ∧ H' = upd H T (.tup [.ref q, v]), fun i H => H d = some (.frz o (.dT kvs)) ∧ kvs.length ≤ i⟩
section
variable {P : Program} {w : World} {K : PySem.W.Frag} {d : Addr} {o : Obj} {es : Array DictEntry} {ep : Nat}
theorem Inv_frzV {X : Cx} {pins : List (Addr × Obj)} {σ : L2.St} {H : Hp} {s : Shared} {kvs : List (List Key × V)} (I : Inv X pins σ H s) (h : H d = some (.frz o (.dT kvs))) (hod : o.data = .dict es ep) :
    s.heap.DictRaw d es ep ∧ es.size = kvs.length ∧ ∀ (i : Nat) (k : List Key) (v : V), kvs[i]? = some (k, v) → ∃ (en : DictEntry) (q : Addr), es[i]? = some en ∧ en.key = .ref q ∧ H q = some (.tup (k.map kV)) ∧ RelV v en.val := by
  obtain ⟨hd, z, hs, xs, pr, o', es', ep', ho, hx, hdt, he, _⟩ := I.hok d _ h
  rw [hd] at ho
  cases ho
  rw [hod] at hdt
  cases hdt
  refine ⟨⟨_, hd, hx, hod⟩, ?_, fun i k v e => ?_⟩
  · have l1 : es.size = xs.length := size_of_entries he
    have l2 : kvs.length = xs.length := Paired.length pr
    omega
  · obtain ⟨b, hb, e1, e2, e3⟩ := paired_get pr e
    have q := entry_at he i
    rw [hb] at q
    exact ⟨_, b.2.1, q, rfl, e2, e3⟩
theorem turn_itemsT {kvs : List (List Key × V)} {elts : List Expr} {kk : Nat} {tpos : Pos} (it : Addr) (hod : o.data = .dict es ep) :
    Turn P w K (.Tuple elts kk tpos) (ItiT d o kvs) [it] it (fun i h => ∃ ok ov, IsItemIter h it d i kvs.length ep ok ov) where
  mem := by simp
  obj := fun i h st b hb => by
    have e : b = it := by simpa using hb
    subst e
    obtain ⟨ok, ov, e⟩ := st
    exact ⟨_, e, fun v z => nomatch z⟩
  keep := fun i h h' st k => let ⟨ok, ov, e⟩ := st; ⟨ok, ov, k it (by simp) _ e⟩
  item := by
    intro X hP hw hK hc i pins s σ H E I hf st hg
    subst hP hw hK
    obtain ⟨hd, hi⟩ := hg
    obtain ⟨hraw, hsz, ent⟩ := Inv_frzV I hd hod
    obtain ⟨⟨k, v⟩, hkv⟩ : ∃ p, kvs[i]? = some p := ⟨kvs[i], List.getElem?_eq_getElem hi⟩
    obtain ⟨en, q, hen, hkey, hq, rv⟩ := ent i k v hkv
    have hil : i < es.size := by rw [hsz]; exact hi
    have een : es[i] = en := by
      rw [Array.getElem?_eq_getElem hil] at hen
      exact Option.some.inj hen
    obtain ⟨ok, ov, he⟩ := st
    rw [← hsz] at he
    have hlt : it < s.heap.objs.size := Heap.lt_size he
    refine wpAny_pyNext_items_item_raw he hraw hil fun h' ho hT hz hk => ?_
    rw [een, hkey] at ho hT
    refine ⟨_, rfl, wpAny_letOwnedTupleGo_items (s := { s with heap := h' }) ho fun h'' he' sb => ?_⟩
    have hT2 : h''.get? s.heap.objs.size = some { cls := .type "tuple", data := .seq #[.ref q, en.val] } := (sb.2 _ (Nat.ne_of_gt hlt)).trans hT
    have new : ObjOk X.prog X.w (upd H s.heap.objs.size (.tup [.ref q, v])) h'' s.heap.objs.size (.tup [.ref q, v]) :=
      ⟨by show 2 ≤ sizeLine; decide, [.ref q, en.val], .cons rfl (.cons rv .nil), ⟨_, hT2, rfl, _, rfl⟩⟩
    have I1 : Inv X pins σ (upd H s.heap.objs.size (.tup [.ref q, v])) { s with heap := h'' } :=
      I.turnedNew (t' := s.toks) (ch := [it]) (fun b ob hb e => (sb.2 b (by simpa using hb)).trans (hk b ob (by simpa using hb) e)) hf (Nat.le_refl _) new
    refine ⟨.ref s.heap.objs.size, _, I1, rfl, ⟨_, k, v, q, hkv, rfl, I.hok.fresh (Nat.le_refl _), hq, rfl⟩, ⟨.ref q, en.val, ?_⟩, fun b hb => ?_⟩
    · rw [← hsz]; exact he'
    · have e : b = it := by simpa using hb
      rw [e, upd_ne (Nat.ne_of_lt hlt)]
      exact (hf it (by simp)).1
  done := by
    intro X hP hw hK hc i pins s σ H E I hf st hg
    subst hP hw hK
    obtain ⟨hd, hi⟩ := hg
    obtain ⟨f0, f1, f2, f3, f4, f5⟩ := hf it (by simp)
    obtain ⟨hraw, hsz, ent⟩ := Inv_frzV I hd hod
    obtain ⟨ok, ov, he⟩ := st
    rw [← hsz] at he
    exact wpAny_pyNext_items_end_raw (I.ok.hd hc) he hraw (by omega) fun h' eb => ⟨rfl, I.turned (t' := s.toks) (fun b ob hb e => eb b ob hb e) f0 f1 f3 f4 f5⟩
  self := fun A i s Q E st h => let ⟨_, _, e⟩ := st; PySem.W.kcp_self e h
/-- the dict is locked -/
def iItemsT (td : TE) : TI := fun σ H R => td σ H fun x H1 => ∃ d o kvs, x = .ref d ∧ H1 d = some (.frz o (.dT kvs)) ∧ R (ItiT d o kvs) H1
theorem pi_itemsT {X : Cx} {e : Expr} {td : TE} {apos cpos : Pos} {elts : List Expr} {kk : Nat} {tpos : Pos} (he : PE X e td) (hbase : attributeBase e "items" X.env (eval e X.env) = eval e X.env := by rfl) (hline : (apos.endLine == cpos.line) = true := by rfl) :
    PI X (.Tuple elts kk tpos) (.Call (.Attribute e "items" apos) [] [] cpos) (iItemsT td) := by
  refine ⟨fun pins s σ H R I h => ?_⟩
  refine wpAny_Call_method (T := "dict") (id := "dict.items") hbase rfl hline F.plainAttrs_dict F.slot_dict_items F.type_dict_items (thn (he.run pins s σ H _ I h) fun u s1 ⟨x, H1, I1, rx, d, o, kvs, ex, hd, q⟩ => ?_)
  subst ex
  obtain rfl : u = Value.ref d := rx
  obtain ⟨hs, hgd, hx, es, ep, hdt, hsz, _⟩ := I1.frzT hd
  obtain ⟨hraw, _, _⟩ := Inv_frzV I1 hd hdt
  refine ⟨⟨o, hgd, hx.1⟩, fun a e => by cases e; exact ⟨o, hgd, hx.2.1⟩, ?_⟩
  have I2 : L2.Inv X pins σ H1 { s1 with heap := s1.heap.push { cls := .type "dict_items", data := .fields #[.ref d] } } := I1.kept (t' := s1.toks) fun b ob q => Heap.get?_push_of_some _ q
  have fin : wpAny (model X.prog X.w) X.A (pyIter (.ref s1.heap.objs.size)) (PIE X pins σ (.Tuple elts kk tpos) R) X.xe { s1 with heap := s1.heap.push { cls := .type "dict_items", data := .fields #[.ref d] } } := by
    refine wpAny_pyIter_items_raw (d := d) ⟨_, Heap.get?_push_size _ rfl, rfl, rfl⟩ (es := es) (ep := ep) ⟨o, Heap.get?_push_of_some _ hgd, hx, hdt⟩ (pi_one (tk := s1.toks) I2 _ (turn_itemsT _ hdt) ⟨.none, .none, ?_⟩ q)
    rw [← hsz]
    exact Heap.get?_push_size _ rfl
  show wpAny _ _ (callWith cpos (.builtin "dict.items") [.ref d] [] []) _ X.xe s1
  exact method_meetsIn F.slot_dict_items F.entry_dict_items rfl (PySem.evalArgs_none ⟨rfl, ⟨o, hgd, hx.1⟩, F.args_dict_items_1 _, _, meets_dict_items_raw d hs, ⟨es, ep, hraw⟩, fin⟩)
end
theorem walk_items {W : Wd} : WalkT W iItemsT fun l => l.map fun p => .tup [keyT p.1, p.2] := by
  intro i σ H F R a od l kvs hs hf ex dp k
  refine ⟨.ref a, hs, a, od, kvs, rfl, ex _ _ hf, k _ ?_⟩
  intro F2 H2 e1 e2
  have h2 : H2 a = some (.frz od (.dT kvs)) := e2 _ _ (e1 _ _ hf)
  refine ⟨⟨h2, by rw [List.length_map, dp.length]; exact Nat.le_refl _⟩, fun j d hj => ?_⟩
  rw [List.getElem?_map] at hj
  cases q : l[j]? with
  | none => rw [q] at hj; cases hj
  | some p =>
    rw [q] at hj
    cases hj
    have hlt : j < kvs.length := by rw [← dp.length]; exact (List.getElem?_eq_some_iff.mp q).1
    refine ⟨⟨h2, hlt⟩, fun x H' ⟨T, kk, v, b, hk, ex', hT, hb, eH⟩ => ?_⟩
    subst eH ex'
    have e : kk = p.1 := by
      have h1 : (kvs.map (·.1))[j]? = (l.map (·.1))[j]? := by rw [dp.1]
      rw [List.getElem?_map, List.getElem?_map, hk, q] at h1
      exact Option.some.inj h1
    subst e
    have dv : Den W F p.2 v := by
      obtain ⟨x, hx, dx⟩ := dp.2.get (i := j) (d := p.2) (by rw [List.getElem?_map, q]; rfl)
      rw [List.getElem?_map, hk] at hx
      cases hx
      exact dx
    obtain ⟨F3, st, h3⟩ := Stp.letT e2 hb
    have st2 := Stp.one (o := .tup [.ref b, v]) st.fh hT
    exact ⟨_, st.trans st2, T, _, rfl, upd_same, _, _, rfl, ⟨b, _, rfl, st2.ff _ _ h3, denL_key _⟩, _, _, rfl, dv.mono ((e1.trans st.ff).trans st2.ff), rfl⟩
end DL

-- part DM4
set_option maxHeartbeats 4000000
/-! sum of a list or a tuple of ints; sorted(x, key=lambda p: (sum(p), p)) -/
namespace DL
open PySem PySem.Spec PyProof.Rows L2
section
variable {prog : Program} {w : World} {A : Around} {E : Value → Shared → Prop} {s : Shared}
theorem sumT_raw {t : Addr} {its : List Value} {ns : List Int} {Q : Value → Shared → Prop} (hh : A.handled = none) (hl : s.heap.IsTuple t its.toArray) (hi : IntsAre its ns)
    (h : ∀ h' tk t', (∀ b o, s.heap.get? b = some o → h'.get? b = some o) → Q (.int ns.sum t') { s with heap := h', toks := tk }) : wpAny (model prog w) A (call (.builtin "sum") [.ref t]) Q E s := by
  obtain ⟨xs, hx⟩ := hi.allInts.items
  have hn : numsOf its.toArray.toList = ns := by rw [show its.toArray.toList = its from rfl, hi.numsOf]
  rw [hx] at hl hn
  rw [nums_intItems] at hn
  refine PySem.W.ktm_sumG hh hl fun h' tk t' hk => ?_
  have := h h' tk t' hk
  rw [preSum_eq, List.take_of_length_le (by simp), hn]
  exact this
end
/-- sum(x), x a list or a tuple of ints -/
def rSumA (K : PySem.W.Frag) : List V → Hp → VK → Prop := fun vs H Q => ∃ (a : Addr) (ns : List Int), vs = [V.ref a] ∧ (SqL K H a (ns.map V.int) ∨ SqT K H a (ns.map V.int)) ∧ Q (.int ns.sum) H
theorem cr_sumA {X : Cx} (hc : X.calm = true) : CallR X (.builtin "sum") (rSumA X.K) := by
  intro pins s σ H vs us Q I r h
  obtain ⟨a, ns, rfl, hs, q⟩ := h
  rw [Vals.ref1 r]
  rcases hs with hs | hs
  · obtain ⟨its, rv, hl, _⟩ := I.list hs
    exact sum_raw (I.ok.hd hc) hl.isList rv.ints fun h' tk t' hk => ⟨.int _, H, I.kept hk, ⟨_, rfl⟩, q⟩
  · obtain ⟨its, rv, hl, _⟩ := I.tuple hs
    exact sumT_raw (I.ok.hd hc) hl rv.ints fun h' tk t' hk => ⟨.int _, H, I.kept hk, ⟨_, rfl⟩, q⟩
theorem re_sumA {W : Wd} {B : Bs} {ta : TA} {a : DA} (ra : RA W B ta a) : RE W B (tCB (rSumA W.K) ta) (fun ρ Q => a ρ fun ρ1 ds => ∃ ns : List Int, (ds = [.lst (ns.map .int)] ∨ ds = [.tup (ns.map .int)]) ∧ Q ρ1 (.int ns.sum)) :=
  re_cb ra (g := fun ds ρ1 Q => ∃ ns : List Int, (ds = [.lst (ns.map .int)] ∨ ds = [.tup (ns.map .int)]) ∧ Q ρ1 (.int ns.sum)) fun σ H F ρ vs ds Q R r d h k => by
    obtain ⟨ns, hd, h⟩ := h
    rcases hd with rfl | rfl
    · obtain ⟨x, rfl, p, us, rfl, hs, hd⟩ := den1 d
      rw [denL_ints_inv hd] at hs
      exact ⟨p, ns, rfl, .inl (same_sqL r.ex hs), k _ H F ρ (.int _) r (Same.refl _) rfl h⟩
    · obtain ⟨x, rfl, p, us, rfl, hs, hd⟩ := den1 d
      rw [denL_ints_inv hd] at hs
      exact ⟨p, ns, rfl, .inr (sqT_of r.ex hs), k _ H F ρ (.int _) r (Same.refl _) rfl h⟩
/-! ### the key -/
def keyE (nm : Str) (p1 p2 p3 p4 p5 : Pos) (j : Nat) : Expr := .Tuple [.Call (.Name "sum" p1) [.Name nm p2] [] p3, .Name nm p4] j p5
/-- the lambda's own scope -/
structure KeyS (scope : Scope) (nm : Str) : Prop where
  kind : scope.kind = .function
  co : scope.isCoroutine = false
  gen : scope.isGenerator = false
  nc : ∀ y ∈ scope.names, y.2 ≠ .cell
  loc : scope.names.lookup nm = some .local
  sm : scope.names.lookup ("sum" : Str) = some .globalImplicit
  db : (nm == ("__debug__" : Str)) = false
theorem reads_ints {h : Heap} {its : List Value} {ns : List Int} (hi : IntsAre its ns) : ReadsAll h its (ns.map .int) [] := by
  induction hi with
  | nil => exact .nil
  | cons n t _ ih => exact ReadsAll.cons (as := []) (bs := []) (.int _ _) ih
theorem key_run {X : Cx} {pins : List (Addr × Obj)} {σ : L2.St} {H : Hp} {s : Shared} {scope : Scope} {nm : Str} {p1 p2 p3 p4 p5 : Pos} {j : Nat} {f c' : Addr} {pm ctv : Value} {params : Arguments} {clos : List (Str × Addr)} {qual : Str} {A : Around}
    (I : L2.Inv X pins σ H s) (S : KeyS scope nm) (hm : X.mg "sum" = none) (hA : A.handled = none) (hdep : A.depth < recursionLimit)
    (hbind : ∀ v : Value, bindArgs (PySem.W.kla_fn "<lambda>" qual params (keyE nm p1 p2 p3 p4 p5 j) scope clos pm (.ref c') ctv) ⟨[v], []⟩ = pure [(nm, v)])
    {h : Heap} {tk : Nat} (kp : ∀ b o, s.heap.get? b = some o → h.get? b = some o) (hf : h.get? f = some (PySem.W.kla_obj "<lambda>" qual params (keyE nm p1 p2 p3 p4 p5 j) scope clos pm c' ctv))
    (hc : ∃ oc vs t, h.get? c' = some oc ∧ oc.data = .fields vs ∧ vs[1]? = some (.str qual t)) {t : Addr} {its : List Value} {ns : List Int} (ht : h.IsTuple t its.toArray) (hi : IntsAre its ns) (hz : its.length ≤ sizeLine) :
    wpAny (model X.prog X.w) A (call (.ref f) [.ref t]) (PySem.W.KeyPure (.tuple [.int ns.sum, .tuple (ns.map .int)]) { s with heap := h, toks := tk }) (fun _ _ => False) { s with heap := h, toks := tk } := by
  obtain ⟨oc, vs, tq, hoc, hdc, hvc⟩ := hc
  refine wpAny_call ?_
  refine PySem.W.kla_callFunE hdep hf rfl S.co S.gen rfl ⟨c', oc, vs, tq, rfl, hoc, hdc, hvc⟩ ?_
  rw [hbind]
  refine wpAny_pure (wpAny_newFunctionEnv (fun y hy => S.nc y hy) (fun y hy => ?_) (fun h₁ hns hsb => ⟨(I.nolimit.keeps kp).fresh _ hsb, ?_⟩) S.kind)
  · rw [List.mem_singleton.mp hy]; exact S.loc
  refine PySem.W.kla_codeExpr ?_
  have k1 : ∀ b o, h.get? b = some o → h₁.get? b = some o := fun b o e => hsb.extBut b o (Nat.ne_of_lt (Heap.lt_size e)) (Heap.get?_push_of_some _ e)
  have kk : ∀ b o, s.heap.get? b = some o → h₁.get? b = some o := fun b o e => k1 b o (kp b o e)
  obtain ⟨mb, b1, b2⟩ := I.mod.blt
  have gl : h₁.Ns mainGlobals X.mg := (I.mod.glob.keeps I.bk).keeps kk
  have bl : h₁.Ns builtinsNs mb := (b1.keeps I.bk).keeps kk
  have loc : ∀ {h2 : Heap}, (∀ b o, h₁.get? b = some o → h2.get? b = some o) → h2.Ns h.objs.size fun y => ([(nm, Value.ref t)] : List (Str × Value)).reverse.lookup y := fun k => hns.keeps k
  have at_ : ([(nm, Value.ref t)] : List (Str × Value)).reverse.lookup nm = some (.ref t) := by
    show (match (nm == nm) with | true => some (Value.ref t) | false => _) = _
    rw [beq_self_eq_true]
  refine wpAny_Tuple_spliced ?_
  refine Calls.spliced_cons (wpAny_Call_Name_kw (Calls.Name_function_global S.kind S.sm (Calls.loadGlobal_builtin gl hm bl ((b2 "sum" (by decide)).trans boot_sum) (PyProof.Rows.callWith_builtin1 ?_ rfl rfl)) (by decide)))
  refine Calls.spliced_cons (wpAny_Name (wpAny_loadName_local S.kind S.loc hns at_ ?_) S.db)
  refine Calls.spliced_nil ?_
  have ht1 : h₁.IsTuple t its.toArray := ht.at fun o e => k1 t o e
  refine sumT_raw hA ht1 hi fun h2 tk2 t2 k2 => ?_
  refine Calls.spliced_cons (wpAny_Name (wpAny_loadName_local S.kind S.loc (loc k2) at_ ?_) S.db)
  refine Calls.spliced_nil ⟨by show 2 ≤ sizeLine; decide, ?_⟩
  refine ⟨_, _, rfl, fun b o e => Heap.get?_push_of_some _ (k2 b o (k1 b o e)), ?_⟩
  obtain ⟨o, ho, hcl, n, hd⟩ := ht1
  refine Reads.tuple (as := []) (Heap.get?_push_size _ rfl) rfl rfl (ReadsAll.cons (as := []) (bs := []) (.int _ _) (ReadsAll.cons (as := []) (bs := []) ?_ .nil))
  exact Reads.tuple (Heap.get?_push_of_some _ (k2 _ _ ho)) hcl hd (reads_ints hi)
end DL

-- part DM5a
set_option maxHeartbeats 4000000
/-! the making of a lambda, told exactly; what it does to the trees' relation -/
namespace DL
open PySem PySem.Spec PyProof.Rows L2
/-- nothing of the tracked heap changes, or the table at P gets a code object named q -/
def LamStep (P : Addr) (q : Str) (H H1 : Hp) : Prop := H1 = H ∨ ∃ (ps more : Array Value) (c' : Addr), H P = some (.tbl ps) ∧ H c' = none ∧ H1 = upd (upd H P (.tbl (ps ++ more))) c' (LamX.CodeO c' q) ∧ LamX.TabS H1 P q
theorem lam_mk {X : Cx} {pins : List (Addr × Obj)} {σ : L2.St} {H : Hp} {s : Shared} {c P : Addr} {params : Arguments} {body : Expr} {scope : Scope} {pos : Pos} {E Q : Value → Shared → Prop} (J : L2.Inv X pins σ H s) (T : LamX.TabB X.base X.mg c P) (hco : X.env.code = .ref c)
    (t : LamX.TabS H P (X.env.qual ++ "<lambda>")) (nd : defaultsOf params X.env = ([], [])) (fr : ∀ y ∈ scope.names, y.2 = .free → ∃ c, X.env.cells.lookup y.1 = some c)
    (k : ∀ (f c' : Addr) (pm ctv : Value) (H1 : Hp) (s1 : Shared), L2.Inv X pins σ H1 s1 → LamStep P (X.env.qual ++ "<lambda>") H H1 →
      s1.heap.get? f = some (PySem.W.kla_obj "<lambda>" (X.env.qual ++ "<lambda>") params body scope (cloFrom X.env.cells scope.names []) pm c' ctv) → H1 f = none → f ∉ frs X.stack → H1 c' = some (LamX.CodeO c' (X.env.qual ++ "<lambda>")) → Q (.ref f) s1) :
    wpAny (model X.prog X.w) X.A (eval (.Lambda params body scope pos) X.env) Q E s := by
  have keepT := t
  obtain ⟨ps, e1, e2, e3⟩ := t
  have atP : s.heap.get? P = some { cls := .none, data := .fields ps } := J.hok P _ e1
  have off : ∀ f, s.heap.objs.size ≤ f → f ∉ frs X.stack := fun f hf z => by
    rcases List.mem_cons.mp (J.stkSub _ z) with z | z
    · have hl := J.lt
      rw [← z] at hl
      exact absurd (Nat.lt_of_lt_of_le hl hf) (Nat.lt_irrefl _)
    · exact J.nofs hf z
  refine PySem.W.kla_eval nd ?_
  cases am : codeAmong pos ps.toList with
  | some cv =>
    obtain ⟨c', ec, hc'⟩ := e3 pos cv am
    subst ec
    refine PySem.W.kla_makeFunctionHit (mg := X.mg) (c := c) (P := P) (ps := ps) (closure_ok fr) J.ok.glob (J.mod.glob.keeps J.bk) hco (T.code.keeps J.bk) atP e2 am (T.bm.keeps J.bk) fun ctv h' tk hk hz => ?_
    exact k h'.objs.size c' _ ctv H _ (J.kept fun b o e => Heap.get?_push_of_some _ (hk b o e)) (.inl rfl) (Heap.get?_push_size _ rfl) (J.hok.fresh hz) (off _ hz) hc'
  | none =>
    refine PySem.W.kla_makeFunction (mg := X.mg) (c := c) (P := P) (ps := ps) (closure_ok fr) J.ok.glob (J.mod.glob.keeps J.bk) hco (T.code.keeps J.bk) atP e2 am T.gP (T.bm.keeps J.bk) fun c' ctv h' tk hk hge hlt hrec htb => ?_
    obtain ⟨c2, oc, vs, tq, ec, hoc, hd, hv⟩ := hrec
    cases ec
    have fc : H c' = none := J.hok.fresh hge
    have big : s.heap.objs.size ≤ h'.objs.size := by omega
    have J1 := LamX.inv_table (q := X.env.qual ++ "<lambda>") (t' := tk) (more := #[rawInt pos.line, rawInt pos.col, .ref c']) (h' := h'.push (PySem.W.kla_obj "<lambda>" (X.env.qual ++ "<lambda>") params body scope (cloFrom X.env.cells scope.names []) ((X.mg "__name__").getD .none) c' ctv)) J e1
      (fun b o hb e => Heap.get?_push_of_some _ (hk b o hb e)) (Heap.get?_push_of_some _ htb) hge ⟨oc, vs, tq, Heap.get?_push_of_some _ hoc, hd, hv⟩
    have nPc : P ≠ c' := ne_of_none e1 fc
    have lst : (ps ++ #[rawInt pos.line, rawInt pos.col, .ref c']).toList = ps.toList ++ [rawInt pos.line, rawInt pos.col, .ref c'] := by simp
    have t1 : LamX.TabS (upd (upd H P (.tbl (ps ++ #[rawInt pos.line, rawInt pos.col, .ref c']))) c' (LamX.CodeO c' (X.env.qual ++ "<lambda>"))) P (X.env.qual ++ "<lambda>") := by
      refine ⟨_, by rw [upd_ne nPc, upd_same], by rw [lst]; exact PySem.TriplesOk_snoc _ _ _ _ e2, fun p' cv hcv => ?_⟩
      rw [lst] at hcv
      rcases LamX.among_app _ e2 hcv with z | z
      · obtain ⟨c0, g1, g2⟩ := e3 p' cv z
        refine ⟨c0, g1, ?_⟩
        rw [upd_ne (ne_of_none g2 fc), upd_ne (fun z => by rw [z, e1] at g2; exact LamX.codeO_ne ps (Option.some.inj g2).symm)]
        exact g2
      · exact ⟨c', z, upd_same⟩
    refine k h'.objs.size c' _ ctv _ _ J1 (.inr ⟨ps, _, c', e1, fc, rfl, t1⟩) (Heap.get?_push_size _ rfl) ?_ (off _ big) upd_same
    rw [upd_ne (Nat.ne_of_gt hlt), upd_ne (Nat.ne_of_gt (Nat.lt_of_lt_of_le (Heap.lt_size atP) big))]
    exact J.hok.fresh big
theorem LamStep.ext {P : Addr} {q : Str} {H H1 : Hp} (s : LamStep P q H H1) : LamX.ExtN H H1 := by
  rcases s with e | ⟨ps, more, c', h1, h2, e, _⟩
  · subst e; exact LamX.ExtN.refl _
  · subst e
    intro b o e n
    rw [upd_ne (ne_of_none e h2), upd_ne (fun z => by rw [z, h1] at e; exact n ps (Option.some.inj e).symm)]
    exact e
section
variable {W : Wd} {B : Bs} {F F' H H' : Hp} {σ : L2.St} {ρ : Ev}
theorem Rel.lam {P : Addr} {q : Str} (r : Rel W B F H σ ρ) (st : LamStep P q H H') (hP : W.cls (tabN q) = some P) (hu : ∀ q', W.cls (tabN q') = some P → q' = q) : Rel W B F H' σ ρ := by
  obtain ⟨fP, _, tP⟩ := r.well.2 q P hP
  have ext := st.ext
  rcases st with e | ⟨ps, more, c', h1, h2, e, t1⟩
  · subst e; exact r
  have tws : ∀ a o, H a = some o → tw o (H' a) := fun a o h => by
    by_cases ha : a = P
    · subst ha
      rw [h1] at h
      cases h
      refine .inr ⟨ps, ps ++ more, rfl, ?_⟩
      rw [e, upd_ne (ne_of_none h1 h2), upd_same]
    · refine .inl ?_
      rw [e, upd_ne (ne_of_none h h2), upd_ne ha]; exact h
  have ownS : ∀ {p : Addr} {d : D}, OwnAt W F H p d → OwnAt W F H' p d := fun {p d} own => own.stay (Same.refl _) fun o h => tws p o h
  refine ⟨fun b o h => ?_, r.len, fun i sl h => ?_, r.inj, ⟨?_, fun q' P' e' => ?_⟩, fun a o a1 a2 a3 => (r.keep a o a1 a2 a3).trans fun u hu => tws a u hu, r.new, r.f0, fun a ha => nt_tw (r.ioH a ha) fun o h => tws a o h, fun p hp => ?_, r.hap, r.hnd⟩
  · have hb := r.ex _ _ h
    rw [e, upd_ne (ne_of_none hb h2), upd_ne (fun z => by rw [z, fP] at h; cases h)]
    exact hb
  · have := r.sl i sl h
    cases sl with
    | un => trivial
    | v d => exact this
    | o d =>
      obtain ⟨p, a1, a2, a3, a4, own⟩ := this
      exact ⟨p, a1, a2, a3, a4, ownS own⟩
  · have w := r.well.1
    unfold WellP at w ⊢
    cases hp : W.pw with
    | none => trivial
    | some p =>
      rw [hp] at w
      obtain ⟨w1, w2, pc, ns, t, rr, w3, w4, w5⟩ := w
      exact ⟨w1, w2, pc, ns, t, rr, (tws p _ w3).eq (fun _ z => nomatch z), w4, w5⟩
  · obtain ⟨g1, g2, g3⟩ := r.well.2 q' P' e'
    refine ⟨g1, g2, ?_⟩
    by_cases hb : P' = P
    · subst hb
      rw [hu q' e']; exact t1
    · obtain ⟨qs, k1, k2, k3⟩ := g3
      refine ⟨qs, ?_, k2, fun pos cv hc => ?_⟩
      · rw [e, upd_ne (ne_of_none k1 h2), upd_ne hb]; exact k1
      · obtain ⟨c0, m1, m2⟩ := k3 pos cv hc
        exact ⟨c0, m1, ext _ _ m2 LamX.codeO_ne⟩
  · obtain ⟨g1, g2, g3, g4⟩ := r.hid p hp
    exact ⟨g1, g2, g3, ownS g4⟩
end
end DL

-- part DM5
set_option maxHeartbeats 4000000
/-! sorted(x, key=lambda p: (sum(p), p)), the rule -/
namespace DL
open PySem PySem.Spec PyProof.Rows L2
def keyI (ns : List Int) : PyData := .tuple [.int ns.sum, .tuple (ns.map .int)]
theorem alike_ints : ∀ (ns ms : List Int), PySem.W.alikeAll (ns.map PyData.int) (ms.map PyData.int) = true
  | [], _ => by rw [List.map_nil]; unfold PySem.W.alikeAll; rfl
  | _ :: _, [] => by rw [List.map_cons, List.map_nil]; unfold PySem.W.alikeAll; rfl
  | n :: ns, m :: ms => by
    rw [List.map_cons, List.map_cons]; unfold PySem.W.alikeAll PySem.W.alike
    rw [alike_ints ns ms]; rfl
theorem keyI_alike (nss : List (List Int)) : PySem.W.AllAlike (nss.map keyI) := fun d hd d' hd' => by
  obtain ⟨a, _, rfl⟩ := List.mem_map.mp hd
  obtain ⟨b, _, rfl⟩ := List.mem_map.mp hd'
  unfold keyI
  simp only [PySem.W.alike, PySem.W.alikeAll, alike_ints, Bool.and_true]
theorem keyI_sortable (nss : List (List Int)) : PySem.W.Sortable (nss.map keyI) := .inl fun d hd => by
  obtain ⟨a, _, rfl⟩ := List.mem_map.mp hd
  exact ⟨_, _, rfl⟩
theorem keyI_depth : ∀ (ns : List Int), (keyI ns).depth ≤ 60 := fun ns => by
  have h : ∀ ns : List Int, PyData.depthAll (ns.map PyData.int) = 0 := fun ns => by
    induction ns with
    | nil => rfl
    | cons n ns ih => rw [List.map_cons]; unfold PyData.depthAll; rw [ih]; rfl
  unfold keyI
  simp only [PyData.depth, PyData.depthAll, h]
  decide
theorem extN_seq {K : PySem.W.Frag} {H H' : Hp} {a : Addr} {xs : List V} (e : LamX.ExtN H H') (h : SqL K H a xs) : SqL K H' a xs := h.imp (fun h => h.elim (fun h => .inl (e _ _ h fun _ z => nomatch z)) fun ⟨o, h⟩ => .inr ⟨o, e _ _ h fun _ z => nomatch z⟩) id
theorem extN_seqT {K : PySem.W.Frag} {H H' : Hp} {a : Addr} {xs : List V} (e : LamX.ExtN H H') (h : SqT K H a xs) : SqT K H' a xs := h.imp (fun h => h.elim (fun h => .inl (e _ _ h fun _ z => nomatch z)) fun ⟨o, h⟩ => .inr ⟨o, e _ _ h fun _ z => nomatch z⟩) id
theorem each_valsG {β : Type} : ∀ {bs : List (V × β)} {us : List Value}, Vals (bs.map (·.1)) us → PySem.W.EachIs (fun v (b : V × β) => RelV b.1 v) us bs
  | [], _, .nil => .nil
  | _ :: _, _, .cons a r => .cons a (each_valsG r)
theorem vals_eachG {β : Type} : ∀ {bs : List (V × β)} {us : List Value}, PySem.W.EachIs (fun v (b : V × β) => RelV b.1 v) us bs → Vals (bs.map (·.1)) us
  | [], _, .nil => .nil
  | _ :: _, _, .cons a r => .cons a (vals_eachG r)
def tSortK (K : PySem.W.Frag) (P : Addr) (q : Str) (t : TE) : TE := fun σ H Q => t σ H fun v H1 => LamX.TabS H1 P q ∧ ∃ (a : Addr) (bs : List (V × List Int)), v = .ref a ∧ SqL K H1 a (bs.map (·.1)) ∧ (∀ b ∈ bs, ∃ q, b.1 = .ref q ∧ SqT K H1 q (b.2.map V.int)) ∧
  ∀ H2, LamStep P q H1 H2 → ∀ p, H2 p = none → Q (.ref p) (upd H2 p (.lst ((bs.mergeSort (PySem.W.dataLe false fun b => keyI b.2)).map (·.1))))
theorem pe_sortK {X : Cx} {c P : Addr} {k : Nat} {params : Arguments} {scope : Scope} {nm : Str} {p0 p1 p2 p3 p4 p5 lpos kpos pos : Pos} {j : Nat} {e : Expr} {t : TE} (he : PE X e t)
    (hg : Gl X "sorted") (hm : X.mg "sorted" = none) (hms : X.mg "sum" = none) (hc : X.calm = true) (hr : Room k X.A) (hu : X.A.units + 70 < cLine)
    (TB : LamX.TabB X.base X.mg c P) (hcode : X.env.code = .ref c) (hdef : defaultsOf params X.env = ([], [])) (hfree : ∀ y ∈ scope.names, y.2 ≠ .free) (S : KeyS scope nm)
    (hbind : ∀ (q : Str) (cl : List (Str × Addr)) (pm cv ctv v : Value), bindArgs (PySem.W.kla_fn "<lambda>" q params (keyE nm p1 p2 p3 p4 p5 j) scope cl pm cv ctv) ⟨[v], []⟩ = pure [(nm, v)])
    (hee : backTo pos (starEach [e] X.env) = (false, eval e X.env) :: backTo pos (starEach [] X.env) := by rfl) (hpl : (backTo pos (starEach [e] X.env)).any (·.1) = false := by rfl) :
    PE X (.Call (.Name "sorted" p0) [e] [⟨some "key", .Lambda params (keyE nm p1 p2 p3 p4 p5 j) scope lpos, kpos⟩] pos) (tSortK X.K P (X.env.qual ++ "<lambda>") t) := by
  refine ⟨fun pins s σ H Q I h => ?_⟩
  refine wpAny_Call_Name_kw (ld_blt I hg hm boot_sorted ?_ (by decide) (by decide))
  refine PyProof.Rows.callWith_kw ?_ hee hpl rfl rfl
  rw [hee]
  refine Calls.spliced_cons (thn (he.run pins s σ H _ I h) fun u s1 ⟨v, H1, I1, r1, hT, a, bs, ev, hs, ht, q⟩ => Calls.spliced_nil ?_)
  subst ev
  obtain rfl : u = Value.ref a := r1
  show wpAny _ _ (evalAll ((do let v ← eval (.Lambda params (keyE nm p1 p2 p3 p4 p5 j) scope lpos) X.env; standAt pos; pure v) :: [])) _ _ s1
  refine wpAny_evalAll_cons (wpAny_bind (lam_mk I1 TB hcode hT hdef (fun y hy e => absurd e (hfree y hy)) fun f c' pm ctv H2 s2 I2 eS hf hfn hfr hco => wpAny_bind (wpAny_standAt (wpAny_pure (wpAny_evalAll_nil ?_)))))
  show wpAny _ _ (call (.builtin "sorted") [.ref a] [(Str.ofString "key", .ref f)]) _ _ s2
  obtain ⟨its, rv, hl, hz⟩ := I2.list (extN_seq eS.ext hs)
  have e := each_valsG rv
  rw [List.length_map] at hz
  obtain ⟨⟨oc, vs, tq, hoc, hdc, hvc⟩, _, _⟩ := I2.hok c' _ hco
  have ek : (bs.map fun b : V × List Int => keyI b.2) = (bs.map (·.2)).map keyI := by rw [List.map_map]; rfl
  refine PySem.W.sorted_key_data (β := V × List Int) (R := fun v b => RelV b.1 v) (b := false) (fun b => keyI b.2) hl.isList e (by rw [ek]; exact keyI_alike _) (by rw [ek]; exact keyI_sortable _) hz (fun b hb => by have := keyI_depth b.2; omega) (PyProof.Rows.ksk_s1 _ _) (fun x => PyProof.Rows.ksk_l1 _ _) (fun x => PyProof.Rows.ksk_t1 f x) (fun v b rb hb h tk kp => ?_) fun out c2 h' tk kp hn hD hlen ho => ?_
  · obtain ⟨q, eq, hq⟩ := ht b hb
    rw [eq] at rb
    obtain rfl : v = Value.ref q := rb
    obtain ⟨jts, rj, hj, hjz⟩ := I2.tuple (extN_seqT eS.ext hq)
    exact key_run (A := X.A.in1.in1) (tk := tk) (its := jts) I2 S hms (I2.ok.hd hc) hr.depth (fun v => hbind _ _ _ _ _ v) kp (kp _ _ hf) ⟨oc, vs, tq, kp _ _ hoc, hdc, hvc⟩ (Heap.IsTuple.at (show s2.heap.IsTuple q jts.toArray from hj) fun o e => kp q o e) rj.ints (by rw [← rj.length]; exact hjz)
  · have hv := vals_eachG ho
    exact ⟨.ref _, upd H2 (s2.heap.objs.size + 1) (.lst ((bs.mergeSort (PySem.W.dataLe false fun b => keyI b.2)).map (·.1))), I2.laid (t' := tk) kp (Nat.le_succ _) ⟨by rw [hv.length, hlen]; exact hz, out, c2, hv, hD⟩, rfl, q H2 eS _ (I2.hok.fresh (Nat.le_succ _))⟩
section
variable {W : Wd} {B : Bs} {F F' H H' : Hp} {σ : L2.St} {ρ : Ev}
def leK (a b : List Int) : Bool := PySem.W.dataLe false keyI a b
def tupI (ns : List Int) : D := .tup (ns.map .int)
theorem bs_of : ∀ {nss : List (List Int)} {us : List V}, DenL W F (nss.map tupI) us → ∃ bs : List (V × List Int), bs.map (·.1) = us ∧ bs.map (·.2) = nss ∧ ∀ b ∈ bs, ∃ q, b.1 = .ref q ∧ F q = some (.tup (b.2.map V.int))
  | [], _, h => by cases h; exact ⟨[], rfl, rfl, fun b hb => nomatch hb⟩
  | ns :: nss, _, ⟨x, r, e, ⟨q, xs, ex, hq, hd⟩, h⟩ => by
    obtain ⟨bs, h1, h2, h3⟩ := bs_of h
    subst e ex
    rw [denL_ints_inv hd] at hq
    refine ⟨(.ref q, ns) :: bs, by rw [List.map_cons, h1], by rw [List.map_cons, h2], fun b hb => ?_⟩
    rcases List.mem_cons.mp hb with z | z
    · rw [z]; exact ⟨q, rfl, hq⟩
    · exact h3 b z
theorem bs_den : ∀ {bs : List (V × List Int)}, (∀ b ∈ bs, ∃ q, b.1 = .ref q ∧ F q = some (.tup (b.2.map V.int))) → DenL W F ((bs.map (·.2)).map tupI) (bs.map (·.1))
  | [], _ => rfl
  | b :: bs, h => by
    obtain ⟨q, e, hq⟩ := h b List.mem_cons_self
    exact ⟨b.1, bs.map (·.1), rfl, ⟨q, _, e, hq, denL_ints _⟩, bs_den fun c hc => h c (List.mem_cons_of_mem _ hc)⟩
/-- sorted(x, key=lambda p: (sum(p), p)), x a list of tuples of ints -/
theorem re_sortK {P : Addr} {q : Str} {te : TE} {t : DE} (re : RE W B te t) (hP : W.cls (tabN q) = some P) (hu : ∀ q', W.cls (tabN q') = some P → q' = q) :
    RE W B (tSortK W.K P q te) (fun ρ Q => t ρ fun ρ1 d => ∃ nss : List (List Int), d = .lst (nss.map tupI) ∧ Q ρ1 (.lst ((nss.mergeSort leK).map tupI))) := by
  intro σ H F ρ Q R rl h k
  refine re σ H F ρ _ _ rl h fun v H1 F1 ρ1 d r1 s1 dv h1 => ?_
  obtain ⟨nss, rfl, hq⟩ := h1
  obtain ⟨a, us, ev, hs, hd⟩ := dv
  obtain ⟨bs, e1, e2, e3⟩ := bs_of hd
  refine ⟨(r1.well.2 q P hP).2.2, a, bs, ev, by rw [e1]; exact same_sqL r1.ex hs, fun b hb => ?_, fun H2 st p hp => ?_⟩
  · obtain ⟨z, ez, hz⟩ := e3 b hb
    exact ⟨z, ez, sqT_of r1.ex hz⟩
  · have r2 := r1.lam st hP hu
    have stp := Stp.one (o := .lst ((bs.mergeSort (PySem.W.dataLe false fun b => keyI b.2)).map (·.1))) r2.ex hp
    have em : (bs.mergeSort (PySem.W.dataLe false fun b => keyI b.2)).map (·.2) = nss.mergeSort leK := by
      have e4 := List.map_mergeSort (r := PySem.W.dataLe false fun b : V × List Int => keyI b.2) (s := leK) (f := fun b : V × List Int => b.2) (l := bs) (fun a _ b _ => rfl)
      rw [e4, e2]
    refine k _ _ _ ρ1 (.lst ((nss.mergeSort leK).map tupI)) (r2.stp stp) (s1.trans stp.ff) ⟨p, _, rfl, .inl (.inl upd_same), ?_⟩ hq
    rw [← em]
    refine bs_den fun b hb => ?_
    obtain ⟨z, ez, hz⟩ := e3 b (List.mem_mergeSort.mp hb)
    exact ⟨z, ez, stp.ff _ _ hz⟩
end
end DL

-- part LX1
set_option maxHeartbeats 4000000
/-! the making of a lambda that has no parameter, or one with a whole number as its default -/
namespace DL
open PySem PySem.Spec PyProof.Rows L2
/-- a lambda's function -/
abbrev lfn (q : Str) (params : Arguments) (body : Expr) (scope : Scope) (cl : List (Str × Addr)) (pm cv ctv dV : Value) : FuncData :=
  { name := "<lambda>", qualname := q, params := params, body := .expr body, scope := scope, globals := mainGlobals, closure := cl, defaults := dV, kwdefaults := .none, doc := .none, pyModule := pm, annotations := none, code := cv, closureTuple := ctv, builtins := builtinsNs }
abbrev lobj (q : Str) (params : Arguments) (body : Expr) (scope : Scope) (cl : List (Str × Addr)) (pm : Value) (c' : Addr) (ctv dV : Value) : Obj := { cls := .type "function", data := .func (lfn q params body scope cl pm (.ref c') ctv dV) }
section
variable {M : Model} {A : Around} {E : Value → Shared → Prop} {s : Shared}
/-- the tuple of the captured cells is laid, or none is wanted -/
theorem cells_step {clos : List (Str × Addr)} {jp : Value → Sem Value} {R : Value → Shared → Prop} (h : ∀ (ctv : Value) (h1 : Heap), (∀ b o, s.heap.get? b = some o → h1.get? b = some o) → s.heap.objs.size ≤ h1.objs.size → wpAny M A (jp ctv) R E { s with heap := h1 }) :
    wpAny M A (if clos.isEmpty = true then (pure Value.none >>= jp) else (newTextTuple ((clos.mergeSort fun a b => a.1.cps.toList ≤ b.1.cps.toList).map (.ref ·.2)) >>= jp)) R E s := by
  cases clos with
  | nil =>
    simp only [List.isEmpty_nil, if_true]
    exact wpAny_bind (wpAny_pure (h .none s.heap (fun _ _ e => e) (Nat.le_refl _)))
  | cons p r =>
    simp only [List.isEmpty_cons, Bool.false_eq_true, if_false]
    exact wpAny_bind (wpAny_newTextTuple (h _ _ (fun b o e => Heap.get?_push_of_some _ e) (by rw [Heap.size_push]; omega)))
variable {q : Str} {params : Arguments} {body : Expr} {scope : Scope} {env : Env} {c P : Addr} {ps : Array Value} {pos : Pos} {fl : Nat} {mg : Str → Option Value} {clos : List (Str × Addr)} {dV : Value} {R : Value → Shared → Prop}
theorem tail_new (cl : closureFor scope env = pure clos) (gb : env.globals = mainGlobals) (g : s.heap.Ns mainGlobals mg) (cd : env.code = .ref c) (C : PySem.W.CodeHd s.heap c P) (tb : s.heap.get? P = some { cls := .none, data := .fields ps }) (ok : TriplesOk ps.toList)
    (no : codeAmong pos ps.toList = none) (gP : mainGlobals ≠ P) (bt : s.heap.BuiltinsAt mg P)
    (h : ∀ (c' : Addr) (ctv pm : Value) (h2 : Heap) (tk : Tok), (∀ b o, b ≠ P → s.heap.get? b = some o → h2.get? b = some o) → s.heap.objs.size ≤ c' → c' < h2.objs.size → h2.CodeRec (.ref c') q → h2.get? P = some { cls := .none, data := .fields (ps ++ #[rawInt pos.line, rawInt pos.col, .ref c']) } →
      R (.ref h2.objs.size) { s with heap := h2.push (lobj q params body scope clos pm c' ctv dV), toks := tk }) :
    wpAny M A (makeTail "<lambda>" q params (.expr body) scope env dV .none none pos fl) R E s := by
  obtain ⟨bm, ob, m1, m2, _, m4, m5, m6, m7, m8⟩ := bt
  unfold makeTail
  rw [cl, gb]
  refine wpAny_bind (wpAny_pure (cells_step fun ctv h1 k1 z1 => ?_))
  refine wpAny_bind (wpAny_functionCodeX cd ((C.keeps k1).code (k1 _ _ tb) ok) ((C.keeps k1).tab (k1 _ _ tb)) no fun c' h2 tk hx hge hlt _ hrec htb _ => ?_)
  have g2 := (g.keeps k1).extBut hx gP
  refine wpAny_bind (wpAny_builtinsFor g2 m1 m2 (hx _ _ m4 (k1 _ _ m5)) m6 m7 m8 (wpAny_bind (wpAny_nsGet g2 ?_)))
  exact wpAny_bind (wpAny_pure (wpAny_newObj_type (h c' ctv _ h2 tk (fun b o hb e => hx b o hb (k1 b o e)) (Nat.le_trans z1 hge) hlt hrec htb.2) (by size_fits)))
theorem tail_hit {cv : Value} (cl : closureFor scope env = pure clos) (gb : env.globals = mainGlobals) (g : s.heap.Ns mainGlobals mg) (cd : env.code = .ref c) (C : PySem.W.CodeHd s.heap c P) (tb : s.heap.get? P = some { cls := .none, data := .fields ps }) (ok : TriplesOk ps.toList)
    (am : codeAmong pos ps.toList = some cv) (bt : s.heap.BuiltinsAt mg P)
    (h : ∀ (ctv pm : Value) (h2 : Heap) (tk : Tok), (∀ b o, s.heap.get? b = some o → h2.get? b = some o) → s.heap.objs.size ≤ h2.objs.size →
      R (.ref h2.objs.size) { s with heap := h2.push { cls := .type "function", data := .func (lfn q params body scope clos pm cv ctv dV) }, toks := tk }) :
    wpAny M A (makeTail "<lambda>" q params (.expr body) scope env dV .none none pos fl) R E s := by
  obtain ⟨bm, ob, m1, m2, _, m4, m5, m6, m7, m8⟩ := bt
  unfold makeTail
  rw [cl, gb]
  refine wpAny_bind (wpAny_pure (cells_step fun ctv h1 k1 z1 => ?_))
  refine wpAny_bind (wpAny_functionCode_hit cd ((C.keeps k1).code (k1 _ _ tb) ok) am ?_)
  have g2 := g.keeps k1
  refine wpAny_bind (wpAny_builtinsFor g2 m1 m2 (k1 _ _ m5) m6 m7 m8 (wpAny_bind (wpAny_nsGet g2 ?_)))
  exact wpAny_bind (wpAny_pure (wpAny_newObj_type (h ctv _ h1 s.toks k1 z1) (by size_fits)))
end
/-- how the defaults of a lambda look: none, or one whole number -/
def dfl : Option Expr → List Expr
  | none => []
  | some e => [e]
/-- the tuple of the defaults -/
def DefV (h : Heap) (H : Hp) (n : Option Int) (dV : Value) : Prop := match n with
  | none => dV = .none
  | some i => ∃ (T : Addr) (t : Tok), dV = .ref T ∧ H T = none ∧ h.get? T = some { cls := .type "tuple", data := .seq #[.int i t] }
def DfltOf (n : Option Int) (params : Arguments) (env : Env) : Prop := match n with
  | none => defaultsOf params env = ([], [])
  | some i => ∃ j p, defaultsOf params env = ([eval (.Constant (.int i) j p) env], [])
theorem lam_mkD {X : Cx} {pins : List (Addr × Obj)} {σ : L2.St} {H : Hp} {s : Shared} {c P : Addr} {params : Arguments} {body : Expr} {scope : Scope} {pos : Pos} {E Q : Value → Shared → Prop} {n : Option Int} (J : L2.Inv X pins σ H s) (T : LamX.TabB X.base X.mg c P) (hco : X.env.code = .ref c)
    (t : LamX.TabS H P (X.env.qual ++ "<lambda>")) (nd : DfltOf n params X.env) (nk : params.kwonlyargs = []) (fr : ∀ y ∈ scope.names, y.2 = .free → ∃ c, X.env.cells.lookup y.1 = some c)
    (k : ∀ (f c' : Addr) (pm ctv dV : Value) (H1 : Hp) (s1 : Shared), L2.Inv X pins σ H1 s1 → LamStep P (X.env.qual ++ "<lambda>") H H1 →
      s1.heap.get? f = some (lobj (X.env.qual ++ "<lambda>") params body scope (cloFrom X.env.cells scope.names []) pm c' ctv dV) → DefV s1.heap H1 n dV → (∀ T, dV = .ref T → T ∉ frs X.stack) → H1 f = none → f ∉ frs X.stack → H1 c' = some (LamX.CodeO c' (X.env.qual ++ "<lambda>")) → Q (.ref f) s1) :
    wpAny (model X.prog X.w) X.A (eval (.Lambda params body scope pos) X.env) Q E s := by
  have off : ∀ {s0 : Shared}, L2.Inv X pins σ H s0 → ∀ f, s0.heap.objs.size ≤ f → f ∉ frs X.stack := fun {s0} J0 f hf z => by
    rcases List.mem_cons.mp (J0.stkSub _ z) with z | z
    · have hl := J0.lt
      rw [← z] at hl
      exact absurd (Nat.lt_of_lt_of_le hl hf) (Nat.lt_irrefl _)
    · exact J0.nofs hf z
  have go : ∀ (dV : Value) (s0 : Shared), L2.Inv X pins σ H s0 → DefV s0.heap H n dV → (∀ T, dV = .ref T → T ∉ frs X.stack) → wpAny (model X.prog X.w) X.A (makeTail "<lambda>" (X.env.qual ++ "<lambda>") params (.expr body) scope X.env dV .none none pos pos.line) Q E s0 := by
    intro dV s0 J0 hd hdf
    obtain ⟨ps, e1, e2, e3⟩ := t
    have atP : s0.heap.get? P = some { cls := .none, data := .fields ps } := J0.hok P _ e1
    cases am : codeAmong pos ps.toList with
    | some cv =>
      obtain ⟨c', ec, hc'⟩ := e3 pos cv am
      subst ec
      refine tail_hit (mg := X.mg) (c := c) (P := P) (ps := ps) (closure_ok fr) J0.ok.glob (J0.mod.glob.keeps J0.bk) hco (T.code.keeps J0.bk) atP e2 am (T.bm.keeps J0.bk) fun ctv pm h2 tk hk hz => ?_
      have kk : ∀ (ob : Obj), ∀ b o, s0.heap.get? b = some o → (h2.push ob).get? b = some o := fun ob b o e => Heap.get?_push_of_some _ (hk b o e)
      refine k h2.objs.size c' pm ctv dV H _ (J0.kept (kk _)) (.inl rfl) (Heap.get?_push_size _ rfl) ?_ hdf (J0.hok.fresh hz) (off J0 _ hz) hc'
      cases n with
      | none => exact hd
      | some i => obtain ⟨T', tt, a1, a2, a3⟩ := hd; exact ⟨T', tt, a1, a2, kk _ _ _ a3⟩
    | none =>
      refine tail_new (mg := X.mg) (c := c) (P := P) (ps := ps) (closure_ok fr) J0.ok.glob (J0.mod.glob.keeps J0.bk) hco (T.code.keeps J0.bk) atP e2 am T.gP (T.bm.keeps J0.bk) fun c' ctv pm h2 tk hk hge hlt hrec htb => ?_
      obtain ⟨c2, oc, vs, tq, ec, hoc, hcd, hv⟩ := hrec
      cases ec
      have fc : H c' = none := J0.hok.fresh hge
      have big : s0.heap.objs.size ≤ h2.objs.size := Nat.le_trans hge (Nat.le_of_lt hlt)
      have J1 := LamX.inv_table (q := X.env.qual ++ "<lambda>") (t' := tk) (more := #[rawInt pos.line, rawInt pos.col, .ref c']) (h' := h2.push (lobj (X.env.qual ++ "<lambda>") params body scope (cloFrom X.env.cells scope.names []) pm c' ctv dV)) J0 e1
        (fun b o hb e => Heap.get?_push_of_some _ (hk b o hb e)) (Heap.get?_push_of_some _ htb) hge ⟨oc, vs, tq, Heap.get?_push_of_some _ hoc, hcd, hv⟩
      have nPc : P ≠ c' := ne_of_none e1 fc
      have lst : (ps ++ #[rawInt pos.line, rawInt pos.col, .ref c']).toList = ps.toList ++ [rawInt pos.line, rawInt pos.col, .ref c'] := by simp
      have t1 : LamX.TabS (upd (upd H P (.tbl (ps ++ #[rawInt pos.line, rawInt pos.col, .ref c']))) c' (LamX.CodeO c' (X.env.qual ++ "<lambda>"))) P (X.env.qual ++ "<lambda>") := by
        refine ⟨_, by rw [upd_ne nPc, upd_same], by rw [lst]; exact PySem.TriplesOk_snoc _ _ _ _ e2, fun p' cv hcv => ?_⟩
        rw [lst] at hcv
        rcases LamX.among_app _ e2 hcv with z | z
        · obtain ⟨c0, g1, g2⟩ := e3 p' cv z
          refine ⟨c0, g1, ?_⟩
          rw [upd_ne (ne_of_none g2 fc), upd_ne (fun z => by rw [z, e1] at g2; exact LamX.codeO_ne ps (Option.some.inj g2).symm)]
          exact g2
        · exact ⟨c', z, upd_same⟩
      refine k h2.objs.size c' pm ctv dV _ _ J1 (.inr ⟨ps, _, c', e1, fc, rfl, t1⟩) (Heap.get?_push_size _ rfl) ?_ hdf ?_ (off J0 _ big) upd_same
      · cases n with
        | none => exact hd
        | some i =>
          obtain ⟨T', tt, a1, a2, a3⟩ := hd
          have nTP : T' ≠ P := fun z => by rw [z, e1] at a2; cases a2
          have nTc : T' ≠ c' := Nat.ne_of_lt (Nat.lt_of_lt_of_le (Heap.lt_size a3) hge)
          exact ⟨T', tt, a1, by rw [upd_ne nTc, upd_ne nTP]; exact a2, Heap.get?_push_of_some _ (hk _ _ nTP a3)⟩
      · rw [upd_ne (Nat.ne_of_gt hlt), upd_ne (Nat.ne_of_gt (Nat.lt_of_lt_of_le (Heap.lt_size atP) big))]
        exact J0.hok.fresh big
  rw [arm_eval_Lambda]
  cases n with
  | none =>
    have nd : defaultsOf params X.env = ([], []) := nd
    rw [nd]
    refine wpAny_bind (wpAny_evalAll_nil ?_)
    refine wpAny_bind (wpAny_holding (wpAny_pure ?_))
    rw [makeFunction_eq, nk]
    simp only [List.zip_nil_left, List.filterMap_nil, List.isEmpty_nil, if_true, pure_bind]
    exact go .none s J rfl fun T z => nomatch z
  | some i =>
    obtain ⟨j, p, nd⟩ := nd
    rw [nd]
    refine wpAny_bind (wpAny_evalAll_cons (wpAny_Constant_int (wpAny_evalAll_nil ?_)))
    refine wpAny_bind (wpAny_holding (wpAny_pure ?_))
    rw [makeFunction_eq, nk]
    simp only [List.zip_nil_left, List.filterMap_nil, List.isEmpty_nil, List.isEmpty_cons, Bool.false_eq_true, if_true, if_false, pure_bind]
    refine wpAny_bind (wpAny_newTextTuple ?_)
    have J2 : L2.Inv X pins σ H { s with toks := s.toks + 1, heap := s.heap.push { cls := .type "tuple", data := .seq #[.int i s.toks] } } := J.kept (t' := s.toks + 1) fun b o e => Heap.get?_push_of_some _ e
    exact go _ _ J2 ⟨s.heap.objs.size, s.toks, rfl, J.hok.fresh (Nat.le_refl _), Heap.get?_push_size _ rfl⟩ fun T z => by cases z; exact off J _ (Nat.le_refl _)
end DL

-- part LX2
set_option maxHeartbeats 4000000
/-! a lambda without parameters, or with one that has a default, is called by the def that got it -/
namespace DL
open PySem PySem.Spec PyProof.Rows L2
/-- the names of such a lambda: captured ones, globals, and perhaps a parameter that no slot is named by -/
structure LamN (sc scope : Scope) (N : List Str) (bs : List Str) : Prop where
  kind : scope.kind = .function
  co : scope.isCoroutine = false
  gen : scope.isGenerator = false
  nc : ∀ y ∈ scope.names, y.2 ≠ .cell
  own : ∀ y ∈ scope.names, y.2 = .local → y.1 ∉ N
  free : ∀ y ∈ scope.names, y.2 = .free → sc.names.lookup y.1 = some .cell ∨ sc.names.lookup y.1 = some .free
  par : ∀ b ∈ bs, scope.names.lookup b = some .local
theorem LamN.has {X : Cx} {scope : Scope} {N bs : List Str} (L : LamN X.env.scope scope N bs) (ok : X.Ok) : ∀ y ∈ scope.names, y.2 = .free → ∃ c, X.env.cells.lookup y.1 = some c := fun y hy e => (L.free y hy e).elim (fun k => ok.has _ (.inl k)) fun k => ok.has _ (.inr k)
def lamNB (sc scope : Scope) (N bs : List Str) : Bool :=
  decide (scope.kind = .function) && !scope.isCoroutine && !scope.isGenerator && (scope.names.all fun y => !decide (y.2 = .cell) && (!decide (y.2 = .local) || !N.contains y.1) && (!decide (y.2 = .free) || decide (sc.names.lookup y.1 = some .cell) || decide (sc.names.lookup y.1 = some .free))) && bs.all fun b => decide (scope.names.lookup b = some .local)
theorem lamN_by {sc scope : Scope} {N bs : List Str} (h : lamNB sc scope N bs = true) : LamN sc scope N bs := by
  unfold lamNB at h
  simp only [Bool.and_eq_true, Bool.or_eq_true, Bool.not_eq_true', decide_eq_true_eq, decide_eq_false_iff_not, List.all_eq_true] at h
  obtain ⟨⟨⟨⟨h1, h2⟩, h3⟩, h4⟩, h5⟩ := h
  refine ⟨h1, h2, h3, fun y hy => (h4 y hy).1.1, fun y hy e => ?_, fun y hy e => ?_, h5⟩
  · rcases (h4 y hy).1.2 with z | z
    · exact absurd e z
    · intro hm
      rw [List.contains_iff_mem.mpr hm] at z
      cases z
  · rcases (h4 y hy).2 with (z | z) | z
    · exact absurd e z
    · exact .inl z
    · exact .inr z
section
variable {X : Cx} {pins : List (Addr × Obj)} {σ : L2.St} {H HZ : Hp} {s s1 : Shared}
theorem lam_in {A : Around} {outer : List Env} {E : XK} {scope : Scope} {f c' : Addr} {h₁ : Heap} {tk : Nat} {bs : List Str} {m0 : Str → Option Value} (J : L2.Inv X pins σ H s) (L : LamN X.env.scope scope X.N bs) (z0 : Env0 X.prog X.w X.K X.mg X.base A outer s1 HZ) (hh : A.handled = none)
    (kept : Un (frs X.stack) [] H HZ s.heap s1.heap) (ns : h₁.Ns s1.heap.objs.size m0) (up : ∀ b o, s1.heap.get? b = some o → h₁.get? b = some o) :
    L2.Inv (LamX.lamCx X A outer s1 HZ E scope f c') [] σ HZ { s1 with heap := h₁, toks := tk } := by
  have caps := L.has J.ok
  have back : ∀ {y c}, (cloFrom X.env.cells scope.names []).lookup y = some c → X.env.cells.lookup y = some c := fun {y c} hl => by
    rcases cloFrom_mem (PySem.mem_of_lookup hl) with bad | ⟨m1, m2⟩
    · cases bad
    · obtain ⟨c1, hc1⟩ := caps _ m1 rfl
      have hc1 : X.env.cells.lookup y = some c1 := hc1
      have same : c = c1 := by
        rw [m2, hc1] <;> rfl
      rw [same]; exact hc1
  have forth : ∀ {y}, scope.names.lookup y = some .free → ∃ c, (cloFrom X.env.cells scope.names []).lookup y = some c := fun {y} hl =>
    mem_lookup (cloFrom_has (cells := X.env.cells) (acc := []) (PySem.mem_of_lookup hl))
  have cellUp : ∀ {c : Addr} {v : Option Value}, H c = none → s.heap.IsCell c v → h₁.IsCell c v := fun {c v} n ⟨o, ho, hd⟩ => by
    obtain ⟨sl, q⟩ := kept.any ho n (by simp)
    exact ⟨_, up _ _ q, hd⟩
  have none_ : ∀ b : Addr, b ∉ (LamX.lamCx X A outer s1 HZ E scope f c').ex := fun b z => nomatch (show b ∈ ([] : List Addr) from z)
  refine ⟨⟨z0.mod, L.kind, rfl, rfl, Nat.le_refl _, fun y z c a1 a2 => J.ok.inj y z c (back a1) (back a2), fun y hy => ?_, fun y c z _ => ?_, fun _ => hh, Around.frames_deeper z0.frames, .inr ⟨rfl, rfl⟩, fun b z => absurd z (none_ b), z0.bs, z0.bsz, fun b _ _ => none_ b,
      fun b z => absurd z (none_ b), z0.funs, z0.frf⟩,
    rfl, z0.bare, Un.kept up, ⟨_, ns, fun i y v a1 a2 a3 => ?_⟩, fun y c a => ?_, z0.hok.fresh (Nat.le_refl _), fun y c a => ?_, (fun q hq => nomatch (show q ∈ ([] : List (Addr × Obj)) from hq)), z0.hok.kept up, J.len⟩
  · have hy : scope.names.lookup y = some .cell ∨ scope.names.lookup y = some .free := hy
    rcases hy with hy | hy
    · exact absurd rfl (L.nc _ (PySem.mem_of_lookup hy))
    · exact forth hy
  · cases (show false = true from z)
  · have a3 : Vis scope y := a3
    rcases a3 with k | k | k
    · exact absurd (List.mem_of_getElem? a1) (L.own _ (PySem.mem_of_lookup k) rfl)
    · exact absurd rfl (L.nc _ (PySem.mem_of_lookup k))
    · obtain ⟨m, _, look⟩ := J.loc
      have fr := L.free _ (PySem.mem_of_lookup k) rfl
      obtain ⟨u, ru, lk⟩ := look i y v a1 a2 (fr.elim (fun k => .inr (.inl k)) fun k => .inr (.inr k))
      obtain ⟨c2, hc2⟩ := forth k
      refine ⟨u, ru, .inr ⟨.inr k, c2, hc2, ?_⟩⟩
      have hb := back hc2
      rcases lk with ⟨k', _⟩ | ⟨_, c3, e3, isc⟩
      · have k' : X.env.scope.names.lookup y = some .local := k'
        rcases fr with k2 | k2
        · rw [show X.env.scope.names.lookup y = some .cell from k2] at k'; cases k'
        · rw [show X.env.scope.names.lookup y = some .free from k2] at k'; cases k'
      · rw [hb] at e3
        cases e3
        exact cellUp (J.freeC y _ hb) isc
  · obtain ⟨u, isc⟩ := J.cell y c (back a)
    exact ⟨u, cellUp (J.freeC y c (back a)) isc⟩
  · obtain ⟨u, o, ho, _⟩ := J.cell y c (back a)
    exact kept.free c o ho (J.freeC y c (back a)) (by simp)
/-- the names that the lambda binds by itself -/
def bnd (n : Option Int) (a : Str) : List Str := match n with | none => [] | some _ => [a]
/-- how such a lambda binds -/
def BindL (q : Str) (params : Arguments) (body : Expr) (scope : Scope) (n : Option Int) (a : Str) : Prop := ∀ (cl : List (Str × Addr)) (pm cv ctv dV : Value) (h : Heap) (H : Hp), DefV h H n dV → ∀ s : Shared, s.heap = h →
  ∃ us : List Value, us.length = (bnd n a).length ∧ BindsTo s (lfn q params body scope cl pm cv ctv dV) ⟨[], []⟩ ((bnd n a).zip us)
/-- x(), in the def that got the lambda as x -/
theorem pe_actN {CXg : CXT} {Eg : XK} {Ng : List Str} {qg : Str} {sg : Scope} {g f c' : Addr} {cdg pm ctv dV : Value} {params : Arguments} {body : Expr} {scope : Scope} {k i : Nat} {a ar : Str} {n : Option Int} {pn : List (Addr × Obj)} {xe : Value → Shared → Prop} {W : WX} {E : XK} {tb : TE} {p1 p2 : Pos}
    (J : L2.Inv X pins σ H s) (L : LamN X.env.scope scope X.N (bnd n ar)) (hf : s.heap.get? f = some (lobj (X.env.qual ++ "<lambda>") params body scope (cloFrom X.env.cells scope.names []) pm c' ctv dV)) (hD : DefV s.heap H n dV) (hDf : ∀ T, dV = .ref T → T ∉ frs X.stack) (hfn : H f = none) (hfr : f ∉ frs X.stack)
    (bl : BindL (X.env.qual ++ "<lambda>") params body scope n ar)
    (tk : Takes ((cxOf CXg X.prog X.w X.K X.mg X.base Ng qg sg g cdg X.A X.stack s H Eg).tr pn xe) W) (hr : Room (k + 1) (X.A.deeper (envOfC qg sg s.heap.objs.size g cdg)))
    (hbody : ∀ (A : Around) (outer : List Env) (s : Shared) (H : Hp), Room k (A.deeper (LamX.lamEnv X scope s.heap.objs.size f c')) → PE (LamX.lamCx X A outer s H E scope f c') body tb)
    (hN : Ng[i]? = some a) (hv : Vis sg a) (hd : (a == ("__debug__" : Str)) = false := by decide) (hcd : (a == ("__classdict__" : Str)) = false := by decide) :
    PE ((cxOf CXg X.prog X.w X.K X.mg X.base Ng qg sg g cdg X.A X.stack s H Eg).tr pn xe) (.Call (.Name a p1) [] [] p2)
      (fun σZ HZ Q => σZ[i]? = some (some (.ref f)) ∧ HZ c' = some (LamX.CodeO c' (X.env.qual ++ "<lambda>")) ∧ (∀ cls d H', E cls d H' → W cls d σZ H') ∧ tb σ HZ Q) := by
  refine ⟨fun pinsZ sZ σZ HZ Q IZ h => ?_⟩
  obtain ⟨hs, hc, hW, ht⟩ := h
  refine wpAny_Call_Name_kw (thn ((pe_var (pos := p1) (i := i) hN hv hd hcd).run pinsZ sZ σZ HZ (fun v H1 => v = .ref f ∧ H1 = HZ) IZ ⟨.ref f, hs, rfl, rfl⟩) fun u t1 ⟨v, H1, I1, r1, ev, eH⟩ => ?_)
  subst ev
  rw [eH] at I1
  obtain rfl : u = Value.ref f := r1
  have here : ∀ (b : Addr) (o : Obj), s.heap.get? b = some o → H b = none → b ∉ frs X.stack → t1.heap.get? b = some o := fun b o e n nf => I1.base.keep b o e n nf (fun z => nomatch (show b ∈ ([] : List Addr) from z))
  have of1 := here f _ hf hfn hfr
  have hD1 : DefV t1.heap H n dV := by
    cases n with
    | none => exact hD
    | some m =>
      obtain ⟨T, tt, a1, a2, a3⟩ := hD
      exact ⟨T, tt, a1, a2, here T _ a3 a2 (hDf T a1)⟩
  refine PySem.W.callWith_F0 ⟨_, _, _, _, of1⟩ ?_
  obtain ⟨⟨oc, vs, tq, hoc, hdc, hvc⟩, _, _⟩ := I1.hok c' _ hc
  obtain ⟨us, lus, bto⟩ := bl (cloFrom X.env.cells scope.names []) pm (.ref c') ctv dV t1.heap H hD1 t1 rfl
  have locs : ∀ y ∈ (bnd n ar).zip us, scope.names.lookup y.1 = some .local := fun y hy => L.par _ (List.of_mem_zip (show (y.1, y.2) ∈ (bnd n ar).zip us from hy)).1
  have rc : codeAny (model X.prog X.w) (X.A.deeper (envOfC qg sg s.heap.objs.size g cdg)) (.call (.ref f) ⟨[], []⟩) (CR (L2.CX X.prog X.w) (envOfC qg sg s.heap.objs.size g cdg :: X.stack) X.prog X.w HZ t1 Q E) t1 := by
    refine PySem.W.kla_callFunE hr.depth of1 rfl L.co L.gen rfl ⟨c', oc, vs, tq, rfl, hoc, hdc, hvc⟩ ?_
    refine bto _ _ _ _ (wpAny_newFunctionEnv (fun y hy => L.nc y hy) locs (fun h₁ hns hsb => ⟨I1.nolimit.fresh _ hsb, ?_⟩) L.kind)
    have up : ∀ b o, t1.heap.get? b = some o → h₁.get? b = some o := fun b o e => hsb.extBut b o (Nat.ne_of_lt (Heap.lt_size e)) (Heap.get?_push_of_some _ e)
    have JJ : L2.Inv (LamX.lamCx X (X.A.deeper (envOfC qg sg s.heap.objs.size g cdg)) (envOfC qg sg s.heap.objs.size g cdg :: X.stack) t1 HZ E scope f c') [] σ HZ { t1 with heap := h₁, toks := t1.toks + ((bnd n ar).zip us).length } :=
      lam_in J L I1.env0 hr.hd I1.base hns up
    refine PySem.W.kla_codeExpr (wpAny_mono ((hbody _ _ t1 HZ (hr.deeper _)).run [] _ _ HZ Q JJ ht) (fun v s' hq => ?_) fun e s' hq => hq)
    obtain ⟨w', H', J', rv, q⟩ := hq
    exact ⟨w', H', J'.os, J'.bare, J'.base, J'.hok, rv, q⟩
  refine wpAny_call (codeAny_mono rc fun r s' hq => ?_)
  match r, hq with
  | .error e, hq => exact tk e s' (XE.of_call I1 hW hq)
  | .ok (.ret u), hq => exact I1.after hq
end
end DL

-- part LX3
set_option maxHeartbeats 4000000
/-! try .. except X as n: the exception is known behind the clause, too -/
namespace DL
open PySem PySem.Spec PyProof.Rows L2
/-- an exception that was raised: its class, its dict -/
def ExR (a : Addr) (cls : Value) (d : Option Addr) : HO := .ext fun h => ∃ (oe : Obj) (vs : Array Value), h.get? a = some oe ∧ Zc cls d oe ∧ oe.data = .fields vs
theorem exR_tbl {a : Addr} {cls : Value} {d : Option Addr} {ps : Array Value} : ExR a cls d ≠ .tbl ps := fun z => by unfold ExR at z; cases z
theorem exR_tup {a : Addr} {cls : Value} {d : Option Addr} {xs : List V} : ExR a cls d ≠ .tup xs := fun z => by unfold ExR at z; cases z
theorem exR_own {a x : Addr} {cls : Value} {d : Option Addr} : ExR a cls d ≠ .own x := fun z => by unfold ExR at z; cases z
theorem exR_frz {a : Addr} {cls : Value} {d : Option Addr} {o : Obj} {u : HO} : ExR a cls d ≠ .frz o u := fun z => by unfold ExR at z; cases z
theorem exR_at {P : Program} {w : World} {H : Hp} {h : Heap} {a : Addr} {cls : Value} {d : Option Addr} (ok : HOk P w H h) (e : H a = some (ExR a cls d)) : ∃ (oe : Obj) (vs : Array Value), h.get? a = some oe ∧ Zc cls d oe ∧ oe.data = .fields vs := (ok a _ e).1
theorem exR_ok {P : Program} {w : World} {H : Hp} {h : Heap} {a : Addr} {cls : Value} {d : Option Addr} {oe : Obj} {vs : Array Value} (e : h.get? a = some oe) (z : Zc cls d oe) (hd : oe.data = .fields vs) : ObjOk P w H h a (ExR a cls d) :=
  ⟨⟨oe, vs, e, z, hd⟩, ⟨oe, e⟩, fun h1 h2 ⟨o1, v1, a1, a2, a3⟩ st => ⟨o1, v1, st _ a1, a2, a3⟩⟩
section
variable {X : Cx} {pins : List (Addr × Obj)} {σ : L2.St} {H : Hp} {s : Shared}
/-- what was pinned is tracked from now on -/
theorem Inv_retrack {a : Addr} {oe : Obj} {vs : Array Value} {cls : Value} {d : Option Addr} (J : L2.Inv X ((a, oe) :: pins) σ H s) (z : Zc cls d oe) (hd : oe.data = .fields vs) (new : X.s_0.heap.get? a = none) (np : ∀ p ∈ X.pn ++ pins, p.1 ≠ a) : L2.Inv X pins σ (upd H a (ExR a cls d)) s := by
  obtain ⟨ha, na, nL, nF, _⟩ := J.pin (a, oe) (List.mem_append_right _ List.mem_cons_self)
  have ha : s.heap.get? a = some oe := ha
  have na : H a = none := na
  have old : ∀ b o, X.s_0.heap.get? b = some o → b ≠ a := fun b o e q => by rw [q, new] at e; cases e
  have at_ : ∀ b u, H b = some u → upd H a (ExR a cls d) b = some u := fun b u e => by rw [upd_ne (ne_of_none e na)]; exact e
  have notCell : ∀ c v, s.heap.IsCell c v → c ≠ a := fun c v ⟨o, e, q⟩ ec => by
    rw [ec, ha] at e
    cases e
    rw [hd] at q
    cases q
  refine ⟨J.ok, J.os, J.bare, ⟨J.base.keep, J.base.slot, fun b o e n hx => ?_, J.base.there, fun b xs e => at_ _ _ (J.base.tups b xs e), fun b o u e => at_ _ _ (J.base.frzs b o u e), fun b ps e => ?_⟩, J.loc, J.cell, ?_, fun y c e => ?_, fun p hp => ?_, fun b u e => ?_, J.len⟩
  · rw [upd_ne (old b o e)]; exact J.base.free b o e n hx
  · obtain ⟨more, q⟩ := J.base.tbls b ps e
    exact ⟨more, at_ _ _ q⟩
  · rw [upd_ne (Ne.symm nL)]; exact J.free
  · obtain ⟨v, isc⟩ := J.cell y c e
    rw [upd_ne (notCell c v isc)]; exact J.freeC y c e
  · obtain ⟨q1, q2, q3⟩ := J.pin p (by
      rcases List.mem_append.mp hp with m | m
      · exact List.mem_append_left _ m
      · exact List.mem_append_right _ (List.mem_cons_of_mem _ m))
    exact ⟨q1, by rw [upd_ne (np p hp)]; exact q2, q3⟩
  · by_cases hb : b = a
    · subst hb
      rw [upd_same] at e
      cases e
      exact exR_ok ha z hd
    · rw [upd_ne hb] at e
      exact (J.hok b u e).stay (fun c v _ q => q) (fun c q => at_ _ _ q) fun c xs q => at_ _ _ q
theorem Inv_unsuite {a : Addr} {q : Addr × Obj} {pn' : List (Addr × Obj)} (J : L2.Inv (X.suite a (q :: (X.pn ++ pins))) pn' σ H s) (ok : X.Ok) : L2.Inv X (q :: pins) σ H s :=
  ⟨ok, J.os, J.bare, J.base, J.loc, J.cell, J.free, J.freeC, fun p hp => J.pin p (List.mem_append_left _ (by
    rcases List.mem_append.mp hp with m | m
    · exact List.mem_cons_of_mem _ (List.mem_append_left _ m)
    · rcases List.mem_cons.mp m with e | m
      · rw [e]; exact List.mem_cons_self
      · exact List.mem_cons_of_mem _ (List.mem_append_right _ m))), J.hok, J.len⟩
end
/-- what the clause 'except x as n' wishes: it takes the exception, its suite ends by itself; behind it the exception is tracked -/
def wKeep (K : PySem.W.Frag) (c : Value) (i : Nat) (ts : Addr → Value → Option Addr → TS) (D : Ends) : WX := fun cls d σ H =>
  PySem.W.exmOne K cls c = some true ∧ ∀ a, H a = none → ts a cls d { nx := fun σ' H' => D.nx (σ'.set i none) (upd H' a (ExR a cls d)), rt := fun _ _ => False, bk := fun _ _ => False, ct := fun _ _ => False } (σ.set i (some (.ref a))) H
section
variable {X : Cx} {x n : Str} {c : Value} {i : Nat} {body suite : List Stmt} {b₀ : Stmt} {np pos pos' : Pos} {tb : WX → TS} {ts : Addr → Value → Option Addr → TS}
theorem ps_keep (ex0 : X.ex = []) (st : X.stack = X.env :: X.outer) (fr : X.env.frame = some X.env.locals) (nd : X.N.Nodup) (at_ : X.N[i]? = some n) (lc : X.env.kindOf n = some .local) (nm : Names X x c)
    (rb : ∀ (W : WX) (pn : List (Addr × Obj)) (xe : Value → Shared → Prop), Takes (X.tr pn xe) W → PassesOwn (model X.prog X.w) X.A X.env xe → PSs (X.tr pn xe) body (tb W))
    (rs : ∀ (a : Addr) (oe : Obj) (cls : Value) (d : Option Addr) (pn : List (Addr × Obj)), Zc cls d oe → (∃ vs, oe.data = .fields vs) → PSs (X.suite a ((a, oe) :: pn)) (b₀ :: suite) (ts a cls d)) :
    PS X (.Try body [.ExceptHandler (some (.Name x np)) (some n) (b₀ :: suite) pos'] [] [] pos) (fun D σ H => tb (wKeep X.K c i ts D) D σ H) := by
  refine ⟨fun pins s σ H D I h => ?_⟩
  have good := I.ok
  have frames : X.A.frames = some (X.env :: X.outer) := by rw [good.frames, st]
  refine wpAny_Try_except ?_
  -- what is done with an exception of the body
  have caught : Takes (X.tr (X.pn ++ pins) (fun e s₁ => wpAny (model X.prog X.w) X.A (noteFrame e X.env) (fun _ s₂ => wpAny (model X.prog X.w) X.A (setFlight e none) (fun _ s₃ =>
    wpAny (model X.prog X.w) X.A (handleBy e X.env [.ExceptHandler (some (.Name x np)) (some n) (b₀ :: suite) pos']) (SP X pins D) X.xe s₃) X.xe s₂) X.xe s₁)) (wKeep X.K c i ts D) := by
    rintro u sF ⟨a, B, sQ, pinsQ, σQ, HQ, cls, d, rfl, JQ, ground, ups, sky, unk, osQ, bareQ, hit, wish⟩
    have J0 : L2.Inv X pins σQ HQ sQ := JQ.ofTry good
    have skyX : Sky B (X.env :: X.outer) a (Zc cls d) X.env.locals sF.heap := by rw [← st]; exact sky
    show wpAny (model X.prog X.w) X.A (noteFrame (.ref a) X.env) _ _ _
    refine Sky.land Zc.steady frames fr skyX fun hA flyA upA => ?_
    have JA : L2.Inv X pins σQ HQ { sF with heap := hA } := J0.landed ground flyA.1 (ups.trans upA) osQ bareQ
    obtain ⟨oA, vA, getA, zA, dA⟩ := flyA.there
    have noFrame : a ∉ frs (X.env :: X.outer) := fun hm => by
      obtain ⟨_, o2, e2, nf⟩ := flyA.2.2.1.mem hm
      rw [getA] at e2
      cases e2
      exact nf _ dA
    have neL : a ≠ X.env.locals := fun z => noFrame (List.mem_filterMap.mpr ⟨X.env, List.mem_cons_self, by rw [fr, z]⟩)
    have neF : a ∉ X.fs := fun hm => by
      obtain ⟨e, he, q⟩ := List.mem_filterMap.mp hm
      exact noFrame (List.mem_filterMap.mpr ⟨e, List.mem_cons_of_mem _ he, q⟩)
    -- the exception's object is new
    have fresh : ∀ b o, sQ.heap.get? b = some o → b ≠ a := fun b o e q => by
      have := ground b o e (by rw [q, st]; exact noFrame)
      rw [q, flyA.2.1] at this
      cases this
    have pinNe : ∀ p ∈ X.pn ++ pins, p.1 ≠ a := fun p hp => fresh _ _ (J0.pin p hp).1
    have new0 : X.s_0.heap.get? a = none := by
      cases q : X.s_0.heap.get? a with
      | none => rfl
      | some o =>
        obtain ⟨o', e'⟩ := J0.base.there a o q (by rw [ex0]; exact fun z => nomatch z)
        exact absurd rfl (fresh a o' e')
    have SA := JA.suite getA dA unk neL neF
    refine wpAny_handleBy_cons (codeAny_handlers_test ?_) (by intro q; cases q)
    have isOf : PySem.W.Looks (model X.prog X.w) hA (typeOf (.ref a)) cls := fun A Q E s k q => wpAny_typeOf_ref (k _ _ getA) (by rw [zA.1]; exact q)
    have fits := PySem.W.exm_one (M := model X.prog X.w) (JA.kIn) isOf hit
    have named : ∀ {Q : Value → Shared → Prop} {E : Value → Shared → Prop}, Q c { sF with heap := hA } → wpAny (model X.prog X.w) (X.A.mark (some (.ref a))) (eval (.Name x np) X.env) Q E { sF with heap := hA } := fun {Q E} q => by
      obtain ⟨g1, g2, g3 | ⟨g3, g4, g5⟩⟩ := nm
      · exact ld_glob (X := X.suite a ((a, oA) :: (X.pn ++ pins))) SA g1 g3 q g2
      · exact ld_blt (X := X.suite a ((a, oA) :: (X.pn ++ pins))) SA g1 g3 g4 q g5 g2
    refine named (fits.here ?_)
    refine codeAny_handlers_suite_as (HandSPX.lands_againZ flyA fun hB flyB upB => ?_)
    have JB : L2.Inv X pins σQ HQ { sF with heap := hB } := J0.landed ground flyB.1 ((ups.trans upA).trans upB) osQ bareQ
    obtain ⟨oB, vB, getB, zB, dB⟩ := flyB.there
    have SB := JB.suite getB dB unk neL neF
    refine store_ok (X := X.suite a ((a, oB) :: (X.pn ++ pins))) (v := .ref a) SB nd at_ (.inl lc) rfl (fun sC SC => ?_) (.inr lc)
    refine wpAny_mono ((rs a oB cls d (X.pn ++ pins) zB ⟨_, dB⟩).run [] sC _ HQ _ SC (wish a unk)) (fun f sD hD => ?_) (fun _ _ z => False.elim z)
    match f, hD with
    | .next, ⟨σD, HD, SD, qD⟩ =>
      exact gone_ok (Inv_unsuite SD good) nd at_ lc fun sE JE => ⟨_, _, Inv_retrack JE zB dB new0 pinNe, qD⟩
    | .brk, ⟨_, _, _, z⟩ => exact z.elim
    | .cont, ⟨_, _, _, z⟩ => exact z.elim
    | .ret _, ⟨_, _, _, _, _, z⟩ => exact z.elim
  refine wpAny_mono ((rb (wKeep X.K c i ts D) _ _ caught PassesOwn.looking).run [] s σ H D (I.toTry _) h) (fun f sN hN => ?_) (fun e sN he => he)
  match f, hN with
  | .next, ⟨σN, HN, JN, q⟩ => exact wpAny_execs_nil ⟨σN, HN, JN.ofTry good, q⟩
  | .brk, ⟨σN, HN, JN, q⟩ => exact ⟨σN, HN, JN.ofTry good, q⟩
  | .cont, ⟨σN, HN, JN, q⟩ => exact ⟨σN, HN, JN.ofTry good, q⟩
  | .ret _, ⟨v, σN, HN, JN, r, q⟩ => exact ⟨v, σN, HN, JN.ofTry good, r, q⟩
end
end DL

-- part EX1
set_option maxHeartbeats 4000000
/-! super().__init__(..) in the __init__ of an exception class that stands below ValueError -/
namespace DL
open PySem PySem.Spec PyProof.Rows L2
section
open PySem.ESX PySem.W
abbrev bwV (x : Addr) : Obj := { cls := .type "method-wrapper", dict := none, data := .fields #[.builtin "ValueError.__init__", .ref x], slots := #[] }
theorem type_vi : typeOf (.builtin "ValueError.__init__") = pure (.type "wrapper_descriptor") := by show builtinType _ = _; rw [builtinType_eq_fast]; kernel_rfl
theorem nacV : (kfb_private% "nameAndClass") (Value.builtin "ValueError.__init__") = (pure (("__init__" : Str), Value.type "ValueError") : Sem (Str × Value)) := by kernel_rfl
variable {prog : Program} {w : World} {M : Model} {A : Around} {E : Value → Shared → Prop} {h : Heap} {g : Array GenState} {d : Drawn} {t : Nat} {os : OsState}
theorem run_wdV {x C : Addr} {P : Fin → Shared → Prop} (hin : W.Looks M h (isInstance (.ref x) (.type "ValueError")) true) (hq : P (.done (.ret (.ref h.objs.size))) ⟨h.push (bwV x), g, d, t, os⟩) :
    wpAny M A (Builtin.«wrapper_descriptor.__get__» ⟨[.builtin "ValueError.__init__", .ref x, .ref C], []⟩) P E ⟨h, g, d, t, os⟩ := by
  unfold Builtin.«wrapper_descriptor.__get__»
  refine wpAny_bind (wpAny_of_eq (a := (.builtin "ValueError.__init__", some (.ref x), some (.ref C))) (by first | rfl | kernel_rfl) ?_)
  show wpAny M A ((kfb_private% "checkInstance") (.builtin "ValueError.__init__") (.ref x) >>= fun _ => newFields "method-wrapper" [.builtin "ValueError.__init__", .ref x] >>= fun r => ret r) P E _
  refine wpAny_bind ?_
  show wpAny M A ((kfb_private% "nameAndClass") (.builtin "ValueError.__init__") >>= _) _ E _
  refine wpAny_bind (wpAny_of_eq nacV ?_)
  show wpAny M A (isInstance (.ref x) (.type "ValueError") >>= _) _ E _
  refine wpAny_bind (hin.at ?_)
  refine KFB.if_not rfl ?_
  refine wpAny_pure ?_
  exact wpAny_bind (wpAny_newObj_type (wpAny_pure hq))
theorem super_gaV {so D x C : Addr} {l₀ l : List Value} {K : Frag} {name : Str} {tk : Tok} {Q : Fin → Shared → Prop}
    (hso : h.get? so = some { cls := .type "super", dict := none, data := .fields #[.ref D, .ref x, .ref C], slots := #[] }) (hno : W.Looks (model prog w) h (opaqueClassAbove (.ref C)) none)
    (hC : W.Looks (model prog w) h (mroOf (.ref C)) l₀) (hl : (l₀.dropWhile (· != .ref D)).drop 1 = l) (X : K.In h)
    (hf : alongIn K name l = some (some (.builtin "ValueError.__init__"))) (hxC : x ≠ C) (hn : (name == ("__class__" : Str)) = false) (hin : W.Looks (model prog w) h (isInstance (.ref x) (.type "ValueError")) true)
    (hq : Q (.done (.ret (.ref h.objs.size))) ⟨h.push (bwV x), g, d, t, os⟩) :
    wpAny (model prog w) A (Builtin.«super.__getattribute__» ⟨[.ref so, .str name tk], []⟩) Q E ⟨h, g, d, t, os⟩ := by
  have hlk := slot_wd.lookup
  have hne : (Value.ref x == Value.ref C) = false := by simp [hxC]
  have hTf := type_vi
  have hTi : Shared.TypeIs ⟨h, g, d, t, os⟩ (.builtin "ValueError.__init__") "wrapper_descriptor" := type_vi
  have hdt : ({ cls := .type "super", dict := none, data := .fields #[.ref D, .ref x, .ref C], slots := #[] } : Obj).data = .fields #[.ref D, .ref x, .ref C] := rfl
  have f0 : (#[.ref D, .ref x, .ref C] : Array Value)[0]? = some (.ref D) := rfl
  have f1 : (#[.ref D, .ref x, .ref C] : Array Value)[1]? = some (.ref x) := rfl
  have f2 : (#[.ref D, .ref x, .ref C] : Array Value)[2]? = some (.ref C) := rfl
  unfold Builtin.«super.__getattribute__»
  repeat (first
    | (with_reducible refine wpAny_field hso hdt f0 ?_) | (with_reducible refine wpAny_field hso hdt f1 ?_) | (with_reducible refine wpAny_field hso hdt f2 ?_)
    | (with_reducible refine ks_wpAny_notOpaque hno ?_)
    | (with_reducible refine Looks.at hC ?_; rw [hl])
    | (refine ks_forIn_along X (fun _ _ => rfl) rfl ?_ hf)
    | (with_reducible refine wpAny_call_entry slot_wd hTi entry_wd ?_ (args_wd _ _ _))
    | (with_reducible refine run_wdV hin ?_)
    | (with_reducible refine ⟨_, rfl, ?_⟩)
    | (simp only [hn, hne, Bool.or_false, Bool.false_eq_true, if_false])
    | wp_step
    | dsimp only)
  all_goals exact hq
theorem getMethod_superV {so D x C : Addr} {l₀ l : List Value} {K : Frag} {name : Str} {pl : Sem Bool} {Q : Value × List Value → Shared → Prop}
    (hso : h.get? so = some { cls := .type "super", dict := none, data := .fields #[.ref D, .ref x, .ref C], slots := #[] }) (hno : W.Looks (model prog w) h (opaqueClassAbove (.ref C)) none)
    (hC : W.Looks (model prog w) h (mroOf (.ref C)) l₀) (hl : (l₀.dropWhile (· != .ref D)).drop 1 = l) (X : K.In h)
    (hf : alongIn K name l = some (some (.builtin "ValueError.__init__"))) (hxC : x ≠ C) (hn : (name == ("__class__" : Str)) = false) (hin : W.Looks (model prog w) h (isInstance (.ref x) (.type "ValueError")) true)
    (hq : Q (.ref h.objs.size, []) ⟨h.push (bwV x), g, d, t + 1, os⟩) :
    wpAny (model prog w) A (getMethod (.ref so) name pl) Q E ⟨h, g, d, t, os⟩ := by
  have hlk := F.ks_slot_super_ga.lookup
  have hcan := F.ks_canon_super_ga
  have hT : ∀ t', (⟨h, g, d, t', os⟩ : Shared).TypeIs (.ref so) "super" := fun _ => ⟨_, hso, rfl⟩
  unfold getMethod
  refine wpAny_bind (wpAny_specialOf (hT _) hlk ?_)
  show wpAny _ _ (if (Manifest.canonical "super.__getattribute__" != "object.__getattribute__") = true then _ else _) _ _ _
  rw [if_pos hcan]
  unfold getAttr getAttrBy
  refine wpAny_bind (wpAny_bind (wpAny_mkText (wpAny_holding (wpAny_bind (wpAny_typeOf (hT _) (wpAny_bind (wpAny_of_eq hlk ?_)))))))
  show wpAny _ _ (getAttrByItsOwn (.ref so) (.str name t) (.type "super") (.builtin "super.__getattribute__") true false) _ _ _
  unfold getAttrByItsOwn hookBefore callGetattribute boundAndCalled
  refine wpAny_bind (wpAny_of_eq (show (if onTheHeap (.type "super") then typeLookup (.type "super") "__getattr__" else pure none) = pure none from rfl) ?_)
  refine wpAny_bind (wpAny_attempt (wpAny_holding ?_))
  show wpAny _ _ (bindSpecial (.builtin "super.__getattribute__") (.ref so) >>= _) _ _ _
  refine wpAny_bind (wpAny_of_eq (F.ks_slot_super_ga.bind _) ?_)
  refine wpAny_mono (Q := fun v s' => v = .ref h.objs.size ∧ s' = ⟨h.push (bwV x), g, d, t + 1, os⟩) (E := fun _ _ => False)
    (wpAny_call_entry F.ks_slot_super_ga (hT _) F.ks_entry_super_ga (super_gaV hso hno hC hl X hf hxC hn hin ⟨_, rfl, rfl, rfl⟩) (F.ks_gaArgs_super _ _)) (fun v s' hv => ?_) fun _ _ z => z.elim
  obtain ⟨rfl, rfl⟩ := hv
  exact wpAny_pure (wpAny_pure hq)
end
section
open PySem.ESX PySem.W PySem.Calls
variable {prog : Program} {w : World} {M : Model} {A : Around} {E : Value → Shared → Prop} {s : Shared}
theorem callWith_bwV {pos : Pos} {u x : Addr} {first : List Value} {args : List (Bool × Sem Value)} {Q : Value → Shared → Prop} (hplain : args.any (·.1) = false)
    (h : wpAny M A (evalArgs (.ref u) true args []) (fun a s₁ => s₁.heap.get? u = some (bwV x) ∧ wpAny M A (call (.ref u) (first ++ a.pos) a.kw) Q E s₁) E s) : wpAny M A (callWith pos (.ref u) first args []) Q E s := by
  unfold callWith
  refine wpAny_bind (wpAny_holding (wpAny_mono h (fun a s₁ h₁ => wpAny_bind (wpAny_standAt ?_)) fun _ _ x => x))
  obtain ⟨ho, hcall⟩ := h₁
  simp only [hplain, List.any_nil, Bool.or_false]
  refine wpAny_bind (m := keeperOf (.ref u)) ?_
  unfold keeperOf
  refine wpAny_bind (wpAny_load ho ?_)
  simp only [bwV, show (Value.type "method-wrapper" != Value.type "method") = true by decide, show (Value.type "method-wrapper" == Value.type "builtin_function_or_method" || Value.type "method-wrapper" == Value.type "method-wrapper") = true by decide, if_true]
  refine wpAny_pure ?_
  exact wpAny_bind (wpAny_mono hcall (fun r s₂ hr => wpAny_bind (wpAny_holding (wpAny_point (wpAny_pure hr)))) fun _ _ x => x)
theorem callWith_boundV {pos : Pos} {u x : Addr} {first : List Value} {env : Env} {e : Expr} {rest : List Expr} {Q : Value → Shared → Prop}
    (h : wpAny M A (spliced (backTo pos (starEach (e :: rest) env))) (fun vs s₁ => s₁.heap.get? u = some (bwV x) ∧ wpAny M A (call (.ref u) (first ++ vs)) Q E s₁) E s)
    (he : starEach (e :: rest) env = (false, eval e env) :: starEach rest env) (hplain : (backTo pos (starEach rest env)).any (·.1) = false) :
    wpAny M A (callWith pos (.ref u) first (backTo pos (starEach (e :: rest) env)) []) Q E s := by
  rw [he] at h ⊢
  refine callWith_bwV (x := x) (by show (false || (backTo pos (starEach rest env)).any (·.1)) = false; rw [hplain]; rfl) ?_
  exact evalArgs_plain h
end
section
open PySem.ESX
variable {prog : Program} {w : World} {A : Around} {E : Value → Shared → Prop} {h : Heap} {g : Array GenState} {d : Drawn} {t : Nat} {os : OsState}
variable {nm q : Str} {C N : Addr} {bs bm : List Value} {hdct : Bool} {sn : List Str} {sub : List Value} {ab : Bool} {col : Option Bool} {dd : Option Addr} {k0 k1 k2 k3 k5 : Option Value}
theorem call_bwV {u e t0 : Addr} {rest : List Value} {Q : Value → Shared → Prop}
    (hC : h.get? C = some (excClassObj nm q C N bs bm hdct sn sub ab col dd k0 k1 k2 k3 k5 "ValueError.__new__")) (he : h.get? e = some (HandSPX.excO C t0)) (hu : h.get? u = some (bwV e)) (hrest : rest.length ≤ sizeLine)
    (hq : ∀ h' t1, (∀ b o, b ≠ e → h.get? b = some o → h'.get? b = some o) → h'.get? e = some (HandSPX.excO C t1) → Q .none ⟨h', g, d, t, os⟩) :
    wpAny (model prog w) A (call (.ref u) rest) Q E ⟨h, g, d, t, os⟩ := by
  refine wpAny_call (codeAny_of_tree ?_)
  show wpAny _ A.in1 (callAny (.ref u) ⟨rest, []⟩) _ _ _
  simp only [callAny]
  refine wpAny_bind (wpAny_load hu ?_)
  simp only [bwV, show (Value.type "method-wrapper" == Value.type "method" || Value.type "method-wrapper" == Value.type "builtin_function_or_method" || Value.type "method-wrapper" == Value.type "method-wrapper") = true by decide, if_true]
  refine W.KFB.if_so (by decide) ?_
  refine wpAny_bind (check_bound F.excBase_ValueError hC he rfl ?_)
  refine wpAny_bind (wpAny_pure (wpAny_pure ?_))
  refine ⟨Code.quiet_builtin _ (by decide +kernel), codeAny_builtin F.excBase_ValueError.initEntry ?_⟩
  rw [Around.under_plainId F.excBase_ValueError.init.plain _]
  wp_walk
  refine hq _ h.objs.size (fun b o hb ho => ?_) ?_
  · rw [Heap.get?_update_other _ _ (Ne.symm hb)]
    exact Heap.get?_push_of_some _ ho
  · rw [Heap.get?_update_self _ (Heap.get?_push_of_some _ he) rfl]
    rfl
end
/-- super().__init__(..): above the def's class D stands ValueError's own; nothing is told of it -/
def tSupE (K : PySem.W.Frag) (D : Addr) (t : TA) : TS := fun DD σ H => ∃ x C, σ[0]? = some (some (.ref x)) ∧ H x = some (exo x C none) ∧ OexC K C ∧ PySem.W.mroIn K C (.ref D) = some true ∧ PySem.W.mroIn K C (.type "ValueError") = some true ∧
  PySem.W.ks_superIn K C D "__init__" = some (some (.builtin "ValueError.__init__")) ∧ t σ H fun vs H1 => vs.length ≤ 1000 ∧ H1 x = some (exo x C none) ∧ DD.nx σ H1
section
variable {X : Cx} {CX : CXT} {f cda cc D : Addr} {slf : Str} {fd : FuncData} {ar : Arg} {vs : Array Value} {file : Str} {tf : Tok} {oc ccl cl : Value} {od cdd cld : Option Addr} {osl ccs csl : Array (Option Value)} {cdD : ClassData}
  {e : Expr} {es : List Expr} {t : TA} {body : List Stmt} {p0 p1 apos cpos epos : Pos}
theorem ps_superE (hN0 : X.N[0]? = some slf) (hks : X.env.kindOf "super" = some .globalImplicit) (hkc : X.env.kindOf "__class__" = some .free) (hka : X.env.kindOf slf = some .local)
    (hfu : X.env.func = some f) (lk : X.K.lookup f = some ⟨oc, od, .func fd, osl⟩) (hp : (fd.params.posonlyargs ++ fd.params.args).head? = some ar) (har : ar.arg = slf)
    (hco : X.env.code = .ref cda) (lc : X.K.lookup cda = some ⟨ccl, cdd, .fields vs, ccs⟩) (hvs : vs[2]? = some (.str file tf)) (hfile : ((X.prog.main.file : Str) == file) = true)
    (hcl : X.env.cells.lookup ("__class__" : Str) = some cc) (lcc : X.K.lookup cc = some ⟨cl, cld, .cell (some (.ref D)), csl⟩) (hD : PySem.W.clsIn X.K D = some cdD) (hms : X.mg "super" = none) (htop : (X.prog.main.scope.names.lookup ("super" : Str)).isSome = false)
    (hno : PySem.W.nsIn X.K cStatics "thirdparty.any" = some none) (ha : PA X (e :: es) t)
    (hboot : bootBuiltins "super" = some (.type "super")) (he : starEach (e :: es) X.env = (false, eval e X.env) :: starEach es X.env := by rfl) (hpl : (backTo cpos (starEach es X.env)).any (·.1) = false := by rfl)
    (hi : interactive X.env = false := by rfl) (hsw : swapsWith (.Call (.Attribute (.Call (.Name "super" p0) [] [] p1) "__init__" apos) (e :: es) [] cpos) none epos.line X.env = pure false := by rfl)
    {pl : Sem Bool} (hev : eval (.Call (.Attribute (.Call (.Name "super" p0) [] [] p1) "__init__" apos) (e :: es) [] cpos) X.env = (do
      let ov ← attributeBase (.Call (.Name "super" p0) [] [] p1) "__init__" X.env (eval (.Call (.Name "super" p0) [] [] p1) X.env)
      standAt apos.atName
      let (f, first) ← holding [ov] (getMethod ov "__init__" pl)
      callWith cpos f first (backTo cpos (starEach (e :: es) X.env)) []) := by rfl) :
    PST X body (.Expr (.Call (.Attribute (.Call (.Name "super" p0) [] [] p1) "__init__" apos) (e :: es) [] cpos) epos) (tSupE X.K D t) := by
  refine ⟨fun pins s σ H DD I h => ?_⟩
  obtain ⟨x, C, hσ, hH, T, hmro, hve, hsup, hq⟩ := h
  obtain ⟨m, hn, hl⟩ := id I.loc
  obtain ⟨u, ru, lu⟩ := hl 0 slf (.ref x) hN0 hσ (.inl hka)
  obtain rfl : u = Value.ref x := ru
  have hm : m slf = some (.ref x) := by
    rcases lu with ⟨_, h⟩ | ⟨k, _⟩
    · exact h
    · rcases k with k | k <;> rw [hka] at k <;> cases k
  obtain ⟨t1, ho⟩ := exo_at I.hok hH
  have J : PySem.W.InstAt s.heap x { cls := .ref C, dict := none, data := .fields #[.ref t1, .none, .none, .none, .bool false, .none] } C none := ⟨ho, rfl, rfl, trivial⟩
  obtain ⟨oD, hD1, hD2⟩ : ∃ oD, s.heap.get? D = some oD ∧ oD.data = .cls cdD := by
    have hD' := hD
    unfold PySem.W.clsIn at hD'
    split at hD'
    · rename_i c d cd' sl ho
      cases hD'
      exact ⟨_, I.kIn _ _ ho, rfl⟩
    · cases hD'
  refine ks_wpAt_Expr_any (ks_wpAt_MethodCall (pl := pl) ?_ hev) hi hsw
  subst har
  refine ks_wpAt_super_base hks hkc (by decide) hfu (I.kIn _ _ lk) rfl hp hco (I.kIn _ _ lc) rfl hvs hfile htop ?_
  obtain ⟨mb, hb1, hb2⟩ := I.mod.blt
  refine PySem.W.ks_loadName_global I.ok.kind hks (Calls.loadGlobal_builtin (by rw [I.ok.glob]; exact I.mod.glob.keeps I.bk) hms (by rw [I.ok.blt]; exact hb1.keeps I.bk) ((hb2 _ (by decide +kernel)).trans hboot) ⟨rfl, ?_⟩)
  refine wpAny_loadName_free I.ok.kind hkc hcl ⟨_, I.kIn _ _ lcc, rfl⟩ ?_
  refine wpAny_loadName_local I.ok.kind hka hn hm ?_
  have hD1' : s.heap.get? D = some oD := hD1
  refine ks_wpAny_isType_cls hD1' hD2 ⟨rfl, ?_⟩
  refine ks_wpAny_call_super hD1' hD2 J.at_ J.cls (fun c e => by cases e) (PySem.W.looks_mroIn I.kIn hmro) (fun h' e1 k1 => ?_)
  have I1 : Inv X pins σ H { s with heap := h' } := I.kept (t' := s.toks) k1
  obtain ⟨nm, q, N, bs, bm, sn, sub, ab, col, dd, k0, k1', k2, k3, k5, hC, hbm⟩ := T.cls
  cases hc : PySem.W.clsIn X.K C with
  | none => unfold PySem.W.ks_superIn at hsup; rw [hc] at hsup; cases hsup
  | some cd =>
    unfold PySem.W.ks_superIn at hsup
    rw [hc] at hsup
    obtain ⟨t2, ho2⟩ := exo_at I1.hok hH
    have J1 : PySem.W.InstAt h' x { cls := .ref C, dict := none, data := .fields #[.ref t2, .none, .none, .none, .bool false, .none] } C none := ⟨ho2, rfl, rfl, trivial⟩
    refine getMethod_superV e1 (PySem.W.looks_opaque I1.kIn hno) (l₀ := cd.mro) ?_ rfl I1.kIn hsup (PySem.W.ks_ne I.kIn J hc) (by decide) (J1.type.andThen (PySem.W.looks_mroIn I1.kIn hve)) ?_
    · exact fun A Q E s k q => wpAny_bind ((PySem.W.looks_clsIn I1.kIn hc) A _ E s k (wpAny_pure q))
    · have I2 : Inv X ((h'.objs.size, bwV x) :: pins) σ H { s with heap := h'.push (bwV x), toks := s.toks + 1 } :=
        ClX.pin_new (s := { s with heap := h' }) (t' := s.toks + 1) I1 (fun _ _ z => Heap.get?_push_of_some _ z) (Nat.le_refl _) (Heap.get?_push_size h' rfl) (fun v z => nomatch z)
      refine callWith_boundV (x := x) (first := []) (thn (ha.run cpos _ _ σ H _ I2 hq) fun us s3 ⟨ws, H3, I3, r3, hlen, hH3, q3⟩ => ⟨ClX.pin_at I3, ?_⟩) he hpl
      obtain ⟨t3, ho3⟩ := exo_at I3.hok hH3
      obtain ⟨hp3, g3, d3, tk3, os3⟩ := s3
      have hlz : us.length ≤ sizeLine := by rw [← Paired.length r3, sizeLine_eq]; omega
      refine call_bwV (I3.kIn _ _ hC) ho3 (ClX.pin_at I3) hlz fun h4 t4 k4 ho4 => ?_
      have I3' : Inv X pins σ H3 ⟨hp3, g3, d3, tk3, os3⟩ := ClX.unpin I3
      have J4 := I3'.write (t' := tk3) (x := x) (e := x) (o := exo x C none) (by rw [hH3]; exact True.intro) (.inl rfl) k4 ⟨_, ho4⟩ (exo_ok ho4)
      have eu : upd H3 x (exo x C none) = H3 := by
        funext b
        by_cases hb : b = x
        · rw [hb, upd_same, hH3]
        · rw [upd_ne hb]
      rw [eu] at J4
      exact ⟨σ, H3, J4, q3⟩
end
end DL

-- part EX2
set_option maxHeartbeats 4000000
/-! an exception of an own class below ValueError is made: C(e, ..), C(k = v, ..), as a value -/
namespace DL
open PySem PySem.Spec PyProof.Rows L2
section
open PySem.HandSPX Builtin Builtin.ObjectAttr
variable {M : Model} {A : Around} {E : Value → Shared → Prop} {h : Heap} {g : Array GenState} {d : Drawn} {t : Nat} {os : OsState}
variable {nm q : Str} {C N : Addr} {bs bm bmB : List Value} {hdct : Bool} {sn : List Str} {sub : List Value} {ab : Bool} {col : Option Bool} {dd : Option Addr} {k0 k1 k2 k3 k5 : Option Value} {B newId initId : String}
theorem check_new_ownK (F : ExcBaseFacts B newId initId bmB) (hT : ∀ X : String, bm.contains (.type X) = bmB.contains (.type X)) {rest : List Value} {kw : List (Str × Value)} {Q : Unit → Shared → Prop}
    (hC : h.get? C = some (excClassObj nm q C N bs bm hdct sn sub ab col dd k0 k1 k2 k3 k5 newId)) (hq : Q () ⟨h, g, d, t, os⟩) : wpAny M A (checkBuiltinCall newId ⟨.ref C :: rest, kw⟩) Q E ⟨h, g, d, t, os⟩ := by
  have hcont : (Value.ref C :: bm).contains (.type B) = true := by rw [List.contains_cons, hT, F.hasB, Bool.or_true]
  have hstar := F.noStar
  simp only [checkBuiltinCall, F.newKind, F.newSplit, F.newRow]
  repeat (first | refine wpAny_loadPart_at hC ?_ | (refine wpAny_isSubtype_exc hC ?_; rw [hcont]) | refine wpAny_staticBase_exc hC ?_ | refine wpAny_madeBy_exc hC ?_ | simp only [bne_self_eq_false, Bool.false_eq_true, if_false] | wp_step)
  exact hq
end
section
open PySem.HandSPX Builtin Builtin.ObjectAttr
variable {prog : Program} {w : World} {A : Around} {E : Value → Shared → Prop} {R : Result → Shared → Prop} {h : Heap} {g : Array GenState} {d : Drawn} {t : Nat} {os : OsState}
variable {nm q : Str} {C N : Addr} {bs bm bmB : List Value} {hdct : Bool} {sn : List Str} {sub : List Value} {ab : Bool} {col : Option Bool} {dd : Option Addr} {k0 k1 k2 k3 k5 : Option Value} {B newId initId : String}
theorem new_ownK (F : ExcBaseFacts B newId initId bmB) (hT : ∀ X : String, bm.contains (.type X) = bmB.contains (.type X)) {rest : List Value} {kw : List (Str × Value)}
    (hC : h.get? C = some (excClassObj nm q C N bs bm hdct sn sub ab col dd k0 k1 k2 k3 k5 newId))
    (hq : R (.ok (.ret (.ref (h.objs.size + 1)))) ⟨(h.push { cls := .type "tuple", data := .seq rest.toArray }).push
      { cls := .ref C, data := .fields #[.ref h.objs.size, .none, .none, .none, .bool false, .none] }, g, d, t, os⟩) (hrest : rest.length ≤ sizeLine) :
    codeAny (model prog w) A (.builtin newId ⟨.ref C :: rest, kw⟩) R ⟨h, g, d, t, os⟩ := by
  have hends := F.ends
  have hcB : (Value.ref C :: bm).contains (.type B) = true := by rw [List.contains_cons, hT, F.hasB, Bool.or_true]
  have hcA : (Value.ref C :: bm).contains (.type "AttributeError") = false := by rw [List.contains_cons, hT, F.noAttr]; rfl
  have hcN : (Value.ref C :: bm).contains (.type "NameError") = false := by rw [List.contains_cons, hT, F.noName]; rfl
  refine codeAny_builtinAt F.entry ?_
  unfold Builtin.«BaseException.__new__»
  refine PySem.wpAt_bind ?_
  show PySem.wpAt _ _ _ (stack >>= _) _ _ _
  refine PySem.wpAt_bind (PySem.wpAt_stack fun p below => PySem.wpAt_of_wpAny ?_)
  wp_walk
  refine PySem.wpAt_of_wpAny ?_
  rw [F.owner]
  repeat (first | with_reducible refine wpAny_madeHere_exc F.canon hC ?_ | with_reducible refine wpAny_loadPart_at hC ?_ | (with_reducible refine wpAny_isSubtype_exc hC ?_; first | rw [hcB] | rw [hcA] | rw [hcN]) | wp_step)
  show R _ _
  rw [Heap.size_push]
  exact hq
theorem type_call_ownK (F : ExcBaseFacts B newId initId bmB) (hT : ∀ X : String, bm.contains (.type X) = bmB.contains (.type X)) {rest : List Value} {kw : List (Str × Value)} {fI : Addr} {Q : Fin → Shared → Prop}
    (hC : h.get? C = some (excClassObj nm q C N bs bm hdct sn sub ab col dd k0 k1 k2 k3 k5 newId))
    (hi : W.Looks (model prog w) h (typeLookup (.ref C) "__init__") (some (.ref fI))) (hb : ∀ self, W.Looks (model prog w) h (bindSpecial (.ref fI) self) (.ref fI, [self])) (hrest : rest.length ≤ sizeLine)
    (hq : codeAny (model prog w) A (.call (.ref fI) ⟨.ref (h.objs.size + 1) :: rest, kw⟩)
      (fun r s' => match r with | .ok (.ret v) => v = .none ∧ Q (.done (.ret (.ref (h.objs.size + 1)))) s' | .ok _ => False | .error e => E e s')
      ⟨(h.push (W.kdv_tup rest)).push (excO C h.objs.size), g, d, t, os⟩) :
    wpAny (model prog w) A (Builtin.«type.__call__» ⟨.ref C :: rest, kw⟩) Q E ⟨h, g, d, t, os⟩ := by
  repeat (first | with_reducible refine wpAny_loadPart_at hC ?_ | with_reducible refine wpAny_madeBy_exc hC ?_ | wp_step)
  refine codeAny_call_builtin_code (Code.quiet_builtin _ F.quiet) (check_new_ownK F hT hC ?_)
  refine new_ownK F hT hC ?_ hrest
  show wpAny _ _ _ _ _ _
  have k : ∀ b o, h.get? b = some o → ((h.push (W.kdv_tup rest)).push (excO C h.objs.size)).get? b = some o := fun b o e => Heap.get?_push_of_some _ (Heap.get?_push_of_some _ e)
  have hC₁ := k _ _ hC
  have hget : ((h.push (W.kdv_tup rest)).push (excO C h.objs.size)).get? (h.objs.size + 1) = some (excO C h.objs.size) := by heap_get
  have hcC : (Value.ref C :: bm).contains (.ref C) = true := by simp
  have i1 := hi.keeps k
  have b1 := (hb (.ref (h.objs.size + 1))).keeps k
  unfold isInstance
  repeat (first | with_reducible refine wpAny_loadPart_at hget ?_ | (with_reducible refine wpAny_isSubtype_exc hC₁ ?_; rw [hcC]) | wp_step)
  show wpAny _ _ (typeLookup (.ref C) _) _ _ _
  refine i1.at ?_
  refine wpAny_holding (wpAny_bind (b1.at ?_))
  refine wpAny_bind (wpAny_call (codeAny_mono hq fun r s' z => ?_))
  rcases r with e | (v | _ | _ | _) <;> first | exact z | exact z.elim | skip
  obtain ⟨rfl, z⟩ := z
  first
    | exact wpAny_pure (wpAny_pure z)
    | (wp_walk; exact z)
theorem call_ownK (F : ExcBaseFacts B newId initId bmB) (hT : ∀ X : String, bm.contains (.type X) = bmB.contains (.type X)) {rest : List Value} {kw : List (Str × Value)} {fI : Addr}
    (hC : h.get? C = some (excClassObj nm q C N bs bm hdct sn sub ab col dd k0 k1 k2 k3 k5 newId))
    (hi : W.Looks (model prog w) h (typeLookup (.ref C) "__init__") (some (.ref fI))) (hb : ∀ self, W.Looks (model prog w) h (bindSpecial (.ref fI) self) (.ref fI, [self])) (hrest : rest.length ≤ sizeLine)
    (hq : codeAny (model prog w) (A.under (.builtin "type.__call__" ⟨.ref C :: rest, kw⟩)) (.call (.ref fI) ⟨.ref (h.objs.size + 1) :: rest, kw⟩) (W.InitBack (h.objs.size + 1) R)
      ⟨(h.push (W.kdv_tup rest)).push (excO C h.objs.size), g, d, t, os⟩) :
    codeAny (model prog w) A (.call (.ref C) ⟨rest, kw⟩) R ⟨h, g, d, t, os⟩ := by
  have f1 := tc_lookup
  have f2 := tc_bind (.ref C)
  have hTy : (⟨h, g, d, t, os⟩ : Shared).TypeIs (.ref C) "type" := ⟨_, hC, rfl⟩
  have typ : W.Looks (model prog w) h (isInstance (.ref C) (.type "type")) true := by
    have t1 : W.Looks (model prog w) h (typeOf (.ref C)) (.type "type") := (W.Looks.ld hC).andThen .now
    exact t1.andThen (W.Looks.of_pure tc_sub)
  refine codeAny_of_tree ?_
  show wpAny _ _ (callAny (.ref C) _) _ _ _
  repeat (any_goals (first | assumption | with_reducible refine wpAny_loadPart_at hC ?_ | wp_step))
  refine ⟨rfl, ?_⟩
  refine codeAny_call_builtin_at (Code.quiet_builtin _ (by decide +kernel)) entry_typeCall (W.check_slot tc_kind tc_split typ (W.tc_args _ _ _) (type_call_ownK F hT hC hi hb hrest ?_))
  refine codeAny_mono hq fun r s' z => ?_
  rcases r with e | (v | _ | _ | _) <;> exact z
end
/-- C(e, ..), C's own __init__ keeping sp: the exception is the value -/
def tMkE (C : Addr) (sp : Sp) (ta : TA) : TE := fun σ H Q => ta σ H fun vs H1 => vs.length ≤ 1000 ∧ ∀ a, H1 a = none → sp (.ref a :: vs) (upd H1 a (exo a C none)) (fun v H2 => v = .non ∧ Q (.ref a) H2) E0
/-- C(k = v, ..) -/
def tMkEK (C : Addr) (m : Nat) (sp : Sp) (gV : List V → List V → List V) (tk : TA) : TE := fun σ H Q => tk σ H fun zs H2 => zs.length = m ∧ ∀ a, H2 a = none → sp (gV [.ref a] zs) (upd H2 a (exo a C none)) (fun v H3 => v = .non ∧ Q (.ref a) H3) E0
section
variable {X : Cx} {CX : CXT} {x : Str} {C fI : Addr} {k : Nat} {fd : FuncData} {ps ks : List Str} {sp : Sp} {e : Expr} {es : List Expr} {kws : List Keyword} {ta tk : TA} {p pos : Pos} {g : List Value → List Value → List Value} {gV : List V → List V → List V}
theorem run_mkE {pins : List (Addr × Obj)} {σ : L2.St} {H1 : Hp} {Q : VK} {s : Shared} {us : List Value} {kw : List (Str × Value)} {args : List Value} {vargs : Addr → List V} (T : OexC X.K C) (iC : PySem.W.findIn X.K (.ref C) "__init__" = some (some (.ref fI))) (tI : PySem.W.typeIn X.K (.ref fI) = some (.type "function"))
    (F1 : FnOk X.prog X.w X.K X.mg X.base CX k fI fd ps sp) (hr : Room (k + 1) X.A) (hx : Passes CX X E0) (I1 : Inv X pins σ H1 s) (hus : us.length ≤ sizeLine)
    (hb : ∀ s' : Shared, X.K.In s'.heap → BindsTo s' fd ⟨Value.ref (s.heap.objs.size + 1) :: us, kw⟩ (ps.zip (Value.ref (s.heap.objs.size + 1) :: args))) (r2 : Vals (vargs (s.heap.objs.size + 1)) (Value.ref (s.heap.objs.size + 1) :: args))
    (q1 : ∀ a, H1 a = none → sp (vargs a) (upd H1 a (exo a C none)) (fun v H2 => v = .non ∧ Q (.ref a) H2) E0) :
    wpAny (model X.prog X.w) X.A (call (.ref C) us kw) (EP X pins σ Q) X.xe s := by
  obtain ⟨nm, q, N, bs, bm, sn, sub, ab, col, dd, k0, k1, k2, k3, k5, hC, hbm⟩ := T.cls
  obtain ⟨hp, g, dr, tk, os⟩ := s
  have hsz : hp.objs.size ≤ hp.objs.size + 1 := Nat.le_succ _
  have hn : H1 (hp.objs.size + 1) = none := I1.hok.fresh hsz
  have hq := q1 (hp.objs.size + 1) hn
  have kk : ∀ b o, hp.get? b = some o → ((hp.push (PySem.W.kdv_tup us)).push (PySem.HandSPX.excO C hp.objs.size)).get? b = some o := fun b o e => Heap.get?_push_of_some _ (Heap.get?_push_of_some _ e)
  have hget : ((hp.push (PySem.W.kdv_tup us)).push (PySem.HandSPX.excO C hp.objs.size)).get? (hp.objs.size + 1) = some (PySem.HandSPX.excO C hp.objs.size) := by heap_get
  have I2 : Inv X pins σ (upd H1 (hp.objs.size + 1) (exo (hp.objs.size + 1) C none)) ⟨(hp.push (PySem.W.kdv_tup us)).push (PySem.HandSPX.excO C hp.objs.size), g, dr, tk, os⟩ :=
    I1.laid (t' := tk) (a := hp.objs.size + 1) (o := exo (hp.objs.size + 1) C none) (h' := (hp.push (PySem.W.kdv_tup us)).push (PySem.HandSPX.excO C hp.objs.size)) kk hsz (exo_ok hget)
  refine wpAny_call (call_ownK F.excBase_ValueError (fun Y => PySem.HandSPX.refsVE_contains Y bm hbm) (I1.kIn _ _ hC) (PySem.W.looks_findIn I1.kIn iC) (fun self => PySem.W.bind_fn I1.kIn self tI) hus
    (codeAny_mono (F1.run _ X.stack _ _ ⟨Value.ref (hp.objs.size + 1) :: us, kw⟩ (Value.ref (hp.objs.size + 1) :: args) _ _ E0 (hr.make C us kw) (I2.env0.make C us kw) (hb _ I2.kIn) r2 hq) fun r s' hq' => ?_))
  cases r with
  | error er => exact hx pins σ _ _ er s' I2 hq'
  | ok fl =>
    cases fl with
    | ret u =>
      obtain ⟨v, H', I3, rv, ev, q3⟩ := I2.after hq'
      subst ev
      exact ⟨rv, ⟨V.ref (hp.objs.size + 1), H', I3, rfl, q3⟩⟩
    | next => exact False.elim hq'
    | brk => exact False.elim hq'
    | cont => exact False.elim hq'
theorem pe_mkE (T : OexC X.K C) (iC : PySem.W.findIn X.K (.ref C) "__init__" = some (some (.ref fI))) (tI : PySem.W.typeIn X.K (.ref fI) = some (.type "function"))
    (F1 : FnOk X.prog X.w X.K X.mg X.base CX k fI fd ps sp) (hr : Room (k + 1) X.A) (hb : Binds X.K fd ps []) (hx : Passes CX X E0) (hg : Gl X x) (hm : X.mg x = some (.ref C)) (ha : PA X (e :: es) ta)
    (hdb : (x == ("__debug__" : Str)) = false := by decide) (he : starEach (e :: es) X.env = (false, eval e X.env) :: starEach es X.env := by rfl) (hpl : (backTo pos (starEach es X.env)).any (·.1) = false := by rfl) :
    PE X (.Call (.Name x p) (e :: es) [] pos) (tMkE C sp ta) := by
  refine ⟨fun pins s σ H Q I h => ?_⟩
  refine wpAny_Call_Name_kw (ld_glob I hg hm ?_ hdb)
  refine PySem.W.callWith_K (h₀ := X.base) I.ok.mod.kin T.kC (thn (ha.run pos pins s σ H _ I h) fun us s1 ⟨vs, H1, I1, r1, hz, q1⟩ => ⟨I1.kIn, ?_⟩) he hpl
  have hus : us.length ≤ sizeLine := by
    rw [← Paired.length r1, sizeLine_eq]
    omega
  refine run_mkE (vargs := fun a => V.ref a :: vs) T iC tI F1 hr hx I1 hus (fun s' ks' => ?_) (.cons rfl r1) q1
  have hl : (Value.ref (s1.heap.objs.size + 1) :: us).length = ps.length := by
    rw [List.length_cons, ← Paired.length r1, ← List.length_cons (a := V.ref (s1.heap.objs.size + 1)), F1.len _ _ _ _ (q1 (s1.heap.objs.size + 1) (I1.hok.fresh (Nat.le_succ _)))]
  have b := hb s' (Value.ref (s1.heap.objs.size + 1) :: us) ks' (by rw [List.append_nil]; exact hl)
  rw [List.append_nil] at b
  exact b
theorem pe_mkEK (T : OexC X.K C) (iC : PySem.W.findIn X.K (.ref C) "__init__" = some (some (.ref fI))) (tI : PySem.W.typeIn X.K (.ref fI) = some (.type "function"))
    (F1 : FnOk X.prog X.w X.K X.mg X.base CX k fI fd ps sp) (hr : Room (k + 1) X.A) (hb : KBn X.K fd ps 1 ks g gV) (hgc : ∀ (a : Value) (ws : List Value), ws.length = ks.length → ∃ args, g [a] ws = a :: args) (hx : Passes CX X E0) (hg : Gl X x) (hm : X.mg x = some (.ref C)) (hkw : PK X kws tk)
    (hall : (backToKw pos (keywordEach kws X.env)).all (·.1.isSome) = true := by rfl) (hks : (backToKw pos (keywordEach kws X.env)).filterMap (·.1) = ks := by rfl)
    (hdb : (x == ("__debug__" : Str)) = false := by decide) (hpl : ((backTo pos (starEach [] X.env)).any (·.1) || (backToKw pos (keywordEach kws X.env)).any (·.1.isNone)) = false := by rfl) :
    PE X (.Call (.Name x p) [] kws pos) (tMkEK C ks.length sp gV tk) := by
  refine ⟨fun pins s σ H Q I h => ?_⟩
  refine wpAny_Call_Name_kw (ld_glob I hg hm ?_ hdb)
  refine PySem.W.callWith_KW0 (h₀ := X.base) I.ok.mod.kin T.kC hall ?_ hpl
  refine thn (hkw.run pos pins s σ H _ I h) fun ws s2 ⟨zs, H2, I2, rz, l2, q2⟩ => ⟨I2.kIn, ?_⟩
  rw [hks]
  have e2 : ws.length = ks.length := rz.length.symm.trans l2
  obtain ⟨args, ea⟩ := hgc (Value.ref (s2.heap.objs.size + 1)) ws e2
  refine run_mkE (us := []) (args := args) (vargs := fun a => gV [V.ref a] zs) T iC tI F1 hr hx I2 (Nat.zero_le _) (fun s' ks' => ?_) ?_ q2
  · have b := hb.to s' [Value.ref (s2.heap.objs.size + 1)] ws ks' rfl e2
    rw [ea] at b
    exact b
  · have r := hb.rel (vs := [V.ref (s2.heap.objs.size + 1)]) (us := [Value.ref (s2.heap.objs.size + 1)]) (.cons rfl .nil) rz
    rw [ea] at r
    exact r
end
end DL

-- part EX3
set_option maxHeartbeats 4000000
/-! exceptions as values: attributes, isinstance, C() without arguments; the rules over trees -/
namespace DL
open PySem PySem.Spec PyProof.Rows L2
/-- what the written part says of such a class -/
structure XkC (K : PySem.W.Frag) (C : Addr) : Prop where
  o : OexC K C
  ga : PySem.W.findIn K (.ref C) "__getattribute__" = some (some (.builtin "BaseException.__getattribute__"))
  gg : PySem.W.findIn K (.ref C) "__getattr__" = some none
  hd : PySem.W.hasDictIn K C = true
  ve : PySem.W.mroIn K C (.type "ValueError") = some true
  ob : PySem.W.mroIn K C (.type "object") = some true
  cl : PySem.W.findIn K (.ref C) "__class__" = some (some (.builtin "object.__class__"))
/-- such an exception stands at a, with these attributes -/
def ExAt (H : Hp) (a C : Addr) (gs : List (Str × V)) : Prop := (H a = some (exo a C none) ∧ gs = []) ∨ ∃ dx, H a = some (exo a C (some dx)) ∧ H dx = some (exd dx gs)
theorem ExAt.mono {F H : Hp} {a C : Addr} {gs : List (Str × V)} (e : Same F H) (h : ExAt F a C gs) : ExAt H a C gs := h.elim (fun h => .inl ⟨e _ _ h.1, h.2⟩) (fun ⟨dx, h1, h2⟩ => .inr ⟨dx, e _ _ h1, e _ _ h2⟩)
section
variable {X : Cx} {pins : List (Addr × Obj)} {σ : L2.St} {H : Hp} {s : Shared}
theorem ex_inst {a C : Addr} {gs : List (Str × V)} (I : Inv X pins σ H s) (h : ExAt H a C gs) : ∃ ox od, PySem.W.InstAt s.heap a ox C od := by
  rcases h with ⟨h, _⟩ | ⟨dx, h1, h2⟩
  · obtain ⟨t1, ho⟩ := exo_at I.hok h
    exact ⟨_, none, ho, rfl, rfl, trivial⟩
  · obtain ⟨t1, ho⟩ := exo_at I.hok h1
    obtain ⟨mA, hns, hr⟩ := exd_at I.hok h2
    obtain ⟨od, hod, hl⟩ := lookIn_ns hns
    exact ⟨_, some od, ho, rfl, rfl, hod⟩
/-- e.f -/
def tFldE (K : PySem.W.Frag) (te : TE) (f : Str) : TE := fun σ H Q => te σ H fun x H1 => ∃ (a C dx : Addr) (gs : List (Str × V)) (v : V), x = .ref a ∧ H1 a = some (exo a C (some dx)) ∧ H1 dx = some (exd dx gs) ∧ XkC K C ∧ PySem.W.findIn K (.ref C) f = some none ∧ gs.lookup f = some v ∧ Q v H1
theorem pe_fldE {K : PySem.W.Frag} {e : Expr} {te : TE} {pos : Pos} {n : Str} (hK : X.K = K) (he : PE X e te) (hb : attributeBase e n X.env (eval e X.env) = eval e X.env := by rfl) :
    PE X (.Attribute e n pos) (tFldE K te n) := by
  subst hK
  refine ⟨fun pins s σ H Q I h => ?_⟩
  refine attr_of hb (thn (he.run pins s σ H _ I h) fun u s1 hh => ?_)
  obtain ⟨x, H1, I1, rx, a, C, dx, fs, v, ex, ea, ed, T, hno, l, q⟩ := hh
  subst ex
  obtain rfl : u = Value.ref a := rx
  obtain ⟨t1, ho⟩ := exo_at I1.hok ea
  obtain ⟨mA, hns, hr⟩ := exd_at I1.hok ed
  obtain ⟨od, hod, hl⟩ := lookIn_ns hns
  obtain ⟨u, hu, ru⟩ := RelO.some_of (v := v) (o := mA n) (by rw [← l]; exact hr n)
  have J : PySem.W.InstAt s1.heap a { cls := .ref C, dict := some dx, data := .fields #[.ref t1, .none, .none, .none, .bool false, .none] } C (some od) := ⟨ho, rfl, rfl, hod⟩
  exact HandSPX.exc_get I1.kIn J T.ga T.gg T.o.exC (PySem.W.findObj_own T.hd hno rfl (by rw [hl, hu])) (handed_of ru) ⟨v, H1, I1.tok _, ru, q⟩
/-- isinstance(e, c), e such an exception -/
def rIsiE (K : PySem.W.Frag) : List V → Hp → VK → Prop := fun xs H Q => ∃ (a C : Addr) (gs : List (Str × V)) (c : V) (u : Value) (b : Bool), xs = [.ref a, c] ∧ ClsV c u ∧ ExAt H a C gs ∧ XkC K C ∧ PySem.W.kitOne K (.ref C) u = some b ∧ Q (.bl b) H
theorem call_isiE (oc : PySem.W.specialIn X.K (.builtin "object.__class__") "__get__" = some (some (.builtin "getset_descriptor.__get__"))) (ot : PySem.W.takesIn X.K (.builtin "object.__class__") = some true) : CallR X (.builtin "isinstance") (rIsiE X.K) := by
  intro pins s σ H xs us Q I r h
  obtain ⟨a, C, gs, c, u, b, rfl, k, ea, T, e, q⟩ := h
  obtain ⟨u1, u2, rfl, r1, r2⟩ := vals2 r
  have e2 := k.eq r2
  subst e2
  obtain rfl : u1 = Value.ref a := r1
  obtain ⟨ox, od, J⟩ := ex_inst I ea
  have hcl : (PySem.W.clsIn X.K C).isSome = true := by
    obtain ⟨nm, q, N, bs, bm, sn, sub, ab, col, dd, k0, k1, k2, k3, k5, hC, hbm⟩ := T.o.cls
    unfold PySem.W.clsIn
    rw [hC]
    rfl
  exact PySem.W.kia_one (PySem.W.kitx_exc (ox := ox) (od := od) hcl T.ga T.gg T.o.exC T.cl oc ot T.ob) I.kIn J e (fun z => nomatch z) fun tk => ⟨.bl b, H, I.tok tk, rfl, q⟩
/-- C(), no own __init__ -/
def tMkN (C : Addr) : TE := fun σ H Q => ∀ a, H a = none → Q (.ref a) (upd H a (exo a C none))
theorem pe_mkN {bmB : List Value} {B newId initId : String} {x : Str} {C : Addr} {p pos : Pos} (F : ExcBaseFacts B newId initId bmB) (q : PySem.W.excIn X.K C bmB newId = true) (gC : X.mg x = some (.ref C)) (kC : PySem.W.keepIn X.K (.ref C) = true) (hg : Gl X x)
    (hdb : (x == ("__debug__" : Str)) = false := by decide) : PE X (.Call (.Name x p) [] [] pos) (tMkN C) := by
  refine ⟨fun pins s σ H Q I h => ?_⟩
  refine wpAny_Call_Name_kw (ld_glob I hg gC ?_ hdb)
  refine PySem.W.callWith_KW0 (h₀ := X.base) I.ok.mod.kin kC rfl ?_ rfl
  refine thn ((pk_nil (X := X)).run pos pins s σ H (fun zs H1 => zs = [] ∧ H = H1) I ⟨rfl, rfl⟩) fun ws s2 ⟨zs, H2, I2, rz, ez, eH⟩ => ⟨I2.kIn, ?_⟩
  subst ez
  rw [← eH] at I2
  cases rz
  show wpAny _ _ (call (.ref C) []) _ _ _
  obtain ⟨hp, g, dr, tk, os⟩ := s2
  obtain ⟨bm, N, nm, qn, bs, hdct, sn, sub, ab, col, dd, k0, k1, k2, k3, k5, mN, hC, hN, hni, T⟩ := exc_obj I2.kIn q
  refine wpAny_call_exc_subT F T hC hN hni (fun h' e hm => ?_) (Nat.zero_le _)
  obtain ⟨t, he, _, _⟩ := hm.there
  have hn : H e = none := I2.hok.gone hm.new
  exact ⟨.ref e, upd H e (exo e C none), I2.laidN (t' := tk) hm.keeps hm.new hn (exo_ok he), rfl, h e hn⟩
end
/-! ### over trees -/
section
variable {W : Wd} {B : Bs} {F F' H H' : Hp} {σ : L2.St} {ρ : Ev}
theorem den_exc {C : Addr} {ns : List Str} {ds : List D} {v : V} (h : Den W F (.exc C ns ds) v) : ∃ a gs, v = .ref a ∧ ExAt F a C gs ∧ gs.map (·.1) = ns ∧ DenL W F ds (gs.map (·.2)) := h
def dFldE (ok : Addr → Prop) (t : DE) (f : Str) : DE := fun ρ Q => t ρ fun ρ1 x => match x with
  | .exc C ns ds => ok C ∧ (match fldD ns ds f with | some d => Q ρ1 d | none => False)
  | _ => False
theorem re_fldE {te : TE} {t : DE} {f : Str} {ok : Addr → Prop} (re : RE W B te t) (hok : ∀ C, ok C → XkC W.K C ∧ PySem.W.findIn W.K (.ref C) f = some none) : RE W B (tFldE W.K te f) (dFldE ok t f) := by
  intro σ H F ρ Q R rl h k
  refine re σ H F ρ _ _ rl h fun x H1 F1 ρ1 dx r1 s1 d1 h1 => ?_
  split at h1
  · obtain ⟨oc, h1⟩ := h1
    obtain ⟨p, gs, ev, hx, hn, hl⟩ := den_exc d1
    split at h1
    · rename_i d ed
      subst hn
      obtain ⟨v, hv, dv⟩ := fld_lookup hl ed
      rcases hx with ⟨_, e⟩ | ⟨dd, e1, e2⟩
      · subst e; cases hv
      · exact ⟨p, _, dd, gs, v, ev, r1.ex _ _ e1, r1.ex _ _ e2, (hok _ oc).1, (hok _ oc).2, hv, k v H1 F1 ρ1 d r1 s1 dv h1⟩
    · exact h1.elim
  · exact h1.elim
def dIsE (kk : Addr → Bool → Prop) (t : DE) : DE := fun ρ Q => t ρ fun ρ1 x => match x with
  | .exc C _ _ => ∃ b, kk C b ∧ Q ρ1 (.bl b)
  | _ => False
theorem re_isiE {te : TE} {t : DE} {c : V} {u : Value} {kk : Addr → Bool → Prop} (re : RE W B te t) (hc : ClsV c u) (hk : ∀ C b, kk C b → XkC W.K C ∧ PySem.W.kitOne W.K (.ref C) u = some b) :
    RE W B (tCB (rIsiE W.K) (tCons te (tCons (tC c) tNil))) (dIsE kk t) := by
  intro σ H F ρ Q R rl h k
  refine re σ H F ρ _ _ rl h fun x H1 F1 ρ1 dx r1 s1 d1 h1 => ?_
  split at h1
  · obtain ⟨b, eb, h1⟩ := h1
    obtain ⟨p, gs, ev, hx, hn, hl⟩ := den_exc d1
    subst ev
    exact ⟨p, _, gs, c, u, b, rfl, hc, hx.mono r1.ex, (hk _ _ eb).1, (hk _ _ eb).2, k (.bl b) H1 F1 ρ1 (.bl b) r1 s1 rfl h1⟩
  · exact h1.elim
/-- two objects are laid that no tree knew -/
theorem Stp.two {a dx : Addr} {o1 o2 : HO} {H2 : Hp} (e : Same F H) (ha : H a = none) (hd : H dx = none) (hne : dx ≠ a) (h1 : H2 a = some o1) (h2 : H2 dx = some o2) (hb : ∀ b, b ≠ a → b ≠ dx → H2 b = H b) : Stp F H (upd (upd F dx o2) a o1) H2 := by
  have fa : F a = none := e.free ha
  have fd : F dx = none := e.free hd
  refine Stp.of (fun b u q => ?_) (fun b u q => ?_) (fun b u q => ?_) (fun b n q => ?_)
  · rw [upd_ne (ne_of_none q fa), upd_ne (ne_of_none q fd)]; exact q
  · rw [hb b (ne_of_none q ha) (ne_of_none q hd)]; exact q
  · by_cases z : b = a
    · subst z; rw [upd_same] at q; cases q; exact h1
    · rw [upd_ne z] at q
      by_cases z2 : b = dx
      · subst z2; rw [upd_same] at q; cases q; exact h2
      · rw [upd_ne z2] at q
        rw [hb b z z2]; exact e _ _ q
  · have n1 : b ≠ a := fun z => by subst z; exact n.1 ha
    have n2 : b ≠ dx := fun z => by subst z; exact n.1 hd
    rw [upd_ne n1, upd_ne n2]; exact q
/-- what an __init__ that sets one attribute promises -/
def spE1 (K : PySem.W.Frag) (ok : Addr → Prop) (f : Str) : Sp := fun vs H Q _ => ∃ (a C : Addr) (x : V), vs = [.ref a, x] ∧ H a = some (exo a C none) ∧ ok C ∧ ∀ dx, H dx = none → dx ≠ a → Q .non (upd (upd H dx (exd dx [(f, x)])) a (exo a C (some dx)))
/-- .. that sets f, then g -/
def spE2 (K : PySem.W.Frag) (ok : Addr → Prop) (f g : Str) : Sp := fun vs H Q _ => ∃ (a C : Addr) (x y : V), vs = [.ref a, x, y] ∧ H a = some (exo a C none) ∧ ok C ∧
  ∀ dx, H dx = none → dx ≠ a → Q .non (upd (upd (upd H dx (exd dx [(f, x)])) a (exo a C (some dx))) dx (exd dx [(g, y), (f, x)]))
theorem mk1 {C : Addr} {f : Str} {d : D} {x : V} {R : VK} {Q : Ev → D → Prop} (r : Rel W B F H σ ρ) (dv : Den W F d x) (h : Q ρ (.exc C [f] [d]))
    (k : ∀ v H' F' ρ' d, Rel W B F' H' σ ρ' → Same F F' → Den W F' d v → Q ρ' d → R v H') {ok : Addr → Prop} (hok : ok C) (a : Addr) (ha : H a = none) :
    spE1 W.K ok f [.ref a, x] (upd H a (exo a C none)) (fun v H2 => v = .non ∧ R (.ref a) H2) E0 := by
  refine ⟨a, C, x, rfl, upd_same, hok, fun dx hd hne => ⟨rfl, ?_⟩⟩
  have hd' : H dx = none := by rw [upd_ne hne] at hd; exact hd
  have st := Stp.two (F := F) (H := H) (a := a) (dx := dx) (o1 := exo a C (some dx)) (o2 := exd dx [(f, x)]) (H2 := upd (upd (upd H a (exo a C none)) dx (exd dx [(f, x)])) a (exo a C (some dx))) r.ex ha hd' hne upd_same (by rw [upd_ne hne, upd_same]) (fun b h1 h2 => by rw [upd_ne h1, upd_ne h2, upd_ne h1])
  exact k _ _ _ ρ (.exc C [f] [d]) (r.stp st) st.ff ⟨a, [(f, x)], rfl, .inr ⟨dx, upd_same, by rw [upd_ne hne, upd_same]⟩, rfl, ⟨x, [], rfl, dv.mono st.ff, rfl⟩⟩ h
theorem mk2 {C : Addr} {f g : Str} {d e : D} {x y : V} {R : VK} {Q : Ev → D → Prop} (r : Rel W B F H σ ρ) (dv : Den W F d x) (ev : Den W F e y) (h : Q ρ (.exc C [g, f] [e, d]))
    (k : ∀ v H' F' ρ' d, Rel W B F' H' σ ρ' → Same F F' → Den W F' d v → Q ρ' d → R v H') {ok : Addr → Prop} (hok : ok C) (a : Addr) (ha : H a = none) :
    spE2 W.K ok f g [.ref a, x, y] (upd H a (exo a C none)) (fun v H2 => v = .non ∧ R (.ref a) H2) E0 := by
  refine ⟨a, C, x, y, rfl, upd_same, hok, fun dx hd hne => ⟨rfl, ?_⟩⟩
  have hd' : H dx = none := by rw [upd_ne hne] at hd; exact hd
  have st := Stp.two (F := F) (H := H) (a := a) (dx := dx) (o1 := exo a C (some dx)) (o2 := exd dx [(g, y), (f, x)]) (H2 := upd (upd (upd (upd H a (exo a C none)) dx (exd dx [(f, x)])) a (exo a C (some dx))) dx (exd dx [(g, y), (f, x)])) r.ex ha hd' hne
    (by rw [upd_ne (Ne.symm hne), upd_same]) upd_same (fun b h1 h2 => by rw [upd_ne h2, upd_ne h1, upd_ne h2, upd_ne h1])
  exact k _ _ _ ρ (.exc C [g, f] [e, d]) (r.stp st) st.ff ⟨a, [(g, y), (f, x)], rfl, .inr ⟨dx, upd_same, by rw [upd_ne hne, upd_same]⟩, rfl, ⟨y, [x], rfl, ev.mono st.ff, ⟨x, [], rfl, dv.mono st.ff, rfl⟩⟩⟩ h
def gMk1 (C : Addr) (f : Str) (a : DA) : DE := fun ρ Q => a ρ fun ρ1 ds => match ds with | [d] => Q ρ1 (.exc C [f] [d]) | _ => False
def gMk2 (C : Addr) (f g : Str) (a : DA) : DE := fun ρ Q => a ρ fun ρ1 ds => match ds with | [d, e] => Q ρ1 (.exc C [g, f] [e, d]) | _ => False
theorem re_mk1 {C : Addr} {f : Str} {ta : TA} {a : DA} {ok : Addr → Prop} (hok : ok C) (ra : RA W B ta a) : RE W B (tMkE C (spE1 W.K ok f) ta) (gMk1 C f a) := by
  intro σ H F ρ Q R rl h k
  refine ra σ H F ρ _ _ rl h fun vs H1 F1 ρ1 ds r1 s1 d1 h1 => ?_
  split at h1
  · obtain ⟨x, rfl, dx⟩ := den1 d1
    exact ⟨by show 1 ≤ 1000; decide, fun p hp => mk1 (Q := Q) (R := R) r1 dx h1 (fun v H' F' ρ' d r' s' => k v H' F' ρ' d r' (s1.trans s')) hok p hp⟩
  · exact h1.elim
theorem re_mk2 {C : Addr} {f g : Str} {ta : TA} {a : DA} {ok : Addr → Prop} (hok : ok C) (ra : RA W B ta a) : RE W B (tMkE C (spE2 W.K ok f g) ta) (gMk2 C f g a) := by
  intro σ H F ρ Q R rl h k
  refine ra σ H F ρ _ _ rl h fun vs H1 F1 ρ1 ds r1 s1 d1 h1 => ?_
  split at h1
  · obtain ⟨x, y, rfl, dx, dy⟩ := den2 d1
    exact ⟨by show 2 ≤ 1000; decide, fun p hp => mk2 (Q := Q) (R := R) r1 dx dy h1 (fun v H' F' ρ' d r' s' => k v H' F' ρ' d r' (s1.trans s')) hok p hp⟩
  · exact h1.elim
/-- by name: one | two in the other order -/
theorem re_mk1K {C : Addr} {f : Str} {ta : TA} {a : DA} {ok : Addr → Prop} (hok : ok C) (ra : RA W B ta a) : RE W B (tMkEK C 1 (spE1 W.K ok f) (fun us ws => us ++ ws) ta) (gMk1 C f a) := by
  intro σ H F ρ Q R rl h k
  refine ra σ H F ρ _ _ rl h fun vs H1 F1 ρ1 ds r1 s1 d1 h1 => ?_
  split at h1
  · obtain ⟨x, rfl, dx⟩ := den1 d1
    exact ⟨rfl, fun p hp => mk1 (Q := Q) (R := R) r1 dx h1 (fun v H' F' ρ' d r' s' => k v H' F' ρ' d r' (s1.trans s')) hok p hp⟩
  · exact h1.elim
def gMk2K (C : Addr) (f g : Str) (a : DA) : DE := fun ρ Q => a ρ fun ρ1 ds => match ds with | [e, d] => Q ρ1 (.exc C [g, f] [e, d]) | _ => False
theorem re_mk2K {C : Addr} {f g : Str} {ta : TA} {a : DA} {ok : Addr → Prop} (hok : ok C) (ra : RA W B ta a) : RE W B (tMkEK C 2 (spE2 W.K ok f g) (fun us ws => us ++ ws.reverse) ta) (gMk2K C f g a) := by
  intro σ H F ρ Q R rl h k
  refine ra σ H F ρ _ _ rl h fun vs H1 F1 ρ1 ds r1 s1 d1 h1 => ?_
  split at h1
  · obtain ⟨x, y, rfl, dx, dy⟩ := den2 d1
    exact ⟨rfl, fun p hp => mk2 (Q := Q) (R := R) r1 dy dx h1 (fun v H' F' ρ' d r' s' => k v H' F' ρ' d r' (s1.trans s')) hok p hp⟩
  · exact h1.elim
theorem re_mkN {C : Addr} : RE W B (tMkN C) (dC (.exc C [] [])) := by
  intro σ H F ρ Q R rl h k p hp
  have st := Stp.one (o := exo p C none) rl.ex hp
  exact k _ _ _ ρ (.exc C [] []) (rl.stp st) st.ff ⟨p, [], rfl, .inl ⟨upd_same, rfl⟩, rfl, rfl⟩ h
end
end DL

-- part LX4
set_option maxHeartbeats 4000000
/-! an exception that was raised and is held: isinstance, attributes; xs.count(y) of flat items -/
namespace DL
open PySem PySem.Spec PyProof.Rows L2
/-- such an exception is held at a: its class, its attributes -/
def ExHd (H : Hp) (a C : Addr) (fs : List (Str × V)) : Prop := ∃ dx, H a = some (ExR a (.ref C) (some dx)) ∧ H dx = some (.xd fs)
section
variable {X : Cx} {pins : List (Addr × Obj)} {σ : L2.St} {H : Hp} {s : Shared}
theorem exR_inst {a C : Addr} {fs : List (Str × V)} (I : L2.Inv X pins σ H s) (h : ExHd H a C fs) : ∃ oe od dx, PySem.W.InstAt s.heap a oe C (some od) ∧ s.heap.get? dx = some od ∧ ∃ mA, s.heap.Ns1 dx mA ∧ ∀ f, RelO (fs.lookup f) (mA f) := by
  obtain ⟨dx, h1, h2⟩ := h
  obtain ⟨oe, vs, e, z, hd⟩ := exR_at I.hok h1
  have hx : ObjOk X.prog X.w H s.heap dx (.xd fs) := I.hok dx _ h2
  obtain ⟨mA, hns, hr⟩ := hx
  obtain ⟨od, ho, hl⟩ := lookIn_ns hns
  exact ⟨oe, od, dx, ⟨e, z.1, by unfold PySem.W.notCls; rw [hd] <;> rfl, by rw [z.2]; exact ho⟩, ho, mA, hns, hr⟩
/-- isinstance(e, c) -/
def rIsR (K : PySem.W.Frag) : List V → Hp → VK → Prop := fun xs H Q => ∃ (a C : Addr) (fs : List (Str × V)) (c : V) (u : Value) (b : Bool), xs = [.ref a, c] ∧ ClsV c u ∧ ExHd H a C fs ∧ XkC K C ∧ PySem.W.kitOne K (.ref C) u = some b ∧ Q (.bl b) H
theorem call_isR (oc : PySem.W.specialIn X.K (.builtin "object.__class__") "__get__" = some (some (.builtin "getset_descriptor.__get__"))) (ot : PySem.W.takesIn X.K (.builtin "object.__class__") = some true) : CallR X (.builtin "isinstance") (rIsR X.K) := by
  intro pins s σ H xs us Q I r h
  obtain ⟨a, C, fs, c, u, b, rfl, k, ea, T, e, q⟩ := h
  obtain ⟨u1, u2, rfl, r1, r2⟩ := vals2 r
  have e2 := k.eq r2
  subst e2
  obtain rfl : u1 = Value.ref a := r1
  obtain ⟨oe, od, dx, J, _⟩ := exR_inst I ea
  have known : (PySem.W.clsIn X.K C).isSome = true := by
    obtain ⟨nm, q, N, bs, bm, sn, sub, ab, col, dd, k0, k1, k2, k3, k5, hC, hbm⟩ := T.o.cls
    unfold PySem.W.clsIn
    rw [hC]
    rfl
  exact PySem.W.kia_one (PySem.W.kitx_exc (ox := oe) (od := some od) known T.ga T.gg T.o.exC T.cl oc ot T.ob) I.kIn J e (fun z => nomatch z) fun tk => ⟨.bl b, H, I.tok tk, rfl, q⟩
/-- e.f -/
def tFldR (K : PySem.W.Frag) (te : TE) (f : Str) : TE := fun σ H Q => te σ H fun x H1 => ∃ (a C : Addr) (fs : List (Str × V)) (v : V), x = .ref a ∧ ExHd H1 a C fs ∧ XkC K C ∧ PySem.W.findIn K (.ref C) f = some none ∧ fs.lookup f = some v ∧ Q v H1
theorem pe_fldR {e : Expr} {te : TE} {pos : Pos} {n : Str} (he : PE X e te) (hb : attributeBase e n X.env (eval e X.env) = eval e X.env := by rfl) :
    PE X (.Attribute e n pos) (tFldR X.K te n) := by
  refine ⟨fun pins s σ H Q I h => ?_⟩
  refine attr_of hb (thn (he.run pins s σ H _ I h) fun u s1 hh => ?_)
  obtain ⟨x, H1, I1, rx, a, C, fs, v, ex, ea, T, no, l, q⟩ := hh
  subst ex
  obtain rfl : u = Value.ref a := rx
  obtain ⟨oe, od, dx, J, ho, mA, hns, hr⟩ := exR_inst I1 ea
  obtain ⟨od2, ho2, hl⟩ := lookIn_ns hns
  rw [ho] at ho2
  cases ho2
  obtain ⟨u, hu, ru⟩ := RelO.some_of (v := v) (o := mA n) (by rw [← l]; exact hr n)
  exact HandSPX.exc_get I1.kIn J T.ga T.gg T.o.exC (PySem.W.findObj_own T.hd no rfl (by rw [hl, hu])) (handed_of ru) ⟨v, H1, I1.tok _, ru, q⟩
/-- xs.count(y) -/
def rCntF (K : PySem.W.Frag) : V → List V → Hp → VK → Prop := fun x xs H Q => ∃ (p : Addr) (ys : List V) (y : V), x = .ref p ∧ xs = [y] ∧ SqL K H p ys ∧ flatV y = true ∧ ys.all flatV = true ∧ Q (.int (ys.countP fun z => eqV z y : Nat)) H
theorem count_vals {uy : Value} {y : V} (ry : RelV y uy) : ∀ {ys : List V} {us : List Value}, Vals ys us → ys.all flatV = true → us.countP (eqU y) = ys.countP fun z => eqV z y
  | [], _, .nil, _ => rfl
  | z :: zs, u :: us, .cons r rr, f => by
    rw [List.all_cons, Bool.and_eq_true] at f
    rw [List.countP_cons, List.countP_cons, count_vals ry rr f.2, eqU_of r f.1]
theorem mt_countF : MtR X "list.count" (rCntF X.K) := by
  intro pins s σ H x xs v us Q I rx rxs h
  obtain ⟨p, ys, y, rfl, rfl, hs, fy, fys, q⟩ := h
  cases rx
  obtain ⟨u, rfl, ru⟩ := rxs.one
  obtain ⟨its, rv, ⟨⟨cls, dd, data, sl⟩, n, ho, hc, hdn, hd⟩, hlen⟩ := I.list hs
  simp only at hc hd
  subst hc hd
  refine call_meets PySem.F.slot_list_count ⟨_, ho, rfl⟩ PySem.F.entry_list_count (PySem.F.args_list_count_2 _ _)
    (SeqAt.list_countAt p its.toArray n dd sl u (eqU y)) ⟨ho, fun u' hu' => mem_eqAt ru fy rv fys u' (by simpa using hu'), ?_⟩
  have ec : its.toArray.toList.countP (eqU y) = ys.countP fun z => eqV z y := count_vals ru rv fys
  refine ⟨.int (ys.countP (fun z => eqV z y) : Nat), H, I.tok _, ⟨s.toks, ?_⟩, q⟩
  show Value.int ((its.toArray.toList.countP (eqU y) : Nat) : Int) s.toks = Value.int _ s.toks
  rw [ec]
end
end DL

-- part LX5
set_option maxHeartbeats 4000000
/-! x(lambda: body) -/
namespace DL
open PySem PySem.Spec PyProof.Rows L2
/-- the def that calls what it got: TT is what it makes of the lambda's reading -/
def Gives (X : Cx) (Ng : List Str) (x : Str) (sg : Scope) (g : Addr) (cdg : Value) (bg : List Stmt) (a : Str) (q : Str) (TT : (XK → Hp → VK → Prop) → Hp → VK → Prop) : Prop :=
  ∀ (f c' : Addr) (s : Shared) (H : Hp) (Q : VK) (tl : XK → Hp → VK → Prop),
    (∀ (W : WX) (pn : List (Addr × Obj)) (xe : Value → Shared → Prop) (E : XK) (p1 p2 : Pos), Takes ((cxOf C8.CX0 X.prog X.w X.K X.mg X.base Ng x sg g cdg X.A X.stack s H C8.E0).tr pn xe) W →
      PE ((cxOf C8.CX0 X.prog X.w X.K X.mg X.base Ng x sg g cdg X.A X.stack s H C8.E0).tr pn xe) (.Call (.Name a p1) [] [] p2)
        (fun σZ HZ Q => σZ[0]? = some (some (.ref f)) ∧ HZ c' = some (LamX.CodeO c' q) ∧ (∀ cls d H', E cls d H' → W cls d σZ H') ∧ tl E HZ Q)) →
    H c' = some (LamX.CodeO c' q) → TT tl H Q →
    ∃ t, PSs (cxOf C8.CX0 X.prog X.w X.K X.mg X.base Ng x sg g cdg X.A X.stack s H C8.E0).nox bg t ∧ t { nx := fun _ H' => Q .non H', rt := Q } (L2.start Ng [.ref f]) H
def tAsk (P : Addr) (q : Str) (TT : (XK → Hp → VK → Prop) → Hp → VK → Prop) (t : XK → TE) : TE := fun σ H Q => LamX.TabS H P q ∧ ∀ H1, LamStep P q H H1 → TT (fun E H' Q' => t E σ H' Q') H1 Q
theorem pe_ask {X : Cx} {TT : (XK → Hp → VK → Prop) → Hp → VK → Prop} {x a ar : Str} {g c P : Addr} {k : Nat} {n : Option Int} {pg : Arguments} {bg : List Stmt} {sg : Scope} {dV kV doc pm cdv ct oc : Value} {an od : Option Addr} {osl : Array (Option Value)} {Ng : List Str}
    {params : Arguments} {body : Expr} {scope : Scope} {t : XK → TE} {p lpos pos : Pos} (gl : Gl X x) (mgx : X.mg x = some (.ref g)) (kp : PySem.W.keepIn X.K (.ref g) = true)
    (lk : X.K.lookup g = some ⟨oc, od, .func (PySem.W.fnOf x x pg bg sg dV kV doc pm an cdv ct), osl⟩) (cdg : PySem.W.codeIn X.K cdv x = true) (bi : L2.Binds X.K (PySem.W.fnOf x x pg bg sg dV kV doc pm an cdv ct) [a] []) (Sg : FnScope Ng [a] sg) (at0 : Ng[0]? = some a) (va : Vis sg a)
    (gives : Gives X Ng x sg g cdv bg a (X.env.qual ++ "<lambda>") TT)
    (TB : LamX.TabB X.base X.mg c P) (own : X.env.code = .ref c) (hr : Room (k + 2) X.A) (L : LamN X.env.scope scope X.N (bnd n ar)) (nd : DfltOf n params X.env) (nk : params.kwonlyargs = [])
    (bl : BindL (X.env.qual ++ "<lambda>") params body scope n ar)
    (reads : ∀ (A : Around) (outer : List Env) (s : Shared) (H : Hp) (E : XK) (f c' : Addr), Room k (A.deeper (LamX.lamEnv X scope s.heap.objs.size f c')) → PE (LamX.lamCx X A outer s H E scope f c') body (t E))
    (hdb : (x == ("__debug__" : Str)) = false := by decide) (hd : (a == ("__debug__" : Str)) = false := by decide) (hcd : (a == ("__classdict__" : Str)) = false := by decide) :
    PE X (.Call (.Name x p) [.Lambda params body scope lpos] [] pos) (tAsk P (X.env.qual ++ "<lambda>") TT t) := by
  refine ⟨fun pins s σ H Q J h => ?_⟩
  obtain ⟨tab, h⟩ := h
  refine wpAny_Call_Name_kw (ld_glob J gl mgx (PySem.W.callWith_K (h₀ := X.base) J.ok.mod.kin kp ?_ (by rfl) (by rfl)) hdb)
  show wpAny _ _ (spliced ((false, eval (.Lambda params body scope lpos) X.env) :: backTo pos (starEach [] X.env))) _ _ s
  refine Calls.spliced_cons (lam_mkD J TB own tab nd nk (L.has J.ok) fun f c' pm' ctv dV' H1 s1 J1 step objf def_ nfr fresh noF code => Calls.spliced_nil ⟨J1.kIn, ?_⟩)
  have answer : codeAny (model X.prog X.w) X.A (.call (.ref g) ⟨[.ref f], []⟩) (CR C8.CX0 X.stack X.prog X.w H1 s1 Q C8.E0) s1 := by
    refine LamX.run_ofS (N := Ng) (ps := [a]) (us := [.ref f]) (vs := [.ref f]) lk cdg Sg hr J1.env0 (bi s1 [.ref f] J1.kIn rfl) (.cons rfl .nil) rfl fun room => ?_
    obtain ⟨t', ht', hq'⟩ := gives f c' s1 H1 Q (fun E H' Q' => t E σ H' Q') (fun W pn xe E p1 p2 tk => pe_actN (i := 0) (ar := ar) (n := n) J1 L objf def_ nfr fresh noF bl tk room (fun A outer s H r2 => reads A outer s H E f c' r2) at0 va hd hcd) code (h H1 step)
    exact ⟨t', ht'.nox, hq'⟩
  refine wpAny_call (codeAny_mono answer fun r s2 hq => ?_)
  match r, hq with
  | .error _, hq => exact (show False from hq).elim
  | .ok (.ret u), hq => exact J1.after hq
end DL

-- part LX6
set_option maxHeartbeats 4000000
/-! what a def that raises promises, over trees; raise; f(..), x.m(..), C(..) that raise; ask -/
namespace DL
open PySem PySem.Spec PyProof.Rows L2
/-- what raises: the arguments, the draws; of the error: its class (by number), its part, the draws -/
abbrev GX := List D → Nat → (Nat → Str → Nat → Prop) → Prop
def spX (K : PySem.W.Frag) (cls : Str → Option Addr) (Cs : Nat → Addr) (G : GX) : Sp := fun vs H _ E => ∃ (F : Hp) (ds : List D) (c : Nat) (pw : Option Addr) (XD : Nat → Str → Nat → Prop), Same F H ∧ DenL ⟨K, cls, pw⟩ F ds vs ∧ WellOk ⟨K, cls, pw⟩ (bs0 F H) F H c ∧ G ds c XD ∧
  ∀ H' F' c' i p dx, Kept F H F' H' pw [] → WellOk ⟨K, cls, pw⟩ (bs0 F H) F' H' c' → H' dx = some (.xd [("part", .str p)]) → XD i p c' → E (.ref (Cs i)) (some dx) H'
section
variable {W : Wd} {B : Bs} {F F' H H' : Hp} {σ : L2.St} {ρ : Ev}
theorem lenX_of {K : PySem.W.Frag} {cls : Str → Option Addr} {Cs : Nat → Addr} {G : GX} {n : Nat} (hG : ∀ ds c XD, G ds c XD → ds.length = n) {vs : List V} {Q : VK} {E : XK} (h : spX K cls Cs G vs H Q E) : vs.length = n := by
  obtain ⟨F, ds, c, pw, XD, ex, hd, w, g, k⟩ := h
  rw [← hd.length]; exact hG ds c XD g
/-- a def's body raises as promised -/
theorem body_ofX {K : PySem.W.Frag} {cls : Str → Option Addr} {Cs : Nat → Addr} {G : GX} {N : List Str} {ts : TS} {vs : List V} {Q : VK} {E : XK} {T : (Nat → Str → Nat → Prop) → DS}
    (rs : ∀ pw B XD, B.io = [] → (∀ F' H' σ' ρ' i p dx, Rel ⟨K, cls, pw⟩ B F' H' σ' ρ' → H' dx = some (.xd [("part", .str p)]) → XD i p ρ'.c → E (.ref (Cs i)) (some dx) H') → RS ⟨K, cls, pw⟩ B ts (T XD))
    (hG : ∀ ds c XD, G ds c XD → ds.length ≤ N.length ∧ T XD { nx := fun _ => False, rt := fun _ _ => False } (ent N.length ds c))
    (h : spX K cls Cs G vs H Q E) : ts { nx := fun _ H' => Q .non H', rt := Q } (start N vs) H := by
  obtain ⟨F, ds, c, pw, XD, ex, hd, w, g, k⟩ := h
  obtain ⟨hn, ht⟩ := hG ds c XD g
  have kp : ∀ {F' H' σ' ρ'}, Rel ⟨K, cls, pw⟩ (bs0 F H) F' H' σ' ρ' → Kept F H F' H' pw [] := fun {F' H' σ' ρ'} r =>
    ⟨r.f0, r.ex, fun a o h1 h2 h3 => r.keep a o h1 h2 h3, fun a h1 h2 => r.new a h1 h2⟩
  refine rs pw (bs0 F H) XD rfl (fun F' H' σ' ρ' i p dx r' hx q => k H' F' ρ'.c i p dx (kp r') r'.well hx q) (start N vs) H F (ent N.length ds c) _ _ (rel_start ex hd w hn) ht ⟨fun σ' H' F' ρ' r' s' q => q.elim, fun σ' H' F' ρ' r' s' q => q.elim, fun σ' H' F' ρ' r' s' q => q.elim, fun σ' H' F' ρ' d v r' s' dv q => q.elim⟩
/-- raise C("p"), C's __init__ keeping spE1 -/
def tRaise (C : Addr) (sp : Sp) (ta : TA) (E : XK) : TS := fun _ σ H => tMkO C sp [] ta σ H fun cls d H' => E cls d H'
theorem del_upd {H : Hp} {a dx : Addr} {o o2 u : HO} (ha : H a = none) (hd : H dx = none) (hne : dx ≠ a) : upd (del (upd (upd (upd H a o) dx u) a o2) a) dx (.xd []) = upd H dx (.xd []) := by
  funext b
  by_cases h1 : b = dx
  · rw [h1, upd_same, upd_same]
  · rw [upd_ne h1, upd_ne h1]
    by_cases h2 : b = a
    · rw [h2, del_same, ha]
    · rw [del_ne h2, upd_ne h2, upd_ne h1, upd_ne h2]
theorem rs_raise {C : Addr} {ta : TA} {a : DA} {E : XK} {ok : Addr → Prop} {XD : Str → Nat → Prop} (hok : ok C) (ra : RA W B ta a) (hE : ∀ F' H' σ' ρ' p dx, Rel W B F' H' σ' ρ' → H' dx = some (.xd [("part", .str p)]) → XD p ρ'.c → E (.ref C) (some dx) H') :
    RS W B (tRaise C (spE1 W.K ok "part") ta E) (fun _ ρ => a ρ fun ρ1 ds => ∃ p, ds = [.str p] ∧ XD p ρ1.c) := by
  intro σ H F ρ D DD rl h f
  refine ra σ H F ρ _ _ rl h fun vs H1 F1 ρ1 ds r1 s1 d1 h1 => ?_
  obtain ⟨p, rfl, hx⟩ := h1
  obtain ⟨x, rfl, dx⟩ := den1 d1
  obtain rfl : x = V.str p := dx
  refine ⟨by show 1 ≤ 1000; decide, fun a ha => ⟨a, C, V.str p, rfl, upd_same, hok, fun dx hd hne => ⟨rfl, dx, [("part", .str p)], upd_same, by rw [upd_ne hne, upd_same], ?_, ?_⟩⟩⟩
  · rw [upd_ne hne] at hd; exact hd
  · have hd' : H1 dx = none := by rw [upd_ne hne] at hd; exact hd
    have e : upd (del (upd (upd (upd H1 a (exo a C none)) dx (exd dx [("part", .str p)])) a (exo a C (some dx))) a) dx (.xd [("part", .str p)]) = upd H1 dx (.xd [("part", .str p)]) := by
      funext b
      by_cases h1 : b = dx
      · rw [h1, upd_same, upd_same]
      · rw [upd_ne h1, upd_ne h1]
        by_cases h2 : b = a
        · rw [h2, del_same, ha]
        · rw [del_ne h2, upd_ne h2, upd_ne h1, upd_ne h2]
    rw [e]
    exact hE F1 _ σ ρ1 p dx (r1.stp (Stp.lay r1.ex hd')) upd_same hx
/-! ### an expression that raises -/
abbrev DX := Ev → (Ev → Nat → Str → Prop) → Prop
def RX (W : Wd) (B : Bs) (Cs : Nat → Addr) (t : XK → TE) (r : DX) : Prop := ∀ (σ : L2.St) (H F : Hp) (ρ : Ev) (QX : Ev → Nat → Str → Prop) (E : XK), Rel W B F H σ ρ → r ρ QX →
  (∀ H' F' ρ' i p dx, Rel W B F' H' σ ρ' → Same F F' → H' dx = some (.xd [("part", .str p)]) → QX ρ' i p → E (.ref (Cs i)) (some dx) H') → t E σ H fun _ _ => False
/-- from a body: what a callee that raises is told -/
theorem Rel.spX {Cs : Nat → Addr} {G : GX} {vs : List V} {ds : List D} {QX : Ev → Nat → Str → Prop} {R : VK} {E : XK} (r : Rel W B F H σ ρ) (hd : DenL W F ds vs) (g : G ds ρ.c fun i p c' => QX (ρ.cnt c') i p)
    (k : ∀ H' F' ρ' i p dx, Rel W B F' H' σ ρ' → Same F F' → H' dx = some (.xd [("part", .str p)]) → QX ρ' i p → E (.ref (Cs i)) (some dx) H') : DL.spX W.K W.cls Cs G vs H R E :=
  ⟨F, ds, ρ.c, W.pw, _, r.ex, hd, r.well.base (fun p hp z => nomatch z) (fun _ _ _ z => nomatch z), g, fun H' F' c' i p dx kp w hx q => k H' F' _ i p dx (r.called kp w) kp.ff hx q⟩
/-- f(..) raises -/
theorem rx_call {Cs : Nat → Addr} {G : GX} {ta : TA} {a : DA} (ra : RA W B ta a) : RX W B Cs (fun E => tCall (spX W.K W.cls Cs G) [] E ta) (fun ρ QX => a ρ fun ρ1 ds => G ds ρ1.c fun i p c' => QX (ρ1.cnt c') i p) := by
  intro σ H F ρ QX E rl h k
  refine ra σ H F ρ _ _ rl h fun vs H1 F1 ρ1 ds r1 s1 d1 h1 => ?_
  rw [List.append_nil]
  exact r1.spX d1 h1 fun H' F' ρ' i p dx r' s' hx q => k H' F' ρ' i p dx r' (s1.trans s') hx q
end
end DL

-- part LX7
set_option maxHeartbeats 4000000
/-! x.m(..), C(..) that raise; said(lambda: ..) -/
namespace DL
open PySem PySem.Spec PyProof.Rows L2
section
variable {W : Wd} {B : Bs} {F F' H H' : Hp} {σ : L2.St} {ρ : Ev}
/-- x.m(..) raises -/
theorem rx_meth {Cs : Nat → Addr} {C : Addr} {c m : Str} {G : GX} {te : TE} {t : DE} {ta : TA} {a : DA} (hc : W.cls c = some C) (re : RE W B te t) (ra : RA W B ta a) :
    RX W B Cs (fun E => tMeth C m (spX W.K W.cls Cs G) [] E te ta) (fun ρ QX => t ρ fun ρ1 x => ∃ ns ds, x = .obj c ns ds ∧ m ∉ ns ∧ a ρ1 fun ρ2 es => G (.obj c ns ds :: es) ρ2.c fun i p c' => QX (ρ2.cnt c') i p) := by
  intro σ H F ρ QX E rl h k
  refine re σ H F ρ _ _ rl h fun x H1 F1 ρ1 dx r1 s1 d1 h1 => ?_
  obtain ⟨ns, ds, rfl, hm, h1⟩ := h1
  have d1' := d1
  obtain ⟨p, C', dx, gs, ev, hf, hc', hn, hl⟩ := d1
  have : C' = C := Option.some.inj (hc'.symm.trans hc)
  subst this
  refine ⟨p, dx, gs, ev, r1.ex _ _ hf, lookup_none (by rw [hn]; exact hm), ?_⟩
  refine ra σ H1 F1 ρ1 _ _ r1 h1 fun vs H2 F2 ρ2 es r2 s2 d2 h2 => ?_
  rw [List.append_nil]
  exact r2.spX (.cons (d1'.mono s2) d2) h2 fun H' F' ρ' i p dx r' s' hx q => k H' F' ρ' i p dx r' ((s1.trans s2).trans s') hx q
/-- C(..) raises -/
theorem rx_make {Cs : Nat → Addr} {C : Addr} {G : GX} {ta : TA} {a : DA} (ra : RA W B ta a) : RX W B Cs (fun E => tMake C (spX W.K W.cls Cs G) [] E ta) (fun ρ QX => a ρ fun ρ1 ds => ∀ x, G (.opq (.ref x) :: ds) ρ1.c fun i p c' => QX (ρ1.cnt c') i p) := by
  intro σ H F ρ QX E rl h k
  refine ra σ H F ρ _ _ rl h fun vs H1 F1 ρ1 ds r1 s1 d1 h1 => ?_
  intro x dx hx hdx hne
  rw [List.append_nil]
  have st1 : Stp F1 H1 F1 (upd H1 dx (.own x)) := Stp.lay r1.ex hdx
  have hx2 : (upd H1 dx (.own x)) x = none := by rw [upd_ne hne.symm]; exact hx
  have st2 : Stp F1 (upd H1 dx (.own x)) F1 (upd (upd H1 dx (.own x)) x (.ins C dx [])) := Stp.lay st1.fh hx2
  exact ((r1.stp st1).stp st2).spX (.cons (d := .opq (.ref x)) rfl d1) (h1 x) fun H' F' ρ' i p dx r' s' hx q => k H' F' ρ' i p dx r' (s1.trans s') hx q
/-! ### said(lambda: ..) -/
/-- the words of the classes, by number -/
def kindW : Nat → Str
  | 0 => "program" | 1 => "place" | 2 => "number" | _ => "value"
def kindsL (i : Nat) : List V := [.bl (decide (i = 0)), .bl (decide (i = 1)), .bl (decide (i = 2)), .bl (decide (i = 3))]
def wordsL : List V := [.str "program", .str "place", .str "number", .str "value"]
/-- what is made of an ask that raises an error of the first four classes -/
def TTsaid (Cs : Nat → Addr) : (XK → Hp → VK → Prop) → Hp → VK → Prop := fun tl H Q =>
  tl (fun cls d H' => ∃ (i : Nat) (p : Str) (dx : Addr), i < 4 ∧ cls = .ref (Cs i) ∧ d = some dx ∧ H' dx = some (.xd [("part", .str p)]) ∧
    ∀ a l1 l2 t, H' a = none → (upd H' a (ExR a cls d)) l1 = none → (upd (upd H' a (ExR a cls d)) l1 (.lst (kindsL i))) l2 = none → (upd (upd (upd H' a (ExR a cls d)) l1 (.lst (kindsL i))) l2 (.lst wordsL)) t = none →
      Q (.ref t) (upd (upd (upd (upd H' a (ExR a cls d)) l1 (.lst (kindsL i))) l2 (.lst wordsL)) t (.tup [.str (kindW i), .str p]))) H fun _ _ => False
theorem re_said {Cs : Nat → Addr} {P : Addr} {q : Str} {t : XK → TE} {r : DX} (rx : RX W B Cs t r) (hP : W.cls (tabN q) = some P) (hu : ∀ q', W.cls (tabN q') = some P → q' = q) :
    RE W B (tAsk P q (TTsaid Cs) t) (fun ρ Q => r ρ fun ρ1 i p => i < 4 ∧ Q ρ1 (.tup [.str (kindW i), .str p])) := by
  intro σ H F ρ Q R rl h k
  refine ⟨(rl.well.2 q P hP).2.2, fun H1 st => ?_⟩
  have r1 := rl.lam st hP hu
  refine rx σ H1 F ρ _ _ r1 h fun H' F' ρ' i p dx r' s' hx hq => ⟨i, p, dx, hq.1, rfl, rfl, hx, fun a l1 l2 t ha h1 h2 h3 => ?_⟩
  have t1 : Stp F' H' F' _ := Stp.lay (o := ExR a (.ref (Cs i)) (some dx)) r'.ex ha
  have t2 := Stp.lay (o := .lst (kindsL i)) t1.fh h1
  have t3 := Stp.lay (o := .lst wordsL) t2.fh h2
  have t4 := Stp.one (o := .tup [.str (kindW i), .str p]) t3.fh h3
  exact k _ _ _ ρ' (.tup [.str (kindW i), .str p]) ((((r'.stp t1).stp t2).stp t3).stp t4) (s'.trans t4.ff) ⟨t, _, rfl, upd_same, ⟨_, _, rfl, rfl, ⟨_, _, rfl, rfl, rfl⟩⟩⟩ hq.2
end
end DL

-- part ZX1
set_option maxHeartbeats 4000000
/-! zip of two sequences, each a list or a tuple: one turn (the shape follows the kit's zip of two tuples) -/
namespace ZX
open PySem PySem.Spec PyProof.Rows L2
/-- an iterator over a list (true), over a tuple (false) -/
def ItS (k : Bool) (h : Heap) (it l : Addr) (i : Nat) : Prop := match k with
  | true => h.IsListIter it l i
  | false => h.IsTupleIter it l i
def SqS (k : Bool) (h : Heap) (l : Addr) (xs : Array Value) : Prop := match k with
  | true => h.IsList l xs
  | false => h.IsTuple l xs
theorem ItS.ext {k : Bool} {h h' : Heap} {a b l : Addr} {i : Nat} (x : ItS k h a l i) (hs : Heap.ExtBut b h h') (hab : a ≠ b) : ItS k h' a l i := by
  cases k
  · exact Heap.IsTupleIter.extBut x hs hab
  · exact Heap.IsListIter.extBut x hs hab
theorem ItS.at {k : Bool} {h h' : Heap} {a l : Addr} {i : Nat} (x : ItS k h a l i) (e : ∀ o, h.get? a = some o → h'.get? a = some o) : ItS k h' a l i := by
  cases k
  · exact Heap.IsTupleIter.at x e
  · exact Heap.IsListIter.at x e
theorem ItS.get {k : Bool} {h : Heap} {a l : Addr} {i : Nat} (x : ItS k h a l i) : ∃ o, h.get? a = some o ∧ o.data = .fields #[.ref l, .int i 0] := by
  cases k
  · obtain ⟨o, e, _, d⟩ := x; exact ⟨o, e, d⟩
  · obtain ⟨o, e, _, d⟩ := x; exact ⟨o, e, d⟩
theorem SqS.ext {k : Bool} {h h' : Heap} {a b : Addr} {xs : Array Value} (x : SqS k h a xs) (hs : Heap.ExtBut b h h') (hab : a ≠ b) : SqS k h' a xs := by
  cases k
  · exact Heap.IsTuple.extBut x hs hab
  · exact Heap.IsList.extBut x hs hab
section
variable {prog : Program} {w : World} {A : Around} {E : Value → Shared → Prop} {s : Shared}
theorem nextS_item {k : Bool} {it l : Addr} {i : Nat} {items : Array Value} {x : Value} {Q : Value → Shared → Prop} (hit : ItS k s.heap it l i) (hl : SqS k s.heap l items) (hx : items[i]? = some x)
    (hQ : ∀ h', ItS k h' it l (i + 1) → Heap.SameBut it s.heap h' → Q x { s with heap := h' }) : wpAny (model prog w) A (Builtin.SmallTypes.nextOf (.ref it)) Q E s := by
  cases k
  · exact RZ.nextOf_tuple_item hit hl hx hQ
  · exact wpAny_nextOf_list_item hit hl hx hQ
theorem nextS_end {k : Bool} {it l : Addr} {i : Nat} {items : Array Value} {Q : Value → Shared → Prop} (hh : A.handled = none) (hit : ItS k s.heap it l i) (hl : SqS k s.heap l items) (hx : items[i]? = none)
    (hE : ∀ h' e, Heap.ExtBut it s.heap h' → (∃ o, h'.get? e = some o ∧ o.cls = .type "StopIteration") → E (.ref e) { s with heap := h' }) : wpAny (model prog w) A (Builtin.SmallTypes.nextOf (.ref it)) Q E s := by
  cases k
  · exact RZ.nextOf_tuple_end hh hit hl hx hE
  · exact wpAny_nextOf_list_end hh hit hl hx hE
variable {p q : Bool}
/-- the turn's answer: a new pair -/
theorem next_item {z TI TO i1 i2 l1 l2 : Addr} {k1 k2 : Nat} {xs ys : Array Value} {x y a b : Value} {Q : Value → Shared → Prop} (D : ZipApart z TI TO i1 i2 l1 l2)
    (hz : IsZip s.heap z TI TO .none) (hTI : IsPair s.heap TI (.ref i1) (.ref i2)) (hTO : IsPair s.heap TO a b)
    (h1 : ItS p s.heap i1 l1 k1) (h2 : ItS q s.heap i2 l2 k2) (hl1 : SqS p s.heap l1 xs) (hl2 : SqS q s.heap l2 ys) (hx : xs[k1]? = some x) (hy : ys[k2]? = some y)
    (hQ : ∀ h', IsZip h' z TI TO (rawInt s.heap.objs.size) → IsPair h' TO x y → ItS p h' i1 l1 (k1 + 1) → ItS q h' i2 l2 (k2 + 1) → IsPair h' s.heap.objs.size x y → h'.objs.size = s.heap.objs.size + 1 →
      (∀ c o, c ≠ z → c ≠ TO → c ≠ i1 → c ≠ i2 → s.heap.get? c = some o → h'.get? c = some o) → Q (.ref s.heap.objs.size) { s with heap := h' }) :
    wpAny (model prog w) A (Builtin.«zip.__next__» ⟨[.ref z], []⟩) (fun fin s' => ∃ v, fin = .done (.ret v) ∧ Q v s') E s := by
  show wpAny _ _ (field (.ref z) 2 >>= _) _ _ _
  refine wpAny_bind (wpAny_field hz rfl (x := .bool false) rfl ?_)
  show wpAny _ _ (field (.ref z) 3 >>= _) _ _ _
  refine wpAny_bind (wpAny_field hz rfl (x := .ref TI) rfl ?_)
  refine wpAny_bind (wpAny_seqItems hTI rfl ?_)
  show wpAny _ _ (Builtin.SmallTypes.ownedTupleIsFree (.ref z) >>= _) _ _ _
  refine wpAny_bind ?_
  unfold Builtin.SmallTypes.ownedTupleIsFree
  refine wpAny_bind (wpAny_field hz rfl (x := .none) rfl (wpAny_pure ?_))
  simp only [if_true]
  refine wpAny_bind (wpAny_rule ?_)
  refine wpAny_bind (wpAny_field hz rfl (x := .ref TO) rfl ?_)
  refine wpAny_bind (wpAny_setField_rec hz (by simp) fun g1 z1 e1 => ?_)
  replace z1 : IsZip g1 z TI TO .ellipsis := z1
  refine wpAny_bind ?_
  simp only [List.zipIdx_cons, List.zipIdx_nil, List.forIn_cons, List.forIn_nil]
  -- the first iterator
  refine wpAny_bind (wpAny_bind (wpAny_onRaise ?_))
  show wpAny _ _ (Builtin.SmallTypes.nextOf (.ref i1) >>= _) _ _ _
  refine wpAny_bind (nextS_item (h1.ext e1.extBut D.i1z) (hl1.ext e1.extBut D.l1z) hx fun g2 f1 e2 => wpAny_pure ?_)
  have t2 : IsPair g2 TO a b := e2.extBut _ _ D.TOi1 (e1.extBut _ _ D.TOz hTO)
  refine wpAny_bind (wpAny_seqItems t2 rfl ?_)
  refine wpAny_bind (wpAny_updateSeq_pair t2 fun g3 t3 e3 => ?_)
  replace t3 : IsPair g3 TO x b := t3
  refine wpAny_bind (wpAny_letGo (wpAny_pure ?_))
  -- the second
  refine wpAny_bind (wpAny_bind (wpAny_onRaise ?_))
  show wpAny _ _ (Builtin.SmallTypes.nextOf (.ref i2) >>= _) _ _ _
  refine wpAny_bind (nextS_item (((h2.ext e1.extBut D.i2z).ext e2.extBut D.i12.symm).ext e3.extBut D.TOi2.symm) (((hl2.ext e1.extBut D.l2z).ext e2.extBut D.l2i1).ext e3.extBut D.l2TO) hy fun g4 f2 e4 => wpAny_pure ?_)
  have t4 : IsPair g4 TO x b := e4.extBut _ _ D.TOi2 t3
  refine wpAny_bind (wpAny_seqItems t4 rfl ?_)
  refine wpAny_bind (wpAny_updateSeq_pair t4 fun g5 t5 e5 => ?_)
  replace t5 : IsPair g5 TO x y := t5
  refine wpAny_bind (wpAny_letGo (wpAny_pure (wpAny_pure ?_)))
  -- the pair is handed out
  refine wpAny_bind (wpAny_seqItems t5 rfl ?_)
  refine wpAny_bind (wpAny_newTuple ?_)
  have hsz : g5.objs.size = s.heap.objs.size := by rw [e5.1, e4.1, e3.1, e2.1, e1.1]
  have z5 : IsZip g5 z TI TO .ellipsis := e5.extBut _ _ D.TOz.symm (e4.extBut _ _ D.i2z.symm (e3.extBut _ _ D.TOz.symm (e2.extBut _ _ D.i1z.symm z1)))
  have far : ∀ c o, c ≠ z → c ≠ TO → c ≠ i1 → c ≠ i2 → s.heap.get? c = some o → g5.get? c = some o := fun c o c1 c2 c3 c4 e =>
    e5.extBut _ _ c2 (e4.extBut _ _ c4 (e3.extBut _ _ c2 (e2.extBut _ _ c3 (e1.extBut _ _ c1 e))))
  have r1 : ItS p g5 i1 l1 (k1 + 1) := ((f1.ext e3.extBut D.TOi1.symm).ext e4.extBut D.i12).ext e5.extBut D.TOi1.symm
  have r2 : ItS q g5 i2 l2 (k2 + 1) := f2.ext e5.extBut D.TOi2.symm
  have hzlt : z < g5.objs.size := Heap.lt_size z5
  show wpAny _ _ (Builtin.SmallTypes.ownedTupleHandOut (.ref z) (.ref g5.objs.size) >>= _) _ _ _
  refine wpAny_bind ?_
  unfold Builtin.SmallTypes.ownedTupleHandOut
  have z6 : IsZip (g5.push { cls := .type "tuple", data := .seq #[x, y] }) z TI TO .ellipsis := Heap.get?_push_of_some _ z5
  refine wpAny_bind (wpAny_setField_rec z6 (by simp) fun g7 z7 e7 => ?_)
  replace z7 : IsZip g7 z TI TO (rawInt g5.objs.size) := z7
  refine wpAny_setField_rec z7 (by simp) fun g8 z8 e8 => ?_
  replace z8 : IsZip g8 z TI TO (rawInt g5.objs.size) := z8
  have up : ∀ c o, c ≠ z → g5.get? c = some o → g8.get? c = some o := fun c o c1 e => e8.extBut _ _ c1 (e7.extBut _ _ c1 (Heap.get?_push_of_some _ e))
  have t8 : IsPair g8 g5.objs.size x y := e8.extBut _ _ (Nat.ne_of_gt hzlt) (e7.extBut _ _ (Nat.ne_of_gt hzlt) (Heap.get?_push_size _ rfl))
  have s8 : g8.objs.size = g5.objs.size + 1 := by rw [e8.1, e7.1, Heap.size_push]
  rw [hsz] at z8 t8 s8
  refine wpAny_pure ⟨_, rfl, ?_⟩
  show Q (.ref g5.objs.size) _
  rw [hsz]
  exact hQ g8 z8 (up _ _ D.TOz t5) (r1.at fun o e => up _ o D.i1z e) (r2.at fun o e => up _ o D.i2z e) t8 s8 fun c o c1 c2 c3 c4 e => up c o c1 (far c o c1 c2 c3 c4 e)
theorem next_end {z TI TO i1 i2 l1 l2 : Addr} {k1 k2 : Nat} {xs ys : Array Value} {a b : Value} {Q : Fin → Shared → Prop} (hh : A.handled = none) (D : ZipApart z TI TO i1 i2 l1 l2)
    (hz : IsZip s.heap z TI TO .none) (hTI : IsPair s.heap TI (.ref i1) (.ref i2)) (hTO : IsPair s.heap TO a b)
    (h1 : ItS p s.heap i1 l1 k1) (h2 : ItS q s.heap i2 l2 k2) (hl1 : SqS p s.heap l1 xs) (hl2 : SqS q s.heap l2 ys) (hend : xs[k1]? = none ∨ ys[k2]? = none)
    (hE : ∀ h' e, (∀ c o, c ≠ z → c ≠ TO → c ≠ i1 → c ≠ i2 → s.heap.get? c = some o → h'.get? c = some o) → (∃ o, h'.get? e = some o ∧ o.cls = .type "StopIteration") → E (.ref e) { s with heap := h' }) :
    wpAny (model prog w) A (Builtin.«zip.__next__» ⟨[.ref z], []⟩) Q E s := by
  show wpAny _ _ (field (.ref z) 2 >>= _) _ _ _
  refine wpAny_bind (wpAny_field hz rfl (x := .bool false) rfl ?_)
  show wpAny _ _ (field (.ref z) 3 >>= _) _ _ _
  refine wpAny_bind (wpAny_field hz rfl (x := .ref TI) rfl ?_)
  refine wpAny_bind (wpAny_seqItems hTI rfl ?_)
  show wpAny _ _ (Builtin.SmallTypes.ownedTupleIsFree (.ref z) >>= _) _ _ _
  refine wpAny_bind ?_
  unfold Builtin.SmallTypes.ownedTupleIsFree
  refine wpAny_bind (wpAny_field hz rfl (x := .none) rfl (wpAny_pure ?_))
  simp only [if_true]
  refine wpAny_bind (wpAny_rule ?_)
  refine wpAny_bind (wpAny_field hz rfl (x := .ref TO) rfl ?_)
  refine wpAny_bind (wpAny_setField_rec hz (by simp) fun g1 z1 e1 => ?_)
  replace z1 : IsZip g1 z TI TO .ellipsis := z1
  refine wpAny_bind ?_
  simp only [List.zipIdx_cons, List.zipIdx_nil, List.forIn_cons, List.forIn_nil]
  refine wpAny_bind (wpAny_bind (wpAny_onRaise ?_))
  show wpAny _ _ (Builtin.SmallTypes.nextOf (.ref i1) >>= _) _ _ _
  cases hx : xs[k1]? with
  | none =>
    refine wpAny_bind (nextS_end hh (h1.ext e1.extBut D.i1z) (hl1.ext e1.extBut D.l1z) hx fun g2 e e2 ⟨oe, ho, hc⟩ => ?_)
    have z2 : IsZip g2 z TI TO .ellipsis := e2 _ _ D.i1z.symm z1
    have ne : e ≠ z := fun x => by subst x; rw [z2] at ho; cases ho; simp at hc
    refine wpAny_setField_rec z2 (by simp) fun g3 _ e3 => hE g3 e (fun c o c1 _ c3 _ x => e3.extBut _ _ c1 (e2 _ _ c3 (e1.extBut _ _ c1 x))) ⟨oe, e3.extBut _ _ ne ho, hc⟩
  | some x =>
    have hy : ys[k2]? = none := hend.resolve_left (by rw [hx]; exact Option.some_ne_none _)
    refine wpAny_bind (nextS_item (h1.ext e1.extBut D.i1z) (hl1.ext e1.extBut D.l1z) hx fun g2 f1 e2 => wpAny_pure ?_)
    have t2 : IsPair g2 TO a b := e2.extBut _ _ D.TOi1 (e1.extBut _ _ D.TOz hTO)
    refine wpAny_bind (wpAny_seqItems t2 rfl ?_)
    refine wpAny_bind (wpAny_updateSeq_pair t2 fun g3 t3 e3 => ?_)
    refine wpAny_bind (wpAny_letGo (wpAny_pure ?_))
    refine wpAny_bind (wpAny_bind (wpAny_onRaise ?_))
    show wpAny _ _ (Builtin.SmallTypes.nextOf (.ref i2) >>= _) _ _ _
    refine wpAny_bind (nextS_end hh (((h2.ext e1.extBut D.i2z).ext e2.extBut D.i12.symm).ext e3.extBut D.TOi2.symm) (((hl2.ext e1.extBut D.l2z).ext e2.extBut D.l2i1).ext e3.extBut D.l2TO) hy fun g4 e e4 ⟨oe, ho, hc⟩ => ?_)
    have z4 : IsZip g4 z TI TO .ellipsis := e4 _ _ D.i2z.symm (e3.extBut _ _ D.TOz.symm (e2.extBut _ _ D.i1z.symm z1))
    have ne : e ≠ z := fun x => by subst x; rw [z4] at ho; cases ho; simp at hc
    refine wpAny_setField_rec z4 (by simp) fun g5 _ e5 => hE g5 e (fun c o c1 c2 c3 c4 x => e5.extBut _ _ c1 (e4 _ _ c4 (e3.extBut _ _ c2 (e2.extBut _ _ c3 (e1.extBut _ _ c1 x))))) ⟨oe, e5.extBut _ _ ne ho, hc⟩
theorem pyNext_item {z TI TO i1 i2 l1 l2 : Addr} {k1 k2 : Nat} {xs ys : Array Value} {x y a b : Value} {Q : Option Value → Shared → Prop} (D : ZipApart z TI TO i1 i2 l1 l2)
    (hz : IsZip s.heap z TI TO .none) (hTI : IsPair s.heap TI (.ref i1) (.ref i2)) (hTO : IsPair s.heap TO a b)
    (h1 : ItS p s.heap i1 l1 k1) (h2 : ItS q s.heap i2 l2 k2) (hl1 : SqS p s.heap l1 xs) (hl2 : SqS q s.heap l2 ys) (hx : xs[k1]? = some x) (hy : ys[k2]? = some y)
    (hQ : ∀ h', IsZip h' z TI TO (rawInt s.heap.objs.size) → IsPair h' TO x y → ItS p h' i1 l1 (k1 + 1) → ItS q h' i2 l2 (k2 + 1) → IsPair h' s.heap.objs.size x y → h'.objs.size = s.heap.objs.size + 1 →
      (∀ c o, c ≠ z → c ≠ TO → c ≠ i1 → c ≠ i2 → s.heap.get? c = some o → h'.get? c = some o) → Q (some (.ref s.heap.objs.size)) { s with heap := h' }) :
    wpAny (model prog w) A (pyNext (.ref z)) Q E s := by
  have hT : s.TypeIs (.ref z) "zip" := ⟨_, hz, rfl⟩
  unfold pyNext
  exact wpAny_bind (wpAny_attempt (wpAny_callSpecial?_slot (name := Str.ofString "__next__") hT F.slot_zip_next
    (wpAny_call_entry F.slot_zip_next hT F.entry_zip_next
      (next_item D hz hTI hTO h1 h2 hl1 hl2 hx hy fun h' a1 a2 a3 a4 a5 a6 a7 => wpAny_pure (hQ h' a1 a2 a3 a4 a5 a6 a7)) (F.args_zip_next_1 _))))
theorem pyNext_end {z TI TO i1 i2 l1 l2 : Addr} {k1 k2 : Nat} {xs ys : Array Value} {a b : Value} {Q : Option Value → Shared → Prop} (hh : A.handled = none) (D : ZipApart z TI TO i1 i2 l1 l2)
    (hz : IsZip s.heap z TI TO .none) (hTI : IsPair s.heap TI (.ref i1) (.ref i2)) (hTO : IsPair s.heap TO a b)
    (h1 : ItS p s.heap i1 l1 k1) (h2 : ItS q s.heap i2 l2 k2) (hl1 : SqS p s.heap l1 xs) (hl2 : SqS q s.heap l2 ys) (hend : xs[k1]? = none ∨ ys[k2]? = none)
    (hQ : ∀ h', (∀ c o, c ≠ z → c ≠ TO → c ≠ i1 → c ≠ i2 → s.heap.get? c = some o → h'.get? c = some o) → Q none { s with heap := h' }) : wpAny (model prog w) A (pyNext (.ref z)) Q E s := by
  have hT : s.TypeIs (.ref z) "zip" := ⟨_, hz, rfl⟩
  unfold pyNext
  refine wpAny_bind (wpAny_attempt (wpAny_callSpecial?_slot (name := Str.ofString "__next__") hT F.slot_zip_next
    (wpAny_call_entry F.slot_zip_next hT F.entry_zip_next (next_end hh D hz hTI hTO h1 h2 hl1 hl2 hend fun h' e hk ⟨o, ho, hc⟩ => ?_) (F.args_zip_next_1 _))))
  exact wpAny_bind (wpAny_isInstance (T := "StopIteration") (b := true) ⟨o, ho, hc⟩ isSubtype_stop (wpAny_pure (hQ _ hk)))
end
end ZX

-- part ZX2
set_option maxHeartbeats 4000000
/-! zip of two sequences, each a list or a tuple: the making, the iteration -/
namespace ZX
open PySem PySem.Spec PyProof.Rows L2
def itN (k : Bool) : String := match k with
  | true => "list_iterator"
  | false => "tuple_iterator"
abbrev hp1 (p : Bool) (h : Heap) (l1 : Addr) : Heap := h.push { cls := .type (itN p), data := .fields #[.ref l1, .int 0 0] }
abbrev hp2 (p q : Bool) (h : Heap) (l1 l2 : Addr) : Heap := (hp1 p h l1).push { cls := .type (itN q), data := .fields #[.ref l2, .int 0 0] }
abbrev hp3 (p q : Bool) (h : Heap) (l1 l2 : Addr) : Heap := (hp2 p q h l1 l2).push { cls := .type "tuple", data := .seq #[.ref h.objs.size, .ref (hp1 p h l1).objs.size] }
abbrev hp4 (p q : Bool) (h : Heap) (l1 l2 : Addr) : Heap := (hp3 p q h l1 l2).push { cls := .type "tuple", data := .seq #[.none, .none] }
abbrev hp5 (p q : Bool) (h : Heap) (l1 l2 : Addr) : Heap := (hp4 p q h l1 l2).push { cls := .type "zip", data := .fields #[.none, .bool false, .bool false, .ref (hp2 p q h l1 l2).objs.size, .ref (hp3 p q h l1 l2).objs.size] }
theorem meets_new (p q : Bool) (l1 l2 : Addr) (xs ys : Array Value) :
    Meets (Builtin.«zip.__new__» ⟨[.type "zip", .ref l1, .ref l2], []⟩) (fun _ R s => SqS p s.heap l1 xs ∧ SqS q s.heap l2 ys ∧ R (.ok (.ret (.ref (hp4 p q s.heap l1 l2).objs.size))) { s with heap := hp5 p q s.heap l1 l2 }) :=
  .of_wp fun prog w A R s h => by
    obtain ⟨hp, g, d, tk, os⟩ := s
    obtain ⟨hl1, hl2, h⟩ := h
    have hsub := sub_zip
    cases p <;> cases q
    · have hL1 : Heap.IsTuple (Shared.heap ⟨hp, g, d, tk, os⟩) l1 xs := hl1
      have hL2 : Heap.IsTuple (Shared.heap ⟨hp.push { cls := .type "tuple_iterator", data := .fields #[.ref l1, .int 0 0] }, g, d, tk, os⟩) l2 ys := Heap.IsTuple.push hl2 _
      wp_walk using wpAny_pyIter_tuple hL1, wpAny_pyIter_tuple hL2
      exact ⟨_, rfl, h⟩
    · have hL1 : Heap.IsTuple (Shared.heap ⟨hp, g, d, tk, os⟩) l1 xs := hl1
      have hL2 : Heap.IsList (Shared.heap ⟨hp.push { cls := .type "tuple_iterator", data := .fields #[.ref l1, .int 0 0] }, g, d, tk, os⟩) l2 ys := Heap.IsList.push hl2 _
      wp_walk using wpAny_pyIter_tuple hL1, wpAny_pyIter_list hL2
      exact ⟨_, rfl, h⟩
    · have hL1 : Heap.IsList (Shared.heap ⟨hp, g, d, tk, os⟩) l1 xs := hl1
      have hL2 : Heap.IsTuple (Shared.heap ⟨hp.push { cls := .type "list_iterator", data := .fields #[.ref l1, .int 0 0] }, g, d, tk, os⟩) l2 ys := Heap.IsTuple.push hl2 _
      wp_walk using wpAny_pyIter_list hL1, wpAny_pyIter_tuple hL2
      exact ⟨_, rfl, h⟩
    · have hL1 : Heap.IsList (Shared.heap ⟨hp, g, d, tk, os⟩) l1 xs := hl1
      have hL2 : Heap.IsList (Shared.heap ⟨hp.push { cls := .type "list_iterator", data := .fields #[.ref l1, .int 0 0] }, g, d, tk, os⟩) l2 ys := Heap.IsList.push hl2 _
      wp_walk using wpAny_pyIter_list hL1, wpAny_pyIter_list hL2
      exact ⟨_, rfl, h⟩
theorem itS_mk {k : Bool} {h : Heap} {a l : Addr} (e : h.get? a = some { cls := .type (itN k), data := .fields #[.ref l, .int 0 0] }) : ItS k h a l 0 := by
  cases k
  · exact ⟨_, e, rfl, rfl⟩
  · exact ⟨_, e, rfl, rfl⟩
section
variable {prog : Program} {w : World} {A : Around} {E : Value → Shared → Prop} {s : Shared} {p q : Bool}
theorem call_zipS {l1 l2 : Addr} {xs ys : Array Value} {Q : Value → Shared → Prop} (hl1 : SqS p s.heap l1 xs) (hl2 : SqS q s.heap l2 ys)
    (h : ∀ h', IsZip h' (s.heap.objs.size + 4) (s.heap.objs.size + 2) (s.heap.objs.size + 3) .none → IsPair h' (s.heap.objs.size + 2) (.ref s.heap.objs.size) (.ref (s.heap.objs.size + 1)) →
      IsPair h' (s.heap.objs.size + 3) .none .none → ItS p h' s.heap.objs.size l1 0 → ItS q h' (s.heap.objs.size + 1) l2 0 →
      (∀ c o, s.heap.get? c = some o → h'.get? c = some o) → Q (.ref (s.heap.objs.size + 4)) { s with heap := h' }) :
    wpAny (model prog w) A (call (.type "zip") [.ref l1, .ref l2]) Q E s := by
  refine callType_new F.called_zip (by decide) (F.typeCall_zip_2 _ _) (F.newCall_zip_2 _ _) (fun obj => F.args_object_init_3 obj _ _) F.entry_zip_new (meets_new p q l1 l2 xs ys) ⟨hl1, hl2, ?_⟩
  have n1 : (hp1 p s.heap l1).objs.size = s.heap.objs.size + 1 := Heap.size_push ..
  have n2 : (hp2 p q s.heap l1 l2).objs.size = s.heap.objs.size + 2 := by rw [Heap.size_push, n1]
  have n3 : (hp3 p q s.heap l1 l2).objs.size = s.heap.objs.size + 3 := by rw [Heap.size_push, n2]
  have n4 : (hp4 p q s.heap l1 l2).objs.size = s.heap.objs.size + 4 := by rw [Heap.size_push, n3]
  have at5 : (hp5 p q s.heap l1 l2).get? (hp4 p q s.heap l1 l2).objs.size = some _ := Heap.get?_push_size _ rfl
  have at4 : (hp5 p q s.heap l1 l2).get? (hp3 p q s.heap l1 l2).objs.size = some _ := Heap.get?_push_of_some _ (Heap.get?_push_size _ rfl)
  have at3 : (hp5 p q s.heap l1 l2).get? (hp2 p q s.heap l1 l2).objs.size = some _ := Heap.get?_push_of_some _ (Heap.get?_push_of_some _ (Heap.get?_push_size _ rfl))
  have at2 : (hp5 p q s.heap l1 l2).get? (hp1 p s.heap l1).objs.size = some _ := Heap.get?_push_of_some _ (Heap.get?_push_of_some _ (Heap.get?_push_of_some _ (Heap.get?_push_size _ rfl)))
  have at1 : (hp5 p q s.heap l1 l2).get? s.heap.objs.size = some _ := Heap.get?_push_of_some _ (Heap.get?_push_of_some _ (Heap.get?_push_of_some _ (Heap.get?_push_of_some _ (Heap.get?_push_size _ rfl))))
  show _ ∧ _
  rw [n2, n3, n4] at at5
  rw [n1, n2] at at3
  rw [n3] at at4
  rw [n1] at at2
  rw [n4]
  exact ⟨⟨_, at5, rfl⟩, h _ at5 at3 at4 (itS_mk at1) (itS_mk at2) fun c o x =>
    Heap.get?_push_of_some _ (Heap.get?_push_of_some _ (Heap.get?_push_of_some _ (Heap.get?_push_of_some _ (Heap.get?_push_of_some _ x))))⟩
end
end ZX

-- part ZX3
set_option maxHeartbeats 4000000
/-! zip of two sequences, each a list or a tuple: the iteration -/
namespace ZX
open PySem PySem.Spec PyProof.Rows L2
/-- a sequence of the hand layer: a list (true), a tuple (false) -/
def SqH (k : Bool) (K : PySem.W.Frag) (H : Hp) (a : Addr) (xs : List V) : Prop := match k with
  | true => SqL K H a xs
  | false => SqT K H a xs
theorem SqH.inj {X : Cx} {pins : List (Addr × Obj)} {σ : L2.St} {H : Hp} {s : Shared} (I : L2.Inv X pins σ H s) {k : Bool} {a : Addr} {xs ys : List V} (h1 : SqH k X.K H a xs) (h2 : SqH k X.K H a ys) : xs = ys := by
  cases k
  · exact I.tuple_inj h1 h2
  · exact I.list_inj h1 h2
theorem SqH.its {X : Cx} {pins : List (Addr × Obj)} {σ : L2.St} {H : Hp} {s : Shared} (I : L2.Inv X pins σ H s) {k : Bool} {a : Addr} {xs : List V} (h : SqH k X.K H a xs) : ∃ its, Vals xs its ∧ SqS k s.heap a its.toArray ∧ a < s.heap.objs.size := by
  cases k
  · obtain ⟨its, rv, p, _⟩ := I.tuple h
    obtain ⟨o, e, r⟩ := id p
    exact ⟨its, rv, ⟨o, e, r⟩, Heap.lt_size e⟩
  · obtain ⟨its, rv, p, _⟩ := I.list h
    exact ⟨its, rv, p.isList, p.lt⟩
/-- the sequences at a and b as they stand at each turn, the items in new pairs -/
def ItzS (p q : Bool) (K : PySem.W.Frag) (a b : Addr) : It :=
  ⟨fun i H => ∃ (xs ys : List V) (x y : V), SqH p K H a xs ∧ SqH q K H b ys ∧ xs[i]? = some x ∧ ys[i]? = some y,
    fun i H v H' => ∃ T x y, v = .ref T ∧ H T = none ∧ H' = upd H T (.tup [x, y]) ∧ (∀ xs, SqH p K H a xs → xs[i]? = some x) ∧ ∀ ys, SqH q K H b ys → ys[i]? = some y,
    fun i H => ∃ xs ys : List V, SqH p K H a xs ∧ SqH q K H b ys ∧ (xs.length ≤ i ∨ ys.length ≤ i)⟩
theorem turnS {P : Program} {w : World} {K : PySem.W.Frag} {elts : List Expr} {kk : Nat} {tpos : Pos} {p q : Bool} {a b z TI TO i1 i2 : Addr} (D : ZipApart z TI TO i1 i2 a b) :
    Turn P w K (.Tuple elts kk tpos) (ItzS p q K a b) [z, TI, TO, i1, i2] z (fun i h => IsZip h z TI TO .none ∧ IsPair h TI (.ref i1) (.ref i2) ∧ (∃ x y, IsPair h TO x y) ∧ ItS p h i1 a i ∧ ItS q h i2 b i) where
  mem := by simp
  obj := fun i h ⟨hz, hTI, ⟨x, y, hTO⟩, h1, h2⟩ c hc => by
    obtain ⟨o1, e1, d1⟩ := h1.get
    obtain ⟨o2, e2, d2⟩ := h2.get
    have e' : c = z ∨ c = TI ∨ c = TO ∨ c = i1 ∨ c = i2 := by simpa using hc
    rcases e' with rfl | rfl | rfl | rfl | rfl
    · exact ⟨_, hz, fun v q => nomatch q⟩
    · exact ⟨_, hTI, fun v q => nomatch q⟩
    · exact ⟨_, hTO, fun v q => nomatch q⟩
    · exact ⟨o1, e1, fun v q => by rw [d1] at q; cases q⟩
    · exact ⟨o2, e2, fun v q => by rw [d2] at q; cases q⟩
  keep := fun i h h' ⟨hz, hTI, ⟨x, y, hTO⟩, h1, h2⟩ k =>
    ⟨k z (by simp) _ hz, k TI (by simp) _ hTI, ⟨x, y, k TO (by simp) _ hTO⟩, h1.at fun o q => k i1 (by simp) o q, h2.at fun o q => k i2 (by simp) o q⟩
  item := by
    intro X hP hw hK hc i pins s σ H E I hf st hg
    subst hP hw hK
    obtain ⟨hz, hTI, ⟨x0, y0, hTO⟩, h1, h2⟩ := st
    obtain ⟨xs, ys, x, y, hqx, hqy, hx, hy⟩ := hg
    obtain ⟨its, rv, s1, _⟩ := hqx.its I
    obtain ⟨its2, rv2, s2, _⟩ := hqy.its I
    obtain ⟨u, hu, ru⟩ := rv.get hx
    obtain ⟨u2, hu2, ru2⟩ := rv2.get hy
    have hzl : z < s.heap.objs.size := Heap.lt_size hz
    refine pyNext_item D hz hTI hTO h1 h2 s1 s2 (x := u) (y := u2) (by simpa using hu) (by simpa using hu2) fun h' z' TO' h1' h2' hT hsz hk => ?_
    refine ⟨_, rfl, wpAny_letOwnedTupleGo_zip (s := { s with heap := h' }) z' fun h'' z'' sb => ?_⟩
    have hT2 : h''.get? s.heap.objs.size = some { cls := .type "tuple", data := .seq #[u, u2] } := (sb.2 _ (Nat.ne_of_gt hzl)).trans hT
    have new : ObjOk X.prog X.w (upd H s.heap.objs.size (.tup [x, y])) h'' s.heap.objs.size (.tup [x, y]) := ⟨by show 2 ≤ sizeLine; decide, [u, u2], .cons ru (.cons ru2 .nil), ⟨_, hT2, rfl, _, rfl⟩⟩
    have I1 : Inv X pins σ (upd H s.heap.objs.size (.tup [x, y])) { s with heap := h'' } :=
      I.turnedNew (t' := s.toks) (ch := [z, TI, TO, i1, i2]) (fun c o hb q => (sb.2 c (fun q' => hb (by simp [q']))).trans (hk c o (fun q' => hb (by simp [q'])) (fun q' => hb (by simp [q'])) (fun q' => hb (by simp [q'])) (fun q' => hb (by simp [q'])) q)) hf (Nat.le_refl _) new
    refine ⟨.ref s.heap.objs.size, _, I1, rfl, ⟨_, x, y, rfl, I.hok.fresh (Nat.le_refl _), rfl, fun l hl => by rw [SqH.inj I hl hqx]; exact hx, fun l hl => by rw [SqH.inj I hl hqy]; exact hy⟩, ⟨z'', ?_, ⟨u, u2, ?_⟩, ?_, ?_⟩, fun c hcm => ?_⟩
    · exact (sb.2 _ D.TIz).trans (hk _ _ D.TIz D.TITO D.TIi1 D.TIi2 hTI)
    · exact (sb.2 _ D.TOz).trans TO'
    · exact h1'.at fun o q => (sb.2 _ D.i1z).trans q
    · exact h2'.at fun o q => (sb.2 _ D.i2z).trans q
    · have hlt : c < s.heap.objs.size := by
        obtain ⟨_, e1, _⟩ := h1.get
        obtain ⟨_, e2, _⟩ := h2.get
        have e' : c = z ∨ c = TI ∨ c = TO ∨ c = i1 ∨ c = i2 := by simpa using hcm
        rcases e' with rfl | rfl | rfl | rfl | rfl
        · exact hzl
        · exact Heap.lt_size hTI
        · exact Heap.lt_size hTO
        · exact Heap.lt_size e1
        · exact Heap.lt_size e2
      rw [upd_ne (Nat.ne_of_lt hlt)]
      exact (hf c hcm).1
  done := by
    intro X hP hw hK hc i pins s σ H E I hf st hg
    subst hP hw hK
    obtain ⟨hz, hTI, ⟨x0, y0, hTO⟩, h1, h2⟩ := st
    obtain ⟨xs, ys, hqx, hqy, hend⟩ := hg
    obtain ⟨its, rv, s1, _⟩ := hqx.its I
    obtain ⟨its2, rv2, s2, _⟩ := hqy.its I
    have l1 := rv.length
    have l2 := rv2.length
    have he : its.toArray[i]? = none ∨ its2.toArray[i]? = none := by
      rcases hend with q | q
      · exact .inl (by simp; omega)
      · exact .inr (by simp; omega)
    exact pyNext_end (I.ok.hd hc) D hz hTI hTO h1 h2 s1 s2 he fun h' hk => ⟨rfl, I.turnedL (t' := s.toks) (ch := [z, TI, TO, i1, i2]) (fun c o hb q =>
      hk c o (fun q' => hb (by simp [q'])) (fun q' => hb (by simp [q'])) (fun q' => hb (by simp [q'])) (fun q' => hb (by simp [q'])) q) hf⟩
  self := fun A i s Q E st h => wpAny_pyIter_zip st.1 h
/-- zip(x, y), each a list or a tuple -/
def iZipS (K : PySem.W.Frag) (ta : TA) : TI := fun σ H R => ta σ H fun vs H1 => ∃ a b xs ys p q, vs = [.ref a, .ref b] ∧ SqH p K H1 a xs ∧ SqH q K H1 b ys ∧ R (ItzS p q K a b) H1
theorem pi_zipS {X : Cx} {e e2 : Expr} {ta : TA} {pp pos tpos : Pos} {elts : List Expr} {kk : Nat} (hg : Gl X "zip") (hm : X.mg "zip" = none) (ha : PA X [e, e2] ta)
    (hs : starEach [e, e2] X.env = (false, eval e X.env) :: starEach [e2] X.env := by rfl) (hpl : (backTo pos (starEach [e2] X.env)).any (·.1) = false := by rfl) :
    PI X (.Tuple elts kk tpos) (.Call (.Name "zip" pp) [e, e2] [] pos) (iZipS X.K ta) := by
  refine ⟨fun pins s σ H R I h => ?_⟩
  refine Call_ (ld_blt I hg hm PyProof.Rows.boot_zip (PyProof.Rows.callWith_type1 (thn (ha.run pos pins s σ H _ I h) fun us s1 ⟨vs, H1, I1, r1, q1⟩ => ?_) hs hpl))
  obtain ⟨a, b, xs, ys, p, q, ex, hqx, hqy, q1⟩ := q1
  subst ex
  cases r1 with
  | cons r rr =>
    cases rr with
    | cons r' rr =>
      cases rr
      cases r
      cases r'
      have fresh5 : ∀ c, c ∈ [s1.heap.objs.size + 4, s1.heap.objs.size + 2, s1.heap.objs.size + 3, s1.heap.objs.size, s1.heap.objs.size + 1] → FpOk X pins H1 c := fun c hcm => by
        have hle : s1.heap.objs.size ≤ c := by
          simp only [List.mem_cons, List.not_mem_nil, or_false] at hcm
          rcases hcm with z | z | z | z | z <;> rw [z] <;> first | exact Nat.le_refl _ | exact Nat.le_add_right _ _
        exact I1.fpOk hle (I1.hok.fresh hle)
      obtain ⟨its, rv, p1, lt1⟩ := hqx.its I1
      obtain ⟨its2, rv2, p2, lt2⟩ := hqy.its I1
      refine call_zipS p1 p2 fun h' hz hTI hTO h1 h2 hk => wpAny_pyIter_zip hz ?_
      have I2 : Inv X pins σ H1 { s1 with heap := h' } := I1.kept (t' := s1.toks) hk
      exact ⟨s1.heap.objs.size + 4, [s1.heap.objs.size + 4, s1.heap.objs.size + 2, s1.heap.objs.size + 3, s1.heap.objs.size, s1.heap.objs.size + 1], _, _, H1, rfl, I2, turnS (PySem.W.ktu_apart s1.heap.objs.size a b lt1 lt2), ⟨hz, hTI, ⟨_, _, hTO⟩, h1, h2⟩, fresh5, q1⟩
end ZX

-- part DL14
set_option maxHeartbeats 4000000
/-! zip of two sequences, each a list or a tuple: the tree rule; products of large ints -/
namespace DL
open PySem PySem.Spec PyProof.Rows L2 ZX
/-- the members of a list or tuple -/
def rowD : D → Option (List D)
  | .lst xs => some xs
  | .tup xs => some xs
  | _ => none
section
variable {W : Wd} {B : Bs} {F F' H H' : Hp} {σ : L2.St} {ρ : Ev}
theorem SqH.same {k : Bool} {a : Addr} {xs : List V} (e : Same F H) (h : SqH k W.K F a xs) : SqH k W.K H a xs := by
  cases k
  · exact same_sqT e h
  · exact same_sqL e h
theorem iter_zipS {p q : Bool} {a b : Addr} {xs ys : List V} {ds es : List D} (h1 : SqH p W.K F a xs) (h2 : SqH q W.K F b ys) (d1 : DenL W F ds xs) (d2 : DenL W F es ys) :
    Iter W (ItzS p q W.K a b) F ((ds.zip es).map fun p => .tup [p.1, p.2]) := by
  intro F2 H e1 e2
  have q1 : SqH p W.K H a xs := SqH.same (e1.trans e2) h1
  have q2 : SqH q W.K H b ys := SqH.same (e1.trans e2) h2
  have l1 := d1.length
  have l2 := d2.length
  refine ⟨⟨xs, ys, q1, q2, by rw [List.length_map, List.length_zip]; omega⟩, fun i d hi => ?_⟩
  rw [List.getElem?_map] at hi
  cases hz : (ds.zip es)[i]? with
  | none => rw [hz] at hi; cases hi
  | some p =>
    rw [hz] at hi
    cases hi
    obtain ⟨g1, g2⟩ := zip_get hz
    obtain ⟨x, hx, dx⟩ := d1.get g1
    obtain ⟨y, hy, dy⟩ := d2.get g2
    refine ⟨⟨xs, ys, x, y, q1, q2, hx, hy⟩, fun v H' ⟨T, x', y', ev, hT, eH, a1, a2⟩ => ?_⟩
    have ex : x' = x := Option.some.inj ((a1 xs q1).symm.trans hx)
    have ey : y' = y := Option.some.inj ((a2 ys q2).symm.trans hy)
    subst ex ey ev eH
    have st := Stp.one (o := .tup [x', y']) e2 hT
    exact ⟨_, st, ⟨T, _, rfl, upd_same, ⟨_, _, rfl, dx.mono (e1.trans st.ff), ⟨_, _, rfl, dy.mono (e1.trans st.ff), rfl⟩⟩⟩⟩
/-- a list or a tuple, told -/
theorem den_row {d : D} {xs : List D} {v : V} (h : rowD d = some xs) (dv : Den W F d v) : ∃ (k : Bool) (a : Addr) (us : List V), v = .ref a ∧ SqH k W.K F a us ∧ DenL W F xs us := by
  cases d with
  | lst ys =>
    cases h
    obtain ⟨a, us, e, hs, hd⟩ := dv
    exact ⟨true, a, us, e, hs, hd⟩
  | tup ys =>
    cases h
    obtain ⟨a, us, e, hs, hd⟩ := dv
    exact ⟨false, a, us, e, sqT_of (Same.refl _) hs, hd⟩
  | _ => cases h
def dZipS (t : DA) : DI := fun ρ Q => t ρ fun ρ1 ds => match ds with
  | [x, y] => ∃ xs ys, rowD x = some xs ∧ rowD y = some ys ∧ Q ρ1 ((xs.zip ys).map fun p => .tup [p.1, p.2])
  | _ => False
theorem ri_zipS {ta : TA} {t : DA} (h : RA W B ta t) : RI W B (iZipS W.K ta) (dZipS t) := by
  intro σ H F ρ Q R rl hq k
  refine h σ H F ρ _ _ rl hq fun xs H1 F1 ρ1 ds r1 s1 d1 h1 => ?_
  split at h1
  · obtain ⟨u, v, rfl, du, dv⟩ := den2 d1
    obtain ⟨us, vs, hu, hv, h1⟩ := h1
    obtain ⟨p, a, xs, e1, hs, hd⟩ := den_row hu du
    obtain ⟨q, b, ys, e2, hs2, hd2⟩ := den_row hv dv
    subst e1 e2
    exact ⟨a, b, xs, ys, p, q, rfl, SqH.same r1.ex hs, SqH.same r1.ex hs2, k _ H1 F1 ρ1 _ r1 s1 (iter_zipS hs hs2 hd hd2) h1⟩
  · exact h1.elim
end
/-! K named, for the blocks of a comprehension -/
theorem pe_fldK {X : Cx} {K : PySem.W.Frag} {e : Expr} {f : Str} {pos : Pos} {ta : TE} (hK : X.K = K) (he : PE X e ta) (hb : attributeBase e f X.env (eval e X.env) = eval e X.env) : PE X (.Attribute e f pos) (tFld K ta f) := by
  subst hK
  exact pe_fld he hb
theorem pg_tupK {X : Cx} {K : PySem.W.Frag} {pos : Pos} {es : List Expr} {k : Nat} {t : TGs} {n : Nat} (hK : X.K = K) (hc : X.calm = true) (h : PGs X es t)
    (hn : (assignEach es X.env).length = n := by rfl) (hst : (assignEach es X.env).findIdx? (·.1) = none := by rfl) : PG X (.Tuple es k pos) (gTup K n t) := by
  subst hK
  exact pg_tup hc h hn hst
/-- a product that the model makes -/
theorem op_mulW {X : Cx} : OpR X (binaryOp .Mult) (rI PySem.IntMulOk fun i j => .int (i * j)) := opI fun _ _ _ _ _ _ _ hc q => PyProof.Rows.mul_int q hc
theorem intBits_le {i : Int} {n : Nat} (h : i.natAbs < 2 ^ n) : Builtin.Int.intBits i ≤ n := by
  unfold Builtin.Int.intBits
  split
  · exact Nat.zero_le _
  · rename_i h0
    have h1 : i.natAbs ≠ 0 := fun e => h0 (by rw [beq_iff_eq]; omega)
    exact (Nat.log2_lt h1).mpr h
theorem mulOk_of {i j : Int} {m n : Nat} (h1 : i.natAbs < 2 ^ m) (h2 : j.natAbs < 2 ^ n) (h : m + n ≤ 134217728) : PySem.IntMulOk i j := by
  have a := intBits_le h1
  have b := intBits_le h2
  have hb : Builtin.Int.intTooBig ((Builtin.Int.intBits i : Int) + (Builtin.Int.intBits j : Int)) = false := by
    unfold Builtin.Int.intTooBig
    have : ((bitsLine : Nat) : Int) = 134217728 := rfl
    rw [this]
    exact decide_eq_false (by omega)
  unfold PySem.IntMulOk
  rw [hb, Bool.and_false]
  exact Bool.false_ne_true
end DL

-- part DL15
set_option maxHeartbeats 4000000
/-! tuple(x) by pe_tupleOf, K named for the blocks of a comprehension -/
namespace DL
open PySem PySem.Spec PyProof.Rows L2
def gTupTh : D → Ev → (Ev → D → Prop) → Prop := fun x ρ Q => match x with
  | .lst xs => Q ρ (.tup xs)
  | .tup xs => Q ρ (.tup xs)
  | _ => False
theorem re_kTup {W : Wd} {B : Bs} {te : TE} {t : DE} (re : RE W B te t) : RE W B (tThen te (kTup W.K)) (fun ρ Q => t ρ fun ρ1 x => gTupTh x ρ1 Q) := by
  intro σ H F ρ Q R rl h k
  refine re σ H F ρ _ _ rl h fun x H1 F1 ρ1 dx r1 s1 d1 h1 => ?_
  unfold gTupTh at h1
  split at h1
  · obtain ⟨a, xs, rfl, hs, hd⟩ := d1
    refine .inl ⟨a, xs, rfl, same_sqL r1.ex hs, fun l hl => ?_⟩
    have st := Stp.one (o := .tup xs) r1.ex hl
    exact k _ _ _ ρ1 (.tup _) (r1.stp st) (s1.trans st.ff) ⟨l, xs, rfl, upd_same, hd.mono st.ff⟩ h1
  · obtain ⟨a, xs, rfl, hs, hd⟩ := d1
    exact .inr ⟨a, xs, rfl, sqT_of r1.ex hs, k _ H1 F1 ρ1 (.tup _) r1 s1 ⟨a, xs, rfl, hs, hd⟩ h1⟩
  · exact h1.elim
theorem pe_tupleOfK {X : Cx} {K : PySem.W.Frag} {a : Expr} {ta : TE} {p pos : Pos} (hK : X.K = K) (hg : Gl X "tuple") (hm : X.mg "tuple" = none) (ha : PE X a ta) (na : starEach [a] X.env = (false, eval a X.env) :: starEach [] X.env := by rfl) :
    PE X (.Call (.Name "tuple" p) [a] [] pos) (tThen ta (kTup K)) := by
  subst hK
  exact pe_tupleOf hg hm ha na
end DL

-- part DL16
set_option maxHeartbeats 4000000
/-! small steps for chains over trees; the law's own promise, its well -/
namespace DL
open PySem PySem.Spec PyProof.Rows L2
theorem wipeS_ne {sl : List Sl} {j : Nat} : ∀ {vs : List Nat}, j ∉ vs → (wipeS sl vs)[j]? = sl[j]?
  | [], _ => rfl
  | v :: vs, h => by
    show ((wipeS sl vs).set v .un)[j]? = _
    rw [List.getElem?_set_ne (fun e => h (by rw [← e]; exact List.mem_cons_self ..)), wipeS_ne fun hm => h (List.mem_cons_of_mem _ hm)]
theorem Agr.wipe {vs : List Nat} {ρ : Ev} {c : Nat} : Agr vs ρ ((ρ.cnt c).wipe vs) := ⟨wipeS_length _ _, fun j hj => wipeS_ne hj⟩
theorem Agr.put {vs : List Nat} {ρ ρ1 : Ev} {i : Nat} {s : Sl} (h : Agr vs ρ ρ1) (hi : i ∈ vs) : Agr vs ρ (ρ1.set i s) :=
  ⟨by show (ρ1.sl.set i s).length = _; rw [List.length_set]; exact h.1, fun j hj => by show (ρ1.sl.set i s)[j]? = _; rw [List.getElem?_set_ne (fun e => hj (by rw [← e]; exact hi))]; exact h.2 j hj⟩
theorem intsD_length {lo : Int} {n : Nat} : (intsD lo n).length = n := by unfold intsD; rw [List.length_map, List.length_range]
theorem dVar_at {i : Nat} {ρ : Ev} {d : D} {Q : Ev → D → Prop} (h : ρ.sl[i]? = some (.v d)) (q : Q ρ d) : dVar i ρ Q := by
  unfold dVar
  rw [h]
  exact q
/-- a statement that is never reached -/
theorem rs_never {W : Wd} {B : Bs} : RS W B tNever (fun _ _ => False) := fun σ H F ρ D DD r h f => h.elim
theorem intsD_mem {lo : Int} {n : Nat} {d : D} (h : d ∈ intsD lo n) : ∃ i : Int, d = .int i := by
  unfold intsD at h
  obtain ⟨i, _, e⟩ := List.mem_map.mp h
  exact ⟨_, e.symm⟩
theorem lz {a b : Nat} (h : Nat.ble a b = true) : a ≤ b := Nat.le_of_ble_eq_true h
theorem lz' {a b : Nat} (h : Nat.ble (a + 1) b = true) : a < b := Nat.le_of_ble_eq_true h
theorem dseq_mid {a b : DS} {DD : DEnds} {ρ : Ev} (M : Ev → Prop) (ha : ∀ nx : Ev → Prop, (∀ ρ', M ρ' → nx ρ') → a { DD with nx := nx } ρ) (hb : ∀ ρ', M ρ' → b DD ρ') : dSeq a b DD ρ := ha (b DD) hb
theorem dfor_M {s : DI} {g : DG} {b : DS} {DD : DEnds} {ρ : Ev} (M : Nat → Ev → Prop) (ds : List D) (h : s ρ fun ρ1 es => es = ds ∧ M 0 ρ1) (step : ∀ i d ρ, ds[i]? = some d → M i ρ → ∀ nx : Ev → Prop, (∀ ρ', M (i + 1) ρ' → nx ρ') → g d ρ fun ρ1 => b { nx := nx, ct := nx, bk := DD.nx, rt := DD.rt } ρ1) (fin : ∀ ρ, M ds.length ρ → DD.nx ρ)
    (mono : ∀ Q Q' : Ev → List D → Prop, (∀ ρ ds, Q ρ ds → Q' ρ ds) → s ρ Q → s ρ Q') : dFor s g b DD ρ := by
  have key : ∀ (i : Nat) (ρ : Ev), i ≤ ds.length → M i ρ → dForL g b (ds.drop i) DD ρ := by
    intro i
    generalize hk : ds.length - i = k
    induction k generalizing i with
    | zero =>
      intro ρ hi m
      have e : i = ds.length := by omega
      subst e
      rw [List.drop_length]
      exact fin ρ m
    | succ k ih =>
      intro ρ hi m
      have hlt : i < ds.length := by omega
      rw [List.drop_eq_getElem_cons hlt]
      exact step i _ ρ (List.getElem?_eq_getElem hlt) m _ fun ρ' m' => ih (i + 1) (by omega) ρ' (by omega) m'
  exact mono _ _ (fun ρ1 es ⟨e, m⟩ => by subst e; exact key 0 ρ1 (Nat.zero_le _) m) h
theorem rel_well {K : PySem.W.Frag} {cls : Str → Option Addr} {p pc : Addr} {F H : Hp} {σ : L2.St} {ns : List Int} {n : Nat} (hl : σ.length = n + 2) (h1 : σ[1]? = some (some (.ref p))) (sf : Same F H) (fp : F p = none) (hn : ns.length ≤ 60) (hp : H p = some (.lst [.ref pc, .int 0, .int 0])) (hs : SqL K F pc (ns.map V.int)) (htab : TabsOk ⟨K, cls, some p⟩ [] F H) :
    Rel ⟨K, cls, some p⟩ (bs0 F H) F H σ ⟨.un :: .v .well :: List.replicate n .un, 0⟩ := by
  have get : ∀ (i : Nat) (s : Sl), (Sl.un :: Sl.v .well :: List.replicate n Sl.un)[i]? = some s → s = .un ∨ (i = 1 ∧ s = .v .well) := fun i s h => by
    match i with
    | 0 => exact .inl (Option.some.inj h).symm
    | 1 => exact .inr ⟨rfl, (Option.some.inj h).symm⟩
    | i + 2 =>
      have h : (List.replicate n Sl.un)[i]? = some s := h
      rw [List.getElem?_replicate] at h
      split at h
      · exact .inl (Option.some.inj h).symm
      · cases h
  refine ⟨sf, by show σ.length = (Sl.un :: Sl.v .well :: List.replicate n Sl.un).length; rw [hl]; simp, fun i s h => ?_, fun i j d e q h => ?_, ?_, fun a o h _ _ => .inl h, fun a _ h2 => h2, Same.refl _, (fun a ha => nomatch ha), (fun q hq => nomatch hq), (fun q hq => nomatch hq), List.nodup_nil⟩
  · rcases get i s h with e | ⟨e1, e2⟩
    · subst e; trivial
    · subst e1 e2; exact ⟨.ref p, h1, p, rfl, rfl⟩
  · rcases get i _ h with e | ⟨_, e⟩ <;> cases e
  · exact ⟨⟨fp, (fun z => nomatch z), pc, ns, 0, 0, hp, hs, Int.le_refl _, Int.le_refl _, Int.le_refl _, hn⟩, htab⟩
theorem well_go {W : Wd} {B : Bs} {ts : TS} {T : DS} {D : Ends} {DD : DEnds} {σ : L2.St} {H F : Hp} {ρ : Ev} (h : RS W B ts T) (r : Rel W B F H σ ρ) (f : Fits W B F D DD) (q : T DD ρ) : ts D σ H := h σ H F ρ D DD r q f
def spLaw (K : PySem.W.Frag) : Sp := fun vs H Q _ => ∃ (a : Addr) (ns : List Int), vs = [.ref a] ∧ SqL K H a (ns.map V.int) ∧ ns.length ≤ 63 ∧ ∀ H', Q (.bl true) H'
/-- a slot that holds no object of one's own -/
def noO : Sl → Bool
  | .o _ => false
  | _ => true
theorem noOwn1 {l : List Sl} {c i : Nat} {s : Sl} (h : l[i]? = some s) (hs : noO s = true) : noOwn ⟨l, c⟩ [i] = true := by
  unfold noOwn
  rw [List.all_cons, List.all_nil, Bool.and_true]
  show (match l[i]? with | some (.o _) => false | _ => true) = true
  rw [h]
  cases s with
  | o d => cases hs
  | _ => rfl
theorem re_with {W : Wd} {B : Bs} {te : TE} {t : DE} {P : Ev → Prop} (re : RE W B te t) : RE W B te (fun ρ Q => P ρ ∧ t ρ Q) := fun σ H F ρ Q R r h k => re σ H F ρ Q R r h.2 k
end DL

-- part LX8
set_option maxHeartbeats 4000000
/-! targets that take a list or a tuple apart; facts about the built-in names -/
namespace DL
open PySem PySem.Spec PyProof.Rows L2
/-- the built-in names that a law's module leaves as they are -/
structure Blt (mg : Str → Option Value) : Prop where
  m_int : mg "int" = none
  m_abs : mg "abs" = none
  m_len : mg "len" = none
  m_range : mg "range" = none
  m_isinstance : mg "isinstance" = none
  m_list : mg "list" = none
  m_tuple : mg "tuple" = none
  m_bool : mg "bool" = none
  m_all : mg "all" = none
  m_sum : mg "sum" = none
  m_min : mg "min" = none
  m_max : mg "max" = none
  m_sorted : mg "sorted" = none
  m_zip : mg "zip" = none
  m_dict : mg "dict" = none
  m_repr : mg "repr" = none
/-- a def of the module, called by its name with all its parameters -/
structure Fn1 (K : PySem.W.Frag) (mg : Str → Option Value) (x : Str) (sx : Stmt) (ps : List Str) (f : Addr) (fd : FuncData) : Prop where
  fn : Fun K x x sx f fd
  bd : Binds K fd ps []
  gl : mg x = some (.ref f)
def gRow (K : PySem.W.Frag) (n : Nat) (t : TGs) : TG := fun v σ H Q => gTup K n t v σ H Q ∨ gLst K n t v σ H Q
theorem pg_rowK {X : Cx} {K : PySem.W.Frag} {pos : Pos} {es : List Expr} {k : Nat} {t : TGs} {n : Nat} (hK : X.K = K) (hc : X.calm = true) (h : PGs X es t)
    (hn : (assignEach es X.env).length = n := by rfl) (hst : (assignEach es X.env).findIdx? (·.1) = none := by rfl) : PG X (.Tuple es k pos) (gRow K n t) := by
  subst hK
  exact ⟨fun pins s σ H v u Q I r hw => hw.elim (fun hw => (pg_tup hc h hn hst).run pins s σ H v u Q I r hw) fun hw => (pg_lst hc h hn hst).run pins s σ H v u Q I r hw⟩
/-- readings that name the written part -/
abbrev rIxK (K : PySem.W.Frag) : R2 := fun x y H Q => rIxL K x y H Q ∨ rIxT K x y H Q
abbrev rLenK (K : PySem.W.Frag) : List V → Hp → VK → Prop := fun xs H Q => ∃ x n, xs = [x] ∧ LenV K x H n ∧ Q (.int n) H
theorem pa_starK {X : Cx} {K : PySem.W.Frag} {e : Expr} {es : List Expr} {p : Pos} {te : TE} {t : TA} (hK : X.K = K) (he : PE X e te) (hr : PA X es t) : PA X (.Starred e p :: es) (StX.tStar K te t) := by
  subst hK
  exact StX.pa_star he hr
section
variable {W : Wd} {B : Bs}
def dgRow (n : Nat) (g : DGs) : DG := fun d ρ Q => match d with | .tup ds => ds.length = n ∧ g ds ρ Q | .lst ds => ds.length = n ∧ g ds ρ Q | _ => False
theorem rg_row {n : Nat} {tr : TGs} {gs : DGs} {is : List Nat} (rb : RGs W B tr gs is) : RG W B (gRow W.K n tr) (dgRow n gs) is := by
  intro σ H F ρ v d Q R r hd h k
  unfold dgRow at h
  split at h
  · obtain ⟨a, xs, e, hs, hl⟩ := hd
    exact .inl ⟨a, xs, e, sqT_of r.ex hs, by rw [← hl.length]; exact h.1, rb σ H F ρ xs _ _ _ r hl h.2 k⟩
  · obtain ⟨a, xs, e, hs, hl⟩ := hd
    exact .inr ⟨a, xs, e, same_sqL r.ex hs, by rw [← hl.length]; exact h.1, rb σ H F ρ xs _ _ _ r hl h.2 k⟩
  · exact h.elim
/-! ### tests told by what follows from either answer -/
def dBC (t : DE) : DT := fun ρ Q => t ρ fun ρ1 x => ∃ b, x = .bl b ∧ Q ρ1 b
def dAndC (t u : DT) : DT := fun ρ Q => t ρ fun ρ1 b => (b = true → u ρ1 Q) ∧ (b = false → Q ρ1 false)
def dOrC (t u : DT) : DT := fun ρ Q => t ρ fun ρ1 b => (b = true → Q ρ1 true) ∧ (b = false → u ρ1 Q)
def dAndVC (t u : DE) : DE := fun ρ Q => t ρ fun ρ1 x => ∃ b, x = .bl b ∧ (b = true → u ρ1 Q) ∧ (b = false → Q ρ1 (.bl false))
def dOrVC (t u : DE) : DE := fun ρ Q => t ρ fun ρ1 x => ∃ b, x = .bl b ∧ (b = true → Q ρ1 (.bl true)) ∧ (b = false → u ρ1 Q)
def dIfC (t : DT) (a b : DE) : DE := fun ρ Q => t ρ fun ρ1 c => (c = true → a ρ1 Q) ∧ (c = false → b ρ1 Q)
def dIfSC (c : DT) (t u : DS) : DS := fun DD ρ => c ρ fun ρ1 b => (b = true → t DD ρ1) ∧ (b = false → u DD ρ1)
theorem rt_BC {te : TE} {t : DE} (h : RE W B te t) : RT W B (tB te) (dBC t) := by
  intro σ H F ρ Q R rl hq k
  refine h σ H F ρ _ _ rl hq fun x H1 F1 ρ1 dx r1 s1 d1 h1 => ?_
  obtain ⟨b, rfl, h1⟩ := h1
  exact ⟨b, d1, k b H1 F1 ρ1 r1 s1 h1⟩
theorem rt_andC {ta tb : TT} {a b : DT} (ra : RT W B ta a) (rb : RT W B tb b) : RT W B (tAnd ta tb) (dAndC a b) := by
  intro σ H F ρ Q R rl h k
  refine ra σ H F ρ _ _ rl h fun c H1 F1 ρ1 r1 s1 h1 => ?_
  cases c with
  | true => exact iteT (rb σ H1 F1 ρ1 _ _ r1 (h1.1 rfl) fun d H2 F2 ρ2 r2 s2 h2 => k d H2 F2 ρ2 r2 (s1.trans s2) h2)
  | false => exact iteF (k false H1 F1 ρ1 r1 s1 (h1.2 rfl))
theorem rt_orC {ta tb : TT} {a b : DT} (ra : RT W B ta a) (rb : RT W B tb b) : RT W B (tOr ta tb) (dOrC a b) := by
  intro σ H F ρ Q R rl h k
  refine ra σ H F ρ _ _ rl h fun c H1 F1 ρ1 r1 s1 h1 => ?_
  cases c with
  | false => exact iteF (rb σ H1 F1 ρ1 _ _ r1 (h1.2 rfl) fun d H2 F2 ρ2 r2 s2 h2 => k d H2 F2 ρ2 r2 (s1.trans s2) h2)
  | true => exact iteT (k true H1 F1 ρ1 r1 s1 (h1.1 rfl))
theorem re_andVC {ta tb : TE} {a b : DE} (ra : RE W B ta a) (rb : RE W B tb b) : RE W B (tAndV ta tb) (dAndVC a b) := by
  intro σ H F ρ Q R rl h k
  refine ra σ H F ρ _ _ rl h fun x H1 F1 ρ1 dx r1 s1 d1 h1 => ?_
  obtain ⟨c, rfl, h1⟩ := h1
  cases c with
  | true => exact ⟨true, d1, iteT (rb σ H1 F1 ρ1 _ _ r1 (h1.1 rfl) fun v H2 F2 ρ2 d r2 s2 d2 h2 => k v H2 F2 ρ2 d r2 (s1.trans s2) d2 h2)⟩
  | false => exact ⟨false, d1, iteF (k _ H1 F1 ρ1 (.bl false) r1 s1 rfl (h1.2 rfl))⟩
theorem re_ifC {tc : TT} {ta tb : TE} {c : DT} {a b : DE} (rc : RT W B tc c) (ra : RE W B ta a) (rb : RE W B tb b) : RE W B (tIf tc ta tb) (dIfC c a b) := by
  intro σ H F ρ Q R rl h k
  refine rc σ H F ρ _ _ rl h fun x H1 F1 ρ1 r1 s1 h1 => ?_
  cases x with
  | true => exact iteT (ra σ H1 F1 ρ1 _ _ r1 (h1.1 rfl) fun v H2 F2 ρ2 d r2 s2 d2 h2 => k v H2 F2 ρ2 d r2 (s1.trans s2) d2 h2)
  | false => exact iteF (rb σ H1 F1 ρ1 _ _ r1 (h1.2 rfl) fun v H2 F2 ρ2 d r2 s2 d2 h2 => k v H2 F2 ρ2 d r2 (s1.trans s2) d2 h2)
theorem rs_ifC {tc : TT} {t u : TS} {c : DT} {a b : DS} (rc : RT W B tc c) (ra : RS W B t a) (rb : RS W B u b) : RS W B (tIfS tc t u) (dIfSC c a b) := by
  intro σ H F ρ D DD r h f
  refine rc σ H F ρ _ _ r h fun x H1 F1 ρ1 r1 s1 h1 => ?_
  cases x with
  | true => exact iteT (ra σ H1 F1 ρ1 D DD r1 (h1.1 rfl) (f.mono s1))
  | false => exact iteF (rb σ H1 F1 ρ1 D DD r1 (h1.2 rfl) (f.mono s1))
/-! ### rows: a list or a tuple -/
def rowOf : D → Option (List D)
  | .lst xs => some xs
  | .tup xs => some xs
  | _ => none
theorem dSq_row {i : Nat} {ρ : Ev} {x : D} {xs : List D} {Q : Ev → List D → Prop} (h : ρ.sl[i]? = some (.v x)) (hx : rowOf x = some xs) (q : Q ρ xs) : dSq (dVar i) ρ Q := by
  unfold dSq
  refine dVar_at h ?_
  cases x <;> cases hx <;> exact q
theorem gIx_row {x : D} {xs : List D} {i : Nat} {d : D} {ρ : Ev} {Q : Ev → D → Prop} (hx : rowOf x = some xs) (hi : xs[i]? = some d) (q : Q ρ d) : gIx x (.int (i : Nat)) ρ Q := by
  have e : atI xs ((i : Nat) : Int) = some d := atI_nat hi
  cases x <;> cases hx <;> (unfold gIx; simp only [e]; exact q)
theorem gLen_row {x : D} {xs : List D} {ρ : Ev} {Q : Ev → D → Prop} (hx : rowOf x = some xs) (q : Q ρ (.int xs.length)) : gLen [x] ρ Q := by
  cases x <;> cases hx <;> exact q
theorem dgRow_row {n : Nat} {g : DGs} {x : D} {xs : List D} {ρ : Ev} {Q : Ev → Prop} (hx : rowOf x = some xs) (hl : xs.length = n) (q : g xs ρ Q) : dgRow n g x ρ Q := by
  cases x <;> cases hx <;> exact ⟨hl, q⟩
end
end DL

-- part K08D
set_option maxHeartbeats 4000000
/-! K08: is_within, are_integers -/
namespace DL
namespace K08
open PySem PySem.Spec PyProof.Rows L2
/-- l <= x <= m, x an int -/
def within (x : D) (l m : Int) : Bool := match x with
  | .int i => decide (l ≤ i) && decide (i ≤ m)
  | _ => false
def gIsW : GF := fun ds c Q => ∃ x l m, ds = [x, .int l, .int m] ∧ plain x = true ∧ Q (.bl (within x l m)) c
def aiB (n : Int) (r : D) : Bool := match rowOf r with
  | some xs => decide ((xs.length : Int) = n) && xs.all isInt
  | none => false
def gAreI : GF := fun ds c Q => ∃ x n, ds = [x, .int n] ∧ plain x = true ∧ (∀ xs, rowOf x = some xs → xs.length ≤ 1048576 ∧ xs.all plain = true) ∧ Q (.bl (aiB n x)) c
theorem eqD_int {a b : Int} : eqD (.int a) (.int b) = some (decide (a = b)) := by
  show some (a == b) = _
  rfl
section
variable {P : Program} {w : World} {K : PySem.W.Frag} {mg : Str → Option Value} {base : Heap} {cls : Str → Option Addr}
theorem ok_isW {f fi : Addr} {fd fdI : FuncData} {k : Nat} (F : Fun K "is_within" "is_within" sIsW f fd) (FI : Fun K "is_integer" "is_integer" sIsI fi fdI) (bI : Binds K fdI ["value"] []) (gI : mg "is_integer" = some (.ref fi)) (m_isinstance : mg "isinstance" = none) (m_int : mg "int" = none) (m_bool : mg "bool" = none) :
    FnOk P w K mg base CX0 (k + 2) f fd ["value", "least", "most"] (spD K cls gIsW) := by
  have GI : FnOk P w K mg base CX0 (k + 1) fi fdI ["value"] (spD K cls gIsI) := ok_isI FI m_isinstance m_int m_bool
  refine F.ok scIsW (fun vs H Q E h => len_of (n := 3) (fun ds c QD ⟨x, l, m, e, _⟩ => by rw [e]; rfl) h) (fun cdv A outer s H vs Q E hr h => ?_)
  refine ⟨_, (pss_one (ps_ret (pe_and (pe_call GI hr (by rfl) gI FI.kp bI .nil pass0 (pa_cons (pv 0) pa_nil)) (pe_one (pe_chain op_le op_le (pv 1) (pv 0) (pv 2)))))),
    body_of (fun pw B hio => (rs_ret (re_andV (re_call (E := E0) (ra_cons (re_var (i := 0) hio) ra_nil)) (re_chainI (f := fun i j => decide (i ≤ j)) (g := fun i j => decide (i ≤ j)) (re_var (i := 1) hio) (re_var (i := 0) hio) (re_var (i := 2) hio))))) ?_ h⟩
  rintro ds c QD ⟨x, l, m, rfl, ho, q⟩
  refine ⟨by show 3 ≤ 3; decide, x, rfl, ho, ?_⟩
  cases x with
  | int i =>
    refine ⟨l, i, rfl, rfl, ?_⟩
    have q : QD (.bl (decide (l ≤ i) && decide (i ≤ m))) c := q
    by_cases hli : l ≤ i
    · rw [decide_eq_true hli, Bool.true_and] at q
      exact .inl ⟨decide_eq_true hli, m, rfl, q⟩
    · rw [decide_eq_false hli, Bool.false_and] at q
      exact .inr ⟨decide_eq_false hli, q⟩
  | _ => first | exact q | cases ho
theorem ok_areI {f fi fr : Addr} {fd fdI fdR : FuncData} {k : Nat} (F : Fun K "are_integers" "are_integers" sAreI f fd) (FI : Fun K "is_integer" "is_integer" sIsI fi fdI) (bI : Binds K fdI ["value"] []) (gI : mg "is_integer" = some (.ref fi))
    (FR : Fun K "is_row" "is_row" sIsR fr fdR) (bR : Binds K fdR ["value"] []) (gR : mg "is_row" = some (.ref fr))
    (m_isinstance : mg "isinstance" = none) (m_int : mg "int" = none) (m_bool : mg "bool" = none) (m_list : mg "list" = none) (m_tuple : mg "tuple" = none) (m_len : mg "len" = none) (m_all : mg "all" = none) :
    FnOk P w K mg base CX0 (k + 2) f fd ["value", "size"] (spD K cls gAreI) := by
  have GI : FnOk P w K mg base CX0 (k + 1) fi fdI ["value"] (spD K cls gIsI) := ok_isI FI m_isinstance m_int m_bool
  have GR : FnOk P w K mg base CX0 (k + 1) fr fdR ["value"] (spD K cls gIsR) := ok_isR FR m_isinstance m_list m_tuple
  refine F.ok scAreI (fun vs H Q E h => len_of (n := 2) (fun ds c QD ⟨x, n, e, _⟩ => by rw [e]; rfl) h) (fun cdv A outer s H vs Q E hr h => ?_)
  have hu := hr.units
  refine ⟨_, (pss_one (ps_ret (pe_and (pe_call GR hr (by rfl) gR FR.kp bR .nil pass0 (pa_cons (pv 0) pa_nil)) (pe_and (pe_cmpR (op_eqD hu) (pe_callB call_len (by rfl) m_len PySem.boot_len (pa_cons (pv 0) pa_nil)) (pv 1) (nomark _))
      (pe_one (pe_callB (cr_all rfl) (by rfl) m_all (by decide +kernel) (pa_cons (pe_lc rfl scAreI.nd (pi_seq (pv 0)) (own := [("one", 2)]) (blkOk_by rfl) (fun _ _ _ _ _ => (pg_name (i := 2) scAreI.nd rfl (.inl rfl))) (fun _ _ _ _ _ => pts_nil) (fun _ _ _ _ _ => (pe_call GI (by exact hr) (by rfl) gI FI.kp bI .nil pass0 (pa_cons (pv 2) pa_nil)))) pa_nil))))))),
    body_of (fun pw B hio => (rs_ret (re_andV (re_call (E := E0) (ra_cons (re_var (i := 0) hio) ra_nil)) (re_andV (re_eqD (re_len (ra_cons (re_var (i := 0) hio) ra_nil)) (re_var (i := 1) hio))
      (re_all (ra_cons (RN.re (rn_lc (is := [2]) (vs := [2]) (ri_seq (re_var (i := 0) hio)) (fun B hb => by have hio := hb.trans hio; exact (rg_name (i := 2))) (fun B hb => by have hio := hb.trans hio; exact rt_yes) (fun B hb => by have hio := hb.trans hio; exact (re_call (E := E0) (ra_cons (re_var (i := 2) hio) ra_nil))) (fun _ h => h))) ra_nil)))))) ?_ h⟩
  rintro ds c QD ⟨x, n, rfl, px, hrow, q⟩
  have main : ∀ (xs : List D), xs.length ≤ 1048576 → xs.all plain = true → ∀ ρ : Ev, ρ.sl.length = 3 → ρ.c = c → QD (.bl (xs.all isInt)) c → dLcL (dgName 2) dYes (dCall gIsI (dCons (dVar 2) dNil)) [2] xs ρ [] fun ρ2 acc => ∃ bs : List Bool, [D.lst acc] = [.lst (bs.map .bl)] ∧ QD (.bl (bs.all id)) ρ2.c := fun xs hl hp ρ hr hc q => by
    refine lc_map (fun d => .bl (isInt d)) (Nat.le_trans hl (by decide)) (fun d hd ρ1 Q ha hc1 h1 hq => ?_) (by omega) ⟨xs.map isInt, by rw [List.map_map]; rfl, ?_⟩
    · unfold dCall dCons dVar dNil
      rw [h1]
      exact ⟨d, rfl, List.all_eq_true.mp hp d hd, hq⟩
    · rw [hc, List.all_map]; exact q
  have hq : ∀ xs, rowOf x = some xs → ∀ b : Bool, b = decide ((xs.length : Int) = n) → (b = true → QD (.bl (xs.all isInt)) c) ∧ (b = false → QD (.bl false) c) := fun xs hx b e => by
    unfold aiB at q
    rw [hx] at q
    have q : QD (.bl (decide ((xs.length : Int) = n) && xs.all isInt)) c := q
    exact ⟨fun h => by rw [← e, h] at q; exact q, fun h => by rw [← e, h] at q; exact q⟩
  cases x with
  | lst xs =>
    obtain ⟨hl, hp⟩ := hrow xs rfl
    refine ⟨by show 2 ≤ 3; decide, .lst xs, rfl, rfl, decide ((xs.length : Int) = n), eqD_int, ?_⟩
    by_cases h : (xs.length : Int) = n
    · rw [decide_eq_true h]
      exact ⟨rfl, main xs hl hp _ rfl rfl ((hq xs rfl _ rfl).1 (decide_eq_true h))⟩
    · rw [decide_eq_false h]
      exact (hq xs rfl _ rfl).2 (decide_eq_false h)
  | tup xs =>
    obtain ⟨hl, hp⟩ := hrow xs rfl
    refine ⟨by show 2 ≤ 3; decide, .tup xs, rfl, rfl, decide ((xs.length : Int) = n), eqD_int, ?_⟩
    by_cases h : (xs.length : Int) = n
    · rw [decide_eq_true h]
      exact ⟨rfl, main xs hl hp _ rfl rfl ((hq xs rfl _ rfl).1 (decide_eq_true h))⟩
    · rw [decide_eq_false h]
      exact (hq xs rfl _ rfl).2 (decide_eq_false h)
  | opq v => cases px
  | obj _ _ _ => cases px
  | exc _ _ _ => cases px
  | dic _ _ => cases px
  | well => cases px
  | _ => exact ⟨by show 2 ≤ 3; decide, _, rfl, rfl, q⟩
end
end K08
end DL

-- part DM6
set_option maxHeartbeats 4000000
/-! comprehensions with two for clauses -/
namespace DL
open PySem L2
def dLc2L (g : DG) (tt : DT) (s1 : DI) (g1 : DG) (tt1 : DT) (e : DE) (vs vs1 : List Nat) : List D → Ev → List D → (Ev → List D → Prop) → Prop
  | [], ρ, acc, K => K ρ acc
  | d :: ds, ρ, acc, K => g d (ρ.wipe vs) fun ρ1 => tt ρ1 fun ρ2 b => match b with
    | true => s1 ρ2 fun ρ3 es => noOwn ρ3 vs1 = true ∧ dLcL g1 tt1 e vs1 es ρ3 acc fun ρ4 acc' => dLc2L g tt s1 g1 tt1 e vs vs1 ds (ρ.back vs ρ4) acc' K
    | false => dLc2L g tt s1 g1 tt1 e vs vs1 ds (ρ.back vs ρ2) acc K
def dLc2 (s : DI) (g : DG) (tt : DT) (s1 : DI) (g1 : DG) (tt1 : DT) (e : DE) (vs vs1 : List Nat) : DE := fun ρ Q => s ρ fun ρ1 ds => noOwn ρ1 vs = true ∧ dLc2L g tt s1 g1 tt1 e vs vs1 ds ρ1 [] fun ρ2 acc => Q ρ2 (.lst acc)
section
variable {W : Wd} {B : Bs} {F F' H H' : Hp} {σ : L2.St} {ρ : Ev}
theorem noOwn_back {vs : List Nat} {ρ ρx : Ev} (hl : ρx.sl.length = ρ.sl.length) (no : noOwn ρ vs = true) : noOwn (ρ.back vs ρx) vs = true := by
  refine List.all_eq_true.mpr fun j hj => ?_
  have h := resS_get vs 0 ρ.sl ρx.sl j hl
  rw [Nat.zero_add, if_pos (by simpa using hj)] at h
  have h2 : (ρ.back vs ρx).sl[j]? = ρ.sl[j]? := h
  rw [h2]
  exact List.all_eq_true.mp no j hj
theorem Rel.backed2 {B0 : Bs} {vs : List Nat} {τ : St} {ρ2 : Ev} (r : Rel W B0 F H σ ρ) (no : noOwn ρ vs = true) (sf : Same F F') (r2 : Rel W B F' H' τ ρ2) (ho : ∀ j, j ∉ vs → τ[j]? = σ[j]?) (hl : τ.length = σ.length) :
    Rel W B F' H' σ (ρ.back vs ρ2) := by
  have hlen : ρ2.sl.length = ρ.sl.length := by rw [← r2.len, ← r.len]; exact hl
  have get : ∀ j, (ρ.back vs ρ2).sl[j]? = if vs.contains j then ρ.sl[j]? else ρ2.sl[j]? := fun j => by
    have := resS_get vs 0 ρ.sl ρ2.sl j hlen
    rwa [Nat.zero_add] at this
  have at_ : ∀ {j : Nat} {d : D}, (ρ.back vs ρ2).sl[j]? = some (.o d) → j ∉ vs ∧ ρ2.sl[j]? = some (.o d) := fun {j d} h => by
    rw [get j] at h
    by_cases hj : j ∈ vs
    · rw [if_pos (by simpa using hj)] at h
      exact absurd h (noOwn_at no hj)
    · rw [if_neg (by simpa using hj)] at h
      exact ⟨hj, h⟩
  refine ⟨r2.ex, by show _ = (resS vs 0 ρ.sl ρ2.sl).length; rw [resS_length vs 0 ρ.sl ρ2.sl hlen]; exact r.len, fun j s hj => ?_, fun j k x y p hj hk h1 h2 => ?_, r2.well, r2.keep, r2.new, r2.f0, r2.ioH, r2.hid, fun q hq j x hj h1 => ?_, r2.hnd⟩
  · rw [get j] at hj
    by_cases hv : j ∈ vs
    · rw [if_pos (by simpa using hv)] at hj
      have q := r.sl j s hj
      cases s with
      | un => trivial
      | v d => obtain ⟨u, e, hd⟩ := q; exact ⟨u, e, hd.mono sf⟩
      | o d => exact absurd hj (noOwn_at no hv)
    · rw [if_neg (by simpa using hv)] at hj
      rw [← ho j hv]
      exact r2.sl j s hj
  · obtain ⟨v1, q1⟩ := at_ hj
    obtain ⟨v2, q2⟩ := at_ hk
    exact r2.inj j k x y p q1 q2 ((ho j v1).trans h1) ((ho k v2).trans h2)
  · obtain ⟨v1, q1⟩ := at_ hj
    exact r2.hap q hq j x q1 ((ho j v1).trans h1)
theorem rn_lc2 {wi wi1 : TI} {tg tg1 : TG} {tt tt1 : TT} {te : TE} {s s1 : DI} {g g1 : DG} {t t1 : DT} {e : DE} {is is1 vs vs1 : List Nat} (ri : RI W B wi s) (rg : ∀ B', B'.io = B.io → RG W B' tg g is) (rt : ∀ B', B'.io = B.io → RT W B' tt t)
    (ri1 : ∀ B', B'.io = B.io → RI W B' wi1 s1) (rg1 : ∀ B', B'.io = B.io → RG W B' tg1 g1 is1) (rt1 : ∀ B', B'.io = B.io → RT W B' tt1 t1) (re : ∀ B', B'.io = B.io → RE W B' te e) (hs : ∀ i ∈ is, i ∈ vs) (hs1 : ∀ i ∈ is1, i ∈ vs1) :
    RN W B (tLc2 wi tg tt wi1 tg1 tt1 te vs vs1) (dLc2 s g t s1 g1 t1 e vs vs1) := by
  intro σ H F ρ Q R rl h k
  refine ri σ H F ρ _ _ rl h fun J H1 F1 ρ1 ds r1 sf1 it h1 => ?_
  obtain ⟨no, h1⟩ := h1
  intro D hD
  have nD : New W B F1 (upd H1 D (.lst [])) σ ρ1 D (.lst []) := new_of r1 hD ⟨[], upd_same, rfl⟩
  have r1' : Rel W (B.hide D (.lst [])) F1 (upd H1 D (.lst [])) σ ρ1 := (r1.stp (Stp.lay (o := .lst []) r1.ex hD)).hide nD
  refine ⟨fun i m Hi => ∃ Fi ρi acc, Rel W (B.hide D (.lst acc)) Fi Hi σ ρi ∧ Same F1 Fi ∧ i ≤ ds.length ∧ m = ds.length - i ∧ noOwn ρi vs = true ∧ dLc2L g t s1 g1 t1 e vs vs1 (ds.drop i) ρi acc fun ρ2 acc => Q ρ2 (.lst acc),
    ⟨ds.length, F1, ρ1, [], r1', Same.refl _, Nat.zero_le _, rfl, no, h1⟩, ?_⟩
  rintro i m Hi ⟨Fi, ρi, acc, rI, sI, hi, rfl, noI, hq⟩
  obtain ⟨st, go⟩ := it Fi Hi sI rI.ex
  by_cases hlt : i < ds.length
  · have hd : ds[i]? = some ds[i] := List.getElem?_eq_getElem hlt
    obtain ⟨ga, ya⟩ := go i _ hd
    rw [List.drop_eq_getElem_cons hlt] at hq
    refine .inr ⟨ga, fun Hn => ∃ Fn ρn acc, Rel W (B.hide D (.lst acc)) Fn Hn σ ρn ∧ Same F1 Fn ∧ noOwn ρn vs = true ∧ dLc2L g t s1 g1 t1 e vs vs1 (ds.drop (i + 1)) ρn acc fun ρ2 acc => Q ρ2 (.lst acc),
      fun Hn ⟨Fn, ρn, an, rn, sn, nn, qn⟩ => ⟨ds.length - (i + 1), by omega, Fn, ρn, an, rn, sn, hlt, rfl, nn, qn⟩, fun x Hx hy => ?_⟩
    obtain ⟨Fx, sx, dx⟩ := ya x Hx hy
    have rX := rI.stp sx
    refine rg (B.hide D (.lst acc)) rfl (wipe σ vs) Hx Fx (ρi.wipe vs) x _ _ _ (rX.wiped vs) dx hq fun σ4 ρ4 r4 o4 l4 q4 => ?_
    have out4 : ∀ j, j ∉ vs → σ4[j]? = σ[j]? := fun j hj => (o4 j fun z => hj (hs j z)).trans (wipe_out hj)
    have len4 : σ4.length = σ.length := l4.trans (wipe_length _ _)
    have lenE : ∀ {F5 H5 ρ5 a5}, Rel W (B.hide D (.lst a5)) F5 H5 σ4 ρ5 → ρ5.sl.length = ρi.sl.length := fun {F5 H5 ρ5 a5} r => by rw [← r.len, len4, rI.len]
    refine ⟨wipe_eq len4 out4, rt (B.hide D (.lst acc)) rfl σ4 Hx Fx ρ4 _ _ r4 q4 fun b H5 F5 ρ5 r5 s5 q5 => ?_⟩
    cases b with
    | false => exact iteF ⟨F5, ρi.back vs ρ5, acc, rX.backed noI s5 r5 out4 len4, (sI.trans sx.ff).trans s5, noOwn_back (lenE r5) noI, q5⟩
    | true =>
      refine iteT (ri1 (B.hide D (.lst acc)) rfl σ4 H5 F5 ρ5 _ _ r5 q5 fun J1 H6 F6 ρ6 es r6 s6 it1 q6 => ?_)
      obtain ⟨no6, q6⟩ := q6
      refine ⟨fun j m Hj => ∃ Fj ρj aj, Rel W (B.hide D (.lst aj)) Fj Hj σ4 ρj ∧ Same F6 Fj ∧ j ≤ es.length ∧ m = es.length - j ∧ noOwn ρj vs1 = true ∧ dLcL g1 t1 e vs1 (es.drop j) ρj aj fun ρ4 acc' => dLc2L g t s1 g1 t1 e vs vs1 (ds.drop (i + 1)) (ρi.back vs ρ4) acc' fun ρ2 acc => Q ρ2 (.lst acc),
        ⟨es.length, F6, ρ6, acc, r6, Same.refl _, Nat.zero_le _, rfl, no6, q6⟩, ?_⟩
      rintro j m Hj ⟨Fj, ρj, aj, rJ, sJ, hj, rfl, noJ, hqj⟩
      obtain ⟨st1, go1⟩ := it1 Fj Hj sJ rJ.ex
      by_cases hlj : j < es.length
      · have hdj : es[j]? = some es[j] := List.getElem?_eq_getElem hlj
        obtain ⟨gb, yb⟩ := go1 j _ hdj
        rw [List.drop_eq_getElem_cons hlj] at hqj
        refine .inr ⟨gb, fun Hn => ∃ Fn ρn an, Rel W (B.hide D (.lst an)) Fn Hn σ4 ρn ∧ Same F6 Fn ∧ noOwn ρn vs1 = true ∧ dLcL g1 t1 e vs1 (es.drop (j + 1)) ρn an fun ρ4 acc' => dLc2L g t s1 g1 t1 e vs vs1 (ds.drop (i + 1)) (ρi.back vs ρ4) acc' fun ρ2 acc => Q ρ2 (.lst acc),
          fun Hn ⟨Fn, ρn, an, rn, sn, nn, qn⟩ => ⟨es.length - (j + 1), by omega, Fn, ρn, an, rn, sn, hlj, rfl, nn, qn⟩, fun y Hy hyy => ?_⟩
        obtain ⟨Fy, sy, dy⟩ := yb y Hy hyy
        have rY := rJ.stp sy
        refine rg1 (B.hide D (.lst aj)) rfl (wipe σ4 vs1) Hy Fy (ρj.wipe vs1) y _ _ _ (rY.wiped vs1) dy hqj fun σ7 ρ7 r7 o7 l7 q7 => ?_
        have out7 : ∀ j, j ∉ vs1 → σ7[j]? = σ4[j]? := fun j hj => (o7 j fun z => hj (hs1 j z)).trans (wipe_out hj)
        have len7 : σ7.length = σ4.length := l7.trans (wipe_length _ _)
        have lenF : ∀ {F5 H5 ρ5 a5}, Rel W (B.hide D (.lst a5)) F5 H5 σ7 ρ5 → ρ5.sl.length = ρj.sl.length := fun {F5 H5 ρ5 a5} r => by rw [← r.len, len7, rJ.len]
        refine ⟨wipe_eq len7 out7, rt1 (B.hide D (.lst aj)) rfl σ7 Hy Fy ρ7 _ _ r7 q7 fun b H8 F8 ρ8 r8 s8 q8 => ?_⟩
        cases b with
        | false => exact iteF ⟨F8, ρj.back vs1 ρ8, aj, rY.backed noJ s8 r8 out7 len7, (sJ.trans sy.ff).trans s8, noOwn_back (lenF r8) noJ, q8⟩
        | true =>
          refine iteT (re (B.hide D (.lst aj)) rfl σ7 H8 F8 ρ8 _ _ r8 q8 fun z H9 F9 ρ9 dz r9 s9 d9 q9 => ?_)
          obtain ⟨_, _, _, ownD⟩ := r9.hid (D, .lst aj) List.mem_cons_self
          obtain ⟨xs, hxs, dxs⟩ := ownD
          refine ⟨xs, hxs, by rw [← dxs.length]; exact q9.1, F9, ρj.back vs1 ρ9, aj ++ [dz], ?_, ((sJ.trans sy.ff).trans s8).trans s9, noOwn_back (lenF r9) noJ, q9.2⟩
          exact (rY.backed noJ (s8.trans s9) r9 out7 len7).hset ⟨_, upd_same, dxs.append ⟨z, [], rfl, d9, rfl⟩⟩
      · have ej : j = es.length := by omega
        subst ej
        rw [List.drop_length] at hqj
        refine .inl ⟨st1, Fj, ρi.back vs ρj, aj, ?_, (((sI.trans sx.ff).trans s5).trans s6).trans sJ, noOwn_back (lenE rJ) noI, hqj⟩
        exact rX.backed2 noI ((s5.trans s6).trans sJ) rJ out4 len4
  · have e' : i = ds.length := by omega
    subst e'
    rw [List.drop_length] at hq
    obtain ⟨r2', n2⟩ := rI.unhide
    exact .inl ⟨st, k D Hi Fi ρi _ r2' (sf1.trans sI) n2 hq⟩
end
end DL

-- part DP
set_option maxHeartbeats 4000000
/-! runs of trees that are determined: what an expression tells, and the state behind it -/
namespace DL
open PySem L2
def RnE (e : DE) (ρ ρ' : Ev) (d : D) : Prop := ∀ Q : Ev → D → Prop, Q ρ' d → e ρ Q
def RnT (e : DT) (ρ ρ' : Ev) (b : Bool) : Prop := ∀ Q : Ev → Bool → Prop, Q ρ' b → e ρ Q
def RnA (e : DA) (ρ ρ' : Ev) (ds : List D) : Prop := ∀ Q : Ev → List D → Prop, Q ρ' ds → e ρ Q
def RnG (g : DG) (d : D) (ρ ρ' : Ev) : Prop := ∀ Q : Ev → Prop, Q ρ' → g d ρ Q
def RnGs (g : DGs) (ds : List D) (ρ ρ' : Ev) : Prop := ∀ Q : Ev → Prop, Q ρ' → g ds ρ Q
/-- an operation, a builtin: no change of state -/
def OpU (g : List D → Ev → (Ev → D → Prop) → Prop) (ds : List D) (d : D) : Prop := ∀ (ρ : Ev) (Q : Ev → D → Prop), Q ρ d → g ds ρ Q
def OpB (g : D → D → Ev → (Ev → D → Prop) → Prop) (x y d : D) : Prop := ∀ (ρ : Ev) (Q : Ev → D → Prop), Q ρ d → g x y ρ Q
def OpV (g : D → Ev → (Ev → D → Prop) → Prop) (x d : D) : Prop := ∀ (ρ : Ev) (Q : Ev → D → Prop), Q ρ d → g x ρ Q
def OpF (G : GF) (ds : List D) (d : D) : Prop := ∀ (c : Nat) (Q : D → Nat → Prop), Q d c → G ds c Q
section
variable {ρ ρ1 ρ2 ρ' : Ev}
theorem RnE.var {i : Nat} {d : D} (h : ρ.sl[i]? = some (.v d)) : RnE (dVar i) ρ ρ d := fun Q q => dVar_at h q
theorem RnE.own {i : Nat} {d : D} (h : ρ.sl[i]? = some (.o d)) : RnE (dVar i) ρ (ρ.set i (.v d)) d := fun Q q => by unfold dVar; rw [h]; exact q
theorem RnE.val {i : Nat} {d : D} (h : ρ.sl[i]? = some (.v d)) : RnE (dVal i) ρ ρ d := fun Q q => by unfold dVal; rw [h]; exact q
theorem RnE.c {d : D} : RnE (dC d) ρ ρ d := fun Q q => q
theorem RnA.nil : RnA dNil ρ ρ [] := fun Q q => q
theorem RnA.cons {a : DE} {r : DA} {x : D} {xs : List D} (h : RnE a ρ ρ1 x) (t : RnA r ρ1 ρ' xs) : RnA (dCons a r) ρ ρ' (x :: xs) := fun Q q => h _ (t _ q)
theorem RnA.one {a : DE} {x : D} (h : RnE a ρ ρ1 x) : RnA (dCons a dNil) ρ ρ1 [x] := RnA.cons h RnA.nil
theorem RnE.app {a : DA} {g : List D → Ev → (Ev → D → Prop) → Prop} {ds : List D} {d : D} (h : RnA a ρ ρ' ds) (o : OpU g ds d) : RnE (fun ρ Q => a ρ fun ρ1 ds => g ds ρ1 Q) ρ ρ' d := fun Q q => h _ (o _ _ q)
theorem RnE.bin {a b : DE} {g : D → D → Ev → (Ev → D → Prop) → Prop} {x y d : D} (h : RnE a ρ ρ1 x) (k : RnE b ρ1 ρ' y) (o : OpB g x y d) : RnE (fun ρ Q => a ρ fun ρ1 x => b ρ1 fun ρ2 y => g x y ρ2 Q) ρ ρ' d := fun Q q => h _ (k _ (o _ _ q))
theorem RnE.un {a : DE} {g : D → Ev → (Ev → D → Prop) → Prop} {x d : D} (h : RnE a ρ ρ' x) (o : OpV g x d) : RnE (fun ρ Q => a ρ fun ρ1 x => g x ρ1 Q) ρ ρ' d := fun Q q => h _ (o _ _ q)
theorem RnE.call {G : GF} {a : DA} {ds : List D} {d : D} (h : RnA a ρ ρ' ds) (o : OpF G ds d) : RnE (dCall G a) ρ ρ' d := fun Q q => h _ (o _ _ q)
theorem RnE.tup {a : DA} {ds : List D} (h : RnA a ρ ρ' ds) (hl : ds.length ≤ sizeLine) : RnE (dTup a) ρ ρ' (.tup ds) := fun Q q => h _ ⟨hl, q⟩
theorem RnE.lst {a : DA} {ds : List D} (h : RnA a ρ ρ' ds) (hl : ds.length ≤ sizeLine) : RnE (dLst a) ρ ρ' (.lst ds) := fun Q q => h _ ⟨hl, q⟩
theorem RnT.bc {e : DE} {b : Bool} (h : RnE e ρ ρ' (.bl b)) : RnT (dBC e) ρ ρ' b := fun Q q => h _ ⟨b, rfl, q⟩
theorem RnT.b {e : DE} {b : Bool} (h : RnE e ρ ρ' (.bl b)) : RnT (dB e) ρ ρ' b := fun Q q => h _ q
theorem RnT.not {e : DT} {b : Bool} (h : RnT e ρ ρ' b) : RnT (dNot e) ρ ρ' (!b) := fun Q q => h _ q
theorem RnT.yes : RnT dYes ρ ρ true := fun Q q => q
theorem RnT.or {e f : DT} {b : Bool} (h : RnT e ρ ρ false) (k : RnT f ρ ρ' b) : RnT (dOrC e f) ρ ρ' b := fun Q q => h _ ⟨fun hb => (by cases hb), fun _ => k _ q⟩
theorem RnT.orT {e f : DT} (h : RnT e ρ ρ' true) : RnT (dOrC e f) ρ ρ' true := fun Q q => h _ ⟨fun _ => q, fun hb => (by cases hb)⟩
theorem RnT.orB {e f : DT} {a b : Bool} (h : RnT e ρ ρ a) (k : a = false → RnT f ρ ρ b) : RnT (dOrC e f) ρ ρ (a || b) := fun Q q => h _ ⟨fun hb => (by subst hb; exact q), fun hb => by subst hb; exact k rfl _ q⟩
theorem RnT.andB {e f : DT} {a b : Bool} (h : RnT e ρ ρ a) (k : a = true → RnT f ρ ρ b) : RnT (dAndC e f) ρ ρ (a && b) := fun Q q => h _ ⟨fun hb => (by subst hb; exact k rfl _ q), fun hb => by subst hb; exact q⟩
theorem RnE.andV {e f : DE} {a b : Bool} (h : RnE e ρ ρ (.bl a)) (k : a = true → RnE f ρ ρ (.bl b)) : RnE (dAndVC e f) ρ ρ (.bl (a && b)) := fun Q q => h _ ⟨a, rfl, fun hb => (by subst hb; exact k rfl _ q), fun hb => by subst hb; exact q⟩
theorem RnE.ite {c : DT} {e f : DE} {b : Bool} {x y : D} (h : RnT c ρ ρ b) (k : b = true → RnE e ρ ρ x) (l : b = false → RnE f ρ ρ y) : RnE (dIfC c e f) ρ ρ (if b then x else y) := fun Q q => h _ ⟨fun hb => (by subst hb; exact k rfl _ q), fun hb => by subst hb; exact l rfl _ q⟩
theorem RnA.seq {e : DE} {x : D} {xs : List D} (h : RnE e ρ ρ' x) (hx : rowOf x = some xs) : RnA (dSq e) ρ ρ' xs := fun Q q => h _ (by cases x <;> cases hx <;> exact q)
theorem RnG.name {i : Nat} {d : D} : RnG (dgName i) d ρ (ρ.set i (.v d)) := fun Q q => q
theorem RnGs.nil : RnGs dgNil [] ρ ρ := fun Q q => q
theorem RnGs.cons {g : DG} {r : DGs} {d : D} {ds : List D} (h : RnG g d ρ ρ1) (k : RnGs r ds ρ1 ρ') : RnGs (dgCons g r) (d :: ds) ρ ρ' := fun Q q => h _ (k _ q)
theorem RnG.row {n : Nat} {g : DGs} {d : D} {ds : List D} (hx : rowOf d = some ds) (hl : ds.length = n) (h : RnGs g ds ρ ρ') : RnG (dgRow n g) d ρ ρ' := fun Q q => dgRow_row hx hl (h _ q)
theorem RnG.tup {n : Nat} {g : DGs} {ds : List D} (hl : ds.length = n) (h : RnGs g ds ρ ρ') : RnG (dgTup n g) (.tup ds) ρ ρ' := fun Q q => ⟨hl, h _ q⟩
theorem RnG.two {i j : Nat} {x y : D} : RnG (dgTup 2 (dgCons (dgName i) (dgCons (dgName j) dgNil))) (.tup [x, y]) ρ ((ρ.set i (.v x)).set j (.v y)) := RnG.tup rfl (RnGs.cons RnG.name (RnGs.cons RnG.name RnGs.nil))
theorem lc_run {g : DG} {tt : DT} {e : DE} {vs : List Nat} {ds : List D} (f : D → D) (p : D → Bool) (hl : ds.length ≤ sizeLine)
    (step : ∀ d ∈ ds, ∃ ρ1, Agr vs ρ ρ1 ∧ ρ1.c = ρ.c ∧ RnG g d (ρ.wipe vs) ρ1 ∧ RnT tt ρ1 ρ1 (p d) ∧ (p d = true → RnE e ρ1 ρ1 (f d))) (K : Ev → List D → Prop) (hK : K ρ ((ds.filter p).map f)) : dLcL g tt e vs ds ρ [] K := by
  refine lc_inv (fun k c acc => c = ρ.c ∧ acc = ((ds.take k).filter p).map f) (fun k d acc c T U hd hI hT hU => ?_) (fun k c acc hk hI => ?_) ⟨rfl, by rw [List.take_zero]; rfl⟩ (fun c acc hI => ?_)
  · obtain ⟨rfl, rfl⟩ := hI
    obtain ⟨ρ1, ag, hc, hg, ht, he⟩ := step d (List.mem_of_getElem? hd)
    refine hg _ (ht _ ?_)
    have e1 : ((List.take (k + 1) ds).filter p).map f = ((List.take k ds).filter p).map f ++ (if p d then [f d] else []) := by
      rw [List.take_add_one, hd, List.filter_append, List.map_append]
      congr 1
      show List.map f (List.filter p [d]) = _
      rw [List.filter_cons]
      by_cases hp : p d = true
      · rw [if_pos hp, if_pos hp]; rfl
      · rw [if_neg hp, if_neg hp]; rfl
    cases hp : p d with
    | true => exact he hp _ (hT _ _ ag ⟨hc, by rw [e1, hp]; rfl⟩)
    | false => exact hU _ ag ⟨hc, by rw [e1, hp]; exact (List.append_nil _).symm⟩
  · rw [hI.2, List.length_map]
    have h1 := List.length_filter_le p (ds.take k)
    have h2 : (ds.take k).length ≤ k := by rw [List.length_take]; omega
    omega
  · obtain ⟨rfl, rfl⟩ := hI
    rw [List.take_length]; exact hK
theorem RnE.lcF {s : DI} {g : DG} {tt : DT} {e : DE} {vs : List Nat} {ds : List D} (f : D → D) (p : D → Bool) (hs : RnA s ρ ρ' ds) (hn : noOwn ρ' vs = true) (hl : ds.length ≤ sizeLine)
    (step : ∀ d ∈ ds, ∃ ρ1, Agr vs ρ' ρ1 ∧ ρ1.c = ρ'.c ∧ RnG g d (ρ'.wipe vs) ρ1 ∧ RnT tt ρ1 ρ1 (p d) ∧ (p d = true → RnE e ρ1 ρ1 (f d))) : RnE (dLc s g tt e vs) ρ ρ' (.lst ((ds.filter p).map f)) := fun Q q => hs _ ⟨hn, lc_run f p hl step _ q⟩
theorem filter_yes {α : Type} (l : List α) : l.filter (fun _ => true) = l := by induction l with | nil => rfl | cons a l ih => rw [List.filter_cons, ih]; rfl
theorem RnE.lc {s : DI} {g : DG} {e : DE} {vs : List Nat} {ds : List D} (f : D → D) (hs : RnA s ρ ρ' ds) (hn : noOwn ρ' vs = true) (hl : ds.length ≤ sizeLine)
    (step : ∀ d ∈ ds, ∃ ρ1, Agr vs ρ' ρ1 ∧ ρ1.c = ρ'.c ∧ RnG g d (ρ'.wipe vs) ρ1 ∧ RnE e ρ1 ρ1 (f d)) : RnE (dLc s g dYes e vs) ρ ρ' (.lst (ds.map f)) := by
  have h := RnE.lcF (tt := dYes) (e := e) (g := g) (vs := vs) f (fun _ => true) hs hn hl (fun d hd => by
    obtain ⟨ρ1, a, b, c, h⟩ := step d hd
    exact ⟨ρ1, a, b, c, RnT.yes, fun _ => h⟩)
  rw [filter_yes] at h
  exact h
/-- a comprehension over the keys and values of a dict -/
theorem RnE.lcK {fn : List (List Key × D) → List D} {i : Nat} {g : DG} {tt : DT} {e : DE} {vs : List Nat} {l : List (List Key × D)} (f : D → D) (p : D → Bool) (hi : ρ.sl[i]? = some (.v (dicP l))) (hn : noOwn ρ vs = true) (hl : (fn l).length ≤ sizeLine)
    (step : ∀ d ∈ fn l, ∃ ρ1, Agr vs ρ ρ1 ∧ ρ1.c = ρ.c ∧ RnG g d (ρ.wipe vs) ρ1 ∧ RnT tt ρ1 ρ1 (p d) ∧ (p d = true → RnE e ρ1 ρ1 (f d))) : RnE (dLcK fn i g tt e vs) ρ ρ (.lst (((fn l).filter p).map f)) := fun Q q => RnE.var hi _ ⟨l, rfl, hn, lc_run f p hl step _ q⟩
/-! statements -/
theorem dsIf {c : DT} {t u : DS} {DD : DEnds} (b : Bool) (h : RnT c ρ ρ' b) (k : b = true → t DD ρ') (l : b = false → u DD ρ') : dIfSC c t u DD ρ := h _ ⟨fun hb => k hb, fun hb => l hb⟩
theorem dsAsg {e : DE} {g : DG} {DD : DEnds} {d : D} (h : RnE e ρ ρ1 d) (k : RnG g d ρ1 ρ') (q : DD.nx ρ') : dAsg e g DD ρ := h _ (k _ q)
theorem dsAsgN {e : DE} {i : Nat} {DD : DEnds} {d : D} (h : RnE e ρ ρ1 d) (q : DD.nx (ρ1.set i (.o d))) : dAsgN e i DD ρ := h _ q
theorem dsRet {e : DE} {DD : DEnds} {d : D} (h : RnE e ρ ρ1 d) (q : DD.rt ρ1 d) : dRet e DD ρ := h _ q
theorem dsSeq {t u : DS} {DD : DEnds} (h : t { DD with nx := u DD } ρ) : dSeq t u DD ρ := h
/-! slots -/
theorem at_set {i : Nat} {s : Sl} (h : i < ρ.sl.length) : (ρ.set i s).sl[i]? = some s := by
  show (ρ.sl.set i s)[i]? = _
  rw [List.getElem?_set_self h]
theorem at_ne {i j : Nat} {s : Sl} (h : i ≠ j) : (ρ.set i s).sl[j]? = ρ.sl[j]? := by
  show (ρ.sl.set i s)[j]? = _
  rw [List.getElem?_set_ne h]
theorem len_set {i : Nat} {s : Sl} : (ρ.set i s).sl.length = ρ.sl.length := by
  show (ρ.sl.set i s).length = _
  rw [List.length_set]
theorem len_wipe {vs : List Nat} : (ρ.wipe vs).sl.length = ρ.sl.length := wipeS_length _ _
theorem ag_wipe {vs : List Nat} : Agr vs ρ (ρ.wipe vs) := ⟨wipeS_length _ _, fun j hj => wipeS_ne hj⟩
theorem ag1 {i : Nat} {s : Sl} : Agr [i] ρ ((ρ.wipe [i]).set i s) := ag_wipe.put (List.mem_singleton.mpr rfl)
theorem ag2 {i j : Nat} {s t : Sl} : Agr [i, j] ρ (((ρ.wipe [i, j]).set i s).set j t) := (ag_wipe.put (List.mem_cons_self ..)).put (List.mem_cons_of_mem _ (List.mem_singleton.mpr rfl))
theorem atw1 {i : Nat} {s : Sl} (h : i < ρ.sl.length) : ((ρ.wipe [i]).set i s).sl[i]? = some s := at_set (by rw [len_wipe]; exact h)
theorem atw2 {i j : Nat} {s t : Sl} (h : j < ρ.sl.length) : (((ρ.wipe [i, j]).set i s).set j t).sl[j]? = some t := at_set (by rw [len_set, len_wipe]; exact h)
theorem atw2' {i j : Nat} {s t : Sl} (hij : j ≠ i) (h : i < ρ.sl.length) : (((ρ.wipe [i, j]).set i s).set j t).sl[i]? = some s := by
  rw [at_ne hij]; exact at_set (by rw [len_wipe]; exact h)
/-! operations -/
theorem ob_eqI {x y : Int} : OpB gEq (.int x) (.int y) (.bl (decide (x = y))) := fun ρ Q q => ⟨_, (by unfold eqD; rfl), q⟩
theorem ob_ix {x : D} {xs : List D} {i : Nat} {d : D} (hx : rowOf x = some xs) (hi : xs[i]? = some d) : OpB gIx x (.int (i : Nat)) d := fun ρ Q q => gIx_row hx hi q
theorem ou_len {x : D} {xs : List D} (hx : rowOf x = some xs) : OpU gLen [x] (.int xs.length) := fun ρ Q q => gLen_row hx q
theorem ob_I0 {f : Int → Int → D} {x y : Int} : OpB (gI0 f) (.int x) (.int y) (f x y) := fun ρ Q q => q
theorem ou_all {bs : List Bool} : OpU (fun ds ρ1 (Q : Ev → D → Prop) => ∃ bs : List Bool, ds = [.lst (bs.map .bl)] ∧ Q ρ1 (.bl (bs.all id))) [.lst (bs.map .bl)] (.bl (bs.all id)) := fun ρ Q q => ⟨bs, rfl, q⟩
/-- all([f(one) for one in ds]) -/
theorem RnE.all {s : DI} {g : DG} {e : DE} {vs : List Nat} {ds : List D} (f : D → Bool) (hs : RnA s ρ ρ' ds) (hn : noOwn ρ' vs = true) (hl : ds.length ≤ sizeLine)
    (step : ∀ d ∈ ds, ∃ ρ1, Agr vs ρ' ρ1 ∧ ρ1.c = ρ'.c ∧ RnG g d (ρ'.wipe vs) ρ1 ∧ RnE e ρ1 ρ1 (.bl (f d))) :
    RnE (fun ρ Q => dCons (dLc s g dYes e vs) dNil ρ fun ρ1 ds => ∃ bs : List Bool, ds = [.lst (bs.map .bl)] ∧ Q ρ1 (.bl (bs.all id))) ρ ρ' (.bl (ds.all f)) := by
  have h := RnE.lc (e := e) (g := g) (vs := vs) (fun d => .bl (f d)) hs hn hl step
  have e1 : ds.map (fun d => D.bl (f d)) = (ds.map f).map .bl := by rw [List.map_map]; rfl
  have e2 : ds.all f = (ds.map f).all id := by rw [List.all_map]; rfl
  rw [e1] at h; rw [e2]
  intro Q q
  exact h _ ⟨_, rfl, q⟩
end
end DL
namespace DL
open PySem L2
section
variable {ρ ρ1 ρ2 ρ' : Ev}
theorem RnA.star {e : DE} {r : DA} {x : D} {xs ys : List D} (h : RnE e ρ ρ1 x) (hx : rowOf x = some xs) (k : RnA r ρ1 ρ' ys) :
    RnA (fun ρ Q => e ρ fun ρ1 x => match x with | .lst xs => r ρ1 fun ρ2 ys => Q ρ2 (xs ++ ys) | .tup xs => r ρ1 fun ρ2 ys => Q ρ2 (xs ++ ys) | _ => False) ρ ρ' (xs ++ ys) := fun Q q => h _ (by cases x <;> cases hx <;> exact k _ q)
/-- the least of 0 and some integers -/
def mn : List Int → Int
  | [] => 0
  | x :: xs => if x ≤ mn xs then x else mn xs
theorem mn_le0 : ∀ xs, mn xs ≤ 0
  | [] => Int.le_refl _
  | x :: xs => by
    have h := mn_le0 xs
    show (if x ≤ mn xs then x else mn xs) ≤ 0
    split <;> omega
theorem mn_le : ∀ xs, ∀ y ∈ xs, mn xs ≤ y
  | x :: xs, y, hy => by
    show (if x ≤ mn xs then x else mn xs) ≤ y
    rcases List.mem_cons.mp hy with rfl | hy
    · split <;> omega
    · have := mn_le xs y hy
      split <;> omega
theorem mn_mem : ∀ xs, mn xs = 0 ∨ mn xs ∈ xs
  | [] => .inl rfl
  | x :: xs => by
    show (if x ≤ mn xs then x else mn xs) = 0 ∨ (if x ≤ mn xs then x else mn xs) ∈ x :: xs
    split
    · exact .inr (List.mem_cons_self ..)
    · rcases mn_mem xs with h | h
      · exact .inl h
      · exact .inr (List.mem_cons_of_mem _ h)
theorem mn_zero : ∀ xs : List Int, decide (mn xs = 0) = xs.all fun i => decide (0 ≤ i) := fun xs => by
  rw [Bool.eq_iff_iff, decide_eq_true_iff, List.all_eq_true]
  constructor
  · intro h y hy
    have := mn_le xs y hy
    exact decide_eq_true (by omega)
  · intro h
    rcases mn_mem xs with h1 | h1
    · exact h1
    · have := of_decide_eq_true (h _ h1)
      have := mn_le0 xs
      omega
theorem mn_uniq {xs : List Int} {m : Int} (hm : m ∈ 0 :: xs) (hle : ∀ y ∈ 0 :: xs, m ≤ y) : m = mn xs := by
  have h1 := hle 0 (List.mem_cons_self ..)
  have h3 : mn xs ∈ 0 :: xs := by
    rcases mn_mem xs with h | h
    · rw [h]; exact List.mem_cons_self ..
    · exact List.mem_cons_of_mem _ h
  have h2 := hle _ h3
  rcases List.mem_cons.mp hm with rfl | h
  · have := mn_le0 xs; omega
  · have := mn_le xs m h; omega
theorem RnE.min {a : DA} {ns : List Int} (h : RnA a ρ ρ' [.lst ((0 :: ns).map .int)]) : RnE (fun ρ Q => a ρ fun ρ1 ds => ∃ ns : List Int, ds = [.lst (ns.map .int)] ∧ 0 < ns.length ∧ ∀ m ∈ ns, (∀ y ∈ ns, m ≤ y) → Q ρ1 (.int m)) ρ ρ' (.int (mn ns)) := fun Q q => h _ ⟨_, rfl, Nat.succ_pos _, fun m hm hle => by rw [mn_uniq hm hle]; exact q⟩
theorem map_back {α β : Type} {f : α → β} {g : β → α} (h : ∀ x, g (f x) = x) : ∀ l : List α, (l.map f).map g = l
  | [] => rfl
  | x :: xs => by show g (f x) :: _ = _; rw [h x, map_back h xs]
def iOf : D → Int
  | .int i => i
  | _ => 0
theorem ints_of : ∀ {xs : List D}, (∀ x ∈ xs, ∃ i, x = .int i) → xs = (xs.map iOf).map .int
  | [], _ => rfl
  | x :: xs, h => by
    obtain ⟨i, rfl⟩ := h x (List.mem_cons_self ..)
    show _ = D.int i :: _
    rw [← ints_of fun y hy => h y (List.mem_cons_of_mem _ hy)]
/-! the same, the walked values told by a map -/
theorem lc_runX {α : Type} {xs : List α} {r : α → D} {g : DG} {tt : DT} {e : DE} {vs : List Nat} (f : α → D) (p : α → Bool) (hl : xs.length ≤ sizeLine)
    (step : ∀ x ∈ xs, ∃ ρ1, Agr vs ρ ρ1 ∧ ρ1.c = ρ.c ∧ RnG g (r x) (ρ.wipe vs) ρ1 ∧ RnT tt ρ1 ρ1 (p x) ∧ (p x = true → RnE e ρ1 ρ1 (f x))) (K : Ev → List D → Prop) (hK : K ρ ((xs.filter p).map f)) : dLcL g tt e vs (xs.map r) ρ [] K := by
  refine lc_inv (fun k c acc => c = ρ.c ∧ acc = ((xs.take k).filter p).map f) (fun k d acc c T U hd hI hT hU => ?_) (fun k c acc hk hI => ?_) ⟨rfl, by rw [List.take_zero]; rfl⟩ (fun c acc hI => ?_)
  · obtain ⟨rfl, rfl⟩ := hI
    rw [List.getElem?_map] at hd
    cases hz : xs[k]? with
    | none => rw [hz] at hd; cases hd
    | some x =>
      rw [hz] at hd
      cases hd
      obtain ⟨ρ1, ag, hc, hg, ht, he⟩ := step x (List.mem_of_getElem? hz)
      refine hg _ (ht _ ?_)
      have e1 : ((List.take (k + 1) xs).filter p).map f = ((List.take k xs).filter p).map f ++ (if p x then [f x] else []) := by
        rw [List.take_add_one, hz, List.filter_append, List.map_append]
        congr 1
        show List.map f (List.filter p [x]) = _
        rw [List.filter_cons]
        by_cases hp : p x = true
        · rw [if_pos hp, if_pos hp]; rfl
        · rw [if_neg hp, if_neg hp]; rfl
      cases hp : p x with
      | true => exact he hp _ (hT _ _ ag ⟨hc, by rw [e1, hp]; rfl⟩)
      | false => exact hU _ ag ⟨hc, by rw [e1, hp]; exact (List.append_nil _).symm⟩
  · rw [hI.2, List.length_map]
    rw [List.length_map] at hk
    have h1 := List.length_filter_le p (xs.take k)
    have h2 : (xs.take k).length ≤ k := by rw [List.length_take]; omega
    omega
  · obtain ⟨rfl, rfl⟩ := hI
    rw [List.length_map, List.take_length]; exact hK
theorem RnE.lcX {α : Type} {xs : List α} {r : α → D} {s : DI} {g : DG} {tt : DT} {e : DE} {vs : List Nat} (f : α → D) (p : α → Bool) (hs : RnA s ρ ρ' (xs.map r)) (hn : noOwn ρ' vs = true) (hl : xs.length ≤ sizeLine)
    (step : ∀ x ∈ xs, ∃ ρ1, Agr vs ρ' ρ1 ∧ ρ1.c = ρ'.c ∧ RnG g (r x) (ρ'.wipe vs) ρ1 ∧ RnT tt ρ1 ρ1 (p x) ∧ (p x = true → RnE e ρ1 ρ1 (f x))) : RnE (dLc s g tt e vs) ρ ρ' (.lst ((xs.filter p).map f)) := fun Q q => hs _ ⟨hn, lc_runX f p hl step _ q⟩
theorem RnE.lcY {α : Type} {xs : List α} {r : α → D} {s : DI} {g : DG} {e : DE} {vs : List Nat} (f : α → D) (hs : RnA s ρ ρ' (xs.map r)) (hn : noOwn ρ' vs = true) (hl : xs.length ≤ sizeLine)
    (step : ∀ x ∈ xs, ∃ ρ1, Agr vs ρ' ρ1 ∧ ρ1.c = ρ'.c ∧ RnG g (r x) (ρ'.wipe vs) ρ1 ∧ RnE e ρ1 ρ1 (f x)) : RnE (dLc s g dYes e vs) ρ ρ' (.lst (xs.map f)) := by
  have h := RnE.lcX (tt := dYes) (e := e) (g := g) (vs := vs) f (fun _ => true) hs hn hl (fun d hd => by
    obtain ⟨ρ1, a, b, c, h⟩ := step d hd
    exact ⟨ρ1, a, b, c, RnT.yes, fun _ => h⟩)
  rw [filter_yes] at h
  exact h
theorem RnE.lcKX {α : Type} {xs : List α} {r : α → D} {fn : List (List Key × D) → List D} {i : Nat} {g : DG} {tt : DT} {e : DE} {vs : List Nat} {l : List (List Key × D)} {s : Sl} (f : α → D) (p : α → Bool) (hi : ρ.sl[i]? = some s) (hv : s = .v (dicP l) ∧ ρ' = ρ ∨ s = .o (dicP l) ∧ ρ' = ρ.set i (.v (dicP l))) (hx : fn l = xs.map r) (hn : noOwn ρ' vs = true) (hl : xs.length ≤ sizeLine)
    (step : ∀ x ∈ xs, ∃ ρ1, Agr vs ρ' ρ1 ∧ ρ1.c = ρ'.c ∧ RnG g (r x) (ρ'.wipe vs) ρ1 ∧ RnT tt ρ1 ρ1 (p x) ∧ (p x = true → RnE e ρ1 ρ1 (f x))) : RnE (dLcK fn i g tt e vs) ρ ρ' (.lst ((xs.filter p).map f)) := fun Q q => by
  have h : ∀ Q : Ev → D → Prop, Q ρ' (dicP l) → dVar i ρ Q := by
    rcases hv with ⟨rfl, rfl⟩ | ⟨rfl, rfl⟩
    · exact RnE.var hi
    · exact RnE.own hi
  refine h _ ⟨l, rfl, hn, ?_⟩
  rw [hx]
  exact lc_runX f p hl step _ q
/-- tuple(a row) -/
theorem ov_tup {x : D} {xs : List D} (hx : rowOf x = some xs) : OpV gTupTh x (.tup xs) := fun ρ Q q => by cases x <;> cases hx <;> exact q
end
end DL

-- part K08E
set_option maxHeartbeats 4000000
/-! K08: degree_of, are_terms -/
namespace DL
namespace K08
open PySem PySem.Spec PyProof.Rows L2
abbrev sDeg : Stmt := topS 19
abbrev sAreT : Stmt := topS 20
theorem scDeg : FnScope ["powers"] ["powers"] (defScope sDeg) := ⟨rfl, rfl, rfl, by decide +kernel, rfl, by decide +kernel, by decide +kernel⟩
theorem scAreT : FnScope ["value", "many", "pair", "number", "powers"] ["value", "many"] (defScope sAreT) := ⟨rfl, rfl, rfl, by decide +kernel, rfl, by decide +kernel, by decide +kernel⟩
def gDeg : GF := fun ds c Q => ∃ ns : List Int, (ds = [.lst (ns.map .int)] ∨ ds = [.tup (ns.map .int)]) ∧ Q (.int ns.sum) c
section
variable {P : Program} {w : World} {K : PySem.W.Frag} {mg : Str → Option Value} {base : Heap} {cls : Str → Option Addr}
theorem ok_deg {f : Addr} {fd : FuncData} {k : Nat} (F : Fun K "degree_of" "degree_of" sDeg f fd) (BL : Blt mg) : FnOk P w K mg base CX0 (k + 1) f fd ["powers"] (spD K cls gDeg) := by
  refine F.ok scDeg (fun vs H Q E h => len_of (n := 1) (fun ds c QD ⟨ns, e, _⟩ => by rcases e with e | e <;> rw [e] <;> rfl) h) (fun cdv A outer s H vs Q E hr h => ?_)
  refine ⟨_, (pss_one (ps_ret (pe_callB (r := rSumA K) (cr_sumA rfl) (by rfl) BL.m_sum (by decide +kernel) (pa_cons (pv 0) pa_nil)))),
    body_of (fun pw B hio => (rs_ret (re_sumA (ra_cons (re_var (i := 0) hio) ra_nil)))) ?_ h⟩
  rintro ds c QD ⟨ns, e, q⟩
  rcases e with rfl | rfl
  · exact ⟨by show 1 ≤ 1; decide, ns, .inl rfl, q⟩
  · exact ⟨by show 1 ≤ 1; decide, ns, .inr rfl, q⟩
/-! are_terms -/
/-- data to the depth of a row of rows of rows -/
def deep : Nat → D → Bool
  | 0, d => plain d
  | n + 1, d => plain d && match rowOf d with | some xs => decide (xs.length ≤ 1048576) && xs.all (deep n) | none => true
def item (d : D) (i : Nat) : D := match rowOf d with | some xs => xs.getD i .non | none => .non
def pairB (d : D) : Bool := match rowOf d with | some xs => decide (xs.length = 2) | none => false
def termB (n : Int) (d : D) : Bool := isInt (item d 0) && aiB n (item d 1)
def intsOf (d : D) : List Int := match rowOf d with | some xs => xs.map (fun x => match x with | .int i => i | _ => 0) | none => []
def degB (d : D) : Bool := (intsOf (item d 1)).all (fun i => decide (0 ≤ i)) && decide ((intsOf (item d 1)).sum ≤ 3)
def areT (d : D) (n : Int) : Bool := match rowOf d with
  | some xs => xs.all pairB && xs.all (termB n) && xs.all degB
  | none => false
def gAreT : GF := fun ds c Q => ∃ x n, ds = [x, .int n] ∧ deep 3 x = true ∧ Q (.bl (areT x n)) c
theorem ok_areT {f f1 f2 f3 f4 : Addr} {fd d1 d2 d3 d4 : FuncData} {k : Nat} (F : Fun K "are_terms" "are_terms" sAreT f fd) (BL : Blt mg) {tk : Tok} (g_MOST_DEGREE : mg "MOST_DEGREE" = some (.int 3 tk))
    (A_is_row : Fn1 K mg "is_row" sIsR ["value"] f1 d1) (A_is_integer : Fn1 K mg "is_integer" sIsI ["value"] f2 d2) (A_are_integers : Fn1 K mg "are_integers" sAreI ["value", "size"] f3 d3) (A_degree_of : Fn1 K mg "degree_of" sDeg ["powers"] f4 d4) :
    FnOk P w K mg base CX0 (k + 3) f fd ["value", "many"] (spD K cls gAreT) := by
  have G_is_row : FnOk P w K mg base CX0 (k + 1 + 1) f1 d1 ["value"] (spD K cls gIsR) := ok_isR A_is_row.fn BL.m_isinstance BL.m_list BL.m_tuple
  have G_is_integer : FnOk P w K mg base CX0 (k + 1 + 1) f2 d2 ["value"] (spD K cls gIsI) := ok_isI A_is_integer.fn BL.m_isinstance BL.m_int BL.m_bool
  have G_are_integers : FnOk P w K mg base CX0 (k + 2) f3 d3 ["value", "size"] (spD K cls gAreI) := ok_areI A_are_integers.fn A_is_integer.fn A_is_integer.bd A_is_integer.gl A_is_row.fn A_is_row.bd A_is_row.gl BL.m_isinstance BL.m_int BL.m_bool BL.m_list BL.m_tuple BL.m_len BL.m_all
  have G_degree_of : FnOk P w K mg base CX0 (k + 1 + 1) f4 d4 ["powers"] (spD K cls gDeg) := ok_deg A_degree_of.fn BL
  refine F.ok scAreT (fun vs H Q E h => len_of (n := 2) (fun ds c QD ⟨x, n, e, _⟩ => by rw [e]; rfl) h) (fun cdv A outer s H vs Q E hr h => ?_)
  have hu := hr.units
  refine ⟨_, (pss_cons (ps_if (PW.pt (pw_or (pt_not (pt_val (pe_call G_is_row (by exact hr) (by rfl) A_is_row.gl A_is_row.fn.kp A_is_row.bd .nil pass0 (pa_cons (pv 0) pa_nil)))) (pw_or1 (pt_not (pt_val (pe_callB (r := rAll K) (cr_all rfl) (by rfl) BL.m_all (by decide +kernel) (pa_cons (pe_lc rfl scAreT.nd (pi_seq (pv 0)) (own := [("pair", 2)]) (blkOk_by rfl) (fun _ _ _ _ _ => (pg_name (i := 2) scAreT.nd rfl (.inl rfl))) (fun _ _ _ _ _ => pts_nil) (fun _ _ _ _ _ => (pe_and (pe_call G_is_row (by exact hr) (by rfl) A_is_row.gl A_is_row.fn.kp A_is_row.bd .nil pass0 (pa_cons (pv 2) pa_nil)) (pe_one (pe_cmpR (r := rEqD K) (op_eqD hu) (pe_callB (r := rLenK K) call_len (by rfl) BL.m_len PySem.boot_len (pa_cons (pv 2) pa_nil)) pe_int (nomark _)))))) pa_nil))))))) (pss_one (ps_ret pe_bl)) pss_nil)
    (pss_cons (ps_if (pt_not (pt_val (pe_callB (r := rAll K) (cr_all rfl) (by rfl) BL.m_all (by decide +kernel) (pa_cons (pe_lc rfl scAreT.nd (pi_seq (pv 0)) (own := [("pair", 2)]) (blkOk_by rfl) (fun _ _ _ _ _ => (pg_name (i := 2) scAreT.nd rfl (.inl rfl))) (fun _ _ _ _ _ => pts_nil) (fun _ _ _ _ _ => (pe_and (pe_call G_is_integer (by exact hr) (by rfl) A_is_integer.gl A_is_integer.fn.kp A_is_integer.bd .nil pass0 (pa_cons (pe_ix (r := rIxK K) (ix_list.or ix_tup) (pv 2) pe_int (fun _ _ => rfl)) pa_nil)) (pe_one (pe_call G_are_integers (by exact hr) (by rfl) A_are_integers.gl A_are_integers.fn.kp A_are_integers.bd .nil pass0 (pa_cons (pe_ix (r := rIxK K) (ix_list.or ix_tup) (pv 2) pe_int (fun _ _ => rfl)) (pa_cons (pv 1) pa_nil))))))) pa_nil)))) (pss_one (ps_ret pe_bl)) pss_nil)
    (pss_one (ps_ret (pe_callB (r := rAll K) (cr_all rfl) (by rfl) BL.m_all (by decide +kernel) (pa_cons (pe_lc rfl scAreT.nd (pi_seq (pv 0)) (own := [("number", 3), ("powers", 4)]) (blkOk_by rfl) (fun _ _ _ _ _ => (pg_rowK (K := K) (n := 2) rfl rfl (pgs_cons (pg_name (i := 3) scAreT.nd rfl (.inl rfl)) (pgs_cons (pg_name (i := 4) scAreT.nd rfl (.inl rfl)) pgs_nil)))) (fun _ _ _ _ _ => pts_nil) (fun _ _ _ _ _ => (pe_and (pe_cmpR (r := rEqD K) (op_eqD hu) (pe_callB (r := rMin K) (cr_min rfl) (by rfl) BL.m_min (by decide +kernel) (pa_cons (pe_lst (pa_cons pe_int (pa_starK (K := K) rfl (pv 4) pa_nil))) pa_nil)) pe_int (nomark _)) (pe_one (pe_cmpR op_le (pe_call G_degree_of (by exact hr) (by rfl) A_degree_of.gl A_degree_of.fn.kp A_degree_of.bd .nil pass0 (pa_cons (pv 4) pa_nil)) (pe_glob (by rfl) g_MOST_DEGREE (v := .int 3) ⟨_, rfl⟩) (nomark _)))))) pa_nil)))))),
    body_of (fun pw B hio => (rs_seq (rs_ifC (rt_orC (rt_not (rt_BC (re_call (E := E0) (ra_cons (re_var (i := 0) hio) ra_nil)))) (rt_not (rt_BC (re_all (ra_cons (RN.re (rn_lc (is := [2]) (vs := [2]) (ri_seq (re_var (i := 0) hio)) (fun B hb => by have hio := hb.trans hio; exact (rg_name (i := 2))) (fun B hb => by have hio := hb.trans hio; exact rt_yes) (fun B hb => by have hio := hb.trans hio; exact (re_andVC (re_call (E := E0) (ra_cons (re_var (i := 2) hio) ra_nil)) (re_eqD (re_len (ra_cons (re_var (i := 2) hio) ra_nil)) re_c))) (fun _ h => h))) ra_nil))))) (rs_ret re_c) rs_next)
    (rs_seq (rs_ifC (rt_not (rt_BC (re_all (ra_cons (RN.re (rn_lc (is := [2]) (vs := [2]) (ri_seq (re_var (i := 0) hio)) (fun B hb => by have hio := hb.trans hio; exact (rg_name (i := 2))) (fun B hb => by have hio := hb.trans hio; exact rt_yes) (fun B hb => by have hio := hb.trans hio; exact (re_andVC (re_call (E := E0) (ra_cons (re_ix (re_var (i := 2) hio) re_c) ra_nil)) (re_call (E := E0) (ra_cons (re_ix (re_var (i := 2) hio) re_c) (ra_cons (re_var (i := 1) hio) ra_nil))))) (fun _ h => h))) ra_nil)))) (rs_ret re_c) rs_next)
    (rs_ret (re_all (ra_cons (RN.re (rn_lc (is := [3, 4]) (vs := [3, 4]) (ri_seq (re_var (i := 0) hio)) (fun B hb => by have hio := hb.trans hio; exact (rg_row (rgs_cons (rg_name (i := 3)) (rgs_cons (rg_name (i := 4)) rgs_nil)))) (fun B hb => by have hio := hb.trans hio; exact rt_yes) (fun B hb => by have hio := hb.trans hio; exact (re_andVC (re_eqD (re_min (ra_cons (re_lst (ra_cons re_c (ra_star (re_var (i := 4) hio) ra_nil))) ra_nil)) re_c) (re_I0 (re_call (E := E0) (ra_cons (re_var (i := 4) hio) ra_nil)) re_c))) (fun _ h => h))) ra_nil)))))) ?_ h⟩
  rintro ds c QD ⟨x, n, rfl, hd, q⟩
  refine ⟨by show 2 ≤ 5; decide, ?_⟩
  have deepP : ∀ k d, deep k d = true → plain d = true := fun k d h => by
    cases k with
    | zero => exact h
    | succ k => unfold deep at h; exact (Bool.and_eq_true_iff.mp h).1
  have deepR : ∀ k d xs, deep (k + 1) d = true → rowOf d = some xs → xs.length ≤ 1048576 ∧ ∀ y ∈ xs, deep k y = true := fun k d xs h e => by
    unfold deep at h
    rw [e] at h
    obtain ⟨a, b⟩ := Bool.and_eq_true_iff.mp (Bool.and_eq_true_iff.mp h).2
    exact ⟨of_decide_eq_true a, List.all_eq_true.mp b⟩
  have hB : 1048576 ≤ sizeLine := by decide
  have hrow : ∀ d, isRow d = (rowOf d).isSome := fun d => by cases d <;> rfl
  generalize hρ : ent (Str.ofString "value" :: [Str.ofString "many", Str.ofString "pair", Str.ofString "number", Str.ofString "powers"]).length [x, .int n] c = ρ
  have h0 : ρ.sl[0]? = some (.v x) := by rw [← hρ]; rfl
  have h1 : ρ.sl[1]? = some (.v (.int n)) := by rw [← hρ]; rfl
  have hl : ρ.sl.length = 5 := by rw [← hρ]; rfl
  have hc : ρ.c = c := by rw [← hρ]; rfl
  have hn2 : noOwn ρ [2] = true := by rw [← hρ]; rfl
  have hn34 : noOwn ρ [3, 4] = true := by rw [← hρ]; rfl
  have px := deepP 3 x hd
  cases hx : rowOf x with
  | none =>
    have q : QD (.bl false) c := by unfold areT at q; rw [hx] at q; exact q
    refine dsSeq (dsIf true (RnT.orT (RnT.not (b := false) (RnT.bc (RnE.call (RnA.one (RnE.var h0)) (fun c Q q => ⟨x, rfl, px, ?_⟩))))) (fun _ => dsRet RnE.c (by show QD _ ρ.c; rw [hc]; exact q)) (fun h => by cases h))
    rw [hrow x, hx]; exact q
  | some xs =>
    obtain ⟨hlx, hdx⟩ := deepR 2 x xs hd hx
    have q : QD (.bl (xs.all pairB && xs.all (termB n) && xs.all degB)) c := by unfold areT at q; rw [hx] at q; exact q
    have c0 : OpF gIsR [x] (.bl true) := fun c Q q => ⟨x, rfl, px, by rw [hrow x, hx]; exact q⟩
    have hpair : ∀ d, pairB d = (isRow d && match rowOf d with | some ys => decide ((ys.length : Int) = 2) | none => false) := fun d => by
      unfold pairB
      rw [hrow d]
      cases rowOf d with
      | none => rfl
      | some ys => 
        show decide _ = (true && decide _)
        rw [Bool.true_and]
        exact decide_eq_decide.mpr ⟨fun h => by omega, fun h => by omega⟩
    refine dsSeq (dsIf (!(xs.all pairB)) (RnT.or (RnT.not (b := true) (RnT.bc (RnE.call (RnA.one (RnE.var h0)) c0))) (RnT.not (RnT.bc (RnE.all pairB (RnA.seq (RnE.var h0) hx) hn2 (Nat.le_trans hlx hB) (fun d hd1 => ?_))))) (fun hb => ?_) (fun hb => ?_))
    · refine ⟨_, ag1, rfl, RnG.name, ?_⟩
      have at2 := atw1 (ρ := ρ) (i := 2) (s := .v d) (by omega)
      have pd := deepP 2 d (hdx d hd1)
      rw [hpair d]
      refine RnE.andV (RnE.call (RnA.one (RnE.var at2)) (fun c Q q => ⟨d, rfl, pd, q⟩)) (fun hr => ?_)
      rw [hrow d] at hr
      cases hr2 : rowOf d with
      | none => rw [hr2] at hr; cases hr
      | some ys => exact RnE.bin (RnE.app (RnA.one (RnE.var at2)) (ou_len hr2)) RnE.c ob_eqI
    · refine dsRet RnE.c ?_
      show QD _ ρ.c
      rw [hc]
      have e : xs.all pairB = false := by simpa using hb
      rw [e] at q; exact q
    have e1 : xs.all pairB = true := by simpa using hb
    rw [e1, Bool.true_and] at q
    have two : ∀ d ∈ xs, ∃ a b, rowOf d = some [a, b] ∧ deep 1 a = true ∧ deep 1 b = true := fun d hd1 => by
      have h := List.all_eq_true.mp e1 d hd1
      unfold pairB at h
      cases hr2 : rowOf d with
      | none => rw [hr2] at h; cases h
      | some ys =>
        rw [hr2] at h
        obtain ⟨_, hdy⟩ := deepR 1 d ys (hdx d hd1) hr2
        match ys, of_decide_eq_true h with
        | [a, b], _ => exact ⟨a, b, rfl, hdy a (List.mem_cons_self ..), hdy b (List.mem_cons_of_mem _ (List.mem_singleton.mpr rfl))⟩
    have it : ∀ d a b, rowOf d = some [a, b] → item d 0 = a ∧ item d 1 = b := fun d a b h => by
      unfold item; rw [h]; exact ⟨rfl, rfl⟩
    refine dsSeq (dsIf (!(xs.all (termB n))) (RnT.not (RnT.bc (RnE.all (termB n) (RnA.seq (RnE.var h0) hx) hn2 (Nat.le_trans hlx hB) (fun d hd1 => ?_)))) (fun hb => ?_) (fun hb => ?_))
    · refine ⟨_, ag1, rfl, RnG.name, ?_⟩
      have at2 := atw1 (ρ := ρ) (i := 2) (s := .v d) (by omega)
      have at1 : ((ρ.wipe [2]).set 2 (.v d)).sl[1]? = some (.v (.int n)) := (ag1.2 1 (by decide)).trans h1
      obtain ⟨a, b, hr2, da, db⟩ := two d hd1
      obtain ⟨i0, i1⟩ := it d a b hr2
      unfold termB
      rw [i0, i1]
      refine RnE.andV (RnE.call (RnA.one (RnE.bin (RnE.var at2) RnE.c (ob_ix (i := 0) hr2 rfl))) (fun c Q q => ⟨a, rfl, deepP 1 a da, q⟩)) (fun hr => ?_)
      refine RnE.call (RnA.cons (RnE.bin (RnE.var at2) RnE.c (ob_ix (i := 1) hr2 rfl)) (RnA.one (RnE.var at1))) (fun c Q q => ⟨b, n, rfl, deepP 1 b db, fun ys hy => ?_, q⟩)
      obtain ⟨h3, h4⟩ := deepR 0 b ys db hy
      exact ⟨h3, List.all_eq_true.mpr h4⟩
    · refine dsRet RnE.c ?_
      show QD _ ρ.c
      rw [hc]
      have e : xs.all (termB n) = false := by simpa using hb
      rw [e] at q; exact q
    have e2 : xs.all (termB n) = true := by simpa using hb
    rw [e2, Bool.true_and] at q
    refine dsRet (RnE.all degB (RnA.seq (RnE.var h0) hx) hn34 (Nat.le_trans hlx hB) (fun d hd1 => ?_)) (by show QD _ ρ.c; rw [hc]; exact q)
    obtain ⟨a, b, hr2, da, db⟩ := two d hd1
    obtain ⟨i0, i1⟩ := it d a b hr2
    have ht := List.all_eq_true.mp e2 d hd1
    unfold termB at ht
    rw [i0, i1] at ht
    have hai := (Bool.and_eq_true_iff.mp ht).2
    unfold aiB at hai
    cases hy : rowOf b with
    | none => rw [hy] at hai; cases hai
    | some ys =>
      rw [hy] at hai
      have hai := List.all_eq_true.mp (Bool.and_eq_true_iff.mp hai).2
      obtain ⟨ns, hns⟩ : ∃ ns : List Int, ys = ns.map .int := ⟨_, ints_of (fun x hx => by
        have := hai x hx
        cases x <;> first | exact ⟨_, rfl⟩ | cases this)⟩
      have hin : intsOf b = ns := by
        unfold intsOf
        rw [hy, hns]
        show (ns.map D.int).map _ = ns
        exact map_back (fun _ => rfl) ns
      have hyl := (deepR 0 b ys db hy).1
      have hnl : ns.length ≤ 1048576 := by rw [hns, List.length_map] at hyl; exact hyl
      refine ⟨_, ag2, rfl, RnG.row hr2 rfl (RnGs.cons RnG.name (RnGs.cons RnG.name RnGs.nil)), ?_⟩
      have at4 := atw2 (ρ := ρ) (i := 3) (j := 4) (s := .v a) (t := .v b) (by omega)
      unfold degB
      rw [i1, hin, ← mn_zero ns]
      have hbs : b = .lst (ns.map .int) ∨ b = .tup (ns.map .int) := by
        cases b <;> cases hy
        · exact .inl (by rw [hns])
        · exact .inr (by rw [hns])
      have hlen : (D.int 0 :: (ys ++ [])).length ≤ sizeLine := by
        rw [List.append_nil, List.length_cons]
        exact Nat.le_trans (Nat.add_le_add_right hyl 1) (by decide)
      have hmin := RnE.bin (RnE.min (ns := ns) (by
        have h := RnA.one (RnE.lst (RnA.cons (RnE.c (d := vC (V.int 0))) (RnA.star (RnE.var at4) hy RnA.nil)) hlen)
        rw [List.append_nil, hns] at h
        exact h)) (RnE.c (d := vC (V.int 0))) (ob_eqI (x := mn ns) (y := 0))
      refine RnE.andV hmin (fun hr => ?_)
      · exact RnE.bin (RnE.call (RnA.one (RnE.var at4)) (fun c Q q => ⟨ns, hbs.elim (fun h => .inl (by rw [h])) (fun h => .inr (by rw [h])), q⟩)) RnE.c ob_I0
end
end K08
end DL

-- part LP
set_option maxHeartbeats 4000000
/-! for one, often in zip(numbers, powers): for turn in range(often): found = found * one -/
namespace DL
open PySem L2
def pw : List (Int × Nat) → Int
  | [] => 1
  | p :: l => p.1 ^ p.2 * pw l
theorem pw_app : ∀ (l : List (Int × Nat)) (p : Int × Nat), pw (l ++ [p]) = pw l * p.1 ^ p.2
  | [], p => by show p.1 ^ p.2 * 1 = 1 * p.1 ^ p.2; omega
  | q :: l, p => by
    show q.1 ^ q.2 * pw (l ++ [p]) = q.1 ^ q.2 * pw l * p.1 ^ p.2
    rw [pw_app l p, Int.mul_assoc]
def pws (l : List (Int × Nat)) : Nat := (l.map (·.2)).sum
theorem ipow_le {n : Int} {k : Nat} (h : n.natAbs < 2 ^ 64) : (n ^ k).natAbs ≤ 2 ^ (64 * k) := by
  rw [Int.natAbs_pow, Nat.pow_mul]
  exact Nat.pow_le_pow_left (Nat.le_of_lt h) k
theorem pw_le : ∀ (l : List (Int × Nat)), (∀ p ∈ l, p.1.natAbs < 2 ^ 64) → (pw l).natAbs ≤ 2 ^ (64 * pws l)
  | [], _ => by decide
  | p :: l, h => by
    show (p.1 ^ p.2 * pw l).natAbs ≤ 2 ^ (64 * (p.2 + pws l))
    rw [Int.natAbs_mul, Nat.mul_add, Nat.pow_add]
    exact Nat.mul_le_mul (ipow_le (h p (List.mem_cons_self ..))) (pw_le l fun q hq => h q (List.mem_cons_of_mem _ hq))
theorem pws_take (l : List (Int × Nat)) (k : Nat) : pws (l.take k) ≤ pws l := by
  have h : pws l = pws (l.take k) + pws (l.drop k) := by
    unfold pws
    rw [← List.sum_append, ← List.map_append, List.take_append_drop]
  omega
theorem pws_mem {l : List (Int × Nat)} {p : Int × Nat} (h : p ∈ l) : p.2 ≤ pws l := by
  induction l with
  | nil => cases h
  | cons q l ih =>
    show p.2 ≤ q.2 + pws l
    rcases List.mem_cons.mp h with rfl | h
    · omega
    · have := ih h; omega
theorem ob_mul {x y : Int} {m n : Nat} (h1 : x.natAbs < 2 ^ m) (h2 : y.natAbs < 2 ^ n) (h : m + n ≤ 134217728) : OpB (gI PySem.IntMulOk fun i j => vC (.int (i * j))) (.int x) (.int y) (.int (x * y)) := fun ρ Q q => ⟨mulOk_of h1 h2 h, q⟩
theorem agr_at {vs : List Nat} {ρ ρ1 : Ev} (h : Agr vs ρ ρ1) {i : Nat} {s : Sl} (hi : i ∉ vs) (e : ρ.sl[i]? = some s) : ρ1.sl[i]? = some s := (h.2 i hi).trans e
def dPow (a b i j t r : Nat) (sd : DE) : DS := dFor (dZipS (dCons (dVar a) (dCons (dVar b) dNil))) (dgTup 2 (dgCons (dgName i) (dgCons (dgName j) dgNil))) (dFor (dRng1 (dCons (dVar j) dNil)) (dgName t) (dAsg sd (dgName r)))
theorem pow_loop {a b i j t r : Nat} {ρ : Ev} {x y : D} {ns : List Int} {ps : List Nat} {acc : Int} {DD : DEnds} (hd : [i, j, t, r].Nodup) (ha : a ∉ [i, j, t, r]) (hb : b ∉ [i, j, t, r])
    (h1 : ρ.sl[a]? = some (.v x)) (h2 : ρ.sl[b]? = some (.v y)) (hx : rowD x = some (ns.map .int)) (hy : rowD y = some (ps.map fun (n : Nat) => D.int n)) (hr : ρ.sl[r]? = some (.v (.int acc)))
    (hi : i < ρ.sl.length) (hj : j < ρ.sl.length) (ht : t < ρ.sl.length) (hA : acc.natAbs < 2 ^ 1000) (hN : ∀ n ∈ ns, n.natAbs < 2 ^ 64) (hS : pws (ns.zip ps) ≤ 1000) (hP : ∀ p ∈ ps, p ≤ 1000)
    (k : ∀ ρ', Agr [i, j, t, r] ρ ρ' → ρ'.c = ρ.c → ρ'.sl[r]? = some (.v (.int (acc * pw (ns.zip ps)))) → DD.nx ρ') :
    dPow a b i j t r (fun ρ Q => dVar r ρ fun ρ1 x => dVar i ρ1 fun ρ2 y => gI PySem.IntMulOk (fun i j => vC (.int (i * j))) x y ρ2 Q) DD ρ := by
  have hrl : r < ρ.sl.length := (List.getElem?_eq_some_iff.mp hr).1
  have nd : i ≠ j ∧ i ≠ t ∧ i ≠ r ∧ j ≠ t ∧ j ≠ r ∧ t ≠ r := by
    simp only [List.nodup_cons, List.mem_cons, List.not_mem_nil, or_false, not_or] at hd
    exact ⟨hd.1.1, hd.1.2.1, hd.1.2.2, hd.2.1.1, hd.2.1.2, hd.2.2.1⟩
  obtain ⟨nij, nit, nir, njt, njr, ntr⟩ := nd
  have mi : i ∈ [i, j, t, r] := List.mem_cons_self ..
  have mj : j ∈ [i, j, t, r] := List.mem_cons_of_mem _ (List.mem_cons_self ..)
  have mt : t ∈ [i, j, t, r] := List.mem_cons_of_mem _ (List.mem_cons_of_mem _ (List.mem_cons_self ..))
  have mr : r ∈ [i, j, t, r] := List.mem_cons_of_mem _ (List.mem_cons_of_mem _ (List.mem_cons_of_mem _ (List.mem_cons_self ..)))
  unfold dPow dFor dZipS
  refine RnA.cons (RnE.var h1) (RnA.one (RnE.var h2)) _ ?_
  refine ⟨_, _, hx, hy, ?_⟩
  have ez : ((ns.map D.int).zip (ps.map fun (n : Nat) => D.int n)).map (fun p => D.tup [p.1, p.2]) = (ns.zip ps).map fun p => D.tup [.int p.1, .int (p.2 : Nat)] := by
    rw [List.zip_map, List.map_map]; rfl
  rw [ez]
  refine for_inv (fun m ρ' => Agr [i, j, t, r] ρ ρ' ∧ ρ'.c = ρ.c ∧ ρ'.sl[r]? = some (.v (.int (acc * pw ((ns.zip ps).take m))))) (fun m d ρ1 N hd1 hJ hN1 => ?_) ⟨Agr.refl, rfl, by rw [List.take_zero]; show _ = some (Sl.v (.int (acc * 1))); rw [Int.mul_one]; exact hr⟩ (fun ρ' hJ => ?_)
  · obtain ⟨ag, hc, hr1⟩ := hJ
    rw [List.getElem?_map] at hd1
    cases hz : (ns.zip ps)[m]? with
    | none => rw [hz] at hd1; cases hd1
    | some pr =>
      rw [hz] at hd1
      cases hd1
      have hm := List.mem_of_getElem? hz
      have hn1 : pr.1 ∈ ns := (List.of_mem_zip (a := pr.1) (b := pr.2) hm).1
      have hp1 : pr.2 ∈ ps := (List.of_mem_zip (a := pr.1) (b := pr.2) hm).2
      have hpr := hP _ hp1
      refine RnG.two _ ?_
      have l1 : ρ1.sl.length = ρ.sl.length := ag.1
      generalize hρ2 : (ρ1.set i (.v (.int pr.1))).set j (.v (.int (pr.2 : Nat))) = ρ2
      have ag2 : Agr [i, j, t, r] ρ ρ2 := by rw [← hρ2]; exact (ag.put mi).put mj
      have hc2 : ρ2.c = ρ.c := by rw [← hρ2]; exact hc
      have a_j : ρ2.sl[j]? = some (.v (.int (pr.2 : Nat))) := by rw [← hρ2]; exact at_set (by rw [len_set, l1]; exact hj)
      have a_i : ρ2.sl[i]? = some (.v (.int pr.1)) := by rw [← hρ2, at_ne (fun e => nij e.symm)]; exact at_set (by rw [l1]; exact hi)
      have a_r : ρ2.sl[r]? = some (.v (.int (acc * pw ((ns.zip ps).take m)))) := by rw [← hρ2, at_ne njr, at_ne nir]; exact hr1
      unfold dRng1
      refine RnA.one (RnE.var a_j) _ ?_
      refine ⟨⟨by omega, by omega⟩, ?_⟩
      rw [Int.toNat_natCast]
      refine for_inv (fun q ρ' => Agr [i, j, t, r] ρ ρ' ∧ ρ'.c = ρ.c ∧ ρ'.sl[i]? = some (.v (.int pr.1)) ∧ ρ'.sl[r]? = some (.v (.int (acc * pw ((ns.zip ps).take m) * pr.1 ^ q)))) (fun q d ρ3 N3 hd3 hJ3 hN3 => ?_) ⟨ag2, hc2, a_i, by rw [Int.pow_zero, Int.mul_one]; exact a_r⟩ (fun ρ' hJ3 => ?_)
      · obtain ⟨ag3, hc3, b_i, b_r⟩ := hJ3
        have hq : q < pr.2 := by
          rcases Nat.lt_or_ge q pr.2 with h | h
          · exact h
          · rw [List.getElem?_eq_none (by rw [intsD_length]; exact h)] at hd3; cases hd3
        refine RnG.name _ ?_
        have l3 : ρ3.sl.length = ρ.sl.length := ag3.1
        have s1 : (acc * pw ((ns.zip ps).take m) * pr.1 ^ q).natAbs < 2 ^ 200000 := by
          rw [Int.natAbs_mul, Int.natAbs_mul]
          have e1 := pw_le ((ns.zip ps).take m) (fun p hp => hN _ (List.of_mem_zip (a := p.1) (b := p.2) (List.mem_of_mem_take hp)).1)
          have e2 := pws_take (ns.zip ps) m
          have e3 := ipow_le (n := pr.1) (k := q) (hN _ hn1)
          have e4 : (pw ((ns.zip ps).take m)).natAbs ≤ 2 ^ 64000 := Nat.le_trans e1 (Nat.pow_le_pow_right (by decide) (by omega))
          have e5 : (pr.1 ^ q).natAbs ≤ 2 ^ 64000 := Nat.le_trans e3 (Nat.pow_le_pow_right (by decide) (by omega))
          have e6 : acc.natAbs * (pw ((ns.zip ps).take m)).natAbs * (pr.1 ^ q).natAbs ≤ 2 ^ 1000 * 2 ^ 64000 * 2 ^ 64000 := Nat.mul_le_mul (Nat.mul_le_mul (Nat.le_of_lt hA) e4) e5
          rw [← Nat.pow_add, ← Nat.pow_add] at e6
          exact Nat.lt_of_le_of_lt e6 (Nat.pow_lt_pow_right (by decide) (by decide))
        have c_r : (ρ3.set t (.v d)).sl[r]? = some (.v (.int (acc * pw ((ns.zip ps).take m) * pr.1 ^ q))) := by rw [at_ne ntr]; exact b_r
        have c_i : (ρ3.set t (.v d)).sl[i]? = some (.v (.int pr.1)) := by rw [at_ne (fun e => nit e.symm)]; exact b_i
        refine RnE.bin (RnE.var c_r) (RnE.var c_i) (ob_mul s1 (hN _ hn1) (by decide)) _ (RnG.name _ (hN3 _ ⟨(ag3.put mt).put mr, hc3, ?_, ?_⟩))
        · rw [at_ne (fun e => nir e.symm)]; exact c_i
        · rw [Int.pow_succ, ← Int.mul_assoc]; exact at_set (by rw [len_set, l3]; exact hrl)
      · obtain ⟨ag3, hc3, b_i, b_r⟩ := hJ3
        rw [intsD_length] at b_r
        refine hN1 _ ⟨ag3, hc3, ?_⟩
        rw [List.take_add_one, hz, Option.toList_some, pw_app, ← Int.mul_assoc]
        exact b_r
  · obtain ⟨ag, hc, hr1⟩ := hJ
    rw [List.length_map, List.take_length] at hr1
    exact k _ ag hc hr1
end DL

-- part K08L
set_option maxHeartbeats 4000000
/-! K08: terms, dicts of terms, their order -/
namespace DL
namespace K08
open PySem L2
def nat (n : Nat) : D := .int n
abbrev Ks := List Nat
abbrev Trm := Int × Ks
abbrev Dct := List (Ks × Int)
def kk (k : Ks) : List Key := k.map fun (n : Nat) => (.inl (n : Int) : Key)
def ksD (k : Ks) : D := .tup (k.map nat)
def trmD (t : Trm) : D := .tup [.int t.1, ksD t.2]
def pairD (k : Ks) : D := .tup [.int (k.sum : Nat), ksD k]
def getT (dd : Dct) (k : Ks) : Int := ((dd.find? fun p => decide (p.1 = k)).map (·.2)).getD 0
def putT (dd : Dct) (k : Ks) (v : Int) : Dct := if (dd.any fun p => decide (p.1 = k)) = true then dd.map (fun p => if p.1 = k then (p.1, v) else p) else dd ++ [(k, v)]
def dP (dd : Dct) : List (List Key × D) := dd.map fun p => (kk p.1, .int p.2)
theorem kk_inj : ∀ {a b : Ks}, kk a = kk b → a = b
  | [], [], _ => rfl
  | [], _ :: _, h => by cases h
  | _ :: _, [], h => by cases h
  | x :: a, y :: b, h => by
    have h : (Sum.inl (x : Int) : Key) :: kk a = Sum.inl (y : Int) :: kk b := h
    injection h with h1 h2
    injection h1 with h1
    rw [kk_inj h2, Int.ofNat.inj h1]
theorem kk_iff {a b : Ks} : kk a = kk b ↔ a = b := ⟨kk_inj, fun h => by rw [h]⟩
theorem dec_kk {a b : Ks} : decide (kk a = kk b) = decide (a = b) := decide_eq_decide.mpr kk_iff
theorem put_dP (dd : Dct) (k : Ks) (v : Int) : putP (dP dd) (kk k) (.int v) = dP (putT dd k v) := by
  unfold putP putT dP
  have e1 : ((dd.map fun p => (kk p.1, D.int p.2)).any fun p => decide (p.1 = kk k)) = dd.any fun p => decide (p.1 = k) := by
    rw [List.any_map]
    congr 1
    funext p
    exact dec_kk
  rw [e1]
  split
  · rw [List.map_map, List.map_map]
    congr 1
    funext p
    show (if kk p.1 = kk k then (kk p.1, D.int v) else (kk p.1, D.int p.2)) = (kk (if p.1 = k then (p.1, v) else p).1, D.int (if p.1 = k then (p.1, v) else p).2)
    by_cases h : p.1 = k
    · rw [if_pos (kk_iff.mpr h), if_pos h]
    · rw [if_neg fun z => h (kk_inj z), if_neg h]
  · rw [List.map_append]; rfl
theorem look_dP (dd : Dct) (k : Ks) : lookP (dP dd) (kk k) = ((dd.find? fun p => decide (p.1 = k)).map (·.2)).map .int := by
  unfold lookP dP
  induction dd with
  | nil => rfl
  | cons p dd ih =>
    rw [List.map_cons, List.find?_cons, List.find?_cons]
    rw [show decide ((kk p.1, D.int p.2).1 = kk k) = decide (p.1 = k) from dec_kk]
    cases decide (p.1 = k) with
    | true => rfl
    | false => exact ih
theorem look_getD (dd : Dct) (k : Ks) : (lookP (dP dd) (kk k)).getD (.int 0) = .int (getT dd k) := by
  rw [look_dP]
  unfold getT
  cases (dd.find? fun p => decide (p.1 = k)).map (·.2) <;> rfl
theorem look_mem {dd : Dct} {k : Ks} (h : k ∈ dd.map (·.1)) : lookP (dP dd) (kk k) = some (.int (getT dd k)) := by
  rw [look_dP]
  unfold getT
  obtain ⟨p, hp, e⟩ := List.mem_map.mp h
  cases q : dd.find? fun p => decide (p.1 = k) with
  | none => exact absurd (decide_eq_true e) (List.find?_eq_none.mp q p hp)
  | some z => rfl
theorem keyOf_ks (k : Ks) : keyOfD (ksD k) = some (kk k) := by
  show keyOfL (k.map nat) = _
  induction k with
  | nil => rfl
  | cons n k ih =>
    show (match keyOf1 (nat n), keyOfL (k.map nat) with | some a, some b => some (a :: b) | _, _ => none) = _
    rw [ih]; rfl
theorem keyT_kk (k : Ks) : keyT (kk k) = ksD k := by
  show D.tup ((k.map _).map keyD) = _
  rw [List.map_map]; rfl
theorem keys_dP (dd : Dct) : ((dP dd).map fun p => keyT p.1) = (dd.map (·.1)).map ksD := by
  unfold dP
  rw [List.map_map, List.map_map]
  congr 1
  funext p
  exact keyT_kk p.1
def addT (dd : Dct) (t : Trm) : Dct := putT dd t.2 (getT dd t.2 + t.1)
def dct (l : List Trm) : Dct := l.foldl addT []
def leN (a b : Ks) : Bool := leK (a.map fun (n : Nat) => (n : Int)) (b.map fun (n : Nat) => (n : Int))
def liveK (dd : Dct) : List Ks := (dd.map (·.1)).filter fun k => decide (getT dd k ≠ 0)
def ord (dd : Dct) : List Ks := (liveK dd).mergeSort leN
def norm (l : List Trm) : List Trm := (ord (dct l)).map fun k => (getT (dct l) k, k)
/-- the greatest of 0 and some sums -/
def mx : List Int → Int
  | [] => 0
  | x :: xs => if mx xs ≤ x then x else mx xs
def degT (l : List Trm) : Int := mx (l.map fun t => ((t.2.sum : Nat) : Int))
theorem mx_ge0 : ∀ xs, 0 ≤ mx xs
  | [] => Int.le_refl _
  | x :: xs => by
    have h := mx_ge0 xs
    show 0 ≤ (if mx xs ≤ x then x else mx xs)
    split <;> omega
theorem mx_ge : ∀ xs, ∀ y ∈ xs, y ≤ mx xs
  | x :: xs, y, hy => by
    show y ≤ (if mx xs ≤ x then x else mx xs)
    rcases List.mem_cons.mp hy with rfl | hy
    · split <;> omega
    · have := mx_ge xs y hy
      split <;> omega
theorem mx_mem : ∀ xs, mx xs = 0 ∨ mx xs ∈ xs
  | [] => .inl rfl
  | x :: xs => by
    show (if mx xs ≤ x then x else mx xs) = 0 ∨ (if mx xs ≤ x then x else mx xs) ∈ x :: xs
    split
    · exact .inr (List.mem_cons_self ..)
    · rcases mx_mem xs with h | h
      · exact .inl h
      · exact .inr (List.mem_cons_of_mem _ h)
theorem mx_uniq {xs : List Int} {m : Int} (hm : m ∈ 0 :: xs) (hle : ∀ y ∈ 0 :: xs, y ≤ m) : m = mx xs := by
  have h1 := hle 0 (List.mem_cons_self ..)
  have h3 : mx xs ∈ 0 :: xs := by
    rcases mx_mem xs with h | h
    · rw [h]; exact List.mem_cons_self ..
    · exact List.mem_cons_of_mem _ h
  have h2 := hle _ h3
  rcases List.mem_cons.mp hm with rfl | h
  · have := mx_ge0 xs; omega
  · have := mx_ge xs m h; omega
theorem RnE.max {a : DA} {ρ ρ' : Ev} {ns : List Int} (h : RnA a ρ ρ' [.lst ((0 :: ns).map .int)]) : RnE (fun ρ Q => a ρ fun ρ1 ds => ∃ ns : List Int, ds = [.lst (ns.map .int)] ∧ 0 < ns.length ∧ ∀ m, m ∈ ns → (∀ y, y ∈ ns → y ≤ m) → Q ρ1 (.int m)) ρ ρ' (.int (mx ns)) := fun Q q => h _ ⟨_, rfl, Nat.succ_pos _, fun m hm hle => by rw [mx_uniq hm hle]; exact q⟩
/-! what sorted asks -/
theorem toPs_ints : ∀ ns : List Int, toPs (ns.map D.int) = some (ns.map .int)
  | [] => rfl
  | n :: ns => by
    rw [List.map_cons]; unfold toPs
    rw [toPs_ints ns]; rfl
theorem ks_ints (k : Ks) : k.map nat = (k.map fun (n : Nat) => (n : Int)).map D.int := by rw [List.map_map]; rfl
theorem sum_cast (k : Ks) : (k.map fun (n : Nat) => (n : Int)).sum = ((k.sum : Nat) : Int) := by
  induction k with
  | nil => rfl
  | cons n k ih => rw [List.map_cons, List.sum_cons, List.sum_cons, ih]; omega
theorem toP_pair (k : Ks) : toP (pairD k) = some (keyI (k.map fun (n : Nat) => (n : Int))) := by
  unfold pairD ksD keyI
  rw [ks_ints, sum_cast]
  show (toPs [_, _]).map PyData.tuple = _
  have h : toP (.tup ((k.map fun (n : Nat) => (n : Int)).map D.int)) = some (.tuple ((k.map fun (n : Nat) => (n : Int)).map .int)) := by
    show (toPs _).map _ = _
    rw [toPs_ints]; rfl
  unfold toPs
  rw [show toPs [D.tup ((k.map fun (n : Nat) => (n : Int)).map D.int)] = some [.tuple ((k.map fun (n : Nat) => (n : Int)).map .int)] by
    unfold toPs
    rw [h]; rfl]
  rfl
theorem pD_pair (k : Ks) : pD (pairD k) = keyI (k.map fun (n : Nat) => (n : Int)) := by unfold pD; rw [toP_pair]; rfl
theorem leD_pair (a b : Ks) : leD (pairD a) (pairD b) = leN a b := by
  unfold leD leN leK PySem.W.dataLe PySem.W.sortLe
  dsimp only
  rw [pD_pair, pD_pair]
theorem ou_sorted {ks : List Ks} : OpU (fun ds ρ1 (Q : Ev → D → Prop) => ∃ xs : List D, ds = [.lst xs] ∧ (∀ d ∈ xs, isData d) ∧ PySem.W.AllAlike (xs.map pD) ∧ PySem.W.Sortable (xs.map pD) ∧ (∀ d ∈ xs, (pD d).depth ≤ 60) ∧ Q ρ1 (.lst (xs.mergeSort leD))) [.lst (ks.map pairD)] (.lst ((ks.mergeSort leN).map pairD)) := fun ρ Q q => by
  have e : (ks.map pairD).map pD = (ks.map fun (k : Ks) => k.map fun (n : Nat) => (n : Int)).map keyI := by
    rw [List.map_map, List.map_map]
    congr 1
    funext k
    exact pD_pair k
  refine ⟨_, rfl, fun d hd => ?_, by rw [e]; exact keyI_alike _, by rw [e]; exact keyI_sortable _, fun d hd => ?_, ?_⟩
  · obtain ⟨k, _, rfl⟩ := List.mem_map.mp hd
    exact ⟨_, toP_pair k⟩
  · obtain ⟨k, _, rfl⟩ := List.mem_map.mp hd
    rw [pD_pair]; exact keyI_depth _
  · have e2 := List.map_mergeSort (r := leN) (s := leD) (f := pairD) (l := ks) (fun a _ b _ => (leD_pair a b).symm)
    rw [← e2]; exact q
end K08
end DL

-- part K08F
set_option maxHeartbeats 4000000
/-! K08: power_of -/
namespace DL
namespace K08
open PySem PySem.Spec PyProof.Rows L2 ZX
abbrev sPow : Stmt := topS 22
theorem scPow : FnScope ["numbers", "powers", "found", "number", "often", "turn"] ["numbers", "powers"] (defScope sPow) := ⟨rfl, rfl, rfl, by decide +kernel, rfl, by decide +kernel, by decide +kernel⟩

def gPow : GF := fun ds c Q => ∃ (x y : D) (ns : List Int) (ps : List Nat), ds = [x, y] ∧ rowD x = some (ns.map .int) ∧ rowD y = some (ps.map nat) ∧ (∀ n ∈ ns, n.natAbs < 2 ^ 64) ∧ pws (ns.zip ps) ≤ 1000 ∧ (∀ p ∈ ps, p ≤ 1000) ∧ Q (.int (pw (ns.zip ps))) c
section
variable {P : Program} {w : World} {K : PySem.W.Frag} {mg : Str → Option Value} {base : Heap} {cls : Str → Option Addr}
theorem ok_pow {f : Addr} {fd : FuncData} {k : Nat} (F : Fun K "power_of" "power_of" sPow f fd) (BL : Blt mg) : FnOk P w K mg base CX0 (k + 1) f fd ["numbers", "powers"] (spD K cls gPow) := by
  refine F.ok scPow (fun vs H Q E h => len_of (n := 2) (fun ds c QD ⟨x, y, ns, ps, e, _⟩ => by rw [e]; rfl) h) (fun cdv A outer s H vs Q E hr h => ?_)
  refine ⟨_, (pss_cons (ps_set (i := 2) scPow.nd rfl (.inl rfl) pe_int)
    (pss_cons (ps_for PassesOwn.never rfl (pi_zipS (by rfl) BL.m_zip (pa_cons (pv 0) (pa_cons (pv 1) pa_nil))) (pg_tup rfl (pgs_cons (pg_name (i := 3) scPow.nd rfl (.inl rfl)) (pgs_cons (pg_name (i := 4) scPow.nd rfl (.inl rfl)) pgs_nil))) (pss_one (ps_for PassesOwn.never rfl (pi_range1 (by rfl) BL.m_range (pa_cons (pv 4) pa_nil)) (pg_name (i := 5) scPow.nd rfl (.inl rfl)) (pss_one (ps_set (i := 2) scPow.nd rfl (.inl rfl) (pe_op op_mulW (pv 2) (pv 3)))))))
    (pss_one (ps_ret (pv 2))))),
    body_of (fun pw B hio => (rs_seq (rs_asg re_c (rg_name (i := 2)))
    (rs_seq (rs_for (ri_zipS (ra_cons (re_var (i := 0) hio) (ra_cons (re_var (i := 1) hio) ra_nil))) (rg_tup (rgs_cons (rg_name (i := 3)) (rgs_cons (rg_name (i := 4)) rgs_nil))) (rs_for (ri_rng1 (ra_cons (re_var (i := 4) hio) ra_nil)) (rg_name (i := 5)) (rs_asg (re_I (re_var (i := 2) hio) (re_var (i := 3) hio)) (rg_name (i := 2)))))
    (rs_ret (re_var (i := 2) hio))))) ?_ h⟩
  rintro ds c QD ⟨x, y, ns, ps, rfl, hx, hy, hn, hs, hp, q⟩
  refine ⟨by show 2 ≤ 6; decide, ?_⟩
  refine dsSeq (dsAsg RnE.c RnG.name ?_)
  refine dsSeq ?_
  generalize hρ : Ev.set (ent (Str.ofString "numbers" :: [Str.ofString "powers", Str.ofString "found", Str.ofString "number", Str.ofString "often", Str.ofString "turn"]).length [x, y] c) 2 (.v (vC (V.int 1))) = ρ
  refine pow_loop (a := 0) (b := 1) (i := 3) (j := 4) (t := 5) (r := 2) (acc := 1) (by decide) (by decide) (by decide) (by rw [← hρ]; rfl) (by rw [← hρ]; rfl) hx hy (by rw [← hρ]; rfl) (by rw [← hρ]; show 3 < 6; decide) (by rw [← hρ]; show 4 < 6; decide) (by rw [← hρ]; show 5 < 6; decide) (by decide) hn hs hp (fun ρ' ag hc hr => ?_)
  refine dsRet (RnE.var hr) ?_
  show QD _ ρ'.c
  rw [hc, ← hρ, Int.one_mul]
  exact q
end
end K08
end DL

-- part K08M
set_option maxHeartbeats 4000000
/-! K08: rows that are terms -/
namespace DL
namespace K08
open PySem L2
def isTrm (d : D) (t : Trm) : Prop := ∃ b, rowOf d = some [.int t.1, b] ∧ rowOf b = some (t.2.map nat)
def RowT (x : D) (l : List Trm) : Prop := ∃ r : Trm → D, rowOf x = some (l.map r) ∧ ∀ t ∈ l, isTrm (r t) t
def OkL (m : Nat) (l : List Trm) : Prop := l.length ≤ 1000 ∧ ∀ t ∈ l, t.2.length = m ∧ t.2.sum ≤ 3
theorem isTrm_trmD (t : Trm) : isTrm (trmD t) t := ⟨ksD t.2, rfl, rfl⟩
theorem rowT_lst (l : List Trm) : RowT (.lst (l.map trmD)) l := ⟨trmD, rfl, fun t _ => isTrm_trmD t⟩
theorem rowT_tup (l : List Trm) : RowT (.tup (l.map trmD)) l := ⟨trmD, rfl, fun t _ => isTrm_trmD t⟩
theorem plain_row {d : D} {xs : List D} (h : rowOf d = some xs) : plain d = true := by cases d <;> first | rfl | cases h
theorem deep_row {n : Nat} {d : D} {xs : List D} (h : rowOf d = some xs) (hl : xs.length ≤ 1048576) (ha : ∀ x ∈ xs, deep n x = true) : deep (n + 1) d = true := by
  unfold deep
  rw [h, plain_row h, Bool.true_and]
  show (decide (xs.length ≤ 1048576) && xs.all (deep n)) = true
  rw [decide_eq_true hl, Bool.true_and]
  exact List.all_eq_true.mpr ha
theorem deep_int (n : Nat) (i : Int) : deep n (.int i) = true := by
  cases n with
  | zero => rfl
  | succ n => unfold deep; rfl
theorem intsOf_ks (k : Ks) {b : D} (h : rowOf b = some (k.map nat)) : intsOf b = k.map fun (n : Nat) => (n : Int) := by
  unfold intsOf
  rw [h]
  show (k.map nat).map _ = _
  rw [List.map_map]; rfl
theorem ks_bound {m : Nat} {l : List Trm} (h : OkL m l) {t : Trm} (ht : t ∈ l) : ∀ n ∈ t.2, n ≤ 3 := fun n hn => by
  have h1 := (h.2 t ht).2
  have h2 : n ≤ t.2.sum := by
    generalize t.2 = k at hn
    induction k with
    | nil => cases hn
    | cons a k ih =>
      rw [List.sum_cons]
      rcases List.mem_cons.mp hn with rfl | hn
      · omega
      · have := ih hn; omega
  omega
theorem deep_trms {m : Nat} {x : D} {l : List Trm} (hx : RowT x l) (h : OkL m l) (hm : m ≤ 6) : deep 3 x = true := by
  obtain ⟨r, hr, ht⟩ := hx
  refine deep_row hr (by rw [List.length_map]; have := h.1; omega) fun d hd => ?_
  obtain ⟨t, htl, rfl⟩ := List.mem_map.mp hd
  obtain ⟨b, h1, h2⟩ := ht t htl
  refine deep_row h1 (by show 2 ≤ 1048576; decide) fun y hy => ?_
  rcases List.mem_cons.mp hy with rfl | hy
  · exact deep_int _ _
  · obtain rfl : y = b := List.mem_singleton.mp hy
    refine deep_row h2 (by rw [List.length_map, (h.2 t htl).1]; omega) fun z hz => ?_
    obtain ⟨n, _, rfl⟩ := List.mem_map.mp hz
    rfl
theorem areT_trms {m : Nat} {x : D} {l : List Trm} (hx : RowT x l) (h : OkL m l) : areT x m = true := by
  obtain ⟨r, hr, ht⟩ := hx
  unfold areT
  rw [hr]
  have a1 : (l.map r).all pairB = true := List.all_eq_true.mpr fun d hd => by
    obtain ⟨t, htl, rfl⟩ := List.mem_map.mp hd
    obtain ⟨b, h1, h2⟩ := ht t htl
    unfold pairB; rw [h1]; rfl
  have it : ∀ t ∈ l, item (r t) 0 = .int t.1 ∧ ∃ b, item (r t) 1 = b ∧ rowOf b = some (t.2.map nat) := fun t htl => by
    obtain ⟨b, h1, h2⟩ := ht t htl
    unfold item
    rw [h1]
    exact ⟨rfl, b, rfl, h2⟩
  have a2 : (l.map r).all (termB m) = true := List.all_eq_true.mpr fun d hd => by
    obtain ⟨t, htl, rfl⟩ := List.mem_map.mp hd
    obtain ⟨e0, b, e1, h2⟩ := it t htl
    unfold termB
    rw [e0, e1]
    unfold aiB
    rw [h2]
    show (true && (decide (((t.2.map nat).length : Int) = m) && (t.2.map nat).all isInt)) = true
    rw [List.length_map, (h.2 t htl).1, decide_eq_true rfl, Bool.true_and, Bool.true_and, List.all_map]
    exact List.all_eq_true.mpr fun n _ => rfl
  have a3 : (l.map r).all degB = true := List.all_eq_true.mpr fun d hd => by
    obtain ⟨t, htl, rfl⟩ := List.mem_map.mp hd
    obtain ⟨e0, b, e1, h2⟩ := it t htl
    unfold degB
    rw [e1, intsOf_ks t.2 h2]
    rw [Bool.and_eq_true_iff]
    refine ⟨List.all_eq_true.mpr fun i hi => ?_, decide_eq_true ?_⟩
    · obtain ⟨n, _, rfl⟩ := List.mem_map.mp hi
      exact decide_eq_true (by omega)
    · rw [sum_cast]
      have := (h.2 t htl).2
      omega
  show ((l.map r).all pairB && (l.map r).all (termB m) && (l.map r).all degB) = true
  rw [a1, a2, a3]; rfl
theorem putT_length (dd : Dct) (k : Ks) (v : Int) : (putT dd k v).length ≤ dd.length + 1 := by
  unfold putT
  split
  · rw [List.length_map]; omega
  · rw [List.length_append, List.length_singleton]; omega
theorem dct_snoc (l : List Trm) (t : Trm) : dct (l ++ [t]) = addT (dct l) t := by unfold dct; rw [List.foldl_append]; rfl
theorem dct_length (l : List Trm) : ∀ n, (dct (l.take n)).length ≤ n := by
  intro n
  induction n with
  | zero => rw [List.take_zero]; exact Nat.le_refl _
  | succ n ih =>
    rw [List.take_add_one]
    cases l[n]? with
    | none => rw [show l.take n ++ (none : Option Trm).toList = l.take n from List.append_nil _]; omega
    | some t =>
      rw [show l.take n ++ (some t).toList = l.take n ++ [t] from rfl, dct_snoc]
      have := putT_length (dct (l.take n)) t.2 (getT (dct (l.take n)) t.2 + t.1)
      unfold addT
      omega
theorem keys_put (dd : Dct) (k : Ks) (v : Int) : ∀ q, q ∈ (putT dd k v).map (·.1) ↔ q = k ∨ q ∈ dd.map (·.1) := fun q => by
  unfold putT
  split
  · rename_i h
    have e : (dd.map fun p => if p.1 = k then (p.1, v) else p).map (·.1) = dd.map (·.1) := by
      rw [List.map_map]
      congr 1
      funext p
      show (if p.1 = k then (p.1, v) else p).1 = p.1
      split <;> rfl
    rw [e]
    refine ⟨.inr, fun z => z.elim (fun z => ?_) id⟩
    obtain ⟨p, hp, hk⟩ := List.any_eq_true.mp h
    rw [z, ← of_decide_eq_true hk]
    exact List.mem_map.mpr ⟨p, hp, rfl⟩
  · rw [List.map_append, List.mem_append]
    constructor
    · rintro (h | h)
      · exact .inr h
      · exact .inl (List.mem_singleton.mp h)
    · rintro (h | h)
      · exact .inr (List.mem_singleton.mpr h)
      · exact .inl h
theorem dct_keys (l : List Trm) : ∀ q, q ∈ (dct l).map (·.1) → ∃ t ∈ l, t.2 = q := by
  have h : ∀ (l : List Trm) (dd : Dct) q, q ∈ (l.foldl addT dd).map (·.1) → (∃ t ∈ l, t.2 = q) ∨ q ∈ dd.map (·.1) := by
    intro l
    induction l with
    | nil => exact fun dd q h => .inr h
    | cons t l ih =>
      intro dd q h
      rcases ih (addT dd t) q h with ⟨u, hu, e⟩ | h
      · exact .inl ⟨u, List.mem_cons_of_mem _ hu, e⟩
      · rcases (keys_put dd t.2 _ q).mp h with h | h
        · exact .inl ⟨t, List.mem_cons_self .., h.symm⟩
        · exact .inr h
  intro q hq
  rcases h l [] q hq with h | h
  · exact h
  · cases h
theorem ord_mem {dd : Dct} {k : Ks} (h : k ∈ ord dd) : k ∈ dd.map (·.1) := (List.mem_filter.mp (List.mem_mergeSort.mp h)).1
theorem ord_length (dd : Dct) : (ord dd).length ≤ dd.length := by
  unfold ord
  rw [List.length_mergeSort]
  have h := List.length_filter_le (fun k => decide (getT dd k ≠ 0)) (dd.map (·.1))
  rw [List.length_map] at h
  exact h
end K08
end DL

-- part LX9
set_option maxHeartbeats 4000000
/-! rules for the instances of one class, told by its name (where W.cls also tells tables of code objects) -/
namespace DL
open PySem L2
structure ClsT (K : PySem.W.Frag) (cls : Str → Option Addr) (c0 : Str) (C0 : Addr) (fs : List Str) : Prop where
  at_ : cls c0 = some C0
  cl : Cls K C0
  no : ∀ f ∈ fs, NoAttr K C0 f
  ha : PySem.W.findIn K (.ref C0) "__class__" = some (some (.builtin "object.__class__"))
  hn : PySem.W.specialIn K (.builtin "object.__class__") "__get__" = some (some (.builtin "getset_descriptor.__get__"))
  ht : PySem.W.takesIn K (.builtin "object.__class__") = some true
  hm : PySem.W.mroIn K C0 (.type "object") = some true
  k1 : PySem.W.kitOne K (.ref C0) (.ref C0) = some true
  k2 : ∀ d T, tyName d = some T → PySem.W.kitOne K (.type T) (.ref C0) = some false
structure ClsEq (K : PySem.W.Frag) (C0 fe : Addr) : Prop where
  eq : PySem.W.findIn K (.ref C0) "__eq__" = some (some (.ref fe))
  ne : PySem.W.findIn K (.ref C0) "__ne__" = some (some (.builtin "object.__ne__"))
  nf : PySem.W.notFirst K C0 (.ref C0) = true
  nt : PySem.W.notFirst K C0 (.type "tuple") = true
section
variable {W : Wd} {B : Bs} {F F' H H' : Hp} {σ : St} {ρ : Ev} {c0 : Str} {C0 fe : Addr} {fs : List Str}
theorem re_fldC {te : TE} {t : DE} {f : Str} (T : ClsT W.K W.cls c0 C0 fs) (re : RE W B te t) (hf : f ∈ fs) : RE W B (tFld W.K te f) (fun ρ Q => t ρ fun ρ1 x => ∃ ns ds d, x = .obj c0 ns ds ∧ fldD ns ds f = some d ∧ Q ρ1 d) := by
  intro σ H F ρ Q R rl h k
  refine re σ H F ρ _ _ rl h fun x H1 F1 ρ1 dx r1 s1 d1 h1 => ?_
  obtain ⟨ns, ds, d, rfl, ed, h1⟩ := h1
  obtain ⟨p, C, dx, gs, ev, hf1, hc, hn, hl⟩ := d1
  have : C = C0 := Option.some.inj (hc.symm.trans T.at_)
  subst this
  subst hn
  obtain ⟨v, hv, dv⟩ := fld_lookup hl ed
  exact ⟨p, C, dx, gs, v, ev, r1.ex _ _ hf1, T.cl, T.no _ hf, hv, k v H1 F1 ρ1 d r1 s1 dv h1⟩
theorem tyx_C (T : ClsT W.K W.cls c0 C0 fs) (e : Same F H) {ns : List Str} {ds : List D} {v : V} (h : Den W F (.obj c0 ns ds) v) : TyX W.K H v (.ref C0) := by
  obtain ⟨a, C, dx, gs, ev, hf, hc, hn, hd⟩ := h
  have : C = C0 := Option.some.inj (hc.symm.trans T.at_)
  subst this
  rw [ev]
  exact .base (.ins (e _ _ hf) T.cl T.ha T.hn T.ht T.hm)
def isC (c0 : Str) : D → Option Bool
  | .obj c _ _ => if c = c0 then some true else none
  | d => match tyName d with | some _ => some false | none => none
theorem kok_C (T : ClsT W.K W.cls c0 C0 fs) : KOk W (isC c0) (.ref C0) := fun d b h => by
  have oth : ∀ t, tyName d = some t → tyD W d = some (.type t) → isC c0 d = some false → ∃ ty, tyD W d = some ty ∧ PySem.W.kitOne W.K ty (.ref C0) = some b ∧ ∀ F H v, Same F H → Den W F d v → TyX W.K H v ty := fun t ht hty e => by
    rw [e] at h
    cases h
    exact ⟨_, hty, T.k2 d t ht, fun F H v e dv => tyx_of e dv ht⟩
  cases d with
  | obj c ns ds =>
    have h : (if c = c0 then some true else none) = some b := h
    split at h
    · rename_i hc
      have hb : b = true := (Option.some.inj h).symm
      subst hc hb
      have e : tyD W (.obj c ns ds) = some (.ref C0) := by show (W.cls c).map Value.ref = _; rw [T.at_]; rfl
      exact ⟨_, e, T.k1, fun F H v e dv => tyx_C T e dv⟩
    · cases h
  | non => exact oth _ rfl rfl rfl
  | bl b => exact oth _ rfl rfl rfl
  | int i => exact oth _ rfl rfl rfl
  | str s => exact oth _ rfl rfl rfl
  | lst xs => exact oth _ rfl rfl rfl
  | tup xs => exact oth _ rfl rfl rfl
  | dik ks vs => exact oth _ rfl rfl rfl
  | _ => cases h
def isOTC (c0 : Str) : D → Prop
  | .obj c _ _ => c = c0
  | .tup _ => True
  | _ => False
theorem tyC (T : ClsT W.K W.cls c0 C0 fs) (TE : ClsEq W.K C0 fe) (e : Same F H) {d : D} {v : V} (ho : isOTC c0 d) (h : Den W F d v) : ∃ t, TyX W.K H v t ∧ PySem.W.notFirst W.K C0 t = true := by
  cases d with
  | obj c' ns ds =>
    obtain rfl : c' = c0 := ho
    exact ⟨.ref C0, tyx_C T e h, TE.nf⟩
  | tup xs => exact ⟨_, tyx_of e h rfl, TE.nt⟩
  | _ => exact ho.elim
theorem re_eqC {G : GF} {ta tb : TE} {a b : DE} {E : XK} (T : ClsT W.K W.cls c0 C0 fs) (TE : ClsEq W.K C0 fe) (ra : RE W B ta a) (rb : RE W B tb b) : RE W B (tOp (rEqI W.K fe (spD W.K W.cls G) E) ta tb) (fun ρ Q => a ρ fun ρ1 x => b ρ1 fun ρ2 y => (∃ ns ds, x = .obj c0 ns ds) ∧ isOTC c0 y ∧ G [x, y] ρ2.c fun d c' => Q (ρ2.cnt c') d) :=
  re_bin ra rb (g := fun x y ρ2 Q => (∃ ns ds, x = .obj c0 ns ds) ∧ isOTC c0 y ∧ G [x, y] ρ2.c fun d c' => Q (ρ2.cnt c') d) fun σ H F ρ x y dx dy Q R r d1 d2 h k => by
    obtain ⟨⟨ns, ds, rfl⟩, ho, h⟩ := h
    have d1' := d1
    obtain ⟨p, C, dxx, gs, ev, hf, hc, hn, hd⟩ := d1
    have : C = C0 := Option.some.inj (hc.symm.trans T.at_)
    subst this
    obtain ⟨t, ht, hnf⟩ := tyC T TE r.ex ho d2
    refine ⟨p, C, dxx, gs, t, ev, r.ex _ _ hf, ht, hnf, TE.eq, ?_⟩
    exact r.spD (.cons d1' (.cons d2 DenL.nil)) h fun v H' F' ρ' d r' s' dv q => k v H' F' ρ' d r' s' dv q
theorem re_neC {G : GF} {ta tb : TE} {a b : DE} {E : XK} (T : ClsT W.K W.cls c0 C0 fs) (TE : ClsEq W.K C0 fe) (ra : RE W B ta a) (rb : RE W B tb b) : RE W B (tOp (rNeI W.K fe (spD W.K W.cls G) E) ta tb) (fun ρ Q => a ρ fun ρ1 x => b ρ1 fun ρ2 y => (∃ ns ds, x = .obj c0 ns ds) ∧ isOTC c0 y ∧ G [x, y] ρ2.c fun d c' => ∃ z, d = .bl z ∧ Q (ρ2.cnt c') (.bl (!z))) :=
  re_bin ra rb (g := fun x y ρ2 Q => (∃ ns ds, x = .obj c0 ns ds) ∧ isOTC c0 y ∧ G [x, y] ρ2.c fun d c' => ∃ z, d = .bl z ∧ Q (ρ2.cnt c') (.bl (!z))) fun σ H F ρ x y dx dy Q R r d1 d2 h k => by
    obtain ⟨⟨ns, ds, rfl⟩, ho, h⟩ := h
    have d1' := d1
    obtain ⟨p, C, dxx, gs, ev, hf, hc, hn, hd⟩ := d1
    have : C = C0 := Option.some.inj (hc.symm.trans T.at_)
    subst this
    obtain ⟨t, ht, hnf⟩ := tyC T TE r.ex ho d2
    refine ⟨p, C, dxx, gs, t, ev, r.ex _ _ hf, ht, hnf, TE.eq, TE.ne, T.hm, ?_⟩
    refine r.spD (Q := fun ρ' d => ∃ z, d = .bl z ∧ Q ρ' (.bl (!z))) (.cons d1' (.cons d2 DenL.nil)) h fun v H' F' ρ' d r' s' dv q => ?_
    obtain ⟨b, rfl, q⟩ := q
    have ev : v = .bl b := dv
    exact ⟨b, ev, k (.bl (!b)) H' F' ρ' (.bl (!b)) r' s' rfl q⟩
/-- self.f = e -/
def dSetC (c0 : Str) (i : Nat) (f : Str) (t : DE) : DS := fun DD ρ => t ρ fun ρ1 d => ∃ ns ds, ρ1.sl[i]? = some (.o (.obj c0 ns ds)) ∧ ns.contains f = false ∧ ns.length < 1000 ∧ DD.nx (ρ1.set i (.o (.obj c0 (ns ++ [f]) (ds ++ [d]))))
theorem rsi_setC {i : Nat} {f : Str} {te : TE} {t : DE} (T : ClsT W.K W.cls c0 C0 fs) (re : RE W B te t) (hf : f ∈ fs) : RSI W B (sFld W.K (tVar i) te f) (dSetC c0 i f t) := by
  intro σ H F ρ D DD rl h k
  refine re σ H F ρ _ _ rl h fun y H1 F1 ρ1 d r1 s1 d1 h1 => ?_
  obtain ⟨ns, ds, hg, h1, h2, h3⟩ := h1
  have g1 : getO ρ1 i = some (.obj c0 ns ds) := by unfold getO; rw [hg]
  obtain ⟨p, e2, e3, C, dx, gs, hx, hc, hn, hd⟩ := r1.own g1
  have : C = C0 := Option.some.inj (hc.symm.trans T.at_)
  subst this
  subst hn
  refine ⟨.ref p, e3, p, C, dx, gs, rfl, hx, T.cl, T.no _ hf, (by rw [List.length_map] at h2; exact h2), ?_⟩
  rw [putF_new h1]
  exact k _ F1 _ (r1.oset (d' := .obj c0 (gs.map (·.1) ++ [f]) (ds ++ [d])) e2 e3 ⟨C, dx, _, upd_same, hc, by rw [List.map_append]; rfl, by rw [List.map_append]; exact hd.append ⟨y, [], rfl, d1, rfl⟩⟩) s1 h3
end
/-! an __init__ that reads first and sets its attributes at the end -/
section
variable {W : Wd} {B : Bs} {F F' H H' : Hp} {σ : St} {ρ : Ev}
/-- the first statement by itself -/
theorem seq_go {a b : TS} {A : DS} {D : Ends} (M : Ev → Prop) (ra : RS W B a A) (rl : Rel W B F H σ ρ) (h : A { nx := M, rt := fun _ _ => False } ρ) (k : ∀ σ' H' F' ρ', Rel W B F' H' σ' ρ' → Same F F' → M ρ' → b D σ' H') : tSeq a b D σ H :=
  ra σ H F ρ _ _ rl h ⟨fun σ' H' F' ρ' r' s' q => k σ' H' F' ρ' r' s' q, fun σ' H' F' ρ' r' s' q => q.elim, fun σ' H' F' ρ' r' s' q => q.elim, fun σ' H' F' ρ' d v r' s' dv q => q.elim⟩
/-- from now on slot 0 is of one's own -/
theorem Rel.toI {p C dx : Addr} {cn : Str} (r : Rel W (bs0 F H) F' H' σ ρ) (h0 : ρ.sl[0]? = some (.v (.opq (.ref p)))) (hp : H p = some (.ins C dx [])) (fp : F p = none) (hw : W.pw ≠ some p) (hc : W.cls cn = some C) : Rel W (bsI F H p) F' H' σ (ρ.set 0 (.o (.obj cn [] []))) := by
  have hi : 0 < ρ.sl.length := (List.getElem?_eq_some_iff.mp h0).1
  have s0 : σ[0]? = some (some (.ref p)) := by
    obtain ⟨u, e, hu⟩ := r.sl 0 _ h0
    have hu : u = V.ref p := hu
    rw [e, hu]
  have ntp : nt (H p) := by rw [hp]; exact nt_of rfl fun _ z => nomatch z
  have fp' : F' p = none := r.new p ntp fp
  have hp' : H' p = some (.ins C dx []) := by
    exact (r.keep p _ hp hw (fun z => nomatch z)).eq (fun _ z => nomatch z)
  have own : OwnAt W F' H' p (.obj cn [] []) := ⟨C, dx, [], hp', hc, rfl, DenL.nil⟩
  have at_ : ∀ {j : Nat} {s : Sl}, (ρ.set 0 (.o (.obj cn [] []))).sl[j]? = some s → (j = 0 ∧ s = .o (.obj cn [] [])) ∨ (j ≠ 0 ∧ ρ.sl[j]? = some s) := fun {j s} h => by
    by_cases e : j = 0
    · subst e
      rw [at_set hi] at h
      exact .inl ⟨rfl, (Option.some.inj h).symm⟩
    · rw [at_ne (fun z => e z.symm)] at h
      exact .inr ⟨e, h⟩
  have nop : ∀ {j : Nat} {d : D}, ρ.sl[j]? = some (.o d) → σ[j]? ≠ some (some (.ref p)) := fun {j d} h z => by
    obtain ⟨q, e, _, h0', _, _⟩ := r.sl j _ h
    rw [z] at e
    cases e
    rcases h0' with h0' | h0'
    · have h0' : H p = none := h0'
      rw [hp] at h0'; cases h0'
    · cases h0'
  refine ⟨r.ex, by rw [len_set]; exact r.len, fun j s hj => ?_, fun j k x y q hj hk h1 h2 => ?_, ?_, fun a o h1 h2 h3 => r.keep a o h1 h2 (fun z => nomatch z), r.new, r.f0, fun a ha => ?_, fun q hq => (nomatch hq), fun q hq => (nomatch hq), r.hnd⟩
  · rcases at_ hj with ⟨rfl, rfl⟩ | ⟨hne, hj⟩
    · exact ⟨p, s0, fp', .inr (List.mem_singleton.mpr rfl), hw, own⟩
    · have q := r.sl j s hj
      cases s with
      | un => trivial
      | v d => exact q
      | o d =>
        obtain ⟨q, e, a, b, c, d⟩ := q
        exact ⟨q, e, a, b.elim .inl (fun z => nomatch z), c, d⟩
  · rcases at_ hj with ⟨rfl, _⟩ | ⟨hne, hj⟩
    · rcases at_ hk with ⟨rfl, _⟩ | ⟨hne2, hk⟩
      · rfl
      · rw [s0] at h1; cases h1
        exact absurd h2 (nop hk)
    · rcases at_ hk with ⟨rfl, _⟩ | ⟨hne2, hk⟩
      · rw [s0] at h2; cases h2
        exact absurd h1 (nop hj)
      · exact r.inj j k x y q hj hk h1 h2
  · refine r.well.base (fun q hq => ?_) fun q P e z => ?_
    · show q ∉ [p]
      rw [List.mem_singleton]
      intro z
      exact hw (by rw [hq, z])
    · have z : P = p := List.mem_singleton.mp z
      exact own.tabne (r.well.2 q P e).2.2 z
  · have : a = p := List.mem_singleton.mp ha
    rw [this]; rw [hp']; exact nt_of rfl fun _ z => nomatch z
end
end DL

-- part K08G
set_option maxHeartbeats 4000000
/-! K08: Poly.__init__ -/
namespace DL
namespace K08
open PySem PySem.Spec PyProof.Rows L2 ZX
abbrev sInit : Stmt := inClass (topS 21) 0
theorem scI : FnScope ["self", "many", "terms", "found", "number", "powers", "order", "degree"] ["self", "many", "terms"] (defScope sInit) := ⟨rfl, rfl, rfl, by decide +kernel, rfl, by decide +kernel, by decide +kernel⟩
abbrev polF : List Str := ["many", "terms", "degree"]
def polE (m : Nat) (l : List Trm) : List D := [.int m, .tup (l.map trmD), .int (degT l)]
def polD (m : Nat) (l : List Trm) : D := .obj "Poly" polF (polE m l)
def gPoly : GI := fun cn ds c QD => ∃ (m : Nat) (x : D) (l : List Trm), cn = "Poly" ∧ ds = [.int m, x] ∧ m ≤ 6 ∧ RowT x l ∧ OkL m l ∧ QD polF (polE m (norm l)) c
theorem RnE.get2O {i : Nat} {t z : DE} {y d : D} {ρ : Ev} {l : List (List Key × D)} {k : List Key} (g : ρ.sl[i]? = some (.o (dicP l))) (ht : RnE t ρ ρ y) (hk : keyOfD y = some k) (hz : RnE z ρ ρ d) :
    RnE (fun ρ Q => (∃ l, getO ρ i = some (dicP l)) ∧ t ρ fun ρ1 y => z ρ1 fun ρ2 d => ∃ l k, getO ρ2 i = some (dicP l) ∧ keyOfD y = some k ∧ Q ρ2 ((lookP l k).getD d)) ρ ρ ((lookP l k).getD d) := fun Q q => by
  have g' : getO ρ i = some (dicP l) := by unfold getO; rw [g]
  exact ⟨⟨l, g'⟩, ht _ (hz _ ⟨l, k, g', hk, q⟩)⟩
theorem RnE.get {i : Nat} {t : DE} {y d : D} {ρ : Ev} {l : List (List Key × D)} {k : List Key} {td : DE} (g : RnE td ρ ρ (dicP l)) (ht : RnE t ρ ρ y) (hk : keyOfD y = some k) (hl : lookP l k = some d) :
    RnE (fun ρ Q => td ρ fun ρ0 x => ∃ l, x = dicP l ∧ t ρ0 fun ρ1 y => ∃ k d, keyOfD y = some k ∧ lookP l k = some d ∧ Q ρ1 d) ρ ρ d := fun Q q => g _ ⟨l, rfl, ht _ ⟨k, d, hk, hl, q⟩⟩
theorem ob_neI {x y : Int} : OpB gNe (.int x) (.int y) (.bl (!decide (x = y))) := fun ρ Q q => ⟨_, (by unfold eqD; rfl), q⟩
theorem dsSetC {c0 f : Str} {i : Nat} {e : DE} {DD : DEnds} {ρ ρ1 : Ev} {d : D} {ns : List Str} {ds : List D} (h : RnE e ρ ρ1 d) (g : ρ1.sl[i]? = some (.o (.obj c0 ns ds))) (h1 : ns.contains f = false) (h2 : ns.length < 1000) (q : DD.nx (ρ1.set i (.o (.obj c0 (ns ++ [f]) (ds ++ [d]))))) : dSetC c0 i f e DD ρ := h _ ⟨ns, ds, g, h1, h2, q⟩
theorem op_deg (k : Ks) : OpF gDeg [ksD k] (.int (k.sum : Nat)) := fun c Q q => ⟨k.map fun (n : Nat) => (n : Int), .inr (by unfold ksD; rw [ks_ints]), by rw [sum_cast]; exact q⟩
section
variable {P : Program} {w : World} {K : PySem.W.Frag} {mg : Str → Option Value} {base : Heap} {cls : Str → Option Addr}
theorem ok_init {f fw fa fd_ C0 : Addr} {fd dw da dd : FuncData} {k : Nat} (F : Fun K "__init__" "Poly.__init__" sInit f fd) (BL : Blt mg) {tk : Tok} (g_MOST_CELLS : mg "MOST_CELLS" = some (.int 6 tk)) (T : ClsT K cls "Poly" C0 polF)
    (A_is_within : Fn1 K mg "is_within" sIsW ["value", "least", "most"] fw dw) (A_are_terms : Fn1 K mg "are_terms" sAreT ["value", "many"] fa da) (A_degree_of : Fn1 K mg "degree_of" sDeg ["powers"] fd_ dd)
    (G_is_within : FnOk P w K mg base CX0 (k + 1) fw dw ["value", "least", "most"] (spD K cls gIsW)) (G_are_terms : FnOk P w K mg base CX0 (k + 1) fa da ["value", "many"] (spD K cls gAreT)) (G_degree_of : FnOk P w K mg base CX0 (k + 1) fd_ dd ["powers"] (spD K cls gDeg)) :
    FnOk P w K mg base CX0 (k + 2) f fd ["self", "many", "terms"] (spI K cls gPoly) := by
  refine F.ok scI (fun vs H Q E h => by
    obtain ⟨F, us, ds, c, cn, C, dx, p, pw, QD, rfl, ex, fp, hw, hp, hc, hd, wk, ⟨m, x, l, _, rfl, _⟩, kq⟩ := h
    rw [List.length_cons, ← hd.length]; rfl) (fun cdv A outer s H vs Q E hr h => ?_)
  have hu := hr.units
  have hd1 : (A.deeper (envOfC "Poly.__init__" (defScope sInit) s.heap.objs.size f cdv)).units + 1 < cLine := by omega
  refine ⟨_, (pss_cons (ps_if (pt_not (pt_val (pe_call G_is_within (by exact hr) (by rfl) A_is_within.gl A_is_within.fn.kp A_is_within.bd .nil pass0 (pa_cons (pv 1) (pa_cons pe_int (pa_cons (pe_glob (by rfl) g_MOST_CELLS (v := .int 6) ⟨_, rfl⟩) pa_nil)))))) (pss_one (ps_never)) pss_nil)
    (pss_cons (ps_if (pt_not (pt_val (pe_call G_are_terms (by exact hr) (by rfl) A_are_terms.gl A_are_terms.fn.kp A_are_terms.bd .nil pass0 (pa_cons (pv 2) (pa_cons (pv 1) pa_nil))))) (pss_one (ps_never)) pss_nil)
    (pss_cons (ps_set (i := 3) scI.nd rfl (.inr rfl) pe_dnewT)
    (pss_cons (ps_for PassesOwn.never rfl (pi_seq (pv 2)) (pg_rowK (K := K) (n := 2) rfl rfl (pgs_cons (pg_name (i := 4) scI.nd rfl (.inl rfl)) (pgs_cons (pg_name (i := 5) scI.nd rfl (.inl rfl)) pgs_nil))) (pss_one (ps_dput (by exact hd1) (pv 3) (pe_tupleOf (by rfl) BL.m_tuple (pv 5)) (pe_op op_add (pe_dget2 (by exact hd1) (pv 3) (pe_tupleOf (by rfl) BL.m_tuple (pv 5)) pe_int ⟨rfl, rfl, rfl, rfl⟩) (pv 4)) rfl)))
    (pss_cons (ps_set (i := 6) scI.nd rfl (.inl rfl) (pe_callB (r := rSortedDat K) (cr_sortedDat hu) (by rfl) BL.m_sorted (by decide +kernel) (pa_cons (pe_lk (pe_lc rfl scI.nd (pi_keys (pv 3)) (own := [("powers", 5)]) (blkOk_by rfl) (fun _ _ _ _ _ => (pg_name (i := 5) scI.nd rfl (.inl rfl))) (fun _ _ _ _ _ => (pts_one (pt_cmpR (r := rNeD K) (op_neD hu) (pe_dget (by exact hd1) (pv 3) (pv 5) (fun _ _ => rfl)) pe_int (nomark _)))) (fun _ _ _ _ _ => (pe_tup (pa_cons (pe_call G_degree_of (by exact hr) (by rfl) A_degree_of.gl A_degree_of.fn.kp A_degree_of.bd .nil pass0 (pa_cons (pv 5) pa_nil)) (pa_cons (pv 5) pa_nil)))))) pa_nil)))
    (pss_cons (ps_fld (pv 0) (pv 1) rfl)
    (pss_cons (ps_fld (pv 0) (pe_tupleOf (by rfl) BL.m_tuple (pe_lc rfl scI.nd (pi_seq (pv 6)) (own := [("degree", 7), ("powers", 5)]) (blkOk_by rfl) (fun _ _ _ _ _ => (pg_tupK (K := K) (n := 2) rfl rfl (pgs_cons (pg_name (i := 7) scI.nd rfl (.inl rfl)) (pgs_cons (pg_name (i := 5) scI.nd rfl (.inl rfl)) pgs_nil)))) (fun _ _ _ _ _ => pts_nil) (fun _ _ _ _ _ => (pe_tup (pa_cons (pe_dget (by exact hd1) (pv 3) (pv 5) (fun _ _ => rfl)) (pa_cons (pv 5) pa_nil)))))) rfl)
    (pss_one (ps_fld (pv 0) (pe_callB (r := rMax K) (cr_max rfl) (by rfl) BL.m_max (by decide +kernel) (pa_cons (pe_lst (pa_cons pe_int (pa_starK (K := K) rfl (pe_lc rfl scI.nd (pi_seq (pv 6)) (own := [("degree", 7), ("powers", 5)]) (blkOk_by rfl) (fun _ _ _ _ _ => (pg_tupK (K := K) (n := 2) rfl rfl (pgs_cons (pg_name (i := 7) scI.nd rfl (.inl rfl)) (pgs_cons (pg_name (i := 5) scI.nd rfl (.inl rfl)) pgs_nil)))) (fun _ _ _ _ _ => pts_nil) (fun _ _ _ _ _ => (pv 7))) pa_nil))) pa_nil)) rfl))))))))), ?_⟩
  obtain ⟨F, us, ds, c, cn, C, dx, p, pw, QD, rfl, ex, fp, hw, hp, hc, hd, wk, g, kq⟩ := h
  have hio : (bs0 F H).io = [] := rfl
  obtain ⟨m, x, l, rfl, rfl, hm, hx, hl, q⟩ := g
  have hC : C = C0 := Option.some.inj (hc.symm.trans T.at_)
  have hB : 1048576 ≤ sizeLine := by decide
  have dpx := deep_trms hx hl hm
  have arx := areT_trms hx hl
  obtain ⟨r, hxr, hrt⟩ := hx
  generalize hρ : ent (Str.ofString "self" :: [Str.ofString "many", Str.ofString "terms", Str.ofString "found", Str.ofString "number", Str.ofString "powers", Str.ofString "order", Str.ofString "degree"]).length (.opq (.ref p) :: [.int m, x]) c = ρ
  have h0 : ρ.sl[0]? = some (.v (.opq (.ref p))) := by rw [← hρ]; rfl
  have h1 : ρ.sl[1]? = some (.v (.int m)) := by rw [← hρ]; rfl
  have h2 : ρ.sl[2]? = some (.v x) := by rw [← hρ]; rfl
  have h5 : ρ.sl[5]? = some .un := by rw [← hρ]; rfl
  have h7 : ρ.sl[7]? = some .un := by rw [← hρ]; rfl
  have hlen : ρ.sl.length = 8 := by rw [← hρ]; rfl
  have hcc : ρ.c = c := by rw [← hρ]; rfl
  have rl0 : Rel ⟨K, cls, pw⟩ (bs0 F H) F H (start ["self", "many", "terms", "found", "number", "powers", "order", "degree"] (.ref p :: us)) ρ := by
    rw [← hρ]
    exact rel_start (N := ["self", "many", "terms", "found", "number", "powers", "order", "degree"]) ex (.cons (d := .opq (.ref p)) rfl hd) wk (by show 3 ≤ 8; decide)
  -- the arguments are right
  refine seq_go (fun ρ1 => ρ1 = ρ) ((rs_ifC (rt_not (rt_BC (re_call (E := E0) (ra_cons (re_var (i := 1) hio) (ra_cons re_c (ra_cons re_c ra_nil)))))) rs_never rs_next)) rl0 ?_ fun σ1 H1 F1 ρ1 rl1 sf1 m1 => ?_
  · refine dsIf false (RnT.not (b := true) (RnT.bc (RnE.call (RnA.cons (RnE.var h1) (RnA.cons RnE.c (RnA.one RnE.c))) (fun c Q q => ⟨.int m, 0, 6, rfl, rfl, ?_⟩)))) (fun h => by cases h) (fun _ => rfl)
    have e : within (.int m) 0 6 = true := by
      show (decide ((0 : Int) ≤ m) && decide ((m : Int) ≤ 6)) = true
      rw [decide_eq_true (by omega), decide_eq_true (by omega)]; rfl
    rw [e]; exact q
  rw [m1] at rl1
  refine seq_go (fun ρ1 => ρ1 = ρ) ((rs_ifC (rt_not (rt_BC (re_call (E := E0) (ra_cons (re_var (i := 2) hio) (ra_cons (re_var (i := 1) hio) ra_nil))))) rs_never rs_next)) rl1 ?_ fun σ2 H2 F2 ρ2 rl2 sf2 m2 => ?_
  · refine dsIf false (RnT.not (b := true) (RnT.bc (RnE.call (RnA.cons (RnE.var h2) (RnA.one (RnE.var h1))) (fun c Q q => ⟨x, m, rfl, dpx, by rw [arx]; exact q⟩)))) (fun h => by cases h) (fun _ => rfl)
  rw [m2] at rl2
  refine seq_go (fun ρ1 => ρ1 = ρ.set 3 (.o (dicP (dP [])))) ((rs_asgN rn_dnewT)) rl2 (dsAsgN RnE.c rfl) fun σ3 H3 F3 ρ3 rl3 sf3 m3 => ?_
  rw [m3] at rl3
  -- the sums
  refine seq_go (fun ρ' => Agr [3, 4, 5] ρ ρ' ∧ ρ'.c = ρ.c ∧ ρ'.sl[3]? = some (.o (dicP (dP (dct l)))) ∧ ∃ s, ρ'.sl[5]? = some s ∧ noO s = true) ((rs_for (ri_seq (re_var (i := 2) hio)) (rg_row (rgs_cons (rg_name (i := 4)) (rgs_cons (rg_name (i := 5)) rgs_nil))) (rs_putO (i := 3) (re_I0 (re_get2O (i := 3) (re_kTup (re_var (i := 5) hio)) re_c) (re_var (i := 4) hio)) (re_kTup (re_var (i := 5) hio))))) rl3 ?_ fun σ4 H4 F4 ρ4 rl4 sf4 m4 => ?_
  · have h2' : (ρ.set 3 (.o (dicP (dP [])))).sl[2]? = some (.v x) := (at_ne (by decide)).trans h2
    refine RnA.seq (RnE.var h2') hxr _ ?_
    refine for_inv (fun j ρ' => Agr [3, 4, 5] ρ ρ' ∧ ρ'.c = ρ.c ∧ ρ'.sl[3]? = some (.o (dicP (dP (dct (l.take j))))) ∧ ∃ s, ρ'.sl[5]? = some s ∧ noO s = true) (fun j d ρj N hdj hJ hN => ?_) ⟨Agr.refl.put (by decide), rfl, by rw [List.take_zero]; exact at_set (by omega), .un, (at_ne (by decide)).trans h5, rfl⟩ (fun ρ' hJ => ?_)
    · obtain ⟨ag, hc1, g3, s5, g5, n5⟩ := hJ
      rw [List.getElem?_map] at hdj
      cases hz : l[j]? with
      | none => rw [hz] at hdj; cases hdj
      | some t =>
        rw [hz] at hdj
        cases hdj
        have htl := List.mem_of_getElem? hz
        obtain ⟨b, e1, e2⟩ := hrt t htl
        have l1 : ρj.sl.length = 8 := ag.1.trans hlen
        refine RnG.row e1 rfl (RnGs.cons RnG.name (RnGs.cons RnG.name RnGs.nil)) _ ?_
        generalize hρk : (ρj.set 4 (.v (.int t.1))).set 5 (.v b) = ρk
        have b3 : ρk.sl[3]? = some (.o (dicP (dP (dct (l.take j))))) := by rw [← hρk, at_ne (by decide), at_ne (by decide)]; exact g3
        have b4 : ρk.sl[4]? = some (.v (.int t.1)) := by rw [← hρk, at_ne (by decide)]; exact at_set (by omega)
        have b5 : ρk.sl[5]? = some (.v b) := by rw [← hρk]; exact at_set (by rw [len_set]; omega)
        have agk : Agr [3, 4, 5] ρ ρk := by rw [← hρk]; exact (ag.put (by decide)).put (by decide)
        have hck : ρk.c = ρ.c := by rw [← hρk]; exact hc1
        have hkey : RnE (fun ρ Q => dVar 5 ρ fun ρ1 x => gTupTh x ρ1 Q) ρk ρk (ksD t.2) := RnE.un (RnE.var b5) (ov_tup e2)
        have hg2 := RnE.get2O b3 hkey (keyOf_ks t.2) (RnE.c (d := .int 0))
        rw [look_getD] at hg2
        have hget := RnE.bin hg2 (RnE.var b4) (ob_I0 (f := fun i j => vC (.int (i + j))) (x := getT (dct (l.take j)) t.2) (y := t.1))
        have gO : getO ρk 3 = some (dicP (dP (dct (l.take j)))) := by unfold getO; rw [b3]
        refine hget _ ⟨⟨_, gO⟩, hkey _ ⟨_, _, gO, keyOf_ks t.2, ?_, hN _ ⟨agk.put (by decide), hck, ?_, .v b, ?_, rfl⟩⟩⟩
        · unfold dP
          rw [List.length_map]
          have := dct_length l j
          have hj : j < l.length := (List.getElem?_eq_some_iff.mp hz).1
          have := hl.1
          omega
        · rw [List.take_add_one, hz]
          show _ = some (Sl.o (dicP (dP (dct (l.take j ++ [t])))))
          rw [dct_snoc]
          show (ρk.set 3 (.o (dicP (putP _ (kk t.2) (.int _))))).sl[3]? = _
          rw [put_dP]
          exact at_set (by rw [agk.1]; omega)
        · rw [at_ne (by decide)]; exact b5
    · obtain ⟨ag, hc1, g3, g5⟩ := hJ
      rw [List.length_map, List.take_length] at g3
      exact ⟨ag, hc1, g3, g5⟩
  obtain ⟨ag4, hc4, g43, s5, g45, n5⟩ := m4
  have l4 : ρ4.sl.length = 8 := ag4.1.trans hlen
  have dl : (dct l).length ≤ 1000 := by
    have := dct_length l l.length
    rw [List.take_length] at this
    have := hl.1
    omega
  -- their order
  generalize hρ5 : ρ4.set 3 (.v (dicP (dP (dct l)))) = ρ5
  have a53 : ρ5.sl[3]? = some (.v (dicP (dP (dct l)))) := by rw [← hρ5]; exact at_set (by omega)
  have a55 : ρ5.sl[5]? = some s5 := by rw [← hρ5, at_ne (by decide)]; exact g45
  have l5 : ρ5.sl.length = 8 := by rw [← hρ5, len_set]; exact l4
  have n55 : noOwn ρ5 [5] = true := noOwn1 (l := ρ5.sl) (c := ρ5.c) a55 n5
  refine seq_go (fun ρ' => ρ' = ρ5.set 6 (.v (.lst ((ord (dct l)).map pairD)))) ((rs_asg (re_sortedD (ra_cons (RN.re (rn_lcK (is := [5]) (vs := [5]) walk_keys (fun B hb => by have hio := hb.trans hio; exact (rg_name (i := 5))) (fun B hb => by have hio := hb.trans hio; exact (rt_test (re_neD (re_get (re_var (i := 3) hio) (re_var (i := 5) hio)) re_c))) (fun B hb => by have hio := hb.trans hio; exact (re_tup (ra_cons (re_call (E := E0) (ra_cons (re_var (i := 5) hio) ra_nil)) (ra_cons (re_var (i := 5) hio) ra_nil)))) (fun _ h => h) hio)) ra_nil)) (rg_name (i := 6)))) rl4 ?_ fun σ5 H5 F5 ρ6 rl5 sf5 m5 => ?_
  · have hlc := RnE.lcKX (xs := (dct l).map (·.1)) (r := ksD) (fn := fun l => l.map fun p => keyT p.1) (g := dgName 5) (vs := [5]) (tt := dB (fun ρ Q => (fun ρ Q => dVar 3 ρ fun ρ0 x => ∃ l, x = dicP l ∧ (dVar 5) ρ0 fun ρ1 y => ∃ k d, keyOfD y = some k ∧ lookP l k = some d ∧ Q ρ1 d) ρ fun ρ1 x => dC (vC (.int 0)) ρ1 fun ρ2 y => gNe x y ρ2 Q)) (e := dTup (dCons (dCall gDeg (dCons (dVar 5) dNil)) (dCons (dVar 5) dNil))) pairD (fun k => decide (getT (dct l) k ≠ 0)) g43 (.inr ⟨rfl, rfl⟩) (keys_dP (dct l)) (by rw [hρ5]; exact n55) (by rw [List.length_map]; exact Nat.le_trans dl (by decide)) (fun k hk => by
      rw [hρ5]
      have b5 := atw1 (ρ := ρ5) (i := 5) (s := .v (ksD k)) (by omega)
      have b3 : ((ρ5.wipe [5]).set 5 (.v (ksD k))).sl[3]? = some (.v (dicP (dP (dct l)))) := agr_at ag1 (by decide) a53
      refine ⟨_, ag1, rfl, RnG.name, RnT.b ?_, fun _ => RnE.tup (RnA.cons (RnE.call (RnA.one (RnE.var b5)) (op_deg k)) (RnA.one (RnE.var b5))) (by show 2 ≤ sizeLine; decide)⟩
      have hb := RnE.bin (RnE.get (i := 3) (RnE.var b3) (RnE.var b5) (keyOf_ks k) (look_mem hk)) (RnE.c (d := vC (.int 0))) (ob_neI (x := getT (dct l) k) (y := 0))
      rw [show decide (getT (dct l) k ≠ 0) = !decide (getT (dct l) k = 0) from decide_not]
      exact hb)
    rw [hρ5] at hlc
    have hs := RnE.app (RnA.one hlc) (ou_sorted (ks := liveK (dct l)))
    exact dsAsg hs RnG.name rfl
  rw [m5] at rl5
  have b60 : (ρ5.set 6 (.v (.lst ((ord (dct l)).map pairD)))).sl[0]? = some (.v (.opq (.ref p))) := by rw [at_ne (by decide), ← hρ5, at_ne (by decide)]; exact agr_at ag4 (by decide) h0
  have rl6 := rl5.toI (cn := "Poly") b60 hp fp hw hc
  generalize hρ7 : (ρ5.set 6 (.v (.lst ((ord (dct l)).map pairD)))).set 0 (.o (.obj "Poly" [] [])) = ρ7 at rl6
  have l7 : ρ7.sl.length = 8 := by rw [← hρ7, len_set, len_set]; exact l5
  have c0 : ρ7.sl[0]? = some (.o (.obj "Poly" [] [])) := by rw [← hρ7]; exact at_set (by rw [len_set]; omega)
  have c1 : ρ7.sl[1]? = some (.v (.int m)) := by rw [← hρ7, at_ne (by decide), at_ne (by decide), ← hρ5, at_ne (by decide)]; exact agr_at ag4 (by decide) h1
  have c3 : ρ7.sl[3]? = some (.v (dicP (dP (dct l)))) := by rw [← hρ7, at_ne (by decide), at_ne (by decide)]; exact a53
  have c5 : ρ7.sl[5]? = some s5 := by rw [← hρ7, at_ne (by decide), at_ne (by decide)]; exact a55
  have c6 : ρ7.sl[6]? = some (.v (.lst ((ord (dct l)).map pairD))) := by rw [← hρ7, at_ne (by decide)]; exact at_set (by omega)
  have c7 : ρ7.sl[7]? = some .un := by rw [← hρ7, at_ne (by decide), at_ne (by decide), ← hρ5, at_ne (by decide)]; exact agr_at ag4 (by decide) h7
  have cc7 : ρ7.c = c := by rw [← hρ7, ← hcc, ← hc4, ← hρ5]; rfl
  have ol : (ord (dct l)).length ≤ sizeLine := Nat.le_trans (ord_length _) (Nat.le_trans dl (by decide))
  refine rsi_seq ((rsi_setC T (re_val (i := 1)) (by decide +kernel))) (rsi_seq ((rsi_setC T (re_kTup (RN.re (rn_lc (is := [7, 5]) (vs := [7, 5]) (ri_seq (re_val (i := 6))) (fun B hb => (rg_tup (rgs_cons (rg_name (i := 7)) (rgs_cons (rg_name (i := 5)) rgs_nil)))) (fun B hb => rt_yes) (fun B hb => (re_tup (ra_cons (re_get (re_val (i := 3)) (re_val (i := 5))) (ra_cons (re_val (i := 5)) ra_nil)))) (fun _ h => h)))) (by decide +kernel))) ((rsi_setC T (re_max (ra_cons (re_lst (ra_cons re_c (ra_star (RN.re (rn_lc (is := [7, 5]) (vs := [7, 5]) (ri_seq (re_val (i := 6))) (fun B hb => (rg_tup (rgs_cons (rg_name (i := 7)) (rgs_cons (rg_name (i := 5)) rgs_nil)))) (fun B hb => rt_yes) (fun B hb => (re_val (i := 7))) (fun _ h => h))) ra_nil))) ra_nil)) (by decide +kernel)))) σ5 H5 F5 ρ7 _ { nx := fun ρ' => ρ'.sl[0]? = some (.o (polD m (norm l))) ∧ ρ'.c = c, rt := fun _ _ => False } rl6 ?_ fun H' F' ρ' r' s' q' => ?_
  · refine dsSeq (dsSetC (RnE.val c1) c0 rfl (by decide) ?_)
    generalize hρ8 : ρ7.set 0 (.o (.obj "Poly" ([] ++ [Str.ofString "many"]) ([] ++ [D.int m]))) = ρ8
    have l8 : ρ8.sl.length = 8 := by rw [← hρ8, len_set]; exact l7
    have e0 : ρ8.sl[0]? = some (.o (.obj "Poly" ["many"] [D.int m])) := by rw [← hρ8]; exact at_set (by omega)
    have e3 : ρ8.sl[3]? = some (.v (dicP (dP (dct l)))) := by rw [← hρ8, at_ne (by decide)]; exact c3
    have e5 : ρ8.sl[5]? = some s5 := by rw [← hρ8, at_ne (by decide)]; exact c5
    have e6 : ρ8.sl[6]? = some (.v (.lst ((ord (dct l)).map pairD))) := by rw [← hρ8, at_ne (by decide)]; exact c6
    have e7 : ρ8.sl[7]? = some .un := by rw [← hρ8, at_ne (by decide)]; exact c7
    have ec : ρ8.c = c := by rw [← hρ8]; exact cc7
    have no75 : ∀ ρx : Ev, ρx.sl[5]? = some s5 → ρx.sl[7]? = some .un → noOwn ρx [7, 5] = true := fun ρx z5 z7 => by
      have h7 := noOwn1 (l := ρx.sl) (c := ρx.c) z7 rfl
      have h5 := noOwn1 (l := ρx.sl) (c := ρx.c) z5 n5
      unfold noOwn at h7 h5 ⊢
      rw [List.all_cons, List.all_nil, Bool.and_true] at h7 h5
      rw [List.all_cons, List.all_cons, List.all_nil, Bool.and_true]
      rw [h7, h5]; rfl
    have hterms := RnE.lcY (xs := ord (dct l)) (r := pairD) (s := dSq (dVal 6)) (g := dgTup 2 (dgCons (dgName 7) (dgCons (dgName 5) dgNil))) (vs := [7, 5]) (e := dTup (dCons (fun ρ Q => dVal 3 ρ fun ρ0 x => ∃ l, x = dicP l ∧ (dVal 5) ρ0 fun ρ1 y => ∃ k d, keyOfD y = some k ∧ lookP l k = some d ∧ Q ρ1 d) (dCons (dVal 5) dNil))) (fun k => trmD (getT (dct l) k, k)) (RnA.seq (RnE.val e6) rfl) (no75 ρ8 e5 e7) ol (fun k hk => by
      have b5 := atw2 (ρ := ρ8) (i := 7) (j := 5) (s := .v (.int (k.sum : Nat))) (t := .v (ksD k)) (by omega)
      have b3 := agr_at (ag2 (ρ := ρ8) (i := 7) (j := 5) (s := .v (.int (k.sum : Nat))) (t := .v (ksD k))) (i := 3) (by decide) e3
      exact ⟨_, ag2, rfl, RnG.two, RnE.tup (RnA.cons (RnE.get (i := 3) (RnE.val b3) (RnE.val b5) (keyOf_ks k) (look_mem (ord_mem hk))) (RnA.one (RnE.val b5))) (by show 2 ≤ sizeLine; decide)⟩)
    have ht := RnE.un hterms (ov_tup rfl)
    refine dsSeq (dsSetC ht e0 (by decide +kernel) (by decide) ?_)
    generalize hρ9 : ρ8.set 0 (.o (.obj "Poly" ([Str.ofString "many"] ++ [Str.ofString "terms"]) ([D.int m] ++ [.tup ((ord (dct l)).map fun k => trmD (getT (dct l) k, k))]))) = ρ9
    have l9 : ρ9.sl.length = 8 := by rw [← hρ9, len_set]; exact l8
    have f0 : ρ9.sl[0]? = some (.o (.obj "Poly" ["many", "terms"] [D.int m, .tup ((ord (dct l)).map fun k => trmD (getT (dct l) k, k))])) := by rw [← hρ9]; exact at_set (by omega)
    have f5 : ρ9.sl[5]? = some s5 := by rw [← hρ9, at_ne (by decide)]; exact e5
    have f6 : ρ9.sl[6]? = some (.v (.lst ((ord (dct l)).map pairD))) := by rw [← hρ9, at_ne (by decide)]; exact e6
    have f7 : ρ9.sl[7]? = some .un := by rw [← hρ9, at_ne (by decide)]; exact e7
    have hdeg := RnE.lcY (xs := ord (dct l)) (r := pairD) (s := dSq (dVal 6)) (g := dgTup 2 (dgCons (dgName 7) (dgCons (dgName 5) dgNil))) (vs := [7, 5]) (e := dVal 7) (fun k => D.int (k.sum : Nat)) (RnA.seq (RnE.val f6) rfl) (no75 ρ9 f5 f7) ol (fun k hk => by
      have b7 := atw2' (ρ := ρ9) (i := 7) (j := 5) (s := .v (.int (k.sum : Nat))) (t := .v (ksD k)) (by decide) (by omega)
      exact ⟨_, ag2, rfl, RnG.two, RnE.val b7⟩)
    have hmx := RnE.max (ns := (ord (dct l)).map fun k => ((k.sum : Nat) : Int)) (RnA.one (RnE.lst (RnA.cons (RnE.c (d := vC (.int 0))) (RnA.star hdeg rfl RnA.nil)) (by
      rw [List.append_nil, List.length_cons, List.length_map]
      exact Nat.le_trans (Nat.add_le_add_right (Nat.le_trans (ord_length _) dl) 1) (by decide))) |> fun h => by
        rw [List.append_nil] at h
        rw [List.map_cons, List.map_map]
        exact h)
    refine dsSetC hmx f0 (by decide +kernel) (by decide) ?_
    refine ⟨?_, by show ρ9.c = c; rw [← hρ9]; exact ec⟩
    rw [at_set (by omega)]
    unfold polD polE norm degT
    rw [List.map_map, List.map_map]
    rfl
  · obtain ⟨q0, qc⟩ := q'
    obtain ⟨p', e1, fp', _, _, ow⟩ := r'.sl 0 _ q0
    have z0 : σ5[0]? = some (some (.ref p)) := by
      obtain ⟨p2, z1, _⟩ := rl6.sl 0 _ c0
      obtain ⟨u, z2, hu2⟩ := rl5.sl 0 _ b60
      obtain rfl : u = V.ref p := hu2
      exact z2
    rw [z0] at e1
    cases e1
    exact kq H' F' polF (polE m (norm l)) ρ'.c ⟨r'.f0, r'.ex, fun a o h1 h2 h3 => r'.keep a o h1 h2 h3, fun a h1 h2 => r'.new a h1 h2⟩ fp' ow (r'.well.base (fun p hp z => nomatch z) fun _ _ _ z => nomatch z) (by rw [qc]; exact q)
end
end K08
end DL

-- part K08S
set_option maxHeartbeats 4000000
/-! K08: _law_said -/
namespace DL
namespace K08
open PySem PySem.Spec PyProof.Rows L2
def errN : Nat → Str
  | 0 => "BadProgram" | 1 => "BadPlace" | 2 => "BadNumber" | 3 => "BadValue" | 4 => "BadText" | 5 => "BadCommand" | 6 => "Nothing" | _ => "TooMany"
/-- what the written part says of the errors' classes -/
structure ErrT (K : PySem.W.Frag) (mg : Str → Option Value) (Cs : Nat → Addr) (CSo : Addr) : Prop where
  g : ∀ i, i < 8 → mg (errN i) = some (.ref (Cs i))
  gS : mg "SoError" = some (.ref CSo)
  x : ∀ i, i < 4 → XkC K (Cs i)
  k : ∀ i j, i < 4 → j < 8 → PySem.W.kitOne K (.ref (Cs i)) (.ref (Cs j)) = some (decide (i = j))
  m : ∀ i, i < 4 → PySem.W.exmOne K (.ref (Cs i)) (.ref CSo) = some true
  f : ∀ i, i < 4 → PySem.W.findIn K (.ref (Cs i)) "part" = some none
  oc : PySem.W.specialIn K (.builtin "object.__class__") "__get__" = some (some (.builtin "getset_descriptor.__get__"))
  ot : PySem.W.takesIn K (.builtin "object.__class__") = some true
abbrev sSaid : Stmt := topS 28
abbrev NSaid : List Str := ["ask", "caught", "error", "kinds"]
theorem scSaid : FnScope NSaid ["ask"] (defScope sSaid) := ⟨rfl, rfl, rfl, by decide +kernel, rfl, by decide +kernel, by decide +kernel⟩
section
variable {X : Cx} {Cs : Nat → Addr} {CSo : Addr} {g : Addr} {cdv : Value} {q : Str}
abbrev isiT (X : Cx) (Cs : Nat → Addr) (j : Nat) : TE := tCB (rIsR X.K) (tCons (tVar 1) (tCons (tC (.ref (Cs j))) tNil))
theorem said_gives (T : ErrT X.K X.mg Cs CSo) (m_isinstance : X.mg "isinstance" = none) : Gives X NSaid "_law_said" (defScope sSaid) g cdv (defBody sSaid) "ask" q (TTsaid Cs) := by
  intro f c' s H Q tl act code h
  refine ⟨_, pss_cons (ps_set (i := 1) scSaid.nd rfl (.inl rfl) pe_non) (pss_cons (ps_keep (i := 2) (c := .ref CSo)
      (tb := fun W D σ H => ∃ Ech : XK, (∀ cls d H', Ech cls d H' → W cls d σ H') ∧ σ[0]? = some (some (.ref f)) ∧ H c' = some (LamX.CodeO c' q) ∧ tl Ech H fun _ _ => False)
      rfl rfl rfl scSaid.nd rfl rfl ⟨rfl, by decide, .inl T.gS⟩ (fun W pn xe tk _ => ?_) (fun a oe cls d pn hz hf => pss_one (ps_set (i := 1) scSaid.nd rfl (.inl rfl) (pv 2))))
      (pss_cons (ps_if (pt_cmpR op_isN (pv 1) pe_non (nomark _)) (pss_one (ps_ret pe_non)) pss_nil)
      (pss_cons (ps_if (pt_val (pe_callB (call_isR T.oc T.ot) (by rfl) m_isinstance (by decide +kernel) (pa_cons (pv 1) (pa_cons (pe_glob (by rfl) (T.g 7 (by decide)) (v := .ref (Cs 7)) rfl) pa_nil)))) (pss_one ps_never) pss_nil)
      (pss_cons (ps_if (pt_val (pe_callB (call_isR T.oc T.ot) (by rfl) m_isinstance (by decide +kernel) (pa_cons (pv 1) (pa_cons (pe_glob (by rfl) (T.g 4 (by decide)) (v := .ref (Cs 4)) rfl) pa_nil)))) (pss_one ps_never) pss_nil)
      (pss_cons (ps_if (pt_val (pe_callB (call_isR T.oc T.ot) (by rfl) m_isinstance (by decide +kernel) (pa_cons (pv 1) (pa_cons (pe_glob (by rfl) (T.g 5 (by decide)) (v := .ref (Cs 5)) rfl) pa_nil)))) (pss_one ps_never) pss_nil)
      (pss_cons (ps_if (pt_val (pe_callB (call_isR T.oc T.ot) (by rfl) m_isinstance (by decide +kernel) (pa_cons (pv 1) (pa_cons (pe_glob (by rfl) (T.g 6 (by decide)) (v := .ref (Cs 6)) rfl) pa_nil)))) (pss_one ps_never) pss_nil)
      (pss_cons (ps_set (i := 3) scSaid.nd rfl (.inl rfl) (pe_lst (pa_cons (pe_callB (call_isR T.oc T.ot) (by rfl) m_isinstance (by decide +kernel) (pa_cons (pv 1) (pa_cons (pe_glob (by rfl) (T.g 0 (by decide)) (v := .ref (Cs 0)) rfl) pa_nil))) (pa_cons (pe_callB (call_isR T.oc T.ot) (by rfl) m_isinstance (by decide +kernel) (pa_cons (pv 1) (pa_cons (pe_glob (by rfl) (T.g 1 (by decide)) (v := .ref (Cs 1)) rfl) pa_nil))) (pa_cons (pe_callB (call_isR T.oc T.ot) (by rfl) m_isinstance (by decide +kernel) (pa_cons (pv 1) (pa_cons (pe_glob (by rfl) (T.g 2 (by decide)) (v := .ref (Cs 2)) rfl) pa_nil))) (pa_cons (pe_callB (call_isR T.oc T.ot) (by rfl) m_isinstance (by decide +kernel) (pa_cons (pv 1) (pa_cons (pe_glob (by rfl) (T.g 3 (by decide)) (v := .ref (Cs 3)) rfl) pa_nil))) pa_nil))))))
      (pss_one (ps_ret (pe_ifExp (pt_cmpR op_eq (pe_bm PySem.F.plainAttrs_list PySem.F.slot_list_count PySem.F.type_list_count mt_countF (pv 3) (pa_cons pe_bl pa_nil)) pe_int (nomark _)) (pe_tup (pa_cons (pe_ix ix_list (pe_lst (pa_cons pe_str (pa_cons pe_str (pa_cons pe_str (pa_cons pe_str pa_nil))))) (pe_bm PySem.F.plainAttrs_list PySem.F.slot_list_index PySem.F.type_list_index mt_index (pv 3) (pa_cons pe_bl pa_nil)) (fun _ _ => rfl)) (pa_cons (pe_fldR (pv 1)) pa_nil))) pe_str)))))))))), ?_⟩
  · refine ⟨fun pins s' σ H' D J h' => ?_⟩
    obtain ⟨Ech, hW, h1, h2, h3⟩ := h'
    have never : ∀ p1 p2 : Pos, PE ((cxOf C8.CX0 X.prog X.w X.K X.mg X.base NSaid "_law_said" (defScope sSaid) g cdv X.A X.stack s H C8.E0).tr pn xe) (.Call (.Name "ask" p1) [] [] p2) (fun σZ HZ _ => σZ[0]? = some (some (.ref f)) ∧ HZ c' = some (LamX.CodeO c' q) ∧ (∀ cls d H', Ech cls d H' → W cls d σZ H') ∧ tl Ech HZ fun _ _ => False) :=
      fun p1 p2 => ⟨fun pins s σ H Q I hh => wpAny_mono ((act W pn xe Ech p1 p2 tk).run pins s σ H (fun _ _ => False) I hh) (fun v s1 ⟨_, _, _, _, z⟩ => z.elim) fun _ _ e => e⟩
    exact (pss_one (ps_expr (never _ _))).run pins s' σ H' D J ⟨h1, h2, hW, h3⟩
  · show tSeq _ _ _ [some (.ref f), none, none, none] H
    refine ⟨_, ?_, rfl, code, h⟩
    rintro cls d H' ⟨i, p, dx, hi, rfl, rfl, hx, hq⟩
    refine ⟨T.m i hi, fun a ha => ?_⟩
    have hQ := hq a
    have nda : dx ≠ a := fun z => by rw [z, ha] at hx; cases hx
    -- what holds while the answer is made
    have hd : ∀ {H2 : Hp}, (∀ b o, (upd H' a (ExR a (.ref (Cs i)) (some dx))) b = some o → H2 b = some o) → ExHd H2 a (Cs i) [("part", .str p)] := fun {H2} k =>
      ⟨dx, k _ _ upd_same, k _ _ (by rw [upd_ne nda]; exact hx)⟩
    have kk := T.k i
    have x := T.x i hi
    have no : ∀ j, j < 8 → 4 ≤ j → PySem.W.kitOne X.K (.ref (Cs i)) (.ref (Cs j)) = some false := fun j h1 h2 => by
      rw [T.k i j hi h1, decide_eq_false (by omega)]
    refine ⟨.ref a, rfl, ?_⟩
    -- caught is None
    refine ⟨.ref a, rfl, rfl, false, rfl, iteF ?_⟩
    refine ⟨.ref a, rfl, a, Cs i, _, .ref (Cs 7), .ref (Cs 7), false, rfl, .own _, hd fun _ _ e => e, x, no 7 (by decide) (by decide), false, rfl, iteF ?_⟩
    refine ⟨.ref a, rfl, a, Cs i, _, .ref (Cs 4), .ref (Cs 4), false, rfl, .own _, hd fun _ _ e => e, x, no 4 (by decide) (by decide), false, rfl, iteF ?_⟩
    refine ⟨.ref a, rfl, a, Cs i, _, .ref (Cs 5), .ref (Cs 5), false, rfl, .own _, hd fun _ _ e => e, x, no 5 (by decide) (by decide), false, rfl, iteF ?_⟩
    refine ⟨.ref a, rfl, a, Cs i, _, .ref (Cs 6), .ref (Cs 6), false, rfl, .own _, hd fun _ _ e => e, x, no 6 (by decide) (by decide), false, rfl, iteF ?_⟩
    -- kinds
    refine ⟨.ref a, rfl, a, Cs i, _, .ref (Cs 0), .ref (Cs 0), decide (i = 0), rfl, .own _, hd fun _ _ e => e, x, kk 0 hi (by decide), ?_⟩
    refine ⟨.ref a, rfl, a, Cs i, _, .ref (Cs 1), .ref (Cs 1), decide (i = 1), rfl, .own _, hd fun _ _ e => e, x, kk 1 hi (by decide), ?_⟩
    refine ⟨.ref a, rfl, a, Cs i, _, .ref (Cs 2), .ref (Cs 2), decide (i = 2), rfl, .own _, hd fun _ _ e => e, x, kk 2 hi (by decide), ?_⟩
    refine ⟨.ref a, rfl, a, Cs i, _, .ref (Cs 3), .ref (Cs 3), decide (i = 3), rfl, .own _, hd fun _ _ e => e, x, kk 3 hi (by decide), ?_⟩
    refine ⟨by show 4 ≤ sizeLine; decide, fun l1 f1 => ?_⟩
    have g1 : (upd (upd H' a (ExR a (.ref (Cs i)) (some dx))) l1 (.lst (kindsL i))) l1 = some (.lst (kindsL i)) := upd_same
    have hd1 := hd (H2 := upd (upd H' a (ExR a (.ref (Cs i)) (some dx))) l1 (.lst (kindsL i))) fun b o e => by rw [upd_ne (ne_of_none e f1)]; exact e

    have hcount : (kindsL i).countP (fun z => eqV z (.bl true)) = 1 := by
      rcases i with _ | _ | _ | _ | i
      · rfl
      · rfl
      · rfl
      · rfl
      · omega
    have sq1 : SqL X.K (upd (upd H' a (ExR a (.ref (Cs i)) (some dx))) l1 (.lst (kindsL i))) l1 (kindsL i) := .inl (.inl g1)
    refine ⟨.ref l1, rfl, .inl ⟨rfl, _, sq1⟩, l1, kindsL i, .bl true, rfl, rfl, sq1, rfl, rfl, ⟨rfl, ?_⟩⟩
    refine ⟨true, by rw [hcount]; rfl, iteT ?_⟩
    refine ⟨by show 4 ≤ sizeLine; decide, fun l2 f2 => ?_⟩
    have n12 : l1 ≠ l2 := ne_of_none g1 f2
    have sq1' : SqL X.K (upd (upd (upd H' a (ExR a (.ref (Cs i)) (some dx))) l1 (.lst (kindsL i))) l2 (.lst wordsL)) l1 (kindsL i) := .inl (.inl (by rw [upd_ne n12]; exact g1))
    have sq2 : SqL X.K (upd (upd (upd H' a (ExR a (.ref (Cs i)) (some dx))) l1 (.lst (kindsL i))) l2 (.lst wordsL)) l2 wordsL := .inl (.inl upd_same)
    have hd2 := hd (H2 := upd (upd (upd H' a (ExR a (.ref (Cs i)) (some dx))) l1 (.lst (kindsL i))) l2 (.lst wordsL)) fun b o e => by
      have e1 : upd (upd H' a (ExR a (.ref (Cs i)) (some dx))) l1 (.lst (kindsL i)) b = some o := by rw [upd_ne (ne_of_none e f1)]; exact e
      rw [upd_ne (ne_of_none e1 f2)]; exact e1
    have at_ : (kindsL i)[i]? = some (.bl true) := by
      rcases i with _ | _ | _ | _ | i <;> first | rfl | omega
    have before : ∀ (m : Nat) (z' : V), m < i → (kindsL i)[m]? = some z' → eqV z' (.bl true) = false := by
      intro m z' hm hz
      have : z' = .bl false := by
        rcases m with _ | _ | _ | m
        · have := Option.some.inj hz; rw [← this, decide_eq_false (by omega)]
        · have := Option.some.inj hz; rw [← this, decide_eq_false (by omega)]
        · have := Option.some.inj hz; rw [← this, decide_eq_false (by omega)]
        · omega
      rw [this]; rfl
    have word : atI wordsL ((i : Nat) : Int) = some (.str (kindW i)) := by
      rcases i with _ | _ | _ | _ | i <;> first | rfl | omega
    refine ⟨.ref l1, rfl, .inl ⟨rfl, _, sq1'⟩, l1, kindsL i, .bl true, i, .bl true, rfl, rfl, sq1', rfl, rfl, at_, rfl, before, l2, wordsL, _, .str (kindW i), rfl, rfl, sq2, word, ?_⟩
    exact ⟨.ref a, rfl, a, Cs i, _, .str p, rfl, hd2, x, T.f i hi, rfl, by show 2 ≤ sizeLine; decide, fun t ft => hQ l1 l2 t ha f1 f2 ft⟩
end
end K08
end DL

-- part K08H
set_option maxHeartbeats 4000000
/-! K08: Poly.__init__ that raises -/
namespace DL
namespace K08
open PySem PySem.Spec PyProof.Rows L2 ZX
/-- how the errors are made -/
structure ErrI (P : Program) (w : World) (K : PySem.W.Frag) (mg : Str → Option Value) (base : Heap) (Cs : Nat → Addr) (ok0 : Addr → Prop) (h0 : Addr) (hd0 : FuncData) : Prop where
  I : ∀ k, FnOk P w K mg base CX0 (k + 1) h0 hd0 ["self", "part"] (spE1 K ok0 "part")
  bI : Binds K hd0 ["self", "part"] []
  iC : ∀ i, i < 4 → PySem.W.findIn K (.ref (Cs i)) "__init__" = some (some (.ref h0))
  ty : PySem.W.typeIn K (.ref h0) = some (.type "function")
  oC : ∀ i, i < 4 → ok0 (Cs i)
  ox : ∀ i, i < 4 → OexC K (Cs i)
  g : ∀ i, i < 4 → mg (errN i) = some (.ref (Cs i))
def gInitX : GX := fun ds c XD => ∃ v m x, ds = [v, m, x] ∧ ((plain m = true ∧ within m 0 6 = false ∧ XD 2 "many" c) ∨ (∃ n : Int, m = .int n ∧ within (.int n) 0 6 = true ∧ deep 3 x = true ∧ areT x n = false ∧ XD 3 "terms" c))
section
variable {P : Program} {w : World} {K : PySem.W.Frag} {mg : Str → Option Value} {base : Heap} {cls : Str → Option Addr}
theorem ok_initX {f fw fa C0 h0 : Addr} {fd dw da hd0 : FuncData} {ok0 : Addr → Prop} {Cs : Nat → Addr} {k : Nat} (F : Fun K "__init__" "Poly.__init__" sInit f fd) {tk : Tok} (g_MOST_CELLS : mg "MOST_CELLS" = some (.int 6 tk)) (ER : ErrI P w K mg base Cs ok0 h0 hd0)
    (A_is_within : Fn1 K mg "is_within" sIsW ["value", "least", "most"] fw dw) (A_are_terms : Fn1 K mg "are_terms" sAreT ["value", "many"] fa da)
    (G_is_within : FnOk P w K mg base CX0 (k + 2) fw dw ["value", "least", "most"] (spD K cls gIsW)) (G_are_terms : FnOk P w K mg base CX0 (k + 2) fa da ["value", "many"] (spD K cls gAreT)) :
    FnOk P w K mg base (L2.CX P w) (k + 3) f fd ["self", "many", "terms"] (spX K cls Cs gInitX) := by
  refine F.okX scI (fun vs H Q E h => lenX_of (n := 3) (fun ds c XD ⟨v, m, x, e, _⟩ => by rw [e]; rfl) h) (fun cdv A outer s H vs Q E hr h => ?_)
  have hu := hr.units
  have tk : Takes (cxOf (L2.CX P w) P w K mg base ["self", "many", "terms", "found", "number", "powers", "order", "degree"] "Poly.__init__" (defScope sInit) f cdv A outer s H E) (fun cls d _ H => E cls d H) := L2.takes_of rfl rfl rfl rfl
  refine ⟨_, (pss_cons (ps_if (pt_not (pt_val (pe_call G_is_within (by exact hr) (by rfl) A_is_within.gl A_is_within.fn.kp A_is_within.bd .nil pass0 (pa_cons (pv 1) (pa_cons pe_int (pa_cons (pe_glob (by rfl) g_MOST_CELLS (v := .int 6) ⟨_, rfl⟩) pa_nil)))))) (pss_one (ps_raise rfl tk (pmk_oex (ER.ox 2 (by decide)) (ER.iC 2 (by decide)) ER.ty (ER.I _) hr ER.bI .nil pass0 (by rfl) (ER.g 2 (by decide)) (pa_cons pe_str pa_nil)))) pss_nil)
    (pss_cons (ps_if (pt_not (pt_val (pe_call G_are_terms (by exact hr) (by rfl) A_are_terms.gl A_are_terms.fn.kp A_are_terms.bd .nil pass0 (pa_cons (pv 2) (pa_cons (pv 1) pa_nil))))) (pss_one (ps_raise rfl tk (pmk_oex (ER.ox 3 (by decide)) (ER.iC 3 (by decide)) ER.ty (ER.I _) hr ER.bI .nil pass0 (by rfl) (ER.g 3 (by decide)) (pa_cons pe_str pa_nil)))) pss_nil)
    (pss_never))), ?_⟩
  refine body_ofX (fun pw B XD hio hE => (rs_seq (rs_ifC (rt_not (rt_BC (re_call (E := E0) (ra_cons (re_var (i := 1) hio) (ra_cons re_c (ra_cons re_c ra_nil)))))) (rs_raise (XD := XD 2) (ER.oC 2 (by decide)) (ra_cons re_c ra_nil) (fun F' H' σ' ρ' p dx r hx q => hE F' H' σ' ρ' 2 p dx r hx q)) rs_next)
    (rs_seq (rs_ifC (rt_not (rt_BC (re_call (E := E0) (ra_cons (re_var (i := 2) hio) (ra_cons (re_var (i := 1) hio) ra_nil))))) (rs_raise (XD := XD 3) (ER.oC 3 (by decide)) (ra_cons re_c ra_nil) (fun F' H' σ' ρ' p dx r hx q => hE F' H' σ' ρ' 3 p dx r hx q)) rs_next)
    rs_never))) ?_ h
  rintro ds c XD ⟨v, m, x, rfl, hh⟩
  refine ⟨by show 3 ≤ 8; decide, ?_⟩
  generalize hρ : ent (Str.ofString "self" :: [Str.ofString "many", Str.ofString "terms", Str.ofString "found", Str.ofString "number", Str.ofString "powers", Str.ofString "order", Str.ofString "degree"]).length [v, m, x] c = ρ
  have h1 : ρ.sl[1]? = some (.v m) := by rw [← hρ]; rfl
  have h2 : ρ.sl[2]? = some (.v x) := by rw [← hρ]; rfl
  have hc : ρ.c = c := by rw [← hρ]; rfl
  rcases hh with ⟨pm, hw, hx⟩ | ⟨n, rfl, hw, dx, ax, hx⟩
  · refine dsSeq (dsIf true (RnT.not (b := false) (RnT.bc (RnE.call (RnA.cons (RnE.var h1) (RnA.cons RnE.c (RnA.one RnE.c))) (fun c Q q => ⟨m, 0, 6, rfl, pm, by rw [hw]; exact q⟩)))) (fun _ => ?_) (fun h => by cases h))
    exact ⟨_, rfl, by rw [hc]; exact hx⟩
  · refine dsSeq (dsIf false (RnT.not (b := true) (RnT.bc (RnE.call (RnA.cons (RnE.var h1) (RnA.cons RnE.c (RnA.one RnE.c))) (fun c Q q => ⟨.int n, 0, 6, rfl, rfl, by rw [hw]; exact q⟩)))) (fun h => by cases h) (fun _ => ?_))
    unfold dNext
    dsimp only
    refine dsSeq (dsIf true (RnT.not (b := false) (RnT.bc (RnE.call (RnA.cons (RnE.var h2) (RnA.one (RnE.var h1))) (fun c Q q => ⟨x, n, rfl, dx, by rw [ax]; exact q⟩)))) (fun _ => ?_) (fun h => by cases h))
    exact ⟨_, rfl, by rw [hc]; exact hx⟩
end
end K08
end DL

-- part K08N
set_option maxHeartbeats 4000000
/-! data of integers and tuples: told as values, compared -/
namespace DL
open PySem L2
structure Emb {α : Type} [DecidableEq α] (e : α → D) (p : α → PyData) (n : Nat) : Prop where
  tp : ∀ a, toP (e a) = some (p a)
  cl : ∀ a, (p a).canLay0 = true
  dp : ∀ a, (p a).depth ≤ n
  eq : ∀ a b, (p a).eqv (p b) = decide (a = b)
section
variable {α β : Type} [DecidableEq α] [DecidableEq β] {e : α → D} {p : α → PyData} {n m : Nat} {e' : β → D} {p' : β → PyData}
theorem Emb.int : Emb (α := Int) .int .int 0 := ⟨fun _ => rfl, fun _ => rfl, fun _ => Nat.le_refl _, fun a b => by unfold PyData.eqv; rfl⟩
theorem Emb.nat : Emb (α := Nat) (fun n => .int n) (fun n => .int n) 0 := ⟨fun _ => rfl, fun _ => rfl, fun _ => Nat.le_refl _, fun a b => by
  unfold PyData.eqv
  show decide ((a : Int) = b) = decide (a = b)
  exact decide_eq_decide.mpr ⟨fun h => by omega, fun h => by omega⟩⟩
theorem Emb.toPs (h : Emb e p n) : ∀ l : List α, DL.toPs (l.map e) = some (l.map p)
  | [] => rfl
  | a :: l => by
    rw [List.map_cons]; unfold DL.toPs
    rw [h.tp a, h.toPs l]; rfl
theorem Emb.clAll (h : Emb e p n) : ∀ l : List α, PyData.canLayAll0 (l.map p) = true
  | [] => rfl
  | a :: l => by
    rw [List.map_cons]; unfold PyData.canLayAll0
    rw [h.cl a, h.clAll l]; rfl
theorem Emb.dpAll (h : Emb e p n) : ∀ l : List α, PyData.depthAll (l.map p) ≤ n
  | [] => by unfold PyData.depthAll; exact Nat.zero_le _
  | a :: l => by
    rw [List.map_cons]; unfold PyData.depthAll
    have := h.dp a
    have := h.dpAll l
    omega
theorem Emb.eqAll (h : Emb e p n) : ∀ l k : List α, PyData.eqvAll (l.map p) (k.map p) = decide (l = k)
  | [], [] => by unfold PyData.eqvAll; rfl
  | [], _ :: _ => by rw [List.map_cons, List.map_nil]; unfold PyData.eqvAll; rfl
  | _ :: _, [] => by rw [List.map_cons, List.map_nil]; unfold PyData.eqvAll; rfl
  | a :: l, b :: k => by
    rw [List.map_cons, List.map_cons]; unfold PyData.eqvAll
    rw [h.eq a b, h.eqAll l k, ← Bool.decide_and]
    exact decide_eq_decide.mpr ⟨fun z => by rw [z.1, z.2], fun z => by cases z; exact ⟨rfl, rfl⟩⟩
theorem Emb.tup (h : Emb e p n) : Emb (α := List α) (fun l => .tup (l.map e)) (fun l => .tuple (l.map p)) (n + 1) := ⟨fun l => by show (DL.toPs _).map _ = _; rw [h.toPs]; rfl, fun l => by unfold PyData.canLay0; exact h.clAll l, fun l => by unfold PyData.depth; have := h.dpAll l; omega, fun l k => by unfold PyData.eqv; exact h.eqAll l k⟩
theorem Emb.lst (h : Emb e p n) : Emb (α := List α) (fun l => .lst (l.map e)) (fun l => .list (l.map p)) (n + 1) := ⟨fun l => by show (DL.toPs _).map _ = _; rw [h.toPs]; rfl, fun l => by unfold PyData.canLay0; exact h.clAll l, fun l => by unfold PyData.depth; have := h.dpAll l; omega, fun l k => by unfold PyData.eqv; exact h.eqAll l k⟩
theorem Emb.pair (h : Emb e p n) (h' : Emb e' p' m) : Emb (α := α × β) (fun t => .tup [e t.1, e' t.2]) (fun t => .tuple [p t.1, p' t.2]) (max n m + 1) := ⟨fun t => by
    show (DL.toPs _).map _ = _
    unfold DL.toPs; unfold DL.toPs; unfold DL.toPs
    rw [h.tp, h'.tp]; rfl, fun t => by
    unfold PyData.canLay0 PyData.canLayAll0 PyData.canLayAll0 PyData.canLayAll0
    rw [h.cl, h'.cl]; rfl, fun t => by
    unfold PyData.depth PyData.depthAll PyData.depthAll PyData.depthAll
    have := h.dp t.1
    have := h'.dp t.2
    omega, fun t u => by
    unfold PyData.eqv PyData.eqvAll PyData.eqvAll PyData.eqvAll
    rw [h.eq, h'.eq, Bool.and_true, ← Bool.decide_and]
    exact decide_eq_decide.mpr ⟨fun z => Prod.ext z.1 z.2, fun z => by rw [z]; exact ⟨rfl, rfl⟩⟩⟩
theorem Emb.shaped (h : Emb e p n) (hn : n ≤ 64) (a : α) : SeqAt.shaped (p a) = true := by
  unfold SeqAt.shaped
  rw [h.cl, Bool.true_and]
  exact decide_eq_true (Nat.le_trans (h.dp a) hn)
theorem Emb.eqD (h : Emb e p n) (hn : n ≤ 64) (a b : α) : DL.eqD (e a) (e b) = some (decide (a = b)) := by
  unfold DL.eqD
  rw [h.tp, h.tp]
  show (bif SeqAt.shaped (p a) && SeqAt.shaped (p b) then some ((p a).eqv (p b)) else none) = _
  rw [h.shaped hn, h.shaped hn, h.eq]; rfl
theorem Emb.ob (h : Emb e p n) (hn : n ≤ 64) {a b : α} : OpB gEq (e a) (e b) (.bl (decide (a = b))) := fun ρ Q q => ⟨_, h.eqD hn a b, q⟩
theorem Emb.obN (h : Emb e p n) (hn : n ≤ 64) {a b : α} : OpB gNe (e a) (e b) (.bl (!decide (a = b))) := fun ρ Q q => ⟨_, h.eqD hn a b, q⟩
end
namespace K08
def ksP (k : Ks) : PyData := .tuple (k.map fun (n : Nat) => .int n)
def trmP (t : Trm) : PyData := .tuple [.int t.1, ksP t.2]
theorem emb_ks : Emb ksD ksP 1 := Emb.nat.tup
theorem emb_trm : Emb trmD trmP 2 := Emb.int.pair emb_ks
theorem emb_trms : Emb (fun l : List Trm => .tup (l.map trmD)) (fun l => .tuple (l.map trmP)) 3 := emb_trm.tup
theorem emb_pol : Emb (fun t : Nat × List Trm => .tup [.int t.1, .tup (t.2.map trmD)]) (fun t => .tuple [.int t.1, .tuple (t.2.map trmP)]) 4 := Emb.nat.pair emb_trms
end K08
end DL

-- part K08I
set_option maxHeartbeats 4000000
/-! K08: Poly.__eq__, worth_at, less -/
namespace DL
namespace K08
open PySem PySem.Spec PyProof.Rows L2 ZX
abbrev sEqP : Stmt := inClass (topS 21) 1
abbrev sWo : Stmt := inClass (topS 21) 2
abbrev sLe : Stmt := inClass (topS 21) 3
theorem scEq : FnScope ["self", "other"] ["self", "other"] (defScope sEqP) := ⟨rfl, rfl, rfl, by decide +kernel, rfl, by decide +kernel, by decide +kernel⟩
theorem scWo : FnScope ["self", "numbers", "number", "powers"] ["self", "numbers"] (defScope sWo) := ⟨rfl, rfl, rfl, by decide +kernel, rfl, by decide +kernel, by decide +kernel⟩
theorem scLe : FnScope ["self", "other", "number", "powers"] ["self", "other"] (defScope sLe) := ⟨rfl, rfl, rfl, by decide +kernel, rfl, by decide +kernel, by decide +kernel⟩
def eqP (x y : D) : Option Bool := match x, y with
  | .obj _ _ _, .tup _ => some false
  | _, _ => none
def worth (l : List Trm) (ns : List Int) : Int := (l.map fun t => t.1 * pw (ns.zip t.2)).sum
def neg (l : List Trm) : List Trm := l.map fun t => (-t.1, t.2)
def gEqP : GF := fun ds c Q => ∃ (m : Nat) (l : List Trm) (y : D), ds = [polD m l, y] ∧ ((∃ ys, y = .tup ys) ∧ Q (.bl false) c ∨ ∃ (m' : Nat) (l' : List Trm), y = polD m' l' ∧ Q (.bl (decide ((m, l) = (m', l')))) c)
def gWo : GF := fun ds c Q => ∃ (m : Nat) (l : List Trm) (y : D) (ns : List Int), ds = [polD m l, y] ∧ rowOf y = some (ns.map .int) ∧ ns.length = m ∧ (∀ n ∈ ns, n.natAbs < 2 ^ 64) ∧ OkL m l ∧ m ≤ 6 ∧ (∀ t ∈ l, t.1.natAbs < 2 ^ 1000) ∧ Q (.int (worth l ns)) c
def gWoX : GX := fun ds c XD => ∃ (m : Nat) (l : List Trm) (y : D), ds = [polD m l, y] ∧ deep 1 y = true ∧ aiB m y = false ∧ XD 3 "numbers" c
def gLe : GF := fun ds c Q => ∃ (m : Nat) (l l' : List Trm), ds = [polD m l, polD m l'] ∧ m ≤ 6 ∧ OkL m (l ++ neg l') ∧ Q (polD m (norm (l ++ neg l'))) c
def gLeX : GX := fun ds c XD => ∃ (m : Nat) (l : List Trm) (y : D), ds = [polD m l, y] ∧ (isC "Poly" y = some false ∨ ∃ (m' : Nat) (l' : List Trm), y = polD m' l' ∧ m' ≠ m) ∧ XD 3 "other" c
theorem RnE.fldC {c0 f : Str} {t : DE} {ρ ρ' : Ev} {ns : List Str} {ds : List D} {d : D} (h : RnE t ρ ρ' (.obj c0 ns ds)) (e : fldD ns ds f = some d) : RnE (fun ρ Q => t ρ fun ρ1 x => ∃ ns ds d, x = .obj c0 ns ds ∧ fldD ns ds f = some d ∧ Q ρ1 d) ρ ρ' d := fun Q q => h _ ⟨ns, ds, d, rfl, e, q⟩
theorem RnE.isi {k : D → Option Bool} {t : DE} {ρ ρ' : Ev} {x : D} {b : Bool} (h : RnE t ρ ρ' x) (e : k x = some b) : RnE (fun ρ Q => t ρ fun ρ1 x => ∃ b, k x = some b ∧ Q ρ1 (.bl b)) ρ ρ' (.bl b) := fun Q q => h _ ⟨b, e, q⟩
theorem RnE.sum {a : DA} {ρ ρ' : Ev} {ns : List Int} (h : RnA a ρ ρ' [.lst (ns.map .int)]) : RnE (fun ρ Q => a ρ fun ρ1 ds => ∃ ns : List Int, (ds = [.lst (ns.map .int)] ∨ ds = [.tup (ns.map .int)]) ∧ Q ρ1 (.int ns.sum)) ρ ρ' (.int ns.sum) := fun Q q => h _ ⟨ns, .inl rfl, q⟩
theorem isC_pol (m : Nat) (l : List Trm) : isC "Poly" (polD m l) = some true := by
  show (if ("Poly" : Str) = "Poly" then some true else none) = _
  rw [if_pos rfl]
theorem RnE.make {cn : Str} {G : GI} {a : DA} {ρ ρ' : Ev} {ds es : List D} {ns : List Str} (h : RnA a ρ ρ' ds) (g : ∀ QD : List Str → List D → Nat → Prop, QD ns es ρ'.c → G cn ds ρ'.c QD) : RnE (dMakeI cn G a) ρ ρ' (.obj cn ns es) := fun Q q => h _ (g _ q)
theorem f_many (m : Nat) (l : List Trm) : fldD polF (polE m l) "many" = some (.int m) := rfl
theorem f_terms (m : Nat) (l : List Trm) : fldD polF (polE m l) "terms" = some (.tup (l.map trmD)) := rfl
theorem trm_b {m : Nat} {l : List Trm} (h : OkL m l) {t : Trm} (ht : t ∈ l) (ns : List Int) : pws (ns.zip t.2) ≤ 1000 := by
  have h1 := (h.2 t ht).2
  have h2 : ∀ (ns : List Int) (k : Ks), pws (ns.zip k) ≤ k.sum := by
    intro ns
    induction ns with
    | nil => exact fun k => Nat.zero_le _
    | cons n ns ih =>
      intro k
      match k with
      | [] => exact Nat.zero_le _
      | a :: k =>
        show a + pws (ns.zip k) ≤ (a :: k).sum
        rw [List.sum_cons]
        have := ih k
        omega
  have := h2 ns t.2
  omega
section
variable {P : Program} {w : World} {K : PySem.W.Frag} {mg : Str → Option Value} {base : Heap} {cls : Str → Option Addr}
theorem ok_eqP {f C0 : Addr} {fd : FuncData} {k : Nat} (F : Fun K "__eq__" "Poly.__eq__" sEqP f fd) (BL : Blt mg) (g_Poly : mg "Poly" = some (.ref C0)) (T : ClsT K cls "Poly" C0 polF) : FnOk P w K mg base CX0 (k + 1) f fd ["self", "other"] (spD K cls gEqP) := by
  refine F.ok scEq (fun vs H Q E h => len_of (n := 2) (fun ds c QD ⟨m, l, y, e, _⟩ => by rw [e]; rfl) h) (fun cdv A outer s H vs Q E hr h => ?_)
  have hu := hr.units
  refine ⟨_, (pss_one (ps_ret (pe_and (pe_callB (r := rIsi K) call_isi (by rfl) BL.m_isinstance (by decide +kernel) (pa_cons (pv 1) (pa_cons (pe_glob (by rfl) g_Poly (v := .ref C0) rfl) pa_nil))) (pe_one (pe_cmpR (r := rEqD K) (op_eqD hu) (pe_tup (pa_cons (pe_fld (pv 0) rfl) (pa_cons (pe_fld (pv 0) rfl) pa_nil))) (pe_tup (pa_cons (pe_fld (pv 1) rfl) (pa_cons (pe_fld (pv 1) rfl) pa_nil))) (nomark _)))))),
    body_of (fun pw B hio => (rs_ret (re_andVC (re_isi (re_var (i := 1) hio) (.own C0) (k := isC "Poly") (kok_C T)) (re_eqD (re_tup (ra_cons (re_fldC T (re_var (i := 0) hio) (by decide +kernel)) (ra_cons (re_fldC T (re_var (i := 0) hio) (by decide +kernel)) ra_nil))) (re_tup (ra_cons (re_fldC T (re_var (i := 1) hio) (by decide +kernel)) (ra_cons (re_fldC T (re_var (i := 1) hio) (by decide +kernel)) ra_nil))))))) ?_ h⟩
  rintro ds c QD ⟨m, l, y, rfl, hh⟩
  refine ⟨by show 2 ≤ 2; decide, ?_⟩
  generalize hρ : ent (Str.ofString "self" :: [Str.ofString "other"]).length [polD m l, y] c = ρ
  have h0 : ρ.sl[0]? = some (.v (polD m l)) := by rw [← hρ]; rfl
  have h1 : ρ.sl[1]? = some (.v y) := by rw [← hρ]; rfl
  have hc : ρ.c = c := by rw [← hρ]; rfl
  rcases hh with ⟨⟨ys, rfl⟩, q⟩ | ⟨m', l', rfl, q⟩
  · refine dsRet (RnE.andV (a := false) (b := false) (RnE.isi (RnE.var h1) rfl) (fun h => by cases h)) (by show QD _ ρ.c; rw [hc]; exact q)
  · have hi : isC "Poly" (polD m' l') = some true := isC_pol _ _
    have he := RnE.bin (RnE.tup (RnA.cons (RnE.fldC (RnE.var h0) (f_many m l)) (RnA.one (RnE.fldC (RnE.var h0) (f_terms m l)))) (by show 2 ≤ sizeLine; decide)) (RnE.tup (RnA.cons (RnE.fldC (RnE.var h1) (f_many m' l')) (RnA.one (RnE.fldC (RnE.var h1) (f_terms m' l')))) (by show 2 ≤ sizeLine; decide)) (emb_pol.ob (by decide) (a := (m, l)) (b := (m', l')))
    refine dsRet (RnE.andV (a := true) (RnE.isi (RnE.var h1) hi) (fun _ => he)) (by show QD _ ρ.c; rw [hc]; exact q)
theorem ok_wo {f fp fa C0 : Addr} {fd dp da : FuncData} {k : Nat} (F : Fun K "worth_at" "Poly.worth_at" sWo f fd) (BL : Blt mg) (T : ClsT K cls "Poly" C0 polF) (A_are_integers : Fn1 K mg "are_integers" sAreI ["value", "size"] fa da) (A_power_of : Fn1 K mg "power_of" sPow ["numbers", "powers"] fp dp)
    (G_are_integers : FnOk P w K mg base CX0 (k + 1) fa da ["value", "size"] (spD K cls gAreI)) (G_power_of : FnOk P w K mg base CX0 (k + 1) fp dp ["numbers", "powers"] (spD K cls gPow)) : FnOk P w K mg base CX0 (k + 2) f fd ["self", "numbers"] (spD K cls gWo) := by
  refine F.ok scWo (fun vs H Q E h => len_of (n := 2) (fun ds c QD ⟨m, l, y, ns, e, _⟩ => by rw [e]; rfl) h) (fun cdv A outer s H vs Q E hr h => ?_)
  have hu := hr.units
  refine ⟨_, (pss_cons (ps_if (pt_not (pt_val (pe_call G_are_integers (by exact hr) (by rfl) A_are_integers.gl A_are_integers.fn.kp A_are_integers.bd .nil pass0 (pa_cons (pv 1) (pa_cons (pe_fld (pv 0) rfl) pa_nil))))) (pss_one (ps_never)) pss_nil)
    (pss_one (ps_ret (pe_callB (r := rSumA K) (cr_sumA rfl) (by rfl) BL.m_sum (by decide +kernel) (pa_cons (pe_lc rfl scWo.nd (pi_seq (pe_fld (pv 0) rfl)) (own := [("number", 2), ("powers", 3)]) (blkOk_by rfl) (fun _ _ _ _ _ => (pg_tupK (K := K) (n := 2) rfl rfl (pgs_cons (pg_name (i := 2) scWo.nd rfl (.inl rfl)) (pgs_cons (pg_name (i := 3) scWo.nd rfl (.inl rfl)) pgs_nil)))) (fun _ _ _ _ _ => pts_nil) (fun _ _ _ _ _ => (pe_op op_mulW (pv 2) (pe_call G_power_of (by exact hr) (by rfl) A_power_of.gl A_power_of.fn.kp A_power_of.bd .nil pass0 (pa_cons (pv 1) (pa_cons (pv 3) pa_nil)))))) pa_nil))))),
    body_of (fun pw B hio => (rs_seq (rs_ifC (rt_not (rt_BC (re_call (E := E0) (ra_cons (re_var (i := 1) hio) (ra_cons (re_fldC T (re_var (i := 0) hio) (by decide +kernel)) ra_nil))))) rs_never rs_next)
    (rs_ret (re_sumA (ra_cons (RN.re (rn_lc (is := [2, 3]) (vs := [2, 3]) (ri_seq (re_fldC T (re_var (i := 0) hio) (by decide +kernel))) (fun B hb => by have hio := hb.trans hio; exact (rg_tup (rgs_cons (rg_name (i := 2)) (rgs_cons (rg_name (i := 3)) rgs_nil)))) (fun B hb => by have hio := hb.trans hio; exact rt_yes) (fun B hb => by have hio := hb.trans hio; exact (re_I (re_var (i := 2) hio) (re_call (E := E0) (ra_cons (re_var (i := 1) hio) (ra_cons (re_var (i := 3) hio) ra_nil))))) (fun _ h => h))) ra_nil))))) ?_ h⟩
  rintro ds c QD ⟨m, l, y, ns, rfl, hy, hn, hN, hl, hm, hT, q⟩
  refine ⟨by show 2 ≤ 4; decide, ?_⟩
  generalize hρ : ent (Str.ofString "self" :: [Str.ofString "numbers", Str.ofString "number", Str.ofString "powers"]).length [polD m l, y] c = ρ
  have h0 : ρ.sl[0]? = some (.v (polD m l)) := by rw [← hρ]; rfl
  have h1 : ρ.sl[1]? = some (.v y) := by rw [← hρ]; rfl
  have hlen : ρ.sl.length = 4 := by rw [← hρ]; rfl
  have hno : noOwn ρ [2, 3] = true := by rw [← hρ]; rfl
  have hc : ρ.c = c := by rw [← hρ]; rfl
  have ai : aiB m y = true := by
    unfold aiB
    rw [hy]
    show (decide (((ns.map D.int).length : Int) = m) && (ns.map D.int).all isInt) = true
    rw [List.length_map, hn, decide_eq_true rfl, Bool.true_and, List.all_map]
    exact List.all_eq_true.mpr fun n _ => rfl
  refine dsSeq (dsIf false (RnT.not (b := true) (RnT.bc (RnE.call (RnA.cons (RnE.var h1) (RnA.one (RnE.fldC (RnE.var h0) (f_many m l)))) (fun c Q q => ⟨y, m, rfl, plain_row hy, fun xs hx => ?_, by rw [ai]; exact q⟩)))) (fun h => by cases h) (fun _ => ?_))
  · rw [hy] at hx
    obtain rfl : ns.map D.int = xs := Option.some.inj hx
    rw [List.length_map]
    refine ⟨by omega, List.all_eq_true.mpr fun d hd => ?_⟩
    obtain ⟨n, _, rfl⟩ := List.mem_map.mp hd
    rfl
  have hlc := RnE.lcY (xs := l) (r := trmD) (s := dSq (fun ρ Q => dVar 0 ρ fun ρ1 x => ∃ ns ds d, x = .obj "Poly" ns ds ∧ fldD ns ds "terms" = some d ∧ Q ρ1 d)) (g := dgTup 2 (dgCons (dgName 2) (dgCons (dgName 3) dgNil))) (vs := [2, 3]) (e := fun ρ Q => dVar 2 ρ fun ρ1 x => dCall gPow (dCons (dVar 1) (dCons (dVar 3) dNil)) ρ1 fun ρ2 y => gI PySem.IntMulOk (fun i j => vC (.int (i * j))) x y ρ2 Q) (fun t => D.int (t.1 * pw (ns.zip t.2))) (RnA.seq (RnE.fldC (RnE.var h0) (f_terms m l)) rfl) hno (Nat.le_trans hl.1 (by decide)) (fun t ht => by
    have b2 := atw2' (ρ := ρ) (i := 2) (j := 3) (s := .v (.int t.1)) (t := .v (ksD t.2)) (by decide) (by omega)
    have b3 := atw2 (ρ := ρ) (i := 2) (j := 3) (s := .v (.int t.1)) (t := .v (ksD t.2)) (by omega)
    have b1 := agr_at (ag2 (ρ := ρ) (i := 2) (j := 3) (s := .v (.int t.1)) (t := .v (ksD t.2))) (i := 1) (by decide) h1
    have rd : ∀ d : D, rowD d = rowOf d := fun d => by cases d <;> rfl
    have e2 : (pw (ns.zip t.2)).natAbs < 2 ^ 64001 := by
      have a := pw_le (ns.zip t.2) (fun p hp => hN _ (List.of_mem_zip (a := p.1) (b := p.2) hp).1)
      have b := trm_b hl ht ns
      exact Nat.lt_of_le_of_lt (Nat.le_trans a (Nat.pow_le_pow_right (by decide) (show 64 * pws (ns.zip t.2) ≤ 64000 by omega))) (Nat.pow_lt_pow_right (by decide) (by decide))
    refine ⟨_, ag2, rfl, RnG.two, RnE.bin (RnE.var b2) (RnE.call (RnA.cons (RnE.var b1) (RnA.one (RnE.var b3))) (fun c Q q => ⟨y, ksD t.2, ns, t.2, rfl, (rd y).trans hy, rfl, hN, trm_b hl ht ns, fun p hp => ?_, q⟩)) (ob_mul (hT t ht) e2 (by decide))⟩
    have := ks_bound hl ht p hp
    omega)
  have e3 : l.map (fun t => D.int (t.1 * pw (ns.zip t.2))) = (l.map fun t => t.1 * pw (ns.zip t.2)).map D.int := by rw [List.map_map]; rfl
  rw [e3] at hlc
  exact dsRet (RnE.sum (RnA.one hlc)) (by show QD _ ρ.c; rw [hc]; exact q)
theorem ok_woX {f fa C0 h0 : Addr} {fd da hd0 : FuncData} {ok0 : Addr → Prop} {Cs : Nat → Addr} {k : Nat} (F : Fun K "worth_at" "Poly.worth_at" sWo f fd) (ER : ErrI P w K mg base Cs ok0 h0 hd0) (T : ClsT K cls "Poly" C0 polF) (A_are_integers : Fn1 K mg "are_integers" sAreI ["value", "size"] fa da)
    (G_are_integers : FnOk P w K mg base CX0 (k + 2) fa da ["value", "size"] (spD K cls gAreI)) : FnOk P w K mg base (L2.CX P w) (k + 3) f fd ["self", "numbers"] (spX K cls Cs gWoX) := by
  refine F.okX scWo (fun vs H Q E h => lenX_of (n := 2) (fun ds c XD ⟨m, l, y, e, _⟩ => by rw [e]; rfl) h) (fun cdv A outer s H vs Q E hr h => ?_)
  have tk : Takes (cxOf (L2.CX P w) P w K mg base ["self", "numbers", "number", "powers"] "Poly.worth_at" (defScope sWo) f cdv A outer s H E) (fun cls d _ H => E cls d H) := L2.takes_of rfl rfl rfl rfl
  refine ⟨_, (pss_cons (ps_if (pt_not (pt_val (pe_call G_are_integers (by exact hr) (by rfl) A_are_integers.gl A_are_integers.fn.kp A_are_integers.bd .nil pass0 (pa_cons (pv 1) (pa_cons (pe_fld (pv 0) rfl) pa_nil))))) (pss_one (ps_raise rfl tk (pmk_oex (ER.ox 3 (by decide)) (ER.iC 3 (by decide)) ER.ty (ER.I _) hr ER.bI .nil pass0 (by rfl) (ER.g 3 (by decide)) (pa_cons pe_str pa_nil)))) pss_nil) pss_never), ?_⟩
  refine body_ofX (fun pw B XD hio hE => (rs_seq (rs_ifC (rt_not (rt_BC (re_call (E := E0) (ra_cons (re_var (i := 1) hio) (ra_cons (re_fldC T (re_var (i := 0) hio) (by decide +kernel)) ra_nil))))) (rs_raise (XD := XD 3) (ER.oC 3 (by decide)) (ra_cons re_c ra_nil) (fun F' H' σ' ρ' p dx r hx q => hE F' H' σ' ρ' 3 p dx r hx q)) rs_next) rs_never)) ?_ h
  rintro ds c XD ⟨m, l, y, rfl, dy, ay, hx⟩
  refine ⟨by show 2 ≤ 4; decide, ?_⟩
  generalize hρ : ent (Str.ofString "self" :: [Str.ofString "numbers", Str.ofString "number", Str.ofString "powers"]).length [polD m l, y] c = ρ
  have h0 : ρ.sl[0]? = some (.v (polD m l)) := by rw [← hρ]; rfl
  have h1 : ρ.sl[1]? = some (.v y) := by rw [← hρ]; rfl
  have hc : ρ.c = c := by rw [← hρ]; rfl
  unfold deep at dy
  obtain ⟨p1, p2⟩ := Bool.and_eq_true_iff.mp dy
  refine dsSeq (dsIf true (RnT.not (b := false) (RnT.bc (RnE.call (RnA.cons (RnE.var h1) (RnA.one (RnE.fldC (RnE.var h0) (f_many m l)))) (fun c Q q => ⟨y, m, rfl, p1, fun xs hx => ?_, by rw [ay]; exact q⟩)))) (fun _ => ?_) (fun h => by cases h))
  · rw [hx] at p2
    obtain ⟨a, b⟩ := Bool.and_eq_true_iff.mp (show (decide (xs.length ≤ 1048576) && xs.all (deep 0)) = true from p2)
    exact ⟨of_decide_eq_true a, b⟩
  · exact ⟨_, rfl, by rw [hc]; exact hx⟩
theorem ok_le {f fi C0 : Addr} {fd di : FuncData} {k : Nat} (F : Fun K "less" "Poly.less" sLe f fd) (BL : Blt mg) (g_Poly : mg "Poly" = some (.ref C0)) (T : ClsT K cls "Poly" C0 polF) (M : Mk K C0 fi) (bI : Binds K di ["self", "many", "terms"] []) (GI : FnOk P w K mg base CX0 (k + 1) fi di ["self", "many", "terms"] (spI K cls gPoly)) :
    FnOk P w K mg base CX0 (k + 3) f fd ["self", "other"] (spD K cls gLe) := by
  refine F.ok scLe (fun vs H Q E h => len_of (n := 2) (fun ds c QD ⟨m, l, l', e, _⟩ => by rw [e]; rfl) h) (fun cdv A outer s H vs Q E hr h => ?_)
  have hu := hr.units
  refine ⟨_, (pss_cons (ps_if (PW.pt (pw_or (pt_not (pt_val (pe_callB (r := rIsi K) call_isi (by rfl) BL.m_isinstance (by decide +kernel) (pa_cons (pv 1) (pa_cons (pe_glob (by rfl) g_Poly (v := .ref C0) rfl) pa_nil))))) (pw_or1 (pt_cmpR (r := rNeD K) (op_neD hu) (pe_fld (pv 1) rfl) (pe_fld (pv 0) rfl) (nomark _))))) (pss_one (ps_never)) pss_nil)
    (pss_one (ps_ret (pe_make M GI hr (by rfl) g_Poly bI .nil pass0 (pa_cons (pe_fld (pv 0) rfl) (pa_cons (pe_lst (pa_starK (K := K) rfl (pe_fld (pv 0) rfl) (pa_starK (K := K) rfl (pe_lc rfl scLe.nd (pi_seq (pe_fld (pv 1) rfl)) (own := [("number", 2), ("powers", 3)]) (blkOk_by rfl) (fun _ _ _ _ _ => (pg_tupK (K := K) (n := 2) rfl rfl (pgs_cons (pg_name (i := 2) scLe.nd rfl (.inl rfl)) (pgs_cons (pg_name (i := 3) scLe.nd rfl (.inl rfl)) pgs_nil)))) (fun _ _ _ _ _ => pts_nil) (fun _ _ _ _ _ => (pe_tup (pa_cons (pe_un un_neg (pv 2)) (pa_cons (pv 3) pa_nil))))) pa_nil))) pa_nil)))))),
    body_of (fun pw B hio => (rs_seq (rs_ifC (rt_orC (rt_not (rt_BC (re_isi (re_var (i := 1) hio) (.own C0) (k := isC "Poly") (kok_C T)))) (rt_test (re_neD (re_fldC T (re_var (i := 1) hio) (by decide +kernel)) (re_fldC T (re_var (i := 0) hio) (by decide +kernel))))) rs_never rs_next)
    (rs_ret (RN.re (rn_make (G := gPoly) (cn := "Poly") T.at_ (ra_cons (re_fldC T (re_var (i := 0) hio) (by decide +kernel)) (ra_cons (re_lst (ra_star (re_fldC T (re_var (i := 0) hio) (by decide +kernel)) (ra_star (RN.re (rn_lc (is := [2, 3]) (vs := [2, 3]) (ri_seq (re_fldC T (re_var (i := 1) hio) (by decide +kernel))) (fun B hb => by have hio := hb.trans hio; exact (rg_tup (rgs_cons (rg_name (i := 2)) (rgs_cons (rg_name (i := 3)) rgs_nil)))) (fun B hb => by have hio := hb.trans hio; exact rt_yes) (fun B hb => by have hio := hb.trans hio; exact (re_tup (ra_cons (re_U (re_var (i := 2) hio)) (ra_cons (re_var (i := 3) hio) ra_nil)))) (fun _ h => h))) ra_nil))) ra_nil))))))) ?_ h⟩
  rintro ds c QD ⟨m, l, l', rfl, hm, hl, q⟩
  refine ⟨by show 2 ≤ 4; decide, ?_⟩
  generalize hρ : ent (Str.ofString "self" :: [Str.ofString "other", Str.ofString "number", Str.ofString "powers"]).length [polD m l, polD m l'] c = ρ
  have h0 : ρ.sl[0]? = some (.v (polD m l)) := by rw [← hρ]; rfl
  have h1 : ρ.sl[1]? = some (.v (polD m l')) := by rw [← hρ]; rfl
  have hlen : ρ.sl.length = 4 := by rw [← hρ]; rfl
  have hno : noOwn ρ [2, 3] = true := by rw [← hρ]; rfl
  have hc : ρ.c = c := by rw [← hρ]; rfl
  have hi : isC "Poly" (polD m l') = some true := isC_pol _ _
  have ne := RnE.bin (RnE.fldC (RnE.var h1) (f_many m l')) (RnE.fldC (RnE.var h0) (f_many m l)) (Emb.nat.obN (by decide) (a := m) (b := m))
  rw [decide_eq_true (rfl : m = m)] at ne
  refine dsSeq (dsIf false (RnT.or (RnT.not (b := true) (RnT.bc (RnE.isi (RnE.var h1) hi))) (RnT.b ne)) (fun h => by cases h) (fun _ => ?_))
  have hlc := RnE.lcY (xs := l') (r := trmD) (s := dSq (fun ρ Q => dVar 1 ρ fun ρ1 x => ∃ ns ds d, x = .obj "Poly" ns ds ∧ fldD ns ds "terms" = some d ∧ Q ρ1 d)) (g := dgTup 2 (dgCons (dgName 2) (dgCons (dgName 3) dgNil))) (vs := [2, 3]) (e := dTup (dCons (fun ρ Q => dVar 2 ρ fun ρ1 x => gU (fun i => vC (.int (-i))) x ρ1 Q) (dCons (dVar 3) dNil))) (fun t => trmD (-t.1, t.2)) (RnA.seq (RnE.fldC (RnE.var h1) (f_terms m l')) rfl) hno (by
      have := hl.1
      rw [List.length_append] at this
      unfold neg at this
      rw [List.length_map] at this
      exact Nat.le_trans (show l'.length ≤ 1000 by omega) (by decide)) (fun t ht => by
    have b2 := atw2' (ρ := ρ) (i := 2) (j := 3) (s := .v (.int t.1)) (t := .v (ksD t.2)) (by decide) (by omega)
    have b3 := atw2 (ρ := ρ) (i := 2) (j := 3) (s := .v (.int t.1)) (t := .v (ksD t.2)) (by omega)
    exact ⟨_, ag2, rfl, RnG.two, RnE.tup (RnA.cons (RnE.un (RnE.var b2) (fun ρ Q q => q)) (RnA.one (RnE.var b3))) (by show 2 ≤ sizeLine; decide)⟩)
  have e3 : l'.map (fun t => trmD (-t.1, t.2)) = (neg l').map trmD := by unfold neg; rw [List.map_map]; rfl
  rw [e3] at hlc
  have ha := RnA.cons (RnE.fldC (RnE.var h0) (f_many m l)) (RnA.one (RnE.lst (RnA.star (RnE.fldC (RnE.var h0) (f_terms m l)) rfl (RnA.star hlc rfl RnA.nil)) (by
    rw [List.append_nil, List.length_append, List.length_map, List.length_map, ← List.length_append]
    exact Nat.le_trans hl.1 (by decide))))
  rw [List.append_nil, ← List.map_append] at ha
  exact dsRet (RnE.make (ns := polF) (es := polE m (norm (l ++ neg l'))) ha (fun QD q => ⟨m, _, l ++ neg l', rfl, rfl, hm, rowT_lst _, hl, q⟩)) (by show QD (polD m (norm (l ++ neg l'))) ρ.c; rw [hc]; exact q)
theorem ok_leX {f C0 h0 : Addr} {fd hd0 : FuncData} {ok0 : Addr → Prop} {Cs : Nat → Addr} {k : Nat} (F : Fun K "less" "Poly.less" sLe f fd) (BL : Blt mg) (g_Poly : mg "Poly" = some (.ref C0)) (ER : ErrI P w K mg base Cs ok0 h0 hd0) (T : ClsT K cls "Poly" C0 polF) : FnOk P w K mg base (L2.CX P w) (k + 3) f fd ["self", "other"] (spX K cls Cs gLeX) := by
  refine F.okX scLe (fun vs H Q E h => lenX_of (n := 2) (fun ds c XD ⟨m, l, y, e, _⟩ => by rw [e]; rfl) h) (fun cdv A outer s H vs Q E hr h => ?_)
  have hu := hr.units
  have tk : Takes (cxOf (L2.CX P w) P w K mg base ["self", "other", "number", "powers"] "Poly.less" (defScope sLe) f cdv A outer s H E) (fun cls d _ H => E cls d H) := L2.takes_of rfl rfl rfl rfl
  refine ⟨_, (pss_cons (ps_if (PW.pt (pw_or (pt_not (pt_val (pe_callB (r := rIsi K) call_isi (by rfl) BL.m_isinstance (by decide +kernel) (pa_cons (pv 1) (pa_cons (pe_glob (by rfl) g_Poly (v := .ref C0) rfl) pa_nil))))) (pw_or1 (pt_cmpR (r := rNeD K) (op_neD hu) (pe_fld (pv 1) rfl) (pe_fld (pv 0) rfl) (nomark _))))) (pss_one (ps_raise rfl tk (pmk_oex (ER.ox 3 (by decide)) (ER.iC 3 (by decide)) ER.ty (ER.I _) hr ER.bI .nil pass0 (by rfl) (ER.g 3 (by decide)) (pa_cons pe_str pa_nil)))) pss_nil) pss_never), ?_⟩
  refine body_ofX (fun pw B XD hio hE => (rs_seq (rs_ifC (rt_orC (rt_not (rt_BC (re_isi (re_var (i := 1) hio) (.own C0) (k := isC "Poly") (kok_C T)))) (rt_test (re_neD (re_fldC T (re_var (i := 1) hio) (by decide +kernel)) (re_fldC T (re_var (i := 0) hio) (by decide +kernel))))) (rs_raise (XD := XD 3) (ER.oC 3 (by decide)) (ra_cons re_c ra_nil) (fun F' H' σ' ρ' p dx r hx q => hE F' H' σ' ρ' 3 p dx r hx q)) rs_next) rs_never)) ?_ h
  rintro ds c XD ⟨m, l, y, rfl, hy, hx⟩
  refine ⟨by show 2 ≤ 4; decide, ?_⟩
  generalize hρ : ent (Str.ofString "self" :: [Str.ofString "other", Str.ofString "number", Str.ofString "powers"]).length [polD m l, y] c = ρ
  have h0 : ρ.sl[0]? = some (.v (polD m l)) := by rw [← hρ]; rfl
  have h1 : ρ.sl[1]? = some (.v y) := by rw [← hρ]; rfl
  have hc : ρ.c = c := by rw [← hρ]; rfl
  rcases hy with hy | ⟨m', l', rfl, hne⟩
  · refine dsSeq (dsIf true (RnT.orT (RnT.not (b := false) (RnT.bc (RnE.isi (RnE.var h1) hy)))) (fun _ => ?_) (fun h => by cases h))
    exact ⟨_, rfl, by rw [hc]; exact hx⟩
  · have hi : isC "Poly" (polD m' l') = some true := isC_pol _ _
    have ne := RnE.bin (RnE.fldC (RnE.var h1) (f_many m' l')) (RnE.fldC (RnE.var h0) (f_many m l)) (Emb.nat.obN (by decide) (a := m') (b := m))
    rw [decide_eq_false hne] at ne
    refine dsSeq (dsIf true (RnT.or (RnT.not (b := true) (RnT.bc (RnE.isi (RnE.var h1) hi))) (RnT.b ne)) (fun _ => ?_) (fun h => by cases h))
    exact ⟨_, rfl, by rw [hc]; exact hx⟩
end
end K08
end DL

-- part LR
set_option maxHeartbeats 4000000
/-! [..] * n, (..) * n, a text * n, x[i] += n, x[::-1] -/
namespace DL
open PySem PySem.Spec PyProof.Rows L2
section
variable {X : Cx}
/-! ### tuple * 0, tuple * 1 -/
theorem tuple_mul0 (l : Addr) (items : Array Value) (n : Nat) (dd : Option Addr) (sl : Array (Option Value)) (u : Tok) (c1 : (items.isEmpty || (0 : Int) == 1) = false) :
    Meets (Builtin.«tuple.__mul__» ⟨[.ref l, .int 0 u], []⟩) (fun _ R s => s.heap.get? l = some { cls := .type "tuple", dict := dd, data := .seq items n, slots := sl } ∧
      R (.ok (.ret (Value.ref s.heap.objs.size))) { s with heap := s.heap.push { cls := Value.type "tuple", data := Data.seq #[] }, toks := s.toks }) :=
  .of_wp fun prog w A R s h => by
    obtain ⟨hp, g, d, tk, os⟩ := s
    obtain ⟨hl, h⟩ := h
    have f1 := AutoSeq1.idx_int
    wp_walk using wpAny_loadPart' hl
    repeat (first
      | (refine wpAny_ite_false (decide_eq_false (by rw [c1]; exact Bool.false_ne_true)) ?_; wp_walk using wpAny_loadPart' hl)
      | (refine wpAny_ite_false (decide_eq_false (by decide)) ?_; wp_walk using wpAny_loadPart' hl)
      | (refine wpAny_ite_true (by decide) ?_; wp_walk using wpAny_loadPart' hl))
    all_goals first | exact ⟨_, rfl, h⟩ | exact h
theorem tuple_mul1 (l : Addr) (items : Array Value) (n : Nat) (dd : Option Addr) (sl : Array (Option Value)) (u : Tok) :
    Meets (Builtin.«tuple.__mul__» ⟨[.ref l, .int 1 u], []⟩) (fun _ R s => s.heap.get? l = some { cls := .type "tuple", dict := dd, data := .seq items n, slots := sl } ∧
      R (.ok (.ret (Value.ref l))) s) :=
  .of_wp fun prog w A R s h => by
    obtain ⟨hp, g, d, tk, os⟩ := s
    obtain ⟨hl, h⟩ := h
    have f1 := AutoSeq1.idx_int
    have c1 : (items.isEmpty || (1 : Int) == 1) = true := by cases items.isEmpty <;> rfl
    wp_walk using wpAny_loadPart' hl
    repeat (first
      | (refine wpAny_ite_true (by rw [c1]; rfl) ?_; wp_walk using wpAny_loadPart' hl)
      | (refine wpAny_ite_false (decide_eq_false (by decide)) ?_; wp_walk using wpAny_loadPart' hl)
      | (refine wpAny_ite_true (by decide) ?_; wp_walk using wpAny_loadPart' hl))
    all_goals first | exact ⟨_, rfl, h⟩ | exact h
def rRepTA (K : PySem.W.Frag) : R2 := fun x y H Q => ∃ l k xs, x = .ref l ∧ y = .int k ∧ SqT K H l xs ∧ xs ≠ [] ∧ 0 ≤ k ∧ k ≤ 1000 ∧ xs.length ≤ 1000 ∧ (k = 1 → Q (.ref l) H) ∧ (k ≠ 1 → ∀ p, H p = none → Q (.ref p) (upd H p (.tup (List.replicate k.toNat xs).flatten)))
theorem op_repTA : OpR X (binaryOp .Mult) (rRepTA X.K) := by
  intro pins s σ H x y v u Q I rx ry h
  obtain ⟨l, k, xs, rfl, rfl, hT, hne, h1, h2, hz, q1, q2⟩ := h
  by_cases hk : 2 ≤ k
  · exact op_repT pins s σ H _ _ v u Q I rx ry ⟨l, k, xs, rfl, rfl, hT, hne, hk, h2, hz, q2 (by omega)⟩
  · cases rx
    obtain ⟨t, rfl⟩ := ry
    obtain ⟨its, r, ⟨⟨cls, dd, data, sl⟩, ho, hc, n, hd⟩, hs⟩ := I.tuple hT
    simp only at hc hd
    subst hc hd
    by_cases h0 : k = 0
    · subst h0
      have hle : its.length = xs.length := r.length.symm
      have hi : its.toArray.isEmpty = false := by
        cases its with
        | nil => exact absurd (List.eq_nil_of_length_eq_zero hle.symm) hne
        | cons a b => rfl
      refine wpAny_binaryOp_repeat_ref (T := "tuple") (U := "int") (by decide) ⟨_, ho, rfl⟩ (fun s' => typeIs_int s' 0 t) noFill_tuple_mul F.fills_int_mul F.slot_int_rmul repeat_tuple F.slot_int_index.lookup
        (call_meets F.slot_int_rmul (typeIs_int s 0 t) F.entry_int_rmul (F.args_int_rmul_2 _ _) (int_rmul_tuple 0 t l its.toArray n dd sl)
          ⟨ho, rfl, ⟨_, ho, rfl⟩, call_meets F.slot_tuple_mul ⟨_, ho, rfl⟩ F.entry_tuple_mul (F.args_tuple_mul_2 _ _) (tuple_mul0 l its.toArray n dd sl t (by rw [hi]; rfl)) ⟨ho, ?_⟩⟩)
      exact ⟨.ref s.heap.objs.size, _, I.laid (t' := s.toks) (o := .tup []) (fun b ob q => Heap.get?_push_of_some _ q) (Nat.le_refl _) ⟨Nat.zero_le _, [], .nil, IsTup.new _ _⟩, rfl, q2 (by omega) _ (I.hok.fresh (Nat.le_refl _))⟩
    · obtain rfl : k = 1 := by omega
      refine wpAny_binaryOp_repeat_ref (T := "tuple") (U := "int") (by decide) ⟨_, ho, rfl⟩ (fun s' => typeIs_int s' 1 t) noFill_tuple_mul F.fills_int_mul F.slot_int_rmul repeat_tuple F.slot_int_index.lookup
        (call_meets F.slot_int_rmul (typeIs_int s 1 t) F.entry_int_rmul (F.args_int_rmul_2 _ _) (int_rmul_tuple 1 t l its.toArray n dd sl)
          ⟨ho, rfl, ⟨_, ho, rfl⟩, call_meets F.slot_tuple_mul ⟨_, ho, rfl⟩ F.entry_tuple_mul (F.args_tuple_mul_2 _ _) (tuple_mul1 l its.toArray n dd sl t) ⟨ho, ?_⟩⟩)
      exact ⟨.ref l, H, I, rfl, q1 rfl⟩
/-! ### a text * int: whichever text -/
theorem size_repA {α : Type} (a : Array α) : ∀ (m : Nat) (b : Array α), (List.foldl (fun x1 x2 => x1 ++ x2) b (List.replicate m a)).size = b.size + m * a.size
  | 0, b => by rw [List.replicate_zero, List.foldl_nil, Nat.zero_mul, Nat.add_zero]
  | m + 1, b => by rw [List.replicate_succ, List.foldl_cons, size_repA a m, Array.size_append, Nat.succ_mul]; omega
def rRepS : R2 := fun x y H Q => ∃ z k, x = .str z ∧ y = .int k ∧ 0 ≤ k ∧ k ≤ 1000 ∧ z.length ≤ 1000 ∧ ∀ s, Q (.str s) H
theorem op_repS : OpR X (binaryOp .Mult) rRepS := by
  intro pins s σ H x y v u Q I rx ry h
  obtain ⟨z, k, rfl, rfl, h1, h2, hz, q⟩ := h
  obtain ⟨t, rfl⟩ := rx
  obtain ⟨t', rfl⟩ := ry
  have hm : (z.length : Int) * k ≤ 1000000 := by
    have a1 : ((z.length : Nat) : Int) * k ≤ 1000 * k := Int.mul_le_mul_of_nonneg_right (by omega) (by omega)
    omega
  have hmn : z.length * k.toNat ≤ 1000 * 1000 := Nat.mul_le_mul hz (by omega)
  refine PySem.P.mul_str (by rw [decide_eq_false (by omega), decide_eq_false (by omega)]; rfl) (fun h3 _ => ?_) (fun _ _ => ?_) ?_
  · have : (2 ^ 63 - 1 : Int) / 1000 ≤ (2 ^ 63 - 1) / k := by
      rcases Int.lt_or_le k 1 with h | h
      · exact absurd h h3
      · refine (Int.le_ediv_iff_mul_le (by omega)).mpr ?_
        have : (2 ^ 63 - 1 : Int) / 1000 * k ≤ (2 ^ 63 - 1) / 1000 * 1000 := Int.mul_le_mul_of_nonneg_left (by omega) (by decide)
        omega
    have h5 : (1000 : Int) < (2 ^ 63 - 1) / 1000 := by decide
    omega
  · unfold Builtin.Str.tooLong
    first
      | exact decide_eq_false (by rw [sizeLine_eq]; omega)
      | exact decide_eq_false (by omega)
  · have fin : ∀ y, EP X pins σ Q (.str y s.toks) { s with toks := s.toks + 1 } := fun y => ⟨.str y, H, I.tok _, ⟨_, rfl⟩, q y⟩
    split
    · exact ⟨by decide, fin _⟩
    · split
      · exact ⟨.str z, H, I, ⟨_, rfl⟩, q z⟩
      · refine ⟨?_, fin _⟩
        show (List.foldl (fun x1 x2 => x1 ++ x2) #[] (List.replicate k.toNat z.cps)).size ≤ sizeLine
        rw [size_repA, sizeLine_eq]
        have h9 : k.toNat * z.cps.size = z.length * k.toNat := Nat.mul_comm _ _
        simp only [Array.size_empty]
        omega
/-! ### x[i] op= e, x a list -/
def rGetL (K : PySem.W.Frag) : V → V → Hp → VK → Prop := rIxL K
theorem get_list : PGet X (rGetL X.K) := by
  intro pins s σ H o i ov iv Q I ro ri h
  obtain ⟨p, xs, k, z, rfl, rfl, hq, he, q⟩ := h
  cases ro
  obtain ⟨t, rfl⟩ := ri
  obtain ⟨its, r, pl, hz⟩ := I.list hq
  obtain ⟨j, h1, h2, h3, h4, h5⟩ := atI_get he
  obtain ⟨w, ew, rw'⟩ := r.get h2
  have hl := r.length
  have hn := line63
  have fin : EP X pins σ Q w s := ⟨z, H, I, rw', q⟩
  by_cases h0 : 0 ≤ k
  · have hj : k.toNat = j := by
      rw [seqIndex_of h0 h5] at h1
      exact Option.some.inj h1
    exact wpAny_getItem_list pl.isList h0 (by omega) (by rw [hj]; simpa using ew) fin
  · have hj : (k + (its.toArray.size : Int)).toNat = j := by
      rw [seqIndex_neg (by omega) h4] at h1
      rw [List.size_toArray, ← hl]
      exact Option.some.inj h1
    exact wpAny_getItem_list_neg pl.isList (by omega) (by rw [List.size_toArray] <;> omega) (by omega) (by rw [hj]; simpa using ew) fin
end
end DL

-- part DM7
set_option maxHeartbeats 4000000
/-! dict(x), x a list of pairs (tuple of ints and texts, value) -/
namespace DL
open PySem PySem.Spec PyProof.Rows L2
def mergeT (acc : List (List Key × V)) (kvs : List (List Key × V)) : List (List Key × V) := kvs.foldl (fun acc kv => putK acc kv.1 kv.2) acc
section
variable {X : Cx}
theorem kt_merge {H : Hp} : ∀ {kvs acc : List (List Key × V)} {ps xs : List (List Key × Addr × Value)}, KT H kvs ps → KT H acc xs → KT H (mergeT acc kvs) (storedAllH xs ps)
  | [], acc, _, xs, .nil, h => h
  | kv :: kvs, acc, p :: ps, xs, .cons h t, r => by
    obtain ⟨h1, h2, h3⟩ := h
    have r2 := r.put kv.1 h2 h3
    show KT H (mergeT (putK acc kv.1 kv.2) kvs) (storedAllH (storedH xs p.1 p.2.1 p.2.2) ps)
    rw [← h1]
    exact kt_merge t r2
/-- the pairs in the list, told -/
def PairsT (K : PySem.W.Frag) (H : Hp) (ps : List Addr) (kvs : List (List Key × V)) : Prop := Paired (fun p (kv : List Key × V) => ∃ b, SqT K H p [.ref b, kv.2] ∧ H b = some (.tup (kv.1.map kV))) ps kvs
theorem pairsT_of {pins : List (Addr × Obj)} {σ : L2.St} {H : Hp} {s : Shared} (I : Inv X pins σ H s) : ∀ {ps : List Addr} {kvs : List (List Key × V)}, PairsT X.K H ps kvs →
    ∃ prs : List (List Key × Addr × Value), KT H kvs prs ∧ prs.length = ps.length ∧ ∀ (j : Nat) (q : List Key × Addr × Value), prs[j]? = some q → ∃ b, ps[j]? = some b ∧ IsTup s.heap b #[.ref q.2.1, q.2.2]
  | _, _, .nil => ⟨[], .nil, rfl, fun j q e => by simp at e⟩
  | _, _, .cons (a := p) (b := kv) ⟨b, h, hb⟩ t => by
    obtain ⟨prs, r, hl, hp⟩ := pairsT_of I t
    obtain ⟨its, rv, ht, _⟩ := I.tuple h
    obtain ⟨u, y, ei, ru, ry⟩ := vals2 rv
    subst ei
    obtain rfl : u = Value.ref b := ru
    refine ⟨(kv.1, b, y) :: prs, .cons ⟨rfl, hb, ry⟩ r, by rw [List.length_cons, List.length_cons, hl], fun j q e => ?_⟩
    cases j with
    | zero =>
      have e' : (kv.1, b, y) = q := Option.some.inj e
      subst e'
      exact ⟨p, rfl, ht⟩
    | succ j =>
      obtain ⟨c, e1, e2⟩ := hp j q (by simpa using e)
      exact ⟨c, by simpa using e1, e2⟩
theorem length_mergeT : ∀ (kvs acc : List (List Key × V)), (mergeT acc kvs).length ≤ acc.length + kvs.length
  | [], acc => Nat.le_refl _
  | kv :: kvs, acc => by
    have h1 := length_mergeT kvs (putK acc kv.1 kv.2)
    have h2 := length_putK acc kv.1 kv.2
    show (mergeT (putK acc kv.1 kv.2) kvs).length ≤ _
    rw [List.length_cons]
    omega
def rDictT (K : PySem.W.Frag) : List V → Hp → VK → Prop := fun xs H Q => ∃ (a : Addr) (ps : List Addr) (kvs : List (List Key × V)), xs = [.ref a] ∧ SqL K H a (ps.map V.ref) ∧ PairsT K H ps kvs ∧ ∀ p, H p = none → Q (.ref p) (upd H p (.dT (mergeT [] kvs)))
theorem call_dictT (hcalm : X.calm = true) (hu : X.A.units + 64 < cLine) : CallR X (.type "dict") (rDictT X.K) := by
  intro pins s σ H xs us Q I r q
  obtain ⟨a, ps, kvs, ex, hq, hp, q⟩ := q
  subst ex
  obtain ⟨u, eu, rx⟩ := vals1 r
  subst eu
  cases rx
  obtain ⟨its, rv, pl, hz⟩ := I.list hq
  have ei := refs_at rv
  subst ei
  rw [List.length_map] at hz
  obtain ⟨prs, rel, hl, hpr⟩ := pairsT_of I hp
  obtain ⟨o, n, ho, hc, hd, hdat⟩ := pl
  have hkey : ∀ x ∈ prs, (tupleKind (mixKind X.prog X.w)).is s.heap x.1 x.2.1 := by
    have all : ∀ {l : List (List Key × V)} {m : List (List Key × Addr × Value)}, KT H l m → ∀ x ∈ m, (tupleKind (mixKind X.prog X.w)).is s.heap x.1 x.2.1 := by
      intro l m q
      induction q with
      | nil => intro x hx; exact nomatch hx
      | @cons p q ps qs hq t ih =>
        intro x hx
        rcases List.mem_cons.mp hx with e | hx
        · subst e
          exact key_of I.hok (by rw [← hq.1]; exact hq.2.1)
        · exact ih x hx
    exact all rel
  have PA := PairArg.list (prog := X.prog) (w := X.w) a (ps.map Value.ref).toArray (fun j => ps.getD j 0) (prs.map fun p => (Value.ref p.2.1, p.2.2))
  refine call_dict_pairsH (knd := tupleKind (mixKind X.prog X.w)) (ps := prs) PA (I.ok.hd hcalm) (show X.A.units + 2 < cLine by omega) ⟨⟨o, n, ho, hc, hd, hdat⟩, by simp [hl], fun j k v hj => ?_⟩ ⟨by rw [List.length_map], fun i key v hr => ?_⟩ (fun h' hk x hx => ?_) (by rw [List.length_map, hl]; exact hz) fun h' tk hd' k => ?_
  · rw [List.getElem?_map] at hj
    cases hz2 : prs[j]? with
    | none => rw [hz2] at hj; cases hj
    | some q2 =>
      rw [hz2] at hj
      cases hj
      obtain ⟨b, e1, e2⟩ := hpr j q2 hz2
      have ed : ps.getD j 0 = b := by rw [List.getD_eq_getElem?_getD, e1]; rfl
      dsimp only
      rw [ed]
      exact ⟨by simp [e1], .inl e2⟩
  · have hr : (prs.map fun p => (Value.ref p.2.1, p.2.2))[i]? = some (key, v) := hr
    rw [List.getElem?_map] at hr
    cases hz2 : prs[i]? with
    | none => rw [hz2] at hr; cases hr
    | some q2 =>
      rw [hz2] at hr
      cases hr
      exact ⟨q2.1, q2.2.1, rfl, rfl⟩
  · have ki := hkey x hx
    have := (hkey x hx)
    obtain ⟨o1, its, n1, h1, h2, h3, h4⟩ := ki
    have hlt : x.2.1 < s.heap.objs.size := Heap.lt_size h1
    exact ⟨o1, its, n1, hk _ _ (Nat.ne_of_lt hlt) (fun z => nomatch z) h1, h2, h3, h4⟩
  · have hm : (s.heap.objs.size == sysModules) = false := beq_eq_false_iff_ne.mpr (Nat.ne_of_gt I.big)
    have hlen : (mergeT [] kvs).length ≤ sizeLine := by
      have := length_mergeT kvs []
      have e : kvs.length = ps.length := by rw [Paired.length rel, hl]
      rw [List.length_nil, Nat.zero_add, e] at this
      omega
    obtain ⟨o2, es, ep, g1, g2, g3, g4, _, g5⟩ := hd'
    refine ⟨.ref s.heap.objs.size, upd H s.heap.objs.size (.dT (mergeT [] kvs)), I.laid (t' := tk) (fun b ob e => k b ob (fun z => nomatch z) e) (Nat.le_refl _) ⟨hlen, hm, storedAllH [] prs, (kt_merge rel .nil).keeps (fun b ys e => ?_), o2, es, ep, g1, g2, g3, g4, g5⟩, rfl, q _ (I.hok.fresh (Nat.le_refl _))⟩
    rw [upd_ne (fun z => by rw [z, I.hok.fresh (Nat.le_refl _)] at e; cases e)]
    exact e
end
section
variable {W : Wd} {B : Bs} {F F' H H' : Hp} {σ : L2.St} {ρ : Ev}
def mergeP (acc : List (List Key × D)) (l : List (List Key × D)) : List (List Key × D) := l.foldl (fun acc p => putP acc p.1 p.2) acc
theorem DenP.merge : ∀ {l acc : List (List Key × D)} {kvs bcc : List (List Key × V)}, DenP W F l kvs → DenP W F acc bcc → DenP W F (mergeP acc l) (mergeT bcc kvs)
  | [], acc, kvs, bcc, h, r => by
    have : kvs = [] := List.map_eq_nil_iff.mp h.1
    subst this; exact r
  | p :: l, acc, [], bcc, h, r => by have := h.1; cases this
  | p :: l, acc, kv :: kvs, bcc, h, r => by
    obtain ⟨h1, h2⟩ := h
    rw [List.map_cons, List.map_cons] at h1
    injection h1 with e1 e2
    obtain ⟨x, xs, ex, dx, dxs⟩ := h2
    rw [List.map_cons] at ex
    injection ex with ex1 ex2
    show DenP W F (mergeP (putP acc p.1 p.2) l) (mergeT (putK bcc kv.1 kv.2) kvs)
    rw [e1]
    exact DenP.merge ⟨e2, by rw [ex2]; exact dxs⟩ (r.put (by rw [ex1]; exact dx))
/-- a pair as it stands in the list -/
theorem rn_dictT {ta : TA} {a : DA} {α : Type} {key : α → List D} {kf : α → List Key} {vf : α → D} (hk : ∀ x, keyOfL (key x) = some (kf x)) (ra : RA W B ta a) :
    RN W B (tCB (rDictT W.K) ta) (fun ρ Q => a ρ fun ρ1 ds => ∃ xs : List α, ds = [.lst (xs.map fun x => .tup [.tup (key x), vf x])] ∧ Q ρ1 (dicP (mergeP [] (xs.map fun x => (kf x, vf x))))) := by
  intro σ H F ρ Q R rl h k
  refine ra σ H F ρ _ _ rl h fun vs H1 F1 ρ1 ds r1 s1 d1 h1 => ?_
  obtain ⟨xs, rfl, hq⟩ := h1
  obtain ⟨x, rfl, p, us, rfl, hs, hd⟩ := den1 d1
  have go : ∀ {xs : List α} {us : List V}, DenL W F1 (xs.map fun x => .tup [.tup (key x), vf x]) us → ∃ (ps : List Addr) (kvs : List (List Key × V)), us = ps.map V.ref ∧ PairsT W.K H1 ps kvs ∧ DenP W F1 (xs.map fun x => (kf x, vf x)) kvs := by
    intro xs
    induction xs with
    | nil => intro us h; obtain rfl : us = [] := h; exact ⟨[], [], rfl, .nil, rfl, rfl⟩
    | cons x xs ih =>
      intro us h
      obtain ⟨v, r, rfl, ⟨t, ys, rfl, ht, hd⟩, hr⟩ := h
      obtain ⟨ps, kvs, rfl, hp, hP⟩ := ih hr
      obtain ⟨v1, v2, rfl, ⟨b, zs, rfl, hb, hz⟩, dv⟩ := den2 hd
      rw [key_den hz (hk x)] at hb
      refine ⟨t :: ps, (kf x, v2) :: kvs, rfl, .cons ⟨b, sqT_of r1.ex ht, r1.ex _ _ hb⟩ hp, ?_⟩
      refine ⟨?_, ?_⟩
      · rw [List.map_cons, List.map_cons, List.map_cons, hP.1]
      · rw [List.map_cons, List.map_cons, List.map_cons]
        exact ⟨v2, _, rfl, dv, hP.2⟩
  obtain ⟨ps, kvs, rfl, hp, hP⟩ := go hd
  refine ⟨p, ps, kvs, rfl, same_sqL r1.ex hs, hp, fun q hq1 => ?_⟩
  have hm := DenP.merge (acc := []) (bcc := []) hP ⟨rfl, rfl⟩
  exact k q _ _ _ (dicP (mergeP [] (xs.map fun x => (kf x, vf x)))) (r1.stp (Stp.lay (o := .dT (mergeT [] kvs)) r1.ex hq1)) s1 (new_of r1 hq1 ⟨_, upd_same, hm.1, hm.2⟩) hq
end
end DL

-- part LR2
set_option maxHeartbeats 4000000
/-! the same over trees -/
namespace DL
open PySem PySem.Spec PyProof.Rows L2
section
variable {W : Wd} {B : Bs} {F F' H H' : Hp} {σ : L2.St} {ρ : Ev}
theorem DenL.repl {ds : List D} {xs : List V} (h : DenL W F ds xs) : ∀ m, DenL W F (List.replicate m ds).flatten (List.replicate m xs).flatten
  | 0 => by rw [List.replicate_zero, List.replicate_zero]; exact rfl
  | m + 1 => by rw [List.replicate_succ, List.replicate_succ, List.flatten_cons, List.flatten_cons]; exact h.append (h.repl m)
theorem len_flat {α : Type} (xs : List α) : ∀ m, (List.replicate m xs).flatten.length = m * xs.length
  | 0 => by rw [List.replicate_zero, Nat.zero_mul]; rfl
  | m + 1 => by rw [List.replicate_succ, List.flatten_cons, List.length_append, len_flat xs m, Nat.succ_mul]; omega
/-- a reading that tells an int and changes nothing -/
def IntV (tb : TE) (b : DE) (cond : Ev → Int → Prop) : Prop := ∀ (W : Wd) (B : Bs) (F H : Hp) (σ : L2.St) (ρ : Ev) (k : Int) (R : VK), Rel W B F H σ ρ → cond ρ k → R (.int k) H → tb σ H R
/-- [..] * n, n at a slot -/
theorem rn_repV {i : Nat} {ta : TA} {a : DA} (ra : RA W B ta a) : RN W B (tOp rRep (tLst ta) (tVar i)) (fun ρ Q => a ρ fun ρ1 ds => ∃ k : Nat, ρ1.sl[i]? = some (.v (.int k)) ∧ k ≤ 1000 ∧ ds.length ≤ 10 ∧ Q ρ1 (.lst (List.replicate k ds).flatten)) := by
  intro σ H F ρ Q R rl h k
  refine ra σ H F ρ _ _ rl h fun vs H1 F1 ρ1 ds r1 s1 d1 h1 => ?_
  obtain ⟨n, hi, hn, hl, hq⟩ := h1
  refine ⟨by rw [← d1.length]; exact Nat.le_trans hl (by decide), fun p hp => ?_⟩
  obtain ⟨u, hu, du⟩ := r1.sl i _ hi
  obtain rfl : u = V.int n := du
  have st := Stp.lay (o := .lst vs) r1.ex hp
  refine ⟨_, hu, p, n, vs, rfl, rfl, upd_same, by omega, by omega, ?_, fun q hq1 => ?_⟩
  · rw [Int.toNat_natCast, ← d1.length]
    have : ds.length * n ≤ 10 * 1000 := Nat.mul_le_mul hl hn
    rw [sizeLine_eq]; omega
  · rw [Int.toNat_natCast]
    have r2 := r1.stp st
    exact k q _ _ _ (.lst (List.replicate n ds).flatten) (r2.stp (Stp.lay (o := .lst _) r2.ex hq1)) s1 (new_of r2 hq1 ⟨_, upd_same, d1.repl n⟩) hq
/-- [..] * 2 -/
theorem rn_repC {n : Nat} {ta : TA} {a : DA} (ra : RA W B ta a) : RN W B (tOp rRep (tLst ta) (tC (.int n))) (fun ρ Q => a ρ fun ρ1 ds => n ≤ 1000 ∧ ds.length ≤ 10 ∧ Q ρ1 (.lst (List.replicate n ds).flatten)) := by
  intro σ H F ρ Q R rl h k
  refine ra σ H F ρ _ _ rl h fun vs H1 F1 ρ1 ds r1 s1 d1 h1 => ?_
  obtain ⟨hn, hl, hq⟩ := h1
  refine ⟨by rw [← d1.length]; exact Nat.le_trans hl (by decide), fun p hp => ?_⟩
  have st := Stp.lay (o := .lst vs) r1.ex hp
  refine ⟨p, n, vs, rfl, rfl, upd_same, by omega, by omega, ?_, fun q hq1 => ?_⟩
  · rw [Int.toNat_natCast, ← d1.length]
    have : ds.length * n ≤ 10 * 1000 := Nat.mul_le_mul hl hn
    rw [sizeLine_eq]; omega
  · rw [Int.toNat_natCast]
    have r2 := r1.stp st
    exact k q _ _ _ (.lst (List.replicate n ds).flatten) (r2.stp (Stp.lay (o := .lst _) r2.ex hq1)) s1 (new_of r2 hq1 ⟨_, upd_same, d1.repl n⟩) hq
/-- (..) * n -/
def gRepT : D → D → Ev → (Ev → D → Prop) → Prop := fun x y ρ Q => ∃ (xs : List D) (n : Nat), x = .tup xs ∧ y = .int n ∧ xs ≠ [] ∧ n ≤ 1000 ∧ xs.length ≤ 1000 ∧ Q ρ (.tup (List.replicate n xs).flatten)
theorem re_repT {ta tb : TE} {a b : DE} (ra : RE W B ta a) (rb : RE W B tb b) : RE W B (tOp (rRepTA W.K) ta tb) (fun ρ Q => a ρ fun ρ1 x => b ρ1 fun ρ2 y => gRepT x y ρ2 Q) :=
  re_bin ra rb fun σ H F ρ x y dx dy Q R r d1 d2 h k => by
    obtain ⟨xs, n, rfl, rfl, hne, hn, hz, hq⟩ := h
    obtain ⟨p, us, rfl, hs, hd⟩ := d1
    obtain rfl : y = V.int n := d2
    have hl := hd.length
    refine ⟨p, n, us, rfl, rfl, sqT_of r.ex hs, fun e => hne (by rw [e] at hl; exact List.length_eq_zero_iff.mp hl), by omega, by omega, by rw [← hl]; exact hz, fun h1 => ?_, fun h1 q hq1 => ?_⟩
    · obtain rfl : n = 1 := by omega
      refine k _ H F ρ (.tup _) r (Same.refl _) ⟨p, us, rfl, hs, ?_⟩ hq
      rw [show (List.replicate 1 xs).flatten = xs by simp]
      exact hd
    · rw [Int.toNat_natCast]
      have st := Stp.one (o := .tup (List.replicate n us).flatten) r.ex hq1
      exact k _ _ _ ρ (.tup _) (r.stp st) st.ff ⟨q, _, rfl, upd_same, (hd.repl n).mono st.ff⟩ hq
/-- a text * n -/
def gRepS : D → D → Ev → (Ev → D → Prop) → Prop := fun x y ρ Q => ∃ (z : Str) (n : Nat), x = .str z ∧ y = .int n ∧ n ≤ 1000 ∧ z.length ≤ 1000 ∧ ∀ s, Q ρ (.str s)
theorem re_repS {ta tb : TE} {a b : DE} (ra : RE W B ta a) (rb : RE W B tb b) : RE W B (tOp rRepS ta tb) (fun ρ Q => a ρ fun ρ1 x => b ρ1 fun ρ2 y => gRepS x y ρ2 Q) :=
  re_bin ra rb fun σ H F ρ x y dx dy Q R r d1 d2 h k => by
    obtain ⟨z, n, rfl, rfl, hn, hz, hq⟩ := h
    obtain rfl : x = V.str z := d1
    obtain rfl : y = V.int n := d2
    exact ⟨z, n, rfl, rfl, by omega, by omega, hz, fun s => k _ H F ρ (.str s) r (Same.refl _) rfl (hq s)⟩
/-- x[::-1] of a list -/
theorem re_revL {te : TE} {t : DE} (re : RE W B te t) : RE W B (tRevL W.K te) (fun ρ Q => t ρ fun ρ1 x => ∃ xs, x = .lst xs ∧ Q ρ1 (.lst xs.reverse)) := by
  intro σ H F ρ Q R rl h k
  refine re σ H F ρ _ _ rl h fun v H1 F1 ρ1 d r1 s1 dv h1 => ?_
  obtain ⟨xs, rfl, hq⟩ := h1
  obtain ⟨p, us, rfl, hs, hd⟩ := dv
  refine ⟨p, us, rfl, same_sqL r1.ex hs, fun q hq1 => ?_⟩
  have st := Stp.one (o := .lst us.reverse) r1.ex hq1
  have rv : ∀ {xs : List D} {us : List V}, DenL W F1 xs us → DenL W F1 xs.reverse us.reverse := by
    intro xs
    induction xs with
    | nil => intro us h; obtain rfl : us = [] := h; exact rfl
    | cons x xs ih =>
      intro us h
      obtain ⟨v, r, rfl, h1, h2⟩ := h
      rw [List.reverse_cons, List.reverse_cons]
      exact (ih h2).append ⟨v, [], rfl, h1, rfl⟩
  exact k _ _ _ ρ1 (.lst xs.reverse) (r1.stp st) (s1.trans st.ff) ⟨q, _, rfl, .inl (.inl upd_same), (rv hd).mono st.ff⟩ hq
/-- x[t] += e, x a list of one's own at slot i -/
theorem rs_augO {i : Nat} {tt te : TE} {t e : DE} (rt : RE W B tt t) (re : RE W B te e) :
    RS W B (tAugS (tVar i) tt te (rGetL W.K) (ipI fun i j => i + j) rSetL) (fun DD ρ => (∃ xs, ρ.sl[i]? = some (.o (.lst xs))) ∧ t ρ fun ρ1 x => ∃ (xs : List D) (j : Nat) (a : Int), ρ1.sl[i]? = some (.o (.lst xs)) ∧ x = .int j ∧ xs[j]? = some (.int a) ∧
      e ρ1 fun ρ2 y => ∃ b : Int, ρ2.sl[i]? = some (.o (.lst xs)) ∧ y = .int b ∧ DD.nx (ρ2.set i (.o (.lst (xs.set j (.int (a + b))))))) := by
  intro σ H F ρ En DD rl h f
  obtain ⟨⟨xs0, g0⟩, h⟩ := h
  have gO : ∀ {ρ : Ev} {d : D}, ρ.sl[i]? = some (.o d) → getO ρ i = some d := fun {ρ d} h => by unfold getO; rw [h]
  obtain ⟨p, e2, e3, us0, hp0, _⟩ := rl.own (gO g0)
  refine ⟨.ref p, e3, ?_⟩
  refine rt σ H F ρ _ _ rl h fun x H1 F1 ρ1 dx r1 s1 d1 h1 => ?_
  obtain ⟨xs, j, a, g1, rfl, hj, h1⟩ := h1
  obtain rfl : x = V.int j := d1
  obtain ⟨p1, f2, f3, us, hp, hd⟩ := r1.own (gO g1)
  have ep : p = p1 := by rw [e3] at f3; cases f3; rfl
  subst ep
  have ej : atI xs (j : Int) = some (.int a) := atI_nat hj
  obtain ⟨v, ev, dv⟩ := denL_at hd ej
  obtain rfl : v = V.int a := dv
  refine ⟨p, us, j, .int a, rfl, rfl, .inl (.inl hp), ev, ?_⟩
  refine re σ H1 F1 ρ1 _ _ r1 h1 fun y H2 F2 ρ2 dy r2 s2 d2 h2 => ?_
  obtain ⟨b, g2, rfl, hq⟩ := h2
  obtain rfl : y = V.int b := d2
  obtain ⟨p2, q2, q3, ws, hp2, hd2⟩ := r2.own (gO g2)
  have ep : p = p2 := by rw [e3] at q3; cases q3; rfl
  subst ep
  have hlt : j < xs.length := (List.getElem?_eq_some_iff.mp hj).1
  have hl := hd2.length
  refine ⟨a, b, rfl, rfl, p, ws, j, j, rfl, rfl, hp2, ?_, ?_⟩
  · unfold ixN
    rw [if_pos (by omega), if_pos (by omega)]
    simp
  · have dset : ∀ {ds : List D} {xs : List V} {d : D} {v : V} (j : Nat), DenL W F2 ds xs → Den W F2 d v → DenL W F2 (ds.set j d) (xs.set j v) := by
      intro ds
      induction ds with
      | nil => intro xs d v j h hd; obtain rfl : xs = [] := h; exact rfl
      | cons x ds ih =>
        intro xs d v j h hd
        obtain ⟨u, r, rfl, h1, h2⟩ := h
        cases j with
        | zero => exact ⟨v, r, rfl, hd, h2⟩
        | succ j => exact ⟨u, r.set j v, rfl, h1, ih j h2 hd⟩
    exact f.nx _ _ F2 _ (r2.oset (d' := .lst (xs.set j (.int (a + b)))) q2 q3 ⟨_, upd_same, dset j hd2 rfl⟩) (s1.trans s2) hq
end
end DL

-- part K08J
set_option maxHeartbeats 4000000
/-! K08: _law_some, _law_at_numbers -/
namespace DL
namespace K08
open PySem PySem.Spec PyProof.Rows L2 ZX
abbrev sSo : Stmt := topS 27
abbrev sAt : Stmt := topS 31
theorem scSo : FnScope ["well", "some", "many", "one"] ["well", "some", "many"] (defScope sSo) := ⟨rfl, rfl, rfl, by decide +kernel, rfl, by decide +kernel, by decide +kernel⟩
theorem scAt : FnScope ["terms", "numbers", "found", "number", "powers", "one", "often", "turn"] ["terms", "numbers"] (defScope sAt) := ⟨rfl, rfl, rfl, by decide +kernel, rfl, by decide +kernel, by decide +kernel⟩
def gSome : GF := fun ds c Q => ∃ (xs : List D) (m : Int), ds = [.well, .lst xs, .int m] ∧ xs.length ≤ 1000 ∧ 0 < m ∧ m < 1073741824 ∧ c + xs.length ≤ 1048576 ∧ ∀ ys : List D, ys.Sublist xs → Q (.lst ys) (c + xs.length)
def gAt : GF := fun ds c Q => ∃ (m : Nat) (l : List Trm) (ns : List Int), ds = [.lst (l.map trmD), .lst (ns.map .int)] ∧ OkL m l ∧ (∀ n ∈ ns, n.natAbs < 2 ^ 64) ∧ (∀ t ∈ l, t.1.natAbs < 2 ^ 1000) ∧ Q (.int (worth l ns)) c
section
variable {P : Program} {w : World} {K : PySem.W.Frag} {mg : Str → Option Value} {base : Heap} {cls : Str → Option Addr}
theorem ok_some {f f1 : Addr} {fd d1 : FuncData} {k : Nat} (F : Fun K "_law_some" "_law_some" sSo f fd) (A__law_draw : Fn1 K mg "_law_draw" sDraw ["well", "many"] f1 d1) (G__law_draw : FnOk P w K mg base CX0 (k + 1) f1 d1 ["well", "many"] (spD K cls gDraw)) : FnOk P w K mg base CX0 (k + 2) f fd ["well", "some", "many"] (spD K cls gSome) := by
  refine F.ok scSo (fun vs H Q E h => len_of (n := 3) (fun ds c QD ⟨xs, m, e, _⟩ => by rw [e]; rfl) h) (fun cdv A outer s H vs Q E hr h => ?_)
  have hu := hr.units
  refine ⟨_, (pss_one (ps_ret (pe_lc rfl scSo.nd (pi_seq (pv 1)) (own := [("one", 3)]) (blkOk_by rfl) (fun _ _ _ _ _ => (pg_name (i := 3) scSo.nd rfl (.inl rfl))) (fun _ _ _ _ _ => (pts_one (pt_cmpR (r := rEqD K) (op_eqD hu) (pe_call G__law_draw (by exact hr) (by rfl) A__law_draw.gl A__law_draw.fn.kp A__law_draw.bd .nil pass0 (pa_cons (pv 0) (pa_cons (pv 2) pa_nil))) pe_int (nomark _)))) (fun _ _ _ _ _ => (pv 3))))),
    body_of (fun pw B hio => (rs_ret (RN.re (rn_lc (is := [3]) (vs := [3]) (ri_seq (re_var (i := 1) hio)) (fun B hb => by have hio := hb.trans hio; exact (rg_name (i := 3))) (fun B hb => by have hio := hb.trans hio; exact (rt_test (re_eqD (re_call (E := E0) (ra_cons (re_var (i := 0) hio) (ra_cons (re_var (i := 2) hio) ra_nil))) re_c))) (fun B hb => by have hio := hb.trans hio; exact (re_var (i := 3) hio)) (fun _ h => h))))) ?_ h⟩
  rintro ds c QD ⟨xs, m, rfl, hl, h0, h1, hc, q⟩
  refine ⟨by show 3 ≤ 4; decide, ?_⟩
  refine ⟨rfl, ?_⟩
  refine lc_inv (fun k c' acc => c' = c + k ∧ acc.Sublist (xs.take k)) (fun k d acc c' T U hd hI hT hU => ?_) (fun k c' acc hk hI => ?_) ⟨rfl, by rw [List.take_zero]; exact List.Sublist.refl _⟩ (fun c' acc hI => ?_)
  · obtain ⟨rfl, hs⟩ := hI
    have hk : k < xs.length := (List.getElem?_eq_some_iff.mp hd).1
    refine ⟨m, rfl, h1, by show c + k < 1048576; omega, fun z hz1 hz2 => ?_⟩
    refine ⟨decide (z = 0), by unfold eqD; rfl, ?_⟩
    have et : xs.take (k + 1) = xs.take k ++ [d] := by rw [List.take_add_one, hd]; rfl
    cases hz : decide (z = 0) with
    | true =>
      refine hT _ _ ((Agr.wipe (c := c + k)).put (i := 3) (by decide)) ⟨rfl, ?_⟩
      rw [et]
      exact hs.append (List.Sublist.refl _)
    | false =>
      refine hU _ ((Agr.wipe (c := c + k)).put (i := 3) (by decide)) ⟨rfl, ?_⟩
      rw [et]
      exact hs.trans (List.sublist_append_left _ _)
  · have := hI.2.length_le
    rw [List.length_take] at this
    have : (1000 : Nat) < sizeLine := by decide
    omega
  · obtain ⟨rfl, hs⟩ := hI
    rw [List.take_length] at hs
    exact q _ hs
theorem ok_at {f : Addr} {fd : FuncData} {k : Nat} (F : Fun K "_law_at_numbers" "_law_at_numbers" sAt f fd) (BL : Blt mg) : FnOk P w K mg base CX0 (k + 1) f fd ["terms", "numbers"] (spD K cls gAt) := by
  refine F.ok scAt (fun vs H Q E h => len_of (n := 2) (fun ds c QD ⟨m, l, ns, e, _⟩ => by rw [e]; rfl) h) (fun cdv A outer s H vs Q E hr h => ?_)
  have hu := hr.units
  refine ⟨_, (pss_cons (ps_set (i := 2) scAt.nd rfl (.inl rfl) pe_int)
    (pss_cons (ps_for PassesOwn.never rfl (pi_seq (pv 0)) (pg_tupK (K := K) (n := 2) rfl rfl (pgs_cons (pg_name (i := 3) scAt.nd rfl (.inl rfl)) (pgs_cons (pg_name (i := 4) scAt.nd rfl (.inl rfl)) pgs_nil))) (pss_cons (ps_for PassesOwn.never rfl (pi_zipS (by rfl) BL.m_zip (pa_cons (pv 1) (pa_cons (pv 4) pa_nil))) (pg_tupK (K := K) (n := 2) rfl rfl (pgs_cons (pg_name (i := 5) scAt.nd rfl (.inl rfl)) (pgs_cons (pg_name (i := 6) scAt.nd rfl (.inl rfl)) pgs_nil))) (pss_one (ps_for PassesOwn.never rfl (pi_range1 (by rfl) BL.m_range (pa_cons (pv 6) pa_nil)) (pg_name (i := 7) scAt.nd rfl (.inl rfl)) (pss_one (ps_set (i := 3) scAt.nd rfl (.inl rfl) (pe_op op_mulW (pv 3) (pv 5)))))))
    (pss_one (ps_set (i := 2) scAt.nd rfl (.inl rfl) (pe_op op_add (pv 2) (pv 3))))))
    (pss_one (ps_ret (pv 2))))),
    body_of (fun pw B hio => (rs_seq (rs_asg re_c (rg_name (i := 2)))
    (rs_seq (rs_for (ri_seq (re_var (i := 0) hio)) (rg_tup (rgs_cons (rg_name (i := 3)) (rgs_cons (rg_name (i := 4)) rgs_nil))) (rs_seq (rs_for (ri_zipS (ra_cons (re_var (i := 1) hio) (ra_cons (re_var (i := 4) hio) ra_nil))) (rg_tup (rgs_cons (rg_name (i := 5)) (rgs_cons (rg_name (i := 6)) rgs_nil))) (rs_for (ri_rng1 (ra_cons (re_var (i := 6) hio) ra_nil)) (rg_name (i := 7)) (rs_asg (re_I (re_var (i := 3) hio) (re_var (i := 5) hio)) (rg_name (i := 3)))))
    (rs_asg (re_I0 (re_var (i := 2) hio) (re_var (i := 3) hio)) (rg_name (i := 2)))))
    (rs_ret (re_var (i := 2) hio))))) ?_ h⟩
  rintro ds c QD ⟨m, l, ns, rfl, hl, hN, hT, q⟩
  refine ⟨by show 2 ≤ 8; decide, ?_⟩
  refine dsSeq (dsAsg RnE.c RnG.name ?_)
  dsimp only
  refine dsSeq ?_
  generalize hρ : Ev.set (ent (Str.ofString "terms" :: [Str.ofString "numbers", Str.ofString "found", Str.ofString "number", Str.ofString "powers", Str.ofString "one", Str.ofString "often", Str.ofString "turn"]).length [.lst (l.map trmD), .lst (ns.map .int)] c) 2 (.v (vC (V.int 0))) = ρ
  have h0 : ρ.sl[0]? = some (.v (.lst (l.map trmD))) := by rw [← hρ]; rfl
  have h1 : ρ.sl[1]? = some (.v (.lst (ns.map .int))) := by rw [← hρ]; rfl
  have hlen : ρ.sl.length = 8 := by rw [← hρ]; rfl
  have hc : ρ.c = c := by rw [← hρ]; rfl
  unfold dFor
  refine RnA.seq (RnE.var h0) rfl _ ?_
  refine for_inv (fun j ρ' => Agr [2, 3, 4, 5, 6, 7] ρ ρ' ∧ ρ'.c = ρ.c ∧ ρ'.sl[2]? = some (.v (.int (worth (l.take j) ns)))) (fun j d ρj N hdj hJ hN1 => ?_) ⟨Agr.refl, rfl, by rw [List.take_zero, ← hρ]; rfl⟩ (fun ρ' hJ => ?_)
  · obtain ⟨ag, hc1, g2⟩ := hJ
    rw [List.getElem?_map] at hdj
    cases hz : l[j]? with
    | none => rw [hz] at hdj; cases hdj
    | some t =>
      rw [hz] at hdj
      cases hdj
      have htl := List.mem_of_getElem? hz
      have lj : ρj.sl.length = 8 := ag.1.trans hlen
      refine RnG.two (i := 3) (j := 4) _ ?_
      generalize hρk : (ρj.set 3 (.v (.int t.1))).set 4 (.v (ksD t.2)) = ρk
      have lk : ρk.sl.length = 8 := by rw [← hρk, len_set, len_set]; exact lj
      have agk : Agr [2, 3, 4, 5, 6, 7] ρ ρk := by rw [← hρk]; exact (ag.put (by decide)).put (by decide)
      have b3 : ρk.sl[3]? = some (.v (.int t.1)) := by rw [← hρk, at_ne (by decide)]; exact at_set (by omega)
      have b4 : ρk.sl[4]? = some (.v (ksD t.2)) := by rw [← hρk]; exact at_set (by rw [len_set]; omega)
      have b2 : ρk.sl[2]? = some (.v (.int (worth (l.take j) ns))) := by rw [← hρk, at_ne (by decide), at_ne (by decide)]; exact g2
      have b1 : ρk.sl[1]? = some (.v (.lst (ns.map .int))) := agr_at agk (by decide) h1
      have kb : ∀ p ∈ t.2, p ≤ 1000 := fun p hp => by have := ks_bound hl htl p hp; omega
      refine dsSeq ?_
      refine pow_loop (a := 1) (b := 4) (i := 5) (j := 6) (t := 7) (r := 3) (acc := t.1) (by decide) (by decide) (by decide) b1 b4 rfl rfl b3 (by omega) (by omega) (by omega) (hT t htl) hN (trm_b hl htl ns) kb (fun ρm agm hcm gm => ?_)
      have m2 : ρm.sl[2]? = some (.v (.int (worth (l.take j) ns))) := agr_at agm (by decide) b2
      have lm : ρm.sl.length = 8 := agm.1.trans lk
      refine dsAsg (RnE.bin (RnE.var m2) (RnE.var gm) ob_I0) RnG.name (hN1 _ ⟨?_, ?_, ?_⟩)
      · have sub : ∀ i ∈ [5, 6, 7, 3], i ∈ [2, 3, 4, 5, 6, 7] := by decide
        have agm' : Agr [2, 3, 4, 5, 6, 7] ρk ρm := ⟨agm.1, fun j hj => agm.2 j fun z => hj (sub j z)⟩
        exact (show Agr [2, 3, 4, 5, 6, 7] ρ ρm from ⟨agm'.1.trans agk.1, fun j hj => (agm'.2 j hj).trans (agk.2 j hj)⟩).put (by decide)
      · show ρm.c = ρ.c
        rw [hcm, ← hρk]; exact hc1
      · rw [at_set (by omega)]
        have e : worth (l.take (j + 1)) ns = worth (l.take j) ns + t.1 * pw (ns.zip t.2) := by
          rw [List.take_add_one, hz]
          unfold worth
          rw [List.map_append, List.sum_append]
          show _ + (t.1 * pw (ns.zip t.2) + 0) = _
          omega
        rw [e]; rfl
  · obtain ⟨ag, hc1, g2⟩ := hJ
    rw [List.length_map, List.take_length] at g2
    exact dsRet (RnE.var g2) (by show QD _ ρ'.c; rw [hc1, hc]; exact q)
end
end K08
end DL

-- part K08K
set_option maxHeartbeats 4000000
/-! K08: _law_terms -/
namespace DL
namespace K08
open PySem PySem.Spec PyProof.Rows L2 ZX
abbrev sTe : Stmt := topS 29
theorem scTe : FnScope ["well", "many", "found", "turn", "powers", "lap", "number"] ["well", "many"] (defScope sTe) := ⟨rfl, rfl, rfl, by decide +kernel, rfl, by decide +kernel, by decide +kernel⟩
def coefs : List Int := [1, -1, 0, 2, 7, (10 : Int) ^ (30 : Int).toNat]
def TOk (m : Nat) (l : List Trm) : Prop := ∀ t ∈ l, t.2.length = m ∧ t.2.sum ≤ 3 ∧ t.1.natAbs ≤ 10 ^ 30
def gTerms : GF := fun ds c Q => ∃ m : Nat, ds = [.well, .int m] ∧ m ≤ 6 ∧ c + 50 ≤ 1048576 ∧ ∀ (l : List Trm) (c' : Nat), c' ≤ c + 50 → l.length ≤ 12 → TOk m l → Q (.lst (l.map trmD)) c'
section
variable {ρ ρ' : Ev}
theorem w_cons {a : DE} {r : DA} {Q : Ev → List D → Prop} (h : a ρ fun ρ1 x => r ρ1 fun ρ2 xs => Q ρ2 (x :: xs)) : dCons a r ρ Q := h
theorem w_tup {a : DA} {Q : Ev → D → Prop} (h : a ρ fun ρ1 ds => ds.length ≤ sizeLine ∧ Q ρ1 (.tup ds)) : dTup a ρ Q := h
theorem dr {w : Nat} {b : DE} {m : Int} {Q : Ev → D → Prop} (hw : ρ.sl[w]? = some (.v .well)) (hb : RnE b ρ ρ (.int m)) (hm : m < 1073741824) (hc : ρ.c < 1048576) (k : ∀ z : Int, 0 ≤ z → (z < m ∨ (m < 2 ∧ z = 0)) → Q (ρ.cnt (ρ.c + 1)) (.int z)) : dCall gDraw (dCons (dVar w) (dCons b dNil)) ρ Q :=
  RnA.cons (RnE.var hw) (RnA.one hb) _ ⟨m, rfl, hm, hc, k⟩
theorem dr1 {w : Nat} {b : DE} {xs : List D} {Q : Ev → D → Prop} (hw : ρ.sl[w]? = some (.v .well)) (hb : RnE b ρ ρ (.lst xs)) (h0 : 0 < xs.length) (hm : xs.length < 1073741824) (hc : ρ.c < 1048576) (k : ∀ d ∈ xs, Q (ρ.cnt (ρ.c + 1)) d) : dCall gOne (dCons (dVar w) (dCons b dNil)) ρ Q :=
  RnA.cons (RnE.var hw) (RnA.one hb) _ ⟨xs, rfl, h0, hm, hc, k⟩
theorem drS {w : Nat} {b e : DE} {xs : List D} {m : Int} {Q : Ev → D → Prop} (hw : ρ.sl[w]? = some (.v .well)) (hb : RnE b ρ ρ (.lst xs)) (he : RnE e ρ ρ (.int m)) (hl : xs.length ≤ 1000) (h0 : 0 < m) (hm : m < 1073741824) (hc : ρ.c + xs.length ≤ 1048576) (k : ∀ ys : List D, ys.Sublist xs → Q (ρ.cnt (ρ.c + xs.length)) (.lst ys)) : dCall gSome (dCons (dVar w) (dCons b (dCons e dNil))) ρ Q :=
  RnA.cons (RnE.var hw) (RnA.cons hb (RnA.one he)) _ ⟨xs, m, rfl, hl, h0, hm, hc, k⟩
theorem dr_if {t : DT} {a b : DE} {Q : Ev → D → Prop} {c : Bool} (h : RnT t ρ ρ c) (k : c = true → a ρ Q) (l : c = false → b ρ Q) : dIfC t a b ρ Q := h _ ⟨k, l⟩
theorem RnE.repV {a : DA} {i k : Nat} {ds : List D} (h : RnA a ρ ρ' ds) (hi : ρ'.sl[i]? = some (.v (.int (k : Nat)))) (hk : k ≤ 1000) (hl : ds.length ≤ 10) : RnE (fun ρ Q => a ρ fun ρ1 ds => ∃ k : Nat, ρ1.sl[i]? = some (.v (.int k)) ∧ k ≤ 1000 ∧ ds.length ≤ 10 ∧ Q ρ1 (.lst (List.replicate k ds).flatten)) ρ ρ' (.lst (List.replicate k ds).flatten) := fun Q q => h _ ⟨k, hi, hk, hl, q⟩
theorem sublist_map {α β : Type} {f : α → β} : ∀ {l : List α} {ys : List β}, ys.Sublist (l.map f) → ∃ l' : List α, l'.Sublist l ∧ ys = l'.map f
  | [], ys, h => ⟨[], .slnil, List.sublist_nil.mp h⟩
  | a :: l, ys, h => by
    cases h with
    | cons _ h => obtain ⟨l', h1, h2⟩ := sublist_map h; exact ⟨l', h1.cons _, h2⟩
    | cons_cons _ h => obtain ⟨l', h1, rfl⟩ := sublist_map h; exact ⟨a :: l', h1.cons_cons _, rfl⟩
theorem sum_inc : ∀ (ks : Ks) (j : Nat) (h : j < ks.length), (ks.set j (ks[j] + 1)).sum = ks.sum + 1
  | a :: ks, 0, h => by show a + 1 + ks.sum = a + ks.sum + 1; omega
  | a :: ks, j + 1, h => by
    show a + (ks.set j (ks[j]'(Nat.lt_of_succ_lt_succ h) + 1)).sum = a + ks.sum + 1
    rw [sum_inc ks j (Nat.lt_of_succ_lt_succ h)]; omega
theorem zeros : ∀ m : Nat, (List.replicate m [D.int 0]).flatten = (List.replicate m 0).map nat
  | 0 => rfl
  | m + 1 => by rw [List.replicate_succ, List.replicate_succ, List.flatten_cons, List.map_cons, zeros m]; rfl
def dAugO (i : Nat) (t e : DE) : DS := fun DD ρ => (∃ xs, ρ.sl[i]? = some (.o (.lst xs))) ∧ t ρ fun ρ1 x => ∃ (xs : List D) (j : Nat) (a : Int), ρ1.sl[i]? = some (.o (.lst xs)) ∧ x = .int j ∧ xs[j]? = some (.int a) ∧
      e ρ1 fun ρ2 y => ∃ b : Int, ρ2.sl[i]? = some (.o (.lst xs)) ∧ y = .int b ∧ DD.nx (ρ2.set i (.o (.lst (xs.set j (.int (a + b))))))
theorem lap_loop {m n : Nat} {DD : DEnds} (h0 : ρ.sl[0]? = some (.v .well)) (h1 : ρ.sl[1]? = some (.v (.int (m : Nat)))) (h4 : ρ.sl[4]? = some (.o (.lst ((List.replicate m 0).map nat)))) (hn : n ≤ 3) (hm : 0 < n → 0 < m) (hm6 : m ≤ 6) (hc : ρ.c + 3 ≤ 1048576) (hlen : ρ.sl.length = 7)
    (k : ∀ (ρ' : Ev) (ks : Ks), Agr [4, 5] ρ ρ' → ρ'.sl[4]? = some (.o (.lst (ks.map nat))) → ks.length = m → ks.sum ≤ 3 → ρ'.c ≤ ρ.c + n → DD.nx ρ') :
    dForL (dgName 5) (dAugO 4 (dCall gDraw (dCons (dVar 0) (dCons (dVar 1) dNil))) (dC (vC (V.int 1)))) (intsD 0 n) DD ρ := by
  refine for_inv (fun q ρ' => Agr [4, 5] ρ ρ' ∧ ρ'.c = ρ.c + q ∧ ∃ ks : Ks, ρ'.sl[4]? = some (.o (.lst (ks.map nat))) ∧ ks.length = m ∧ ks.sum = q) (fun q d ρj N hd hJ hN => ?_) ⟨Agr.refl, rfl, _, h4, List.length_replicate .., by simp⟩ (fun ρ' hJ => ?_)
  · obtain ⟨ag, hcj, ks, j4, hkl, hks⟩ := hJ
    have hq : q < n := by
      rcases Nat.lt_or_ge q n with h | h
      · exact h
      · rw [List.getElem?_eq_none (by rw [intsD_length]; exact h)] at hd; cases hd
    refine RnG.name _ ?_
    have lj : ρj.sl.length = 7 := ag.1.trans hlen
    generalize hρa : ρj.set 5 (.v d) = ρa
    have aga : Agr [4, 5] ρ ρa := by rw [← hρa]; exact ag.put (by decide)
    have ca : ρa.c = ρ.c + q := by rw [← hρa]; exact hcj
    have a4 : ρa.sl[4]? = some (.o (.lst (ks.map nat))) := by rw [← hρa, at_ne (by decide)]; exact j4
    have a0 := agr_at aga (by decide) h0
    have a1 := agr_at aga (by decide) h1
    refine ⟨⟨_, a4⟩, dr a0 (RnE.var a1) (by omega) (by omega) fun z z0 z1 => ?_⟩
    obtain ⟨j, rfl⟩ : ∃ j : Nat, z = (j : Int) := ⟨_, (Int.toNat_of_nonneg z0).symm⟩
    have hm0 := hm (by omega)
    have hj : j < ks.length := by omega
    refine ⟨ks.map nat, j, (ks[j] : Nat), a4, rfl, by rw [List.getElem?_map, List.getElem?_eq_getElem hj]; rfl, ?_⟩
    refine RnE.c _ ⟨1, a4, rfl, hN _ ⟨?_, ?_, ks.set j (ks[j] + 1), ?_, ?_, ?_⟩⟩
    · exact (show Agr [4, 5] ρ (ρa.cnt (ρa.c + 1)) from aga).put (by decide)
    · show ρa.c + 1 = _; omega
    · have e : (ks.map nat).set j (.int ((ks[j] : Nat) + 1)) = (ks.set j (ks[j] + 1)).map nat := by rw [List.map_set]; rfl
      rw [at_set (by show 4 < ρa.sl.length; rw [aga.1, hlen]; decide), e]
    · rw [List.length_set]; exact hkl
    · rw [sum_inc ks j hj, hks]
  · obtain ⟨ag, hcj, ks, j4, hkl, hks⟩ := hJ
    rw [intsD_length] at hcj hks
    exact k ρ' ks ag j4 hkl (by omega) (by omega)
end
section
variable {P : Program} {w : World} {K : PySem.W.Frag} {mg : Str → Option Value} {base : Heap} {cls : Str → Option Addr}
theorem ok_terms {f f1 f2 f3 : Addr} {fd d1 d2 d3 : FuncData} {k : Nat} (F : Fun K "_law_terms" "_law_terms" sTe f fd) (BL : Blt mg) (A__law_draw : Fn1 K mg "_law_draw" sDraw ["well", "many"] f1 d1) (G__law_draw : FnOk P w K mg base CX0 (k + 2) f1 d1 ["well", "many"] (spD K cls gDraw))
    (A__law_one : Fn1 K mg "_law_one" sOne ["well", "some"] f2 d2) (G__law_one : FnOk P w K mg base CX0 (k + 2) f2 d2 ["well", "some"] (spD K cls gOne)) (A__law_some : Fn1 K mg "_law_some" sSo ["well", "some", "many"] f3 d3) (G__law_some : FnOk P w K mg base CX0 (k + 2) f3 d3 ["well", "some", "many"] (spD K cls gSome)) : FnOk P w K mg base CX0 (k + 3) f fd ["well", "many"] (spD K cls gTerms) := by
  refine F.ok scTe (fun vs H Q E h => len_of (n := 2) (fun ds c QD ⟨m, e, _⟩ => by rw [e]; rfl) h) (fun cdv A outer s H vs Q E hr h => ?_)
  have hu := hr.units
  refine ⟨_, (pss_cons (ps_set (i := 2) scTe.nd rfl (.inl rfl) (pe_lst pa_nil))
    (pss_cons (ps_for PassesOwn.never rfl (pi_range1 (by rfl) BL.m_range (pa_cons (pe_call G__law_draw (by exact hr) (by rfl) A__law_draw.gl A__law_draw.fn.kp A__law_draw.bd .nil pass0 (pa_cons (pv 0) (pa_cons pe_int pa_nil))) pa_nil)) (pg_name (i := 3) scTe.nd rfl (.inl rfl)) (pss_cons (ps_set (i := 4) scTe.nd rfl (.inl rfl) (pe_op op_rep (pe_lst (pa_cons pe_int pa_nil)) (pv 1)))
    (pss_cons (ps_for PassesOwn.never rfl (pi_range1 (by rfl) BL.m_range (pa_cons (pe_ifExp (pt_cmpR op_gt (pv 1) pe_int (nomark _)) (pe_call G__law_draw (by exact hr) (by rfl) A__law_draw.gl A__law_draw.fn.kp A__law_draw.bd .nil pass0 (pa_cons (pv 0) (pa_cons pe_int pa_nil))) pe_int) pa_nil)) (pg_name (i := 5) scTe.nd rfl (.inl rfl)) (pss_one (ps_augS (pv 4) (pe_call G__law_draw (by exact hr) (by rfl) A__law_draw.gl A__law_draw.fn.kp A__law_draw.bd .nil pass0 (pa_cons (pv 0) (pa_cons (pv 1) pa_nil))) get_list pe_int ip_add set_list)))
    (pss_one (ps_expr (pe_bm PySem.F.plainAttrs_list PySem.F.slot_list_append PySem.F.type_list_append mt_append (pv 2) (pa_cons (pe_tup (pa_cons (pe_call G__law_one (by exact hr) (by rfl) A__law_one.gl A__law_one.fn.kp A__law_one.bd .nil pass0 (pa_cons (pv 0) (pa_cons (pe_lst (pa_cons pe_int (pa_cons (pe_un un_neg pe_int) (pa_cons pe_int (pa_cons pe_int (pa_cons pe_int (pa_cons (pe_op op_pow pe_int pe_int) pa_nil))))))) pa_nil))) (pa_cons (pe_tupleOf (by rfl) BL.m_tuple (pv 4)) pa_nil))) pa_nil)))))))
    (pss_one (ps_ret (pe_op op_catS (pv 2) (pe_lc rfl scTe.nd (pi_seq (pe_call G__law_some (by exact hr) (by rfl) A__law_some.gl A__law_some.fn.kp A__law_some.bd .nil pass0 (pa_cons (pv 0) (pa_cons (pv 2) (pa_cons pe_int pa_nil))))) (own := [("number", 6), ("powers", 4)]) (blkOk_by rfl) (fun _ _ _ _ _ => (pg_tupK (K := K) (n := 2) rfl rfl (pgs_cons (pg_name (i := 6) scTe.nd rfl (.inl rfl)) (pgs_cons (pg_name (i := 4) scTe.nd rfl (.inl rfl)) pgs_nil)))) (fun _ _ _ _ _ => pts_nil) (fun _ _ _ _ _ => (pe_tup (pa_cons (pe_op op_sub pe_int (pv 6)) (pa_cons (pv 4) pa_nil)))))))))),
    body_of (fun pw B hio => (rs_seq (rs_asgN (rn_lst ra_nil))
    (rs_seq (rs_for (ri_rng1 (ra_cons (re_call (E := E0) (ra_cons (re_var (i := 0) hio) (ra_cons re_c ra_nil))) ra_nil)) (rg_name (i := 3)) (rs_seq (rs_asgN (rn_repV (i := 1) (ra_cons re_c ra_nil)))
    (rs_seq (rs_for (ri_rng1 (ra_cons (re_ifC (rt_test (re_I0 (re_var (i := 1) hio) re_c)) (re_call (E := E0) (ra_cons (re_var (i := 0) hio) (ra_cons re_c ra_nil))) re_c) ra_nil)) (rg_name (i := 5)) (rs_augO (i := 4) (re_call (E := E0) (ra_cons (re_var (i := 0) hio) (ra_cons (re_var (i := 1) hio) ra_nil))) re_c))
    (rs_app (i := 2) (re_with (P := fun ρ => ∃ ds, getO ρ 2 = some (.lst ds)) (re_tup (ra_cons (re_call (E := E0) (ra_cons (re_var (i := 0) hio) (ra_cons (re_lst (ra_cons re_c (ra_cons (re_U re_c) (ra_cons re_c (ra_cons re_c (ra_cons re_c (ra_cons (re_I re_c re_c) ra_nil))))))) ra_nil))) (ra_cons (re_kTup (re_var (i := 4) hio)) ra_nil)))) (fun ρ Q h => h.1)))))
    (rs_ret (re_catS (re_var (i := 2) hio) (RN.re (rn_lc (is := [6, 4]) (vs := [6, 4]) (ri_seq (re_call (E := E0) (ra_cons (re_var (i := 0) hio) (ra_cons (re_var (i := 2) hio) (ra_cons re_c ra_nil))))) (fun B hb => by have hio := hb.trans hio; exact (rg_tup (rgs_cons (rg_name (i := 6)) (rgs_cons (rg_name (i := 4)) rgs_nil)))) (fun B hb => by have hio := hb.trans hio; exact rt_yes) (fun B hb => by have hio := hb.trans hio; exact (re_tup (ra_cons (re_I0 re_c (re_var (i := 6) hio)) (ra_cons (re_var (i := 4) hio) ra_nil)))) (fun _ h => h)))))))) ?_ h⟩
  rintro ds c QD ⟨m, rfl, hm, hc, q⟩
  refine ⟨by show 2 ≤ 7; decide, ?_⟩
  refine dsSeq (dsAsgN (RnE.lst RnA.nil (by decide)) ?_)
  dsimp only
  refine dsSeq ?_
  generalize hρ : Ev.set (ent (Str.ofString "well" :: [Str.ofString "many", Str.ofString "found", Str.ofString "turn", Str.ofString "powers", Str.ofString "lap", Str.ofString "number"]).length [.well, .int m] c) 2 (.o (.lst [])) = ρ
  have g0 : ρ.sl[0]? = some (.v .well) := by rw [← hρ]; rfl
  have g1 : ρ.sl[1]? = some (.v (.int m)) := by rw [← hρ]; rfl
  have g2 : ρ.sl[2]? = some (.o (.lst [])) := by rw [← hρ]; rfl
  have g4 : noOwn ρ [6, 4] = true := by rw [← hρ]; rfl
  have hlen : ρ.sl.length = 7 := by rw [← hρ]; rfl
  have hc0 : ρ.c = c := by rw [← hρ]; rfl
  unfold dFor dRng1
  refine w_cons (dr g0 RnE.c (by decide) (by omega) fun z z0 z1 => ?_)
  obtain ⟨n, rfl⟩ : ∃ j : Nat, z = (j : Int) := ⟨_, (Int.toNat_of_nonneg z0).symm⟩
  have hn : n < 7 := by omega
  refine ⟨⟨by omega, by omega⟩, ?_⟩
  rw [Int.toNat_natCast]
  refine for_inv (fun j ρ' => Agr [2, 3, 4, 5] ρ ρ' ∧ noOwn ρ' [6, 4] = true ∧ ρ'.c ≤ c + 1 + 5 * j ∧ ∃ l : List Trm, ρ'.sl[2]? = some (.o (.lst (l.map trmD))) ∧ l.length = j ∧ TOk m l) (fun j d ρj N hdj hJ hN1 => ?_)
    ⟨Agr.refl, g4, by show ρ.c + 1 ≤ _; omega, [], g2, rfl, fun t ht => nomatch ht⟩ (fun ρ' hJ => ?_)
  · obtain ⟨ag, no, hcj, l, j2, hl, ht⟩ := hJ
    have hj : j < n := by
      rcases Nat.lt_or_ge j n with h | h
      · exact h
      · rw [List.getElem?_eq_none (by rw [intsD_length]; exact h)] at hdj; cases hdj
    have lj : ρj.sl.length = 7 := ag.1.trans hlen
    refine RnG.name _ ?_
    generalize hρa : ρj.set 3 (.v d) = ρa
    have aga : Agr [2, 3, 4, 5] ρ ρa := by rw [← hρa]; exact ag.put (by decide)
    have ca : ρa.c = ρj.c := by rw [← hρa]; rfl
    have a2 : ρa.sl[2]? = some (.o (.lst (l.map trmD))) := by rw [← hρa, at_ne (by decide)]; exact j2
    have a1 := agr_at aga (by decide) g1
    refine dsSeq (dsAsgN (RnE.repV (i := 1) (RnA.one RnE.c) a1 (by omega) (by decide)) ?_)
    dsimp only
    have ez : (List.replicate m [vC (V.int 0)]).flatten = (List.replicate m 0).map nat := zeros m
    generalize hρb : ρa.set 4 (.o (.lst (List.replicate m [vC (V.int 0)]).flatten)) = ρb
    have agb : Agr [2, 3, 4, 5] ρ ρb := by rw [← hρb]; exact aga.put (by decide)
    have la : ρa.sl.length = 7 := aga.1.trans hlen
    have lb : ρb.sl.length = 7 := agb.1.trans hlen
    have cb : ρb.c = ρj.c := by rw [← hρb]; exact ca
    have b4 : ρb.sl[4]? = some (.o (.lst ((List.replicate m 0).map nat))) := by rw [← hρb, ez]; exact at_set (by rw [la]; decide)
    have b2 : ρb.sl[2]? = some (.o (.lst (l.map trmD))) := by rw [← hρb, at_ne (by decide)]; exact a2
    have b0 := agr_at agb (by decide) g0
    have b1 := agr_at agb (by decide) g1
    refine dseq_mid (fun ρ' => ∃ ks : Ks, Agr [4, 5] ρb ρ' ∧ ρ'.sl[4]? = some (.o (.lst (ks.map nat))) ∧ ks.length = m ∧ ks.sum ≤ 3 ∧ ρ'.c ≤ ρb.c + 4) (fun nx fin => ?_) ?_
    · refine w_cons (dr_if (c := decide ((m : Int) > 0)) (RnT.b (RnE.bin (RnE.var b1) RnE.c ob_I0)) (fun h => ?_) (fun h => ?_))
      · have hm0 := of_decide_eq_true h
        refine dr b0 RnE.c (by decide) (by omega) fun z z0 z1 => ?_
        obtain ⟨q1, rfl⟩ : ∃ j : Nat, z = (j : Int) := ⟨_, (Int.toNat_of_nonneg z0).symm⟩
        refine ⟨⟨by omega, by omega⟩, ?_⟩
        rw [Int.toNat_natCast]
        exact lap_loop (ρ := ρb.cnt (ρb.c + 1)) (m := m) (n := q1) b0 b1 b4 (by omega) (fun _ => by omega) hm (by show ρb.c + 1 + 3 ≤ _; omega) lb (fun ρ' ks ag' d4 h1 h2 h3 => fin ρ' ⟨ks, ag', d4, h1, h2, by have h3 : ρ'.c ≤ ρb.c + 1 + q1 := h3; omega⟩)
      · refine RnE.c _ ?_
        refine ⟨⟨by decide, by decide⟩, ?_⟩
        exact lap_loop (ρ := ρb) (m := m) (n := 0) b0 b1 b4 (by omega) (fun z => absurd z (by omega)) hm (by omega) lb (fun ρ' ks ag' d4 h1 h2 h3 => fin ρ' ⟨ks, ag', d4, h1, h2, by omega⟩)
    · rintro ρd ⟨ks, agd, d4, hkl, hks, cd⟩
      have sub : ∀ i ∈ [4, 5], i ∈ [2, 3, 4, 5] := by decide
      have agd1 : Agr [2, 3, 4, 5] ρ ρd := ⟨agd.1.trans agb.1, fun j hj => (agd.2 j fun z => hj (sub j z)).trans (agb.2 j hj)⟩
      have ld : ρd.sl.length = 7 := agd1.1.trans hlen
      have d0 := agr_at agd1 (by decide) g0
      have d2 : ρd.sl[2]? = some (.o (.lst (l.map trmD))) := agr_at agd (by decide) b2
      refine ⟨⟨_, by unfold getO; rw [d2]⟩, ?_⟩
      refine w_tup (w_cons ?_)
      refine dr1 (xs := coefs.map .int) d0 (fun Q q => ⟨⟨by decide, by decide, by decide⟩, by decide, q⟩) (by decide) (by decide) (by omega) fun dd hdd => ?_
      obtain ⟨n1, hn1, rfl⟩ := List.mem_map.mp hdd
      generalize hρe : ρd.cnt (ρd.c + 1) = ρe
      have e4 : ρe.sl[4]? = some (.o (.lst (ks.map nat))) := by rw [← hρe]; exact d4
      have e2 : ρe.sl[2]? = some (.o (.lst (l.map trmD))) := by rw [← hρe]; exact d2
      have ce : ρe.c = ρd.c + 1 := by rw [← hρe]; rfl
      have age : Agr [2, 3, 4, 5] ρ ρe := by rw [← hρe]; exact agd1
      have le : ρe.sl.length = 7 := age.1.trans hlen
      refine RnA.one (RnE.un (RnE.own e4) (ov_tup rfl)) _ ?_
      refine ⟨by show 2 ≤ sizeLine; decide, ?_⟩
      have e2' : getO (ρe.set 4 (.v (.lst (ks.map nat)))) 2 = some (.lst (l.map trmD)) := by
        unfold getO; rw [at_ne (by decide), e2]
      rw [e2']
      refine ⟨by rw [List.length_map, sizeLine_eq]; omega, hN1 _ ⟨(age.put (by decide)).put (by decide), ?_, ?_, l ++ [(n1, ks)], ?_, ?_, ?_⟩⟩
      · have h6 : ρe.sl[6]? = ρ.sl[6]? := age.2 6 (by decide)
        unfold noOwn
        rw [List.all_cons, List.all_cons, at_ne (by decide), at_ne (by decide), h6, at_ne (by decide), at_set (by rw [le]; decide)]
        unfold noOwn at g4
        rw [List.all_cons] at g4
        rw [Bool.and_eq_true] at g4
        rw [g4.1]; rfl
      · show ρe.c ≤ _; omega
      · rw [at_set (by rw [len_set, le]; decide), List.map_append]; rfl
      · rw [List.length_append, hl]; rfl
      · intro t htl
        rcases List.mem_append.mp htl with h | h
        · exact ht t h
        · obtain rfl : t = (n1, ks) := List.mem_singleton.mp h
          refine ⟨hkl, hks, ?_⟩
          have : ∀ n ∈ coefs, n.natAbs ≤ 10 ^ 30 := by decide
          exact this n1 hn1
  · obtain ⟨ag, no, hcj, l, j2, hl, ht⟩ := hJ
    rw [intsD_length] at hcj hl
    have lj : ρ'.sl.length = 7 := ag.1.trans hlen
    dsimp only
    unfold dRet
    refine RnE.own j2 _ ?_
    generalize hρe : ρ'.set 2 (.v (.lst (l.map trmD))) = ρe
    have e0 : ρe.sl[0]? = some (.v .well) := by rw [← hρe, at_ne (by decide)]; exact agr_at ag (by decide) g0
    have e2 : ρe.sl[2]? = some (.v (.lst (l.map trmD))) := by rw [← hρe]; exact at_set (by rw [lj]; decide)
    have ce : ρe.c = ρ'.c := by rw [← hρe]; rfl
    have le : ρe.sl.length = 7 := by rw [← hρe, len_set]; exact lj
    have noe : noOwn ρe [6, 4] = true := by
      rw [← hρe]
      unfold noOwn at no ⊢
      rw [List.all_cons, List.all_cons, at_ne (by decide), at_ne (by decide)]
      rw [List.all_cons, List.all_cons] at no
      exact no
    unfold dLc dSq
    refine drS (m := 3) e0 (RnE.var e2) RnE.c (by rw [List.length_map]; omega) (by decide) (by decide) (by rw [List.length_map]; omega) fun ys hys => ?_
    obtain ⟨l', hl', rfl⟩ := sublist_map hys
    refine ⟨noe, ?_⟩
    generalize hρf : ρe.cnt (ρe.c + (l.map trmD).length) = ρf
    have cf : ρf.c = ρe.c + l.length := by rw [← hρf, ← List.length_map (f := trmD)]; rfl
    have lf : ρf.sl.length = 7 := by rw [← hρf]; exact le
    have hll := hl'.length_le
    refine lc_runX (fun (t : Trm) => trmD ((0 - t.1, t.2) : Trm)) (fun _ => true) (by rw [sizeLine_eq]; omega) (fun t htl => ?_) _ ?_
    · refine ⟨((ρf.wipe [6, 4]).set 6 (.v (.int t.1))).set 4 (.v (ksD t.2)), ag2, rfl, RnG.two, RnT.yes, fun _ => ?_⟩
      exact RnE.tup (RnA.cons (RnE.bin RnE.c (RnE.var (atw2' (by decide) (by rw [lf]; decide))) ob_I0) (RnA.one (RnE.var (atw2 (by rw [lf]; decide))))) (by show 2 ≤ sizeLine; decide)
    · rw [filter_yes]
      have em : l'.map (fun (t : Trm) => trmD ((0 - t.1, t.2) : Trm)) = (l'.map fun (t : Trm) => ((0 - t.1, t.2) : Trm)).map trmD := by rw [List.map_map]; rfl
      rw [em]
      refine ⟨by rw [List.length_map, List.length_map, List.length_map, sizeLine_eq]; omega, ?_⟩
      rw [← List.map_append]
      refine q _ ρf.c (by omega) (by rw [List.length_append, List.length_map]; omega) fun t htl => ?_
      rcases List.mem_append.mp htl with h | h
      · exact ht t h
      · obtain ⟨u, hu1, rfl⟩ := List.mem_map.mp h
        obtain ⟨h1, h2, h3⟩ := ht u (hl'.subset hu1)
        exact ⟨h1, h2, by show (0 - u.1).natAbs ≤ _; omega⟩
end
end K08
end DL

-- part K08O
set_option maxHeartbeats 4000000
/-! K08, plainly: what is told of terms depends on the sums by powers alone -/
namespace DL
namespace K08
open PySem L2
/-! the order -/
def zsK (k : Ks) : List Int := k.map fun (n : Nat) => (n : Int)
theorem ints_inj : ∀ {a b : Ks}, zsK a = zsK b → a = b
  | [], [], _ => rfl
  | [], _ :: _, h => by cases h
  | _ :: _, [], h => by cases h
  | x :: a, y :: b, h => by
    have h : (x : Int) :: zsK a = (y : Int) :: zsK b := h
    injection h with h1 h2
    rw [ints_inj h2, Int.ofNat.inj h1]
theorem tlK : PySem.W.TotalLe leK := by
  unfold leK PySem.W.dataLe
  exact PySem.W.sortLe_total _ _ _
theorem alike_ks : ∀ a b : List Int, PySem.W.alikeAll (a.map .int) (b.map .int) = true
  | [], [] => rfl
  | [], _ :: _ => rfl
  | _ :: _, [] => rfl
  | x :: a, y :: b => by
    rw [List.map_cons, List.map_cons]
    simp [PySem.W.alikeAll, PySem.W.alike, alike_ks a b]
theorem leN_total : PySem.W.TotalLe leN := ⟨fun a b c h1 h2 => (tlK).trans (zsK a) (zsK b) (zsK c) h1 h2, fun a b => tlK.total (zsK a) (zsK b)⟩
theorem lt_key {a b : Ks} (h : a ≠ b) : PySem.W.dataLt (keyI (zsK a)) (keyI (zsK b)) = if (zsK a).sum = (zsK b).sum then decide (zsK a < zsK b) else decide ((zsK a).sum < (zsK b).sum) := by
  unfold keyI
  rw [PySem.W.dataLt_pair (by simp [PySem.W.alike]) (by simp only [PySem.W.alike]; exact alike_ks _ _)]
  have e1 : (PyData.tuple ((zsK a).map .int)).eqv (.tuple ((zsK b).map .int)) = false := by
    have := emb_ks.eq a b
    unfold ksP at this
    unfold zsK
    rw [List.map_map, List.map_map]
    rw [show (PyData.tuple (List.map (PyData.int ∘ fun (n : Nat) => (n : Int)) a)).eqv (PyData.tuple (List.map (PyData.int ∘ fun (n : Nat) => (n : Int)) b)) = _ from this]
    exact decide_eq_false h
  rw [e1, if_neg Bool.false_ne_true, PySem.W.dataLt_tuple, PySem.W.dataLt_int]
  rw [show PyProof.Rows.lexLt PyProof.Rows.itemOrd (PySem.W.keyToksAll ((zsK a).map .int)) (PySem.W.keyToksAll ((zsK b).map .int)) = decide (zsK a < zsK b) from PySem.W.dataLt_ints _ _]
  have e2 : (PyData.int (zsK a).sum).eqv (.int (zsK b).sum) = decide ((zsK a).sum = (zsK b).sum) := by unfold PyData.eqv; rfl
  rw [e2]
  by_cases hs : (zsK a).sum = (zsK b).sum
  · rw [decide_eq_true hs, if_pos rfl, if_pos hs]
  · rw [decide_eq_false hs, if_neg Bool.false_ne_true, if_neg hs]
theorem leN_not {a b : Ks} (h : leN a b = true) : PySem.W.dataLt (keyI (zsK b)) (keyI (zsK a)) = false := by
  have h : (!PySem.W.dataLt (keyI (zsK b)) (keyI (zsK a))) = true := h
  rwa [Bool.not_eq_true'] at h
theorem leN_anti {a b : Ks} (h1 : leN a b = true) (h2 : leN b a = true) : a = b := by
  by_cases e : a = b
  · exact e
  · have q1 := leN_not h1
    have q2 := leN_not h2
    rw [lt_key (fun z => e z.symm)] at q1
    rw [lt_key e] at q2
    by_cases hs : (zsK a).sum = (zsK b).sum
    · rw [if_pos hs.symm] at q1
      rw [if_pos hs] at q2
      exact ints_inj (List.le_antisymm (List.not_lt.mp (of_decide_eq_false q1)) (List.not_lt.mp (of_decide_eq_false q2)))
    · rw [if_neg (fun z => hs z.symm)] at q1
      rw [if_neg hs] at q2
      have := of_decide_eq_false q1
      have := of_decide_eq_false q2
      omega
theorem rank_eq (c a : Ks) : PySem.W.sameRank leN c a = decide (c = a) := by
  unfold PySem.W.sameRank
  by_cases h : c = a
  · rw [decide_eq_true h, h, leN_total.refl]; rfl
  · rw [decide_eq_false h]
    cases q1 : leN c a with
    | false => rfl
    | true =>
      cases q2 : leN a c with
      | false => rfl
      | true => exact absurd (leN_anti q1 q2) h
theorem filter_one {l : List Ks} (h : l.Nodup) (c : Ks) : l.filter (fun a => decide (c = a)) = if c ∈ l then [c] else [] := by
  induction l with
  | nil => rfl
  | cons a l ih =>
    obtain ⟨h1, h2⟩ := List.nodup_cons.mp h
    rw [List.filter_cons]
    by_cases e : c = a
    · subst e
      rw [decide_eq_true rfl, if_pos rfl, if_pos (List.mem_cons_self ..), ih h2, if_neg h1]
    · rw [decide_eq_false e, if_neg Bool.false_ne_true, ih h2]
      have : c ∈ a :: l ↔ c ∈ l := ⟨fun z => (List.mem_cons.mp z).resolve_left e, List.mem_cons_of_mem _⟩
      by_cases hm : c ∈ l
      · rw [if_pos hm, if_pos (this.mpr hm)]
      · rw [if_neg hm, if_neg fun z => hm (this.mp z)]
theorem sorted_eq {m n : List Ks} (hm : m.Pairwise fun a b => leN a b = true) (hn : n.Pairwise fun a b => leN a b = true) (dm : m.Nodup) (dn : n.Nodup) (h : ∀ k, k ∈ m ↔ k ∈ n) : m = n := by
  refine PySem.W.sort_one leN_total m n hm hn fun c => ?_
  have e : PySem.W.sameRank leN c = fun a => decide (c = a) := funext fun a => rank_eq c a
  rw [e, filter_one dm, filter_one dn]
  by_cases hc : c ∈ m
  · rw [if_pos hc, if_pos ((h c).mp hc)]
  · rw [if_neg hc, if_neg fun z => hc ((h c).mpr z)]
theorem sort_nodup {l : List Ks} (h : l.Nodup) : (l.mergeSort leN).Nodup := (List.mergeSort_perm l leN).nodup_iff.mpr h
/-! dicts -/
theorem getT_cons (p : Ks × Int) (dd : Dct) (q : Ks) : getT (p :: dd) q = if p.1 = q then p.2 else getT dd q := by
  unfold getT
  rw [List.find?_cons]
  by_cases h : p.1 = q
  · rw [decide_eq_true h, if_pos h]; rfl
  · rw [decide_eq_false h, if_neg h]
theorem get_map_ne {k q : Ks} {v : Int} (h : q ≠ k) : ∀ dd : Dct, getT (dd.map fun p => if p.1 = k then (p.1, v) else p) q = getT dd q
  | [] => rfl
  | p :: dd => by
    rw [List.map_cons, getT_cons, getT_cons, get_map_ne h dd]
    by_cases e : p.1 = k
    · rw [if_pos e]
      have e' : ¬ p.1 = q := fun z => h (by rw [← z, e])
      rw [if_neg e', if_neg e']
    · rw [if_neg e]
theorem get_map_eq {k : Ks} {v : Int} : ∀ {dd : Dct}, k ∈ dd.map (·.1) → getT (dd.map fun p => if p.1 = k then (p.1, v) else p) k = v
  | p :: dd, h => by
    rw [List.map_cons, getT_cons]
    by_cases e : p.1 = k
    · rw [if_pos e, if_pos e]
    · rw [if_neg e, if_neg e]
      rw [List.map_cons] at h
      exact get_map_eq ((List.mem_cons.mp h).resolve_left fun z => e z.symm)
theorem get_app_ne {k q : Ks} {v : Int} (h : q ≠ k) : ∀ dd : Dct, getT (dd ++ [(k, v)]) q = getT dd q
  | [] => by rw [List.nil_append, getT_cons, if_neg fun z => h z.symm]
  | p :: dd => by rw [List.cons_append, getT_cons, getT_cons, get_app_ne h dd]
theorem get_app_eq {k : Ks} {v : Int} : ∀ {dd : Dct}, k ∉ dd.map (·.1) → getT (dd ++ [(k, v)]) k = v
  | [], _ => by rw [List.nil_append, getT_cons, if_pos rfl]
  | p :: dd, h => by
    rw [List.map_cons, List.mem_cons, not_or] at h
    rw [List.cons_append, getT_cons, if_neg fun z => h.1 z.symm, get_app_eq h.2]
theorem any_key (dd : Dct) (k : Ks) : (dd.any fun p => decide (p.1 = k)) = true ↔ k ∈ dd.map (·.1) := by
  rw [List.any_eq_true, List.mem_map]
  exact ⟨fun ⟨p, h, e⟩ => ⟨p, h, of_decide_eq_true e⟩, fun ⟨p, h, e⟩ => ⟨p, h, decide_eq_true e⟩⟩
theorem get_put (dd : Dct) (k q : Ks) (v : Int) : getT (putT dd k v) q = if k = q then v else getT dd q := by
  unfold putT
  by_cases e : k = q
  · subst e
    rw [if_pos rfl]
    by_cases h : (dd.any fun p => decide (p.1 = k)) = true
    · rw [if_pos h]; exact get_map_eq ((any_key dd k).mp h)
    · rw [if_neg h]; exact get_app_eq fun z => h ((any_key dd k).mpr z)
  · rw [if_neg e]
    by_cases h : (dd.any fun p => decide (p.1 = k)) = true
    · rw [if_pos h]; exact get_map_ne (fun z => e z.symm) dd
    · rw [if_neg h]; exact get_app_ne (fun z => e z.symm) dd
def addK (ks : List Ks) (k : Ks) : List Ks := if k ∈ ks then ks else ks ++ [k]
theorem keys_put_eq (dd : Dct) (k : Ks) (v : Int) : (putT dd k v).map (·.1) = addK (dd.map (·.1)) k := by
  unfold putT addK
  by_cases h : (dd.any fun p => decide (p.1 = k)) = true
  · rw [if_pos h, if_pos ((any_key dd k).mp h), List.map_map]
    congr 1
    funext p
    show (if p.1 = k then (p.1, v) else p).1 = p.1
    split <;> rfl
  · rw [if_neg h, if_neg fun z => h ((any_key dd k).mpr z), List.map_append]; rfl
theorem addK_nodup {ks : List Ks} {k : Ks} (h : ks.Nodup) : (addK ks k).Nodup := by
  unfold addK
  split
  · exact h
  · rename_i hk
    rw [List.nodup_append]
    refine ⟨h, List.nodup_cons.mpr ⟨List.not_mem_nil, List.nodup_nil⟩, fun a ha b hb e => hk ?_⟩
    rw [← List.mem_singleton.mp hb, ← e]; exact ha
theorem addK_mem {ks : List Ks} {k q : Ks} : q ∈ addK ks k ↔ q = k ∨ q ∈ ks := by
  unfold addK
  split
  · rename_i h
    exact ⟨.inr, fun z => z.elim (fun z => by rw [z]; exact h) id⟩
  · rw [List.mem_append, List.mem_singleton]
    exact ⟨fun z => z.symm, fun z => z.symm⟩
def keysF (l : List Ks) (ks : List Ks) : List Ks := l.foldl addK ks
theorem keysF_nodup : ∀ {l ks : List Ks}, ks.Nodup → (keysF l ks).Nodup
  | [], _, h => h
  | k :: l, ks, h => keysF_nodup (l := l) (addK_nodup h)
theorem keysF_mem : ∀ {l ks : List Ks} {q : Ks}, q ∈ keysF l ks ↔ q ∈ l ∨ q ∈ ks
  | [], _, _ => ⟨.inr, fun z => z.elim (fun z => nomatch z) id⟩
  | k :: l, ks, q => by
    show q ∈ keysF l (addK ks k) ↔ _
    rw [keysF_mem, addK_mem, List.mem_cons]
    exact ⟨fun z => z.elim (fun z => .inl (.inr z)) fun z => z.elim (fun z => .inl (.inl z)) .inr, fun z => z.elim (fun z => z.elim (fun z => .inr (.inl z)) .inl) fun z => .inr (.inr z)⟩
def keysOf (l : List Trm) : List Ks := keysF (l.map (·.2)) []
theorem keysOf_nodup (l : List Trm) : (keysOf l).Nodup := keysF_nodup List.nodup_nil
theorem keysOf_mem {l : List Trm} {q : Ks} : q ∈ keysOf l ↔ ∃ t ∈ l, t.2 = q := by
  unfold keysOf
  rw [keysF_mem, List.mem_map]
  exact ⟨fun z => z.elim id fun z => (nomatch z), Or.inl⟩
/-! sums by powers -/
def sumOf (l : List Trm) (k : Ks) : Int := ((l.filter fun t => decide (t.2 = k)).map (·.1)).sum
theorem sumOf_cons (t : Trm) (l : List Trm) (k : Ks) : sumOf (t :: l) k = (if t.2 = k then t.1 else 0) + sumOf l k := by
  unfold sumOf
  rw [List.filter_cons]
  by_cases h : t.2 = k
  · rw [decide_eq_true h, if_pos rfl, if_pos h]; rfl
  · rw [decide_eq_false h, if_neg Bool.false_ne_true, if_neg h, Int.zero_add]
theorem sumOf_app (a b : List Trm) (k : Ks) : sumOf (a ++ b) k = sumOf a k + sumOf b k := by
  unfold sumOf
  rw [List.filter_append, List.map_append, List.sum_append]
theorem sumOf_rev (l : List Trm) (k : Ks) : sumOf l.reverse k = sumOf l k := by
  induction l with
  | nil => rfl
  | cons t l ih =>
    rw [List.reverse_cons, sumOf_app, ih, sumOf_cons, sumOf_cons]
    show _ + (_ + 0) = _
    omega
theorem sumOf_neg (l : List Trm) (k : Ks) : sumOf (neg l) k = - sumOf l k := by
  induction l with
  | nil => rfl
  | cons t l ih =>
    show sumOf ((-t.1, t.2) :: neg l) k = _
    rw [sumOf_cons, sumOf_cons, ih]
    show (if t.2 = k then -t.1 else 0) + _ = _
    split <;> omega
theorem sumOf_none {l : List Trm} {k : Ks} (h : ∀ t ∈ l, t.2 ≠ k) : sumOf l k = 0 := by
  induction l with
  | nil => rfl
  | cons t l ih =>
    rw [sumOf_cons, if_neg (h t (List.mem_cons_self ..)), ih fun u hu => h u (List.mem_cons_of_mem _ hu)]; rfl
theorem get_fold (l : List Trm) (k : Ks) : ∀ dd : Dct, getT (l.foldl addT dd) k = getT dd k + sumOf l k := by
  induction l with
  | nil => intro dd; show getT dd k = getT dd k + 0; omega
  | cons t l ih =>
    intro dd
    show getT (l.foldl addT (addT dd t)) k = _
    rw [ih, sumOf_cons]
    unfold addT
    rw [get_put]
    by_cases h : t.2 = k
    · rw [if_pos h, if_pos h, h]; omega
    · rw [if_neg h, if_neg h]; omega
theorem dct_get (l : List Trm) (k : Ks) : getT (dct l) k = sumOf l k := by
  unfold dct
  rw [get_fold]
  show 0 + _ = _
  omega
theorem keys_fold (l : List Trm) : ∀ dd : Dct, (l.foldl addT dd).map (·.1) = keysF (l.map (·.2)) (dd.map (·.1)) := by
  induction l with
  | nil => intro dd; rfl
  | cons t l ih =>
    intro dd
    show (l.foldl addT (addT dd t)).map (·.1) = keysF (l.map (·.2)) (addK (dd.map (·.1)) t.2)
    rw [ih]
    unfold addT
    rw [keys_put_eq]
theorem dct_keysOf (l : List Trm) : (dct l).map (·.1) = keysOf l := keys_fold l []
theorem liveK_eq (l : List Trm) : liveK (dct l) = (keysOf l).filter fun k => decide (sumOf l k ≠ 0) := by
  unfold liveK
  rw [dct_keysOf]
  congr 1
  funext k
  rw [dct_get]
theorem live_nodup (l : List Trm) : (liveK (dct l)).Nodup := by
  rw [liveK_eq]; exact (keysOf_nodup l).filter _
theorem live_mem {l : List Trm} {k : Ks} : k ∈ liveK (dct l) ↔ sumOf l k ≠ 0 := by
  rw [liveK_eq, List.mem_filter, decide_eq_true_iff]
  refine ⟨fun z => z.2, fun z => ⟨keysOf_mem.mpr ?_, z⟩⟩
  refine Classical.byContradiction fun h => z (sumOf_none fun t ht e => h ⟨t, ht, e⟩)
theorem ord_sorted (dd : Dct) : (ord dd).Pairwise fun a b => leN a b = true := PySem.W.sort_pairwise leN_total _
theorem ord_congr {l l' : List Trm} (h : ∀ k, sumOf l k = sumOf l' k) : ord (dct l) = ord (dct l') :=
  sorted_eq (ord_sorted _) (ord_sorted _) (sort_nodup (live_nodup l)) (sort_nodup (live_nodup l')) fun k => by
    unfold ord
    rw [List.mem_mergeSort, List.mem_mergeSort, live_mem, live_mem, h k]
theorem norm_congr {l l' : List Trm} (h : ∀ k, sumOf l k = sumOf l' k) : norm l = norm l' := by
  unfold norm
  rw [ord_congr h]
  congr 1
  funext k
  rw [dct_get, dct_get, h k]
theorem sumOf_keys {f : Ks → Int} {q : Ks} : ∀ {K : List Ks}, K.Nodup → sumOf (K.map fun k => (f k, k)) q = if q ∈ K then f q else 0
  | [], _ => rfl
  | k :: K, h => by
    obtain ⟨h1, h2⟩ := List.nodup_cons.mp h
    rw [List.map_cons, sumOf_cons, sumOf_keys h2]
    by_cases e : k = q
    · subst e
      rw [if_pos rfl, if_neg h1, if_pos (List.mem_cons_self ..), Int.add_zero]
    · rw [if_neg e, Int.zero_add]
      have : q ∈ k :: K ↔ q ∈ K := ⟨fun z => (List.mem_cons.mp z).resolve_left fun z => e z.symm, List.mem_cons_of_mem _⟩
      by_cases hm : q ∈ K
      · rw [if_pos hm, if_pos (this.mpr hm)]
      · rw [if_neg hm, if_neg fun z => hm (this.mp z)]
theorem ord_memL {l : List Trm} {k : Ks} : k ∈ ord (dct l) ↔ sumOf l k ≠ 0 := by unfold ord; rw [List.mem_mergeSort, live_mem]
theorem sumOf_norm (l : List Trm) (k : Ks) : sumOf (norm l) k = sumOf l k := by
  unfold norm
  rw [sumOf_keys (f := fun k => getT (dct l) k) (show (ord (dct l)).Nodup from sort_nodup (live_nodup l)), dct_get]
  by_cases h : sumOf l k = 0
  · rw [if_neg fun z => ord_memL.mp z h, h]
  · rw [if_pos (ord_memL.mpr h)]
theorem norm_rev (l : List Trm) : norm l.reverse = norm l := norm_congr fun k => sumOf_rev l k
theorem norm_less (l l' : List Trm) : norm (norm l ++ neg (norm l')) = norm (l ++ neg l') := norm_congr fun k => by
  rw [sumOf_app, sumOf_app, sumOf_neg, sumOf_neg, sumOf_norm, sumOf_norm]
theorem norm_nil : norm [] = [] := by
  unfold norm ord liveK dct
  simp
theorem norm_self (l : List Trm) : norm (norm l ++ neg (norm l)) = [] := by
  rw [← norm_nil]
  refine norm_congr fun k => ?_
  rw [sumOf_app, sumOf_neg]
  show _ = (0 : Int)
  omega
/-! worths -/
theorem sum_plus {α : Type} (f g : α → Int) : ∀ K : List α, (K.map fun k => f k + g k).sum = (K.map f).sum + (K.map g).sum
  | [] => rfl
  | k :: K => by
    rw [List.map_cons, List.map_cons, List.map_cons, List.sum_cons, List.sum_cons, List.sum_cons, sum_plus f g K]; omega
theorem sum_zero {α : Type} {f : α → Int} : ∀ {K : List α}, (∀ k ∈ K, f k = 0) → (K.map f).sum = 0
  | [], _ => rfl
  | k :: K, h => by rw [List.map_cons, List.sum_cons, h k (List.mem_cons_self ..), sum_zero fun q hq => h q (List.mem_cons_of_mem _ hq)]; rfl
theorem sum_one {P : Ks → Int} {q : Ks} {x : Int} : ∀ {K : List Ks}, K.Nodup → q ∈ K → (K.map fun k => (if q = k then x else 0) * P k).sum = x * P q
  | k :: K, hn, h => by
    obtain ⟨h1, h2⟩ := List.nodup_cons.mp hn
    rw [List.map_cons, List.sum_cons]
    by_cases e : q = k
    · subst e
      rw [if_pos rfl, sum_zero fun k hk => by rw [if_neg fun z => h1 (by rw [z]; exact hk), Int.zero_mul], Int.add_zero]
    · rw [if_neg e, Int.zero_mul, Int.zero_add]
      exact sum_one h2 ((List.mem_cons.mp h).resolve_left e)
theorem lin_keys (P : Ks → Int) {K : List Ks} (hn : K.Nodup) : ∀ l : List Trm, (∀ t ∈ l, t.2 ∈ K) → (l.map fun t => t.1 * P t.2).sum = (K.map fun k => sumOf l k * P k).sum
  | [], _ => by
    show (0 : Int) = _
    exact (sum_zero fun k _ => by show (0 : Int) * P k = 0; exact Int.zero_mul _).symm
  | t :: l, h => by
    rw [List.map_cons, List.sum_cons, lin_keys P hn l fun u hu => h u (List.mem_cons_of_mem _ hu)]
    have e : (K.map fun k => sumOf (t :: l) k * P k) = K.map fun k => (if t.2 = k then t.1 else 0) * P k + sumOf l k * P k := by
      congr 1
      funext k
      rw [sumOf_cons, Int.add_mul]
    rw [e, sum_plus, sum_one hn (h t (List.mem_cons_self ..))]
theorem norm_keys {l : List Trm} {t : Trm} (h : t ∈ norm l) : t.2 ∈ keysOf l ∧ t.1 = sumOf l t.2 := by
  unfold norm at h
  obtain ⟨k, hk, rfl⟩ := List.mem_map.mp h
  refine ⟨?_, dct_get l k⟩
  rw [← dct_keysOf]
  exact ord_mem hk
theorem worth_norm (l : List Trm) (ns : List Int) : worth (norm l) ns = worth l ns := by
  unfold worth
  have h1 := lin_keys (fun k => pw (ns.zip k)) (keysOf_nodup l) (norm l) fun t ht => (norm_keys ht).1
  have h2 := lin_keys (fun k => pw (ns.zip k)) (keysOf_nodup l) l fun t ht => keysOf_mem.mpr ⟨t, ht, rfl⟩
  rw [h1, h2]
  congr 2
  funext k
  rw [sumOf_norm]
/-! sizes -/
theorem sumOf_le {b : Nat} : ∀ {l : List Trm}, (∀ t ∈ l, t.1.natAbs ≤ b) → ∀ k, (sumOf l k).natAbs ≤ l.length * b
  | [], _, k => Nat.zero_le _
  | t :: l, h, k => by
    have h1 := sumOf_le (fun u hu => h u (List.mem_cons_of_mem _ hu)) k
    have h2 := h t (List.mem_cons_self ..)
    rw [sumOf_cons, List.length_cons, Nat.succ_mul]
    split <;> omega
theorem norm_length (l : List Trm) : (norm l).length ≤ l.length := by
  unfold norm
  rw [List.length_map]
  have h1 := ord_length (dct l)
  have h2 := dct_length l l.length
  rw [List.take_length] at h2
  omega
theorem okL_norm {m : Nat} {l : List Trm} (h : OkL m l) : OkL m (norm l) := ⟨Nat.le_trans (norm_length l) h.1, fun t ht => by
  obtain ⟨u, hu, e⟩ := keysOf_mem.mp (norm_keys ht).1
  rw [← e]; exact h.2 u hu⟩
theorem okL_neg {m : Nat} {l : List Trm} (h : OkL m l) : OkL m (neg l) := ⟨by unfold neg; rw [List.length_map]; exact h.1, fun t ht => by
  unfold neg at ht
  obtain ⟨u, hu, rfl⟩ := List.mem_map.mp ht
  exact h.2 u hu⟩
theorem okL_app {m : Nat} {l l' : List Trm} (h : OkL m l) (h' : OkL m l') (hl : l.length + l'.length ≤ 1000) : OkL m (l ++ l') := ⟨by rw [List.length_append]; exact hl, fun t ht => (List.mem_append.mp ht).elim (h.2 t) (h'.2 t)⟩
/-! the law's own way -/
def mergeD (dd : Dct) (l : List (Ks × Int)) : Dct := l.foldl (fun dd p => putT dd p.1 p.2) dd
theorem merge_dP : ∀ (l : List (Ks × Int)) (dd : Dct), mergeP (dP dd) (l.map fun x => (kk x.1, D.int x.2)) = dP (mergeD dd l)
  | [], dd => rfl
  | x :: l, dd => by
    show mergeP (putP (dP dd) (kk x.1) (.int x.2)) (l.map fun x => (kk x.1, D.int x.2)) = dP (mergeD (putT dd x.1 x.2) l)
    rw [put_dP]
    exact merge_dP l _
theorem keys_merge (f : Ks → Int) (l : List Trm) : ∀ dd : Dct, (mergeD dd (l.map fun t => (t.2, f t.2))).map (·.1) = keysF (l.map (·.2)) (dd.map (·.1)) := by
  induction l with
  | nil => intro dd; rfl
  | cons t l ih =>
    intro dd
    show (mergeD (putT dd t.2 (f t.2)) (l.map fun t => (t.2, f t.2))).map (·.1) = keysF (l.map (·.2)) (addK (dd.map (·.1)) t.2)
    rw [ih, keys_put_eq]
theorem get_merge (f : Ks → Int) (k : Ks) (l : List Trm) : ∀ dd : Dct, getT dd k = f k ∨ (∃ t ∈ l, t.2 = k) → getT (mergeD dd (l.map fun t => (t.2, f t.2))) k = f k := by
  induction l with
  | nil => exact fun dd h => h.elim id fun ⟨_, h, _⟩ => nomatch h
  | cons t l ih =>
    intro dd h
    show getT (mergeD (putT dd t.2 (f t.2)) (l.map fun t => (t.2, f t.2))) k = _
    refine ih _ ?_
    rw [get_put]
    by_cases e : t.2 = k
    · rw [if_pos e, e]; exact .inl rfl
    · rw [if_neg e]
      rcases h with h | ⟨u, hu, e2⟩
      · exact .inl h
      · rcases List.mem_cons.mp hu with rfl | hu
        · exact absurd e2 e
        · exact .inr ⟨u, hu, e2⟩
def own (l : List Trm) : Dct := mergeD [] (l.map fun t => (t.2, sumOf l t.2))
theorem own_keys (l : List Trm) : (own l).map (·.1) = keysOf l := keys_merge (sumOf l) l []
theorem own_get {l : List Trm} {k : Ks} (h : k ∈ keysOf l) : getT (own l) k = sumOf l k := get_merge (sumOf l) k l [] (.inr (keysOf_mem.mp h))
theorem own_norm (l : List Trm) : ((((own l).map (·.1)).mergeSort leN).filter fun k => decide (getT (own l) k ≠ 0)).map (fun k => (getT (own l) k, k)) = norm l := by
  have hk : ∀ k ∈ ((own l).map (·.1)).mergeSort leN, k ∈ keysOf l := fun k h => by rw [← own_keys]; exact List.mem_mergeSort.mp h
  have nd : (((own l).map (·.1)).mergeSort leN).Nodup := sort_nodup (by rw [own_keys]; exact keysOf_nodup l)
  have e : (((own l).map (·.1)).mergeSort leN).filter (fun k => decide (getT (own l) k ≠ 0)) = ord (dct l) := by
    refine sorted_eq ((PySem.W.sort_pairwise leN_total _).filter _) (ord_sorted _) (nd.filter _) (sort_nodup (live_nodup l)) fun k => ?_
    rw [ord_memL, List.mem_filter, decide_eq_true_iff]
    constructor
    · rintro ⟨h1, h2⟩
      rw [own_get (hk k h1)] at h2; exact h2
    · intro h
      have hm : k ∈ keysOf l := by rw [← dct_keysOf]; exact ord_mem (ord_memL.mpr h)
      refine ⟨List.mem_mergeSort.mpr (by rw [own_keys]; exact hm), ?_⟩
      rw [own_get hm]; exact h
  rw [e]
  unfold norm
  refine List.map_congr_left fun k h => ?_
  rw [own_get (by rw [← dct_keysOf]; exact ord_mem h), dct_get]
end K08
end DL

-- part K08P
set_option maxHeartbeats 4000000
/-! K08: _law_ordered -/
namespace DL
namespace K08
open PySem PySem.Spec PyProof.Rows L2 ZX
abbrev sOd : Stmt := topS 30
theorem scOd : FnScope ["terms", "found", "number", "powers", "other", "size"] ["terms"] (defScope sOd) := ⟨rfl, rfl, rfl, by decide +kernel, rfl, by decide +kernel, by decide +kernel⟩
theorem pi_seqK {X : Cx} {K : PySem.W.Frag} {tg l : Expr} {tl : TE} (hK : X.K = K) (hl : PE X l tl) : PI X tg l (iSeq K tl) := by
  subst hK
  exact pi_seq hl
def gOrd : GF := fun ds c Q => ∃ l : List Trm, ds = [.lst (l.map trmD)] ∧ l.length ≤ 1000 ∧ Q (.tup ((norm l).map trmD)) c
theorem own_length (l : List Trm) : (own l).length ≤ l.length := by
  have h : ∀ (l : List (Ks × Int)) (dd : Dct), (mergeD dd l).length ≤ dd.length + l.length := by
    intro l
    induction l with
    | nil => exact fun dd => Nat.le_refl _
    | cons x l ih =>
      intro dd
      have h1 := ih (putT dd x.1 x.2)
      have h2 := putT_length dd x.1 x.2
      show (mergeD (putT dd x.1 x.2) l).length ≤ _
      rw [List.length_cons]
      omega
  have := h (l.map fun t => (t.2, sumOf l t.2)) []
  rw [List.length_map, List.length_nil, Nat.zero_add] at this
  exact this
theorem ou_sumL {ns : List Int} : OpU (fun ds ρ1 (Q : Ev → D → Prop) => ∃ ns : List Int, (ds = [.lst (ns.map .int)] ∨ ds = [.tup (ns.map .int)]) ∧ Q ρ1 (.int ns.sum)) [.lst (ns.map .int)] (.int ns.sum) := fun ρ Q q => ⟨ns, .inl rfl, q⟩
theorem ou_sumK {k : Ks} : OpU (fun ds ρ1 (Q : Ev → D → Prop) => ∃ ns : List Int, (ds = [.lst (ns.map .int)] ∨ ds = [.tup (ns.map .int)]) ∧ Q ρ1 (.int ns.sum)) [ksD k] (.int (k.sum : Nat)) := fun ρ Q q => ⟨k.map fun (n : Nat) => (n : Int), .inr (by unfold ksD; rw [ks_ints]), by rw [sum_cast]; exact q⟩
theorem ou_dict {xs : List (Ks × Int)} : OpU (fun ds ρ1 (Q : Ev → D → Prop) => ∃ xs : List (Ks × Int), ds = [.lst (xs.map fun x => .tup [.tup (x.1.map nat), .int x.2])] ∧ Q ρ1 (dicP (mergeP [] (xs.map fun x => (kk x.1, .int x.2))))) [.lst (xs.map fun x => .tup [ksD x.1, .int x.2])] (dicP (dP (mergeD [] xs))) := fun ρ Q q => ⟨xs, rfl, by
  have h := merge_dP xs []
  have h : mergeP [] (xs.map fun x => (kk x.1, D.int x.2)) = dP (mergeD [] xs) := h
  rw [h]; exact q⟩
section
variable {P : Program} {w : World} {K : PySem.W.Frag} {mg : Str → Option Value} {base : Heap} {cls : Str → Option Addr}
theorem ok_ord {f : Addr} {fd : FuncData} {k : Nat} (F : Fun K "_law_ordered" "_law_ordered" sOd f fd) (BL : Blt mg) : FnOk P w K mg base CX0 (k + 1) f fd ["terms"] (spD K cls gOrd) := by
  refine F.ok scOd (fun vs H Q E h => len_of (n := 1) (fun ds c QD ⟨m, e, _⟩ => by rw [e]; rfl) h) (fun cdv A outer s H vs Q E hr h => ?_)
  have hu := hr.units
  have hd1 : (A.deeper (envOfC "_law_ordered" (defScope sOd) s.heap.objs.size f cdv)).units + 1 < cLine := by omega
  refine ⟨_, (pss_cons (ps_set (i := 1) scOd.nd rfl (.inr rfl) (pe_callTy (call_dictT rfl hu) (by rfl) BL.m_dict (by decide +kernel) (pa_cons (pe_lc rfl scOd.nd (pi_seqK (K := K) rfl (pv 0)) (own := [("number", 2), ("powers", 3)]) (blkOk_by rfl) (fun _ _ _ _ _ => (pg_tupK (K := K) (n := 2) rfl rfl (pgs_cons (pg_name (i := 2) scOd.nd rfl (by first | exact .inl rfl | exact .inr rfl)) (pgs_cons (pg_name (i := 3) scOd.nd rfl (by first | exact .inl rfl | exact .inr rfl)) pgs_nil)))) (fun _ _ _ _ _ => pts_nil) (fun _ _ _ _ _ => (pe_tup (pa_cons (pv 3) (pa_cons (pe_callB (r := rSumA K) (cr_sumA rfl) (by rfl) BL.m_sum (by decide +kernel) (pa_cons (pe_lc rfl scOd.nd (pi_seqK (K := K) rfl (pv 0)) (own := [("number", 2), ("other", 4)]) (blkOk_by rfl) (fun _ _ _ _ _ => (pg_tupK (K := K) (n := 2) rfl rfl (pgs_cons (pg_name (i := 2) scOd.nd rfl (by first | exact .inl rfl | exact .inr rfl)) (pgs_cons (pg_name (i := 4) scOd.nd rfl (by first | exact .inl rfl | exact .inr rfl)) pgs_nil)))) (fun _ _ _ _ _ => (pts_one (pt_cmpR (r := rEqD K) (op_eqD hu) (pv 4) (pv 3) (nomark _)))) (fun _ _ _ _ _ => (pv 2))) pa_nil)) pa_nil))))) pa_nil)))
    (pss_one (ps_ret (pe_tupleOf (by rfl) BL.m_tuple (pe_lc rfl scOd.nd (pi_seqK (K := K) rfl (pe_callB (r := rSortedDat K) (cr_sortedDat hu) (by rfl) BL.m_sorted (by decide +kernel) (pa_cons (pe_lk (pe_lc rfl scOd.nd (pi_keys (pv 1)) (own := [("powers", 3)]) (blkOk_by rfl) (fun _ _ _ _ _ => (pg_name (i := 3) scOd.nd rfl (by first | exact .inl rfl | exact .inr rfl))) (fun _ _ _ _ _ => pts_nil) (fun _ _ _ _ _ => (pe_tup (pa_cons (pe_callB (r := rSumA K) (cr_sumA rfl) (by rfl) BL.m_sum (by decide +kernel) (pa_cons (pv 3) pa_nil)) (pa_cons (pv 3) pa_nil)))))) pa_nil))) (own := [("size", 5), ("powers", 3)]) (blkOk_by rfl) (fun _ _ _ _ _ => (pg_tupK (K := K) (n := 2) rfl rfl (pgs_cons (pg_name (i := 5) scOd.nd rfl (by first | exact .inl rfl | exact .inr rfl)) (pgs_cons (pg_name (i := 3) scOd.nd rfl (by first | exact .inl rfl | exact .inr rfl)) pgs_nil)))) (fun _ _ _ _ _ => (pts_one (pt_cmpR (r := rNeD K) (op_neD hu) (pe_dget (by exact hd1) (pv 1) (pv 3) (fun _ _ => rfl)) pe_int (nomark _)))) (fun _ _ _ _ _ => (pe_tup (pa_cons (pe_dget (by exact hd1) (pv 1) (pv 3) (fun _ _ => rfl)) (pa_cons (pv 3) pa_nil))))))))),
    body_of (fun pw B hio => (rs_seq (rs_asgN (rn_dictT (α := Ks × Int) (key := fun x => x.1.map nat) (kf := fun x => kk x.1) (vf := fun x => .int x.2) (fun x => keyOf_ks x.1) (ra_cons (RN.re (rn_lc (is := [2, 3]) (vs := [2, 3]) (ri_seq (re_var (i := 0) hio)) (fun B hb => by have hio := hb.trans hio; exact (rg_tup (rgs_cons (rg_name (i := 2)) (rgs_cons (rg_name (i := 3)) rgs_nil)))) (fun B hb => by have hio := hb.trans hio; exact rt_yes) (fun B hb => by have hio := hb.trans hio; exact (re_tup (ra_cons (re_var (i := 3) hio) (ra_cons (re_sumA (ra_cons (RN.re (rn_lc (is := [2, 4]) (vs := [2, 4]) (ri_seq (re_var (i := 0) hio)) (fun B hb => by have hio := hb.trans hio; exact (rg_tup (rgs_cons (rg_name (i := 2)) (rgs_cons (rg_name (i := 4)) rgs_nil)))) (fun B hb => by have hio := hb.trans hio; exact (rt_test (re_eqD (re_var (i := 4) hio) (re_var (i := 3) hio)))) (fun B hb => by have hio := hb.trans hio; exact (re_var (i := 2) hio)) (fun _ h => h))) ra_nil)) ra_nil)))) (fun _ h => h))) ra_nil)))
    (rs_ret (re_kTup (RN.re (rn_lc (is := [5, 3]) (vs := [5, 3]) (ri_seq (re_sortedD (ra_cons (RN.re (rn_lcK (is := [3]) (vs := [3]) walk_keys (fun B hb => by have hio := hb.trans hio; exact (rg_name (i := 3))) (fun B hb => by have hio := hb.trans hio; exact rt_yes) (fun B hb => by have hio := hb.trans hio; exact (re_tup (ra_cons (re_sumA (ra_cons (re_var (i := 3) hio) ra_nil)) (ra_cons (re_var (i := 3) hio) ra_nil)))) (fun _ h => h) hio)) ra_nil))) (fun B hb => by have hio := hb.trans hio; exact (rg_tup (rgs_cons (rg_name (i := 5)) (rgs_cons (rg_name (i := 3)) rgs_nil)))) (fun B hb => by have hio := hb.trans hio; exact (rt_test (re_neD (re_get (re_var (i := 1) hio) (re_var (i := 3) hio)) re_c))) (fun B hb => by have hio := hb.trans hio; exact (re_tup (ra_cons (re_get (re_var (i := 1) hio) (re_var (i := 3) hio)) (ra_cons (re_var (i := 3) hio) ra_nil)))) (fun _ h => h))))))) ?_ h⟩
  rintro ds c QD ⟨l, rfl, hl, q⟩
  refine ⟨by show 1 ≤ 6; decide, ?_⟩
  generalize hρ : ent (Str.ofString "terms" :: [Str.ofString "found", Str.ofString "number", Str.ofString "powers", Str.ofString "other", Str.ofString "size"]).length [.lst (l.map trmD)] c = ρ
  have h0 : ρ.sl[0]? = some (.v (.lst (l.map trmD))) := by rw [← hρ]; rfl
  have hlen : ρ.sl.length = 6 := by rw [← hρ]; rfl
  have hc : ρ.c = c := by rw [← hρ]; rfl
  have n23 : noOwn ρ [2, 3] = true := by rw [← hρ]; rfl
  have h4 : ρ.sl[4]? = some .un := by rw [← hρ]; rfl
  have h3 : ρ.sl[3]? = some .un := by rw [← hρ]; rfl
  have h5 : ρ.sl[5]? = some .un := by rw [← hρ]; rfl
  have hS : l.length ≤ sizeLine := Nat.le_trans hl (by decide)
  have he := RnE.lcY (ρ := ρ) (ρ' := ρ) (xs := l) (r := trmD) (s := dSq (dVar 0)) (g := dgTup 2 (dgCons (dgName 2) (dgCons (dgName 3) dgNil))) (vs := [2, 3])
    (e := dTup (dCons (dVar 3) (dCons (fun ρ Q => dCons (dLc (dSq (dVar 0)) (dgTup 2 (dgCons (dgName 2) (dgCons (dgName 4) dgNil))) (dB fun ρ Q => dVar 4 ρ fun ρ1 x => dVar 3 ρ1 fun ρ2 y => gEq x y ρ2 Q) (dVar 2) [2, 4]) dNil ρ fun ρ1 ds => ∃ ns : List Int, (ds = [.lst (ns.map .int)] ∨ ds = [.tup (ns.map .int)]) ∧ Q ρ1 (.int ns.sum)) dNil)))
    (fun t => .tup [ksD t.2, .int (sumOf l t.2)]) (RnA.seq (RnE.var h0) rfl) n23 hS (fun t ht => by
      generalize hρa : ((ρ.wipe [2, 3]).set 2 (.v (.int t.1))).set 3 (.v (ksD t.2)) = ρa
      have aga : Agr [2, 3] ρ ρa := by rw [← hρa]; exact ag2
      have la : ρa.sl.length = 6 := aga.1.trans hlen
      have a3 : ρa.sl[3]? = some (.v (ksD t.2)) := by rw [← hρa]; exact atw2 (by rw [hlen]; decide)
      have a2 : ρa.sl[2]? = some (.v (.int t.1)) := by rw [← hρa]; exact atw2' (by decide) (by rw [hlen]; decide)
      have a0 : ρa.sl[0]? = some (.v (.lst (l.map trmD))) := agr_at aga (by decide) h0
      have a4 : ρa.sl[4]? = some .un := agr_at aga (by decide) h4
      have n24 : noOwn ρa [2, 4] = true := by unfold noOwn; rw [List.all_cons, List.all_cons, a2, a4]; rfl
      have hi := RnE.lcX (ρ := ρa) (ρ' := ρa) (xs := l) (r := trmD) (s := dSq (dVar 0)) (g := dgTup 2 (dgCons (dgName 2) (dgCons (dgName 4) dgNil))) (vs := [2, 4]) (tt := dB fun ρ Q => dVar 4 ρ fun ρ1 x => dVar 3 ρ1 fun ρ2 y => gEq x y ρ2 Q) (e := dVar 2) (fun u => .int u.1) (fun u => decide (u.2 = t.2)) (RnA.seq (RnE.var a0) rfl) n24 hS (fun u hu => by
        have b4 := atw2 (ρ := ρa) (i := 2) (j := 4) (s := .v (.int u.1)) (t := .v (ksD u.2)) (by rw [la]; decide)
        have b2 := atw2' (ρ := ρa) (i := 2) (j := 4) (s := .v (.int u.1)) (t := .v (ksD u.2)) (by decide) (by rw [la]; decide)
        have b3 := agr_at (ag2 (ρ := ρa) (i := 2) (j := 4) (s := .v (.int u.1)) (t := .v (ksD u.2))) (i := 3) (by decide) a3
        exact ⟨_, ag2, rfl, RnG.two, RnT.b (RnE.bin (RnE.var b4) (RnE.var b3) (emb_ks.ob (by decide))), fun _ => RnE.var b2⟩)
      have ei : (l.filter fun u => decide (u.2 = t.2)).map (fun u => D.int u.1) = ((l.filter fun u => decide (u.2 = t.2)).map (·.1)).map .int := by rw [List.map_map]; rfl
      rw [ei] at hi
      have hs := RnE.app (RnA.one hi) ou_sumL
      exact ⟨ρa, aga, by rw [← hρa]; rfl, by rw [← hρa]; exact RnG.two, RnE.tup (RnA.cons (RnE.var a3) (RnA.one hs)) (by show 2 ≤ sizeLine; decide)⟩)
  have ed : (l.map fun t => D.tup [ksD t.2, .int (sumOf l t.2)]) = (l.map fun t => (t.2, sumOf l t.2)).map fun x => .tup [ksD x.1, .int x.2] := by rw [List.map_map]; rfl
  rw [ed] at he
  have hd := RnE.app (RnA.one he) ou_dict
  refine dsSeq (dsAsgN hd ?_)
  dsimp only
  show dRet _ _ (ρ.set 1 (.o (dicP (dP (own l)))))
  have nk : ∀ k ∈ ((own l).map (·.1)).mergeSort leN, k ∈ (own l).map (·.1) := fun k hk => List.mem_mergeSort.mp hk
  have ol : (own l).length ≤ sizeLine := Nat.le_trans (own_length l) hS
  generalize hρ1 : ρ.set 1 (.o (dicP (dP (own l)))) = ρ1
  have g1 : ρ1.sl[1]? = some (.o (dicP (dP (own l)))) := by rw [← hρ1]; exact at_set (by rw [hlen]; decide)
  generalize hρ2 : ρ1.set 1 (.v (dicP (dP (own l)))) = ρ2
  have l2 : ρ2.sl.length = 6 := by rw [← hρ2, len_set, ← hρ1, len_set]; exact hlen
  have k1 : ρ2.sl[1]? = some (.v (dicP (dP (own l)))) := by rw [← hρ2]; exact at_set (by rw [← hρ1, len_set, hlen]; decide)
  have k3 : ρ2.sl[3]? = some .un := by rw [← hρ2, at_ne (by decide), ← hρ1, at_ne (by decide)]; exact h3
  have k5 : ρ2.sl[5]? = some .un := by rw [← hρ2, at_ne (by decide), ← hρ1, at_ne (by decide)]; exact h5
  have n3 : noOwn ρ2 [3] = true := by unfold noOwn; rw [List.all_cons, k3]; rfl
  have n53 : noOwn ρ2 [5, 3] = true := by unfold noOwn; rw [List.all_cons, List.all_cons, k3, k5]; rfl
  have hc2 : ρ2.c = c := by rw [← hρ2, ← hρ1]; exact hc
  have hk := RnE.lcKX (ρ := ρ1) (ρ' := ρ2) (xs := (own l).map (·.1)) (r := ksD) (fn := fun l => l.map fun p => keyT p.1) (g := dgName 3) (vs := [3]) (tt := dYes)
    (e := dTup (dCons (fun ρ Q => dCons (dVar 3) dNil ρ fun ρ1 ds => ∃ ns : List Int, (ds = [.lst (ns.map .int)] ∨ ds = [.tup (ns.map .int)]) ∧ Q ρ1 (.int ns.sum)) (dCons (dVar 3) dNil))) pairD (fun _ => true) g1 (.inr ⟨rfl, hρ2.symm⟩) (keys_dP (own l)) n3 (by rw [List.length_map]; exact ol) (fun k hk => by
      have b3 := atw1 (ρ := ρ2) (i := 3) (s := .v (ksD k)) (by rw [l2]; decide)
      exact ⟨_, ag1, rfl, RnG.name, RnT.yes, fun _ => RnE.tup (RnA.cons (RnE.app (RnA.one (RnE.var b3)) ou_sumK) (RnA.one (RnE.var b3))) (by show 2 ≤ sizeLine; decide)⟩)
  rw [filter_yes] at hk
  have hs := RnE.app (RnA.one hk) (ou_sorted (ks := (own l).map (·.1)))
  have ho := RnE.lcX (ρ := ρ1) (ρ' := ρ2) (xs := ((own l).map (·.1)).mergeSort leN) (r := pairD) (s := dSq _) (g := dgTup 2 (dgCons (dgName 5) (dgCons (dgName 3) dgNil))) (vs := [5, 3])
    (tt := dB (fun ρ Q => (fun ρ Q => dVar 1 ρ fun ρ0 x => ∃ l, x = dicP l ∧ (dVar 3) ρ0 fun ρ1 y => ∃ k d, keyOfD y = some k ∧ lookP l k = some d ∧ Q ρ1 d) ρ fun ρ1 x => dC (vC (.int 0)) ρ1 fun ρ2 y => gNe x y ρ2 Q))
    (e := dTup (dCons (fun ρ Q => dVar 1 ρ fun ρ0 x => ∃ l, x = dicP l ∧ (dVar 3) ρ0 fun ρ1 y => ∃ k d, keyOfD y = some k ∧ lookP l k = some d ∧ Q ρ1 d) (dCons (dVar 3) dNil)))
    (fun k => trmD (getT (own l) k, k)) (fun k => decide (getT (own l) k ≠ 0)) (RnA.seq hs rfl) n53 (by rw [List.length_mergeSort, List.length_map]; exact ol) (fun k hk => by
      have b3 := atw2 (ρ := ρ2) (i := 5) (j := 3) (s := .v (.int (k.sum : Nat))) (t := .v (ksD k)) (by rw [l2]; decide)
      have b1 := agr_at (ag2 (ρ := ρ2) (i := 5) (j := 3) (s := .v (.int (k.sum : Nat))) (t := .v (ksD k))) (i := 1) (by decide) k1
      have hg := RnE.get (i := 3) (RnE.var b1) (RnE.var b3) (keyOf_ks k) (look_mem (nk k hk))
      refine ⟨_, ag2, rfl, RnG.two, RnT.b ?_, fun _ => RnE.tup (RnA.cons hg (RnA.one (RnE.var b3))) (by show 2 ≤ sizeLine; decide)⟩
      have hb := RnE.bin hg (RnE.c (d := vC (.int 0))) (ob_neI (x := getT (own l) k) (y := 0))
      rw [show decide (getT (own l) k ≠ 0) = !decide (getT (own l) k = 0) from decide_not]
      exact hb)
  have eo : ((((own l).map (·.1)).mergeSort leN).filter fun k => decide (getT (own l) k ≠ 0)).map (fun k => trmD (getT (own l) k, k)) = (norm l).map trmD := by
    rw [← own_norm, List.map_map]; rfl
  rw [eo] at ho
  refine dsRet (RnE.un ho (ov_tup rfl)) ?_
  show QD _ ρ2.c
  rw [hc2]; exact q
end
end K08
end DL

-- part EX5
set_option maxHeartbeats 4000000
/-! self.f, .., self.k = a tuple; making instances of classes with def __init__(self, *parts) -/
namespace DL
open PySem PySem.Spec PyProof.Rows L2 StX
def gFldL (K : PySem.W.Frag) (ta : TE) : List Str → TGs
  | [] => gNil
  | f :: fs => gCons (gFld K ta f) (gFldL K ta fs)
def newF : List Str → List Str → Bool
  | _, [] => true
  | ns, f :: fs => !(ns.contains f) && newF (ns ++ [f]) fs
def dUnpL (i : Nat) (fs : List Str) (t : DE) : DS := fun DD ρ => t ρ fun ρ1 d => match d, getO ρ1 i with
  | .tup xs, some (.obj c ns ds) => xs.length = fs.length ∧ newF ns fs = true ∧ ns.length + fs.length < 900 ∧ DD.nx (ρ1.set i (.o (.obj c (ns ++ fs) (ds ++ xs))))
  | _, _ => False
section
variable {W : Wd} {B : Bs} {F F' H H' : Hp} {σ : L2.St} {ρ : Ev}
theorem unpL_go {i : Nat} {p C dx : Addr} {c : Str} (hσ : σ[i]? = some (some (.ref p))) (hc : W.cls c = some C) (hcls : Cls W.K C) : ∀ (fs : List Str) (vs : List V) (xs : List D) (gs : List (Str × V)) (ds : List D) (H : Hp) (ρ : Ev) (k : L2.St → Hp → Prop),
    (∀ f ∈ fs, NoAttr W.K C f) → Rel W B F H σ ρ → ρ.sl[i]? = some (.o (.obj c (gs.map (·.1)) ds)) → H p = some (.ins C dx gs) → DenL W F ds (gs.map (·.2)) → DenL W F xs vs → xs.length = fs.length → newF (gs.map (·.1)) fs = true → gs.length + fs.length < 900 →
    (∀ H2, Rel W B F H2 σ (ρ.set i (.o (.obj c (gs.map (·.1) ++ fs) (ds ++ xs)))) → k σ H2) → gFldL W.K (tVar i) fs vs σ H k
  | [], vs, xs, gs, ds, H, ρ, k, hno, r, hs, hp, hd, hx, hl, hn, hz, hk => by
    cases xs with
    | cons _ _ => cases hl
    | nil =>
      have hx : vs = [] := hx
      refine ⟨hx, hk H ?_⟩
      rw [List.append_nil, List.append_nil]
      have : ρ.set i (.o (.obj c (gs.map (·.1)) ds)) = ρ := by
        show (⟨ρ.sl.set i _, ρ.c⟩ : Ev) = ρ
        have : ρ.sl.set i (.o (.obj c (gs.map (·.1)) ds)) = ρ.sl := by
          refine List.ext_getElem? fun j => ?_
          by_cases hj : i = j
          · subst hj
            rw [List.getElem?_set_self (List.getElem?_eq_some_iff.mp hs).1, hs]
          · rw [List.getElem?_set_ne hj]
        rw [this]
      rw [this]
      exact r
  | f :: fs, vs, xs, gs, ds, H, ρ, k, hno, r, hs, hp, hd, hx, hl, hn, hz, hk => by
    cases xs with
    | nil => cases hl
    | cons x xs =>
      obtain ⟨v, rest, rfl, dv, dr⟩ := hx
      have hn1 : (gs.map (·.1)).contains f = false := by
        unfold newF at hn
        rw [Bool.and_eq_true, Bool.not_eq_true'] at hn
        exact hn.1
      have hn2 : newF (gs.map (·.1) ++ [f]) fs = true := by
        unfold newF at hn
        rw [Bool.and_eq_true] at hn
        exact hn.2
      have own1 : OwnAt W F (upd H p (.ins C dx (gs ++ [(f, v)]))) p (.obj c (gs.map (·.1) ++ [f]) (ds ++ [x])) := ⟨C, dx, _, upd_same, hc, by rw [List.map_append]; rfl, by rw [List.map_append]; exact hd.append ⟨v, [], rfl, dv, rfl⟩⟩
      have r2 := r.oset hs hσ own1
      have hlc : (f :: fs).length = fs.length + 1 := rfl
      have hlx : (x :: xs).length = xs.length + 1 := rfl
      refine ⟨v, rest, rfl, .ref p, hσ, p, C, dx, gs, rfl, hp, hcls, hno f List.mem_cons_self, by omega, ?_⟩
      rw [putF_new hn1]
      have em : (gs ++ [(f, v)]).map (·.1) = gs.map (·.1) ++ [f] := by rw [List.map_append]; rfl
      have ih := unpL_go hσ hc hcls fs rest xs (gs ++ [(f, v)]) (ds ++ [x]) _ _ k (fun g hg => hno g (List.mem_cons_of_mem _ hg)) r2 (by rw [em]; exact getO_set hs) upd_same
        (by rw [List.map_append]; exact hd.append ⟨v, [], rfl, dv, rfl⟩) dr (by omega) (by rw [em]; exact hn2) (by rw [List.length_append, List.length_singleton]; omega)
      refine ih fun H2 r3 => hk H2 ?_
      rw [em, List.append_assoc, List.append_assoc] at r3
      have es : ∀ s s' : Sl, (ρ.set i s).set i s' = ρ.set i s' := fun s s' => by
        show (⟨(ρ.sl.set i s).set i s', ρ.c⟩ : Ev) = ⟨ρ.sl.set i s', ρ.c⟩
        rw [List.set_set]
      rw [es] at r3
      exact r3
theorem rsi_unpL {i : Nat} {fs : List Str} {te : TE} {t : DE} (re : RE W B te t) (hcls : ∀ c C, W.cls c = some C → Cls W.K C) (hno : ∀ f ∈ fs, ∀ c C, W.cls c = some C → NoAttr W.K C f) :
    RSI W B (tAsg te (gTup W.K fs.length (gFldL W.K (tVar i) fs))) (dUnpL i fs t) := by
  intro σ H F ρ D DD rl h k
  refine re σ H F ρ _ _ rl h fun y H1 F1 ρ1 d r1 s1 d1 h1 => ?_
  split at h1
  · rename_i xs c ns ds g1
    obtain ⟨a, vs, e, hs, hd1⟩ := d1
    obtain ⟨p, e2, e3, C, dx, gs, hx, hc, hn, hd⟩ := r1.own g1
    subst hn
    obtain ⟨c1, c2, hl, hq⟩ := h1
    rw [List.length_map] at hl
    refine ⟨a, vs, e, sqT_of r1.ex hs, by rw [← hd1.length]; exact c1, ?_⟩
    exact unpL_go e3 hc (hcls _ _ hc) fs vs xs gs ds H1 ρ1 _ (fun f hf => hno f hf c C hc) r1 e2 hx hd hd1 c1 c2 hl fun H2 r2 => k H2 F1 _ r2 s1 hq
  · exact h1.elim
/-- C(e, ..), def __init__(self, *parts) -/
def spStar (K : PySem.W.Frag) (cls : Str → Option Addr) (G : GI) : Sp := fun vs H Q E => ∃ ws rest, vs = ws ++ rest ∧ ws.length = 1 ∧ rest.length ≤ sizeLine ∧ ∀ p, H p = none → spI K cls G (ws ++ [V.ref p]) (upd H p (.tup rest)) Q E
theorem rn_makeR {G : GI} {C : Addr} {cn : Str} {ta : TA} {a : DA} {E : XK} (hc : W.cls cn = some C) (ra : RA W B ta a) : RN W B (tMakeR C (spStar W.K W.cls G) E ta) (dMakeI cn (fun cn ds c QD => ds.length ≤ sizeLine ∧ G cn [.tup ds] c QD) a) := by
  intro σ H F ρ Q R rl h k
  refine ra σ H F ρ _ _ rl h fun vs H1 F1 ρ1 ds r1 s1 d1 h1 => ?_
  intro x dx hx hdx hne
  exact star_of (r1.made (G := fun cn ds c QD => ds.length ≤ sizeLine ∧ G cn [.tup ds] c QD) hc d1 h1 hx hdx hne fun p H' F' ρ' d r' s' n q => k p H' F' ρ' d r' (s1.trans s') n q)
end
theorem pe_makeR0 {X : Cx} {CX : CXT} {k : Nat} {f C : Addr} {sp : Sp} {E : XK} {x : Str} {p pos : Pos} (M : Mk X.K C f) (F : FnR X.prog X.w X.K X.mg X.base CX k f sp) (hr : Room (k + 1) X.A) (hg : Gl X x) (hm : X.mg x = some (.ref C)) (hx : Passes CX X E) (hdb : (x == ("__debug__" : Str)) = false := by decide) :
    PE X (.Call (.Name x p) [] [] pos) (tMakeR C sp E tNil) := by
  refine ⟨fun pins s σ H Q I h => ?_⟩
  refine wpAny_Call_Name_kw (ld_glob I hg hm ?_ hdb)
  refine PySem.W.callWith_KW0 (h₀ := X.base) I.ok.mod.kin M.kp rfl ?_ rfl
  refine thn ((pk_nil (X := X)).run pos pins s σ H (fun zs H1 => zs = [] ∧ H = H1) I ⟨rfl, rfl⟩) fun ws s2 ⟨zs, H2, I2, rz, ez, eH⟩ => ⟨I2.kIn, ?_⟩
  subst ez
  rw [← eH] at I2
  cases rz
  exact run_makeR (us := []) (vs := []) M F hr hx I2 .nil h
end DL

-- part EX4
set_option maxHeartbeats 4000000
/-! repr and == of nested data that hold a dict {text: int} -/
namespace DL
open PySem PySem.Spec PyProof.Rows L2
mutual
def toQ : D → Option PyData
  | .non => some .none
  | .bl b => some (.bool b)
  | .int i => some (.int i)
  | .str x => some (.str x)
  | .lst ds => (toQs ds).map .list
  | .tup ds => (toQs ds).map .tuple
  | .dik ks vs => match ks, vs with
    | [.inr k], [.int i] => some (.dict [(.str k, .int i)])
    | _, _ => none
  | _ => none
def toQs : List D → Option (List PyData)
  | [] => some []
  | d :: ds => match toQ d, toQs ds with
    | some p, some ps => some (p :: ps)
    | _, _ => none
end
section
variable {X : Cx} {pins : List (Addr × Obj)} {σ : L2.St} {H F : Hp} {s : Shared} {cls : Str → Option Addr} {pw : Option Addr}
theorem dik_at {a : Addr} {k : Str} {i : Int} (I : Inv X pins σ H s) (e : Same F H) (h : Den ⟨X.K, cls, pw⟩ F (.dik [.inr k] [.int i]) (.ref a)) : (a == sysModules) = false ∧ ∃ (key u : Value) (tk ti : Tok), key = .str k tk ∧ u = .int i ti ∧ s.heap.DictOf (mixKind X.prog X.w) a [(.inr k, u)] := by
  obtain ⟨a', kvs, ev, hf, hn, hd⟩ := h
  cases ev
  cases kvs with
  | nil => cases hn
  | cons p r =>
    cases r with
    | cons _ _ => simp at hn
    | nil =>
      obtain ⟨pk, pv⟩ := p
      have hk : pk = .inr k := by have := List.cons.inj hn; exact this.1
      subst hk
      obtain ⟨x, r, ev, hx, _⟩ := hd
      cases ev
      have hx : pv = .int i := hx
      subst hx
      obtain ⟨_, hs, vs, kv, dd⟩ := (show ObjOk X.prog X.w H s.heap a (.dK [(.inr k, .int i)]) from I.hok a _ (e _ _ hf))
      cases kv with
      | @cons _ q _ qs h1 h2 =>
        cases h2
        obtain ⟨e1, t, e2⟩ := h1
        obtain ⟨qk, qv⟩ := q
        have e1 : Sum.inr k = qk := e1
        have e2 : qv = .int i t := e2
        subst e1 e2
        exact ⟨hs, .str k 0, _, 0, t, rfl, rfl, dd⟩
/-- where a dict {k: i} stands in the heap -/
theorem dik_reads {a : Addr} {k : Str} {i : Int} (I : Inv X pins σ H s) (e : Same F H) (h : Den ⟨X.K, cls, pw⟩ F (.dik [.inr k] [.int i]) (.ref a)) : (a == sysModules) = false ∧ Reads s.heap (.ref a) (.dict [(.str k, .int i)]) [a] := by
  obtain ⟨hs, key, w, tk, ti, e1, e2, o, es, ep, ho, hx, hd, hk, hp, hn⟩ := dik_at I e h
  obtain ⟨esl⟩ := es
  cases hp with
  | @cons en _ es' _ h1 h2 h3 =>
    cases h3
    rcases keyIs_shape (show keyIs (.inr k) en.key = true from h1) with ⟨i', t', z, _⟩ | ⟨x', t', z, z2⟩
    · cases z
    · cases z
      have h2 : en.val = w := h2
      refine ⟨hs, .dict (kvs := [(.str k, .int i)]) (as := []) (bs := []) ho hx.1 hd ?_ ?_⟩
      · show ReadsAll s.heap [en.key] [.str k] []
        rw [z2]
        exact .cons (as := []) (.str k t') .nil
      · show ReadsAll s.heap [en.val] [.int i] []
        rw [h2, e2]
        exact .cons (as := []) (.int i ti) .nil
/-- what a tree is in the heap: read, and shown -/
def Shw (X : Cx) (s : Shared) (u : Value) (p : PyData) : Prop := (∃ as, Reads s.heap u p as) ∧ (p.showable = true → p.shown.length ≤ sizeLine → ∃ bs, ReadAtMost s.heap p.depth bs ∧ ReprK X.prog X.w bs s.heap p.depth u p.shown)
def ShwL (X : Cx) (s : Shared) (us : List Value) (ps : List PyData) : Prop := (∃ as, ReadsAll s.heap us ps as) ∧ (PyData.showableAll ps = true → (∀ t ∈ PyData.shownAll ps, t.length ≤ sizeLine) → ∃ bs, ReadAtMost s.heap (PyData.depthAll ps) bs ∧ ReprAllK X.prog X.w bs s.heap (PyData.depthAll ps) us (PyData.shownAll ps))
theorem Shw.leaf {u : Value} {p : PyData} {as : List Addr} (r : Reads s.heap u p as) (h : p.hasDict = true → sysModules ∉ as) : Shw X s u p := ⟨⟨as, r⟩, fun h1 h2 => ReprK.of_reads r h1 h h2⟩
theorem Shw.list {a : Addr} {o : Obj} {vs : List Value} {n : Nat} {ps : List PyData} (h1 : s.heap.get? a = some o) (h2 : o.cls = .type "list") (h3 : o.data = .seq vs.toArray n) (hl : ShwL X s vs ps) : Shw X s (.ref a) (.list ps) := by
  obtain ⟨⟨as, ra⟩, rest⟩ := hl
  have rr : Reads s.heap (.ref a) (.list ps) (a :: as) := .list h1 h2 h3 ra
  refine ⟨⟨_, rr⟩, fun g1 g2 => ?_⟩
  have g2' : (listText (PyData.shownAll ps)).length ≤ sizeLine := by simpa only [PyData.shown] using g2
  obtain ⟨bs, hb, hk⟩ := rest (by simpa [PyData.showable] using g1) fun t ht => Nat.le_trans (listText_mem_le ht) g2'
  have hd : PyData.depthAll ps < (PyData.list ps).depth := by simp only [PyData.depth]; omega
  have hna : a ∉ bs := not_mem_of_deeper rr hd hb
  refine ⟨a :: bs, ReadAtMost.cons rr (Nat.le_refl _) fun b hm => ?_, ?_⟩
  · obtain ⟨d', as', r', hd'⟩ := hb b hm
    exact ⟨d', as', r', by omega⟩
  · simp only [PyData.depth, PyData.shown]
    cases vs with
    | nil =>
      cases ra
      simp only [PyData.shownAll, listText_nil]
      exact ReprK.listEmpty h1 h2 h3
    | cons x l => exact ReprK.list h1 h2 h3 hna (by simpa using hk.length_eq) (fun i y e => hk.item i y (by simpa using e))
theorem Shw.tuple {a : Addr} {o : Obj} {vs : List Value} {n : Nat} {ps : List PyData} (h1 : s.heap.get? a = some o) (h2 : o.cls = .type "tuple") (h3 : o.data = .seq vs.toArray n) (hl : ShwL X s vs ps) : Shw X s (.ref a) (.tuple ps) := by
  obtain ⟨⟨as, ra⟩, rest⟩ := hl
  have rr : Reads s.heap (.ref a) (.tuple ps) as := .tuple h1 h2 h3 ra
  refine ⟨⟨_, rr⟩, fun g1 g2 => ?_⟩
  have g2' : (tupleText (PyData.shownAll ps)).length ≤ sizeLine := by simpa only [PyData.shown] using g2
  obtain ⟨bs, hb, hk⟩ := rest (by simpa [PyData.showable] using g1) fun t ht => Nat.le_trans (tupleText_mem_le ht) g2'
  have hd : PyData.depthAll ps < (PyData.tuple ps).depth := by simp only [PyData.depth]; omega
  have hna : a ∉ bs := not_mem_of_deeper rr hd hb
  refine ⟨a :: bs, ReadAtMost.cons rr (Nat.le_refl _) fun b hm => ?_, ?_⟩
  · obtain ⟨d', as', r', hd'⟩ := hb b hm
    exact ⟨d', as', r', by omega⟩
  · simp only [PyData.depth, PyData.shown]
    exact ReprK.tuple h1 h2 h3 hna hk
theorem ShwL.cons {u : Value} {us : List Value} {p : PyData} {ps : List PyData} (h : Shw X s u p) (t : ShwL X s us ps) : ShwL X s (u :: us) (p :: ps) := by
  obtain ⟨⟨a1, r1⟩, q1⟩ := h
  obtain ⟨⟨a2, r2⟩, q2⟩ := t
  refine ⟨⟨_, .cons r1 r2⟩, fun g1 g2 => ?_⟩
  have g1' : p.showable = true ∧ PyData.showableAll ps = true := by simpa [PyData.showableAll] using g1
  obtain ⟨b1, hb1, k1⟩ := q1 g1'.1 (g2 _ (by simp only [PyData.shownAll]; exact List.mem_cons_self))
  obtain ⟨b2, hb2, k2⟩ := q2 g1'.2 fun t ht => g2 t (by simp only [PyData.shownAll]; exact List.mem_cons_of_mem _ ht)
  have l1 : p.depth ≤ PyData.depthAll (p :: ps) := by simp only [PyData.depthAll]; exact Nat.le_max_left _ _
  have l2 : PyData.depthAll ps ≤ PyData.depthAll (p :: ps) := by simp only [PyData.depthAll]; exact Nat.le_max_right _ _
  refine ⟨b1 ++ b2, fun b hm => ?_, ?_⟩
  · rcases List.mem_append.mp hm with hm | hm
    · obtain ⟨d', as', r', hd'⟩ := hb1 b hm
      exact ⟨d', as', r', Nat.le_trans hd' l1⟩
    · obtain ⟨d', as', r', hd'⟩ := hb2 b hm
      exact ⟨d', as', r', Nat.le_trans hd' l2⟩
  · simp only [PyData.shownAll]
    exact .cons ((k1.more fun b hb => List.mem_append_left _ hb).level_le l1) (k2.more_le (fun b hb => List.mem_append_right _ hb) l2)
mutual
theorem shw_of (I : Inv X pins σ H s) (e : Same F H) : ∀ (d : D) (v : V) (u : Value) (p : PyData), Den ⟨X.K, cls, pw⟩ F d v → toQ d = some p → RelV v u → Shw X s u p
  | .non, v, u, p, h, t, r => by cases t; rw [show v = V.non from h] at r; cases (show u = Value.none from r); exact Shw.leaf .none fun _ => by simp
  | .bl b, v, u, p, h, t, r => by cases t; rw [show v = V.bl b from h] at r; cases (show u = Value.bool b from r); exact Shw.leaf (.bool b) fun _ => by simp
  | .int i, v, u, p, h, t, r => by cases t; rw [show v = V.int i from h] at r; obtain ⟨t, q⟩ := (show ∃ t, u = Value.int i t from r); subst q; exact Shw.leaf (.int i t) fun _ => by simp
  | .str x, v, u, p, h, t, r => by cases t; rw [show v = V.str x from h] at r; obtain ⟨t, q⟩ := (show ∃ t, u = Value.str x t from r); subst q; exact Shw.leaf (.str x t) fun _ => by simp
  | .lst ds, v, u, p, ⟨a, xs, ev, hs, hd⟩, t, r => by
    unfold toQ at t
    cases q : toQs ds with
    | none => rw [q] at t; cases t
    | some ps =>
      rw [q] at t; cases t
      subst ev
      cases (show u = Value.ref a from r)
      obtain ⟨its, rv, hl, hz⟩ := I.list (same_sqL e hs)
      obtain ⟨o, ho, hc, n, hdat⟩ := hl.isList
      exact Shw.list ho hc hdat (shw_ofL I e ds xs its ps hd q rv)
  | .tup ds, v, u, p, ⟨a, xs, ev, hs, hd⟩, t, r => by
    unfold toQ at t
    cases q : toQs ds with
    | none => rw [q] at t; cases t
    | some ps =>
      rw [q] at t; cases t
      subst ev
      cases (show u = Value.ref a from r)
      obtain ⟨_, its, rv, o, ho, hc, n, hdat⟩ := (show ObjOk X.prog X.w H s.heap a (.tup xs) from I.hok a _ (e _ _ hs))
      exact Shw.tuple ho hc hdat (shw_ofL I e ds xs its ps hd q rv)
  | .dik ks vs, v, u, p, h, t, r => by
    unfold toQ at t
    split at t
    · rename_i k i
      cases t
      have hv : ∃ a, v = .ref a := by obtain ⟨a, kvs, ev, _⟩ := h; exact ⟨a, ev⟩
      obtain ⟨a, rfl⟩ := hv
      cases (show u = Value.ref a from r)
      obtain ⟨hs, rd⟩ := dik_reads I e h
      refine Shw.leaf rd fun _ hm => ?_
      have : sysModules = a := by simpa using hm
      rw [← this] at hs
      simp at hs
    · cases t
  | .obj _ _ _, _, _, _, _, t, _ => by cases t
  | .exc _ _ _, _, _, _, _, t, _ => by cases t
  | .dic _ _, _, _, _, _, t, _ => by cases t
  | .opq _, _, _, _, _, t, _ => by cases t
  | .well, _, _, _, _, t, _ => by cases t
theorem shw_ofL (I : Inv X pins σ H s) (e : Same F H) : ∀ (ds : List D) (xs : List V) (us : List Value) (ps : List PyData), DenL ⟨X.K, cls, pw⟩ F ds xs → toQs ds = some ps → Vals xs us → ShwL X s us ps
  | [], xs, us, ps, h, t, r => by
    cases t
    rw [show xs = [] from h] at r
    cases r
    exact ⟨⟨[], .nil⟩, fun _ _ => ⟨[], (fun _ h => nomatch h), .nil⟩⟩
  | d :: ds, _, us, ps, ⟨x, r, ev, h1, h2⟩, t, rr => by
    unfold toQs at t
    subst ev
    cases q : toQ d with
    | none => rw [q] at t; cases t
    | some p =>
      cases q2 : toQs ds with
      | none => rw [q, q2] at t; cases t
      | some rs =>
        rw [q, q2] at t; cases t
        cases rr with
        | cons ra rb => exact ShwL.cons (shw_of I e d x _ p h1 q ra) (shw_ofL I e ds r _ rs h2 q2 rb)
end
/-- repr of a list of data -/
def rReprQ (K : PySem.W.Frag) : List V → Hp → VK → Prop := fun xs H Q => ∃ (a : Addr) (F : Hp) (cls : Str → Option Addr) (pw : Option Addr) (ds : List D) (p : PyData), xs = [.ref a] ∧ Same F H ∧ Den ⟨K, cls, pw⟩ F (.lst ds) (.ref a) ∧ toQ (.lst ds) = some p ∧ p.showable = true ∧ p.depth ≤ 60 ∧ p.shown.length ≤ sizeLine ∧ Q (.str p.shown) H
theorem call_reprQ {X : Cx} (hgd : X.A.guards = some []) (hu : X.A.units + 64 < cLine) : CallR X (.builtin "repr") (rReprQ X.K) := by
  intro pins s σ H xs us Q I r h
  obtain ⟨a, F, cls, pw, ds, p, rfl, e, ⟨a', xs', ev, hs, hd⟩, ht, h1, h3, h4, q⟩ := h
  cases ev
  obtain rfl := Vals.ref1 r
  unfold toQ at ht
  cases qs : toQs ds with
  | none => rw [qs] at ht; cases ht
  | some ps =>
    rw [qs] at ht; cases ht
    obtain ⟨its, rv, hl, hz⟩ := I.list (same_sqL e hs)
    obtain ⟨o, ho, hc, n, hdat⟩ := hl.isList
    obtain ⟨⟨as, ra⟩, rest⟩ := shw_ofL I e ds xs' its ps hd qs rv
    have g2 : (listText (PyData.shownAll ps)).length ≤ sizeLine := by simpa only [PyData.shown] using h4
    obtain ⟨bs, hb, hk⟩ := rest (by simpa [PyData.showable] using h1) fun t ht => Nat.le_trans (listText_mem_le ht) g2
    have hdp : PyData.depthAll ps < (PyData.list ps).depth := by simp only [PyData.depth]; omega
    have hna : a ∉ bs := not_mem_of_deeper (.list ho hc hdat ra) hdp hb
    have fin : ∀ (h' : Heap) (u : Tok) (tk : Nat), (∀ b o, s.heap.get? b = some o → h'.get? b = some o) → EP X pins σ Q (.str (listText (PyData.shownAll ps)) u) { s with heap := h', toks := tk } := fun h' u tk k => by
      have q' : Q (.str (listText (PyData.shownAll ps))) H := by simpa only [PyData.shown] using q
      exact ⟨.str _, H, I.kept k, ⟨u, rfl⟩, q'⟩
    refine call_repr_slot (by omega) ⟨o, ho, hc⟩ PySem.F.slot_list_repr.toG ?_
    cases its with
    | nil =>
      cases ra
      simp only [PyData.shownAll, listText_nil] at fin
      exact call_list_repr_empty ⟨o, ho, hc⟩ ho hdat ⟨_, _, rfl, fin s.heap _ _ fun _ _ e => e⟩
    | cons x l =>
      exact call_list_reprK ho hc hdat hna (by simpa using hk.length_eq) (fun i y e => hk.item i y (by simpa using e)) hgd (fun b _ => Clear.nil b) (by show X.A.units + 1 + _ < cLine; omega) (fun _ _ e => e) (fun h' u tk k => ⟨_, _, rfl, fin h' u tk k⟩) g2
end
section
variable {W : Wd} {B : Bs} {F F' H H' : Hp} {σ : L2.St} {ρ : Ev}
theorem re_reprQ {ta : TA} {a : DA} (ra : RA W B ta a) : RE W B (tCB (rReprQ W.K) ta) (fun ρ Q => a ρ fun ρ1 ds => ∃ x p, ds = [x] ∧ toQ x = some p ∧ (∃ xs, x = .lst xs) ∧ p.showable = true ∧ p.depth ≤ 60 ∧ p.shown.length ≤ sizeLine ∧ Q ρ1 (.str p.shown)) :=
  re_cb ra (g := fun ds ρ1 Q => ∃ x p, ds = [x] ∧ toQ x = some p ∧ (∃ xs, x = .lst xs) ∧ p.showable = true ∧ p.depth ≤ 60 ∧ p.shown.length ≤ sizeLine ∧ Q ρ1 (.str p.shown)) fun σ H F ρ vs ds Q R r d h k => by
    obtain ⟨x, p, rfl, hp, ⟨xs, rfl⟩, h1, h3, h4, h⟩ := h
    obtain ⟨v, rfl, hd⟩ := den1 d
    have hv : ∃ a, v = .ref a := by obtain ⟨a, _, e, _⟩ := hd; exact ⟨a, e⟩
    obtain ⟨a, rfl⟩ := hv
    exact ⟨a, F, W.cls, W.pw, xs, p, rfl, r.ex, hd, hp, h1, h3, h4, k _ H F ρ (.str p.shown) r (Same.refl _) rfl h⟩
end
/-! ### == of tuples that hold such -/
def eqQL (f : D → D → Option Bool) : List D → List D → Option Bool
  | x :: xs, y :: ys => match f x y, eqQL f xs ys with
    | some a, some b => some (a && b)
    | _, _ => none
  | _, _ => some true
/-- what == tells of two trees, as far as it is told here -/
def eqQ : Nat → D → D → Option Bool
  | 0, x, y => eqD x y
  | n + 1, x, y => match eqD x y with
    | some b => some b
    | none => match x, y with
      | .tup xs, .tup ys => (eqQL (eqQ n) xs ys).map fun b => b && xs.length == ys.length
      | .dik [.inr k] [.int i], .dik [.inr k'] [.int i'] => if k = k' ∧ i = i' then some true else none
      | _, _ => none
section
open PySem.SeqAt PySem.W
variable {X : Cx} {pins : List (Addr × Obj)} {σ : L2.St} {H F : Hp} {s : Shared} {cls : Str → Option Addr} {pw : Option Addr}
theorem eqD_in (I : Inv X pins σ H s) (e : Same F H) {x y : D} {b : Bool} {v w : V} {u z : Value} (hx : Den ⟨X.K, cls, pw⟩ F x v) (hy : Den ⟨X.K, cls, pw⟩ F y w) (h : eqD x y = some b) (ru : RelV v u) (rz : RelV w z) :
    (∀ A : Around, A.units + 64 < cLine → EqIn X.prog X.w A s u z b) ∧ (u = z → b = true) := by
  obtain ⟨p, q, hp, hq, s1, s2, eb⟩ := eqD_some h
  obtain ⟨as, r1⟩ := Dp.reads I p v u (dp_of e hx hp) ru
  obtain ⟨bs, r2⟩ := Dp.reads I q w z (dp_of e hy hq) rz
  refine ⟨fun A hu => ?_, fun ez => ?_⟩
  · rw [← eb]
    exact (eqAt_reads p q A s u z as bs r1 r2 (canLay_of_shaped s1) (canLay_of_shaped s2) (room_of_shaped s1 hu)).inModel X.prog X.w
  · subst ez
    have := Reads.unique p q u as bs (canLay_of_shaped s1) r1 r2
    subst this
    rw [← eb]
    exact eqv_refl p (canLay_of_shaped s1)
theorem eqQL_get {f : D → D → Option Bool} : ∀ {xs ys : List D} {b : Bool}, eqQL f xs ys = some b → ∃ e : Nat → Bool, (∀ j x y, xs[j]? = some x → ys[j]? = some y → f x y = some (e j)) ∧ (List.range (min xs.length ys.length)).all e = b
  | [], _, b, h => by
    have : b = true := by unfold eqQL at h; exact (Option.some.inj h).symm
    subst this
    exact ⟨fun _ => true, fun j x y h => by simp at h, by simp⟩
  | x :: xs, [], b, h => by
    have : b = true := by unfold eqQL at h; exact (Option.some.inj h).symm
    subst this
    exact ⟨fun _ => true, fun j x y _ h => by simp at h, by simp⟩
  | x :: xs, y :: ys, b, h => by
    unfold eqQL at h
    cases h1 : f x y with
    | none => rw [h1] at h; cases h
    | some a =>
      cases h2 : eqQL f xs ys with
      | none => rw [h1, h2] at h; cases h
      | some c =>
        rw [h1, h2] at h
        have h := Option.some.inj h
        obtain ⟨e, g1, g2⟩ := eqQL_get h2
        refine ⟨fun j => match j with | 0 => a | j + 1 => e j, fun j p q hp hq => ?_, ?_⟩
        · cases j with
          | zero => cases hp; cases hq; exact h1
          | succ j => exact g1 j p q (by simpa using hp) (by simpa using hq)
        · rw [List.length_cons, List.length_cons, Nat.succ_min_succ, List.range_succ_eq_map, List.all_cons, List.all_map]
          show (a && (List.range (min xs.length ys.length)).all e) = b
          rw [g2, h]
theorem eqQ_in (I : Inv X pins σ H s) (e : Same F H) : ∀ (n : Nat) (x y : D) (b : Bool) (v w : V) (u z : Value), Den ⟨X.K, cls, pw⟩ F x v → Den ⟨X.K, cls, pw⟩ F y w → eqQ n x y = some b → RelV v u → RelV w z →
    (∀ A : Around, A.units + 64 + n < cLine → EqIn X.prog X.w A s u z b) ∧ (u = z → b = true)
  | 0, x, y, b, v, w, u, z, hx, hy, h, ru, rz => eqD_in I e hx hy h ru rz
  | n + 1, x, y, b, v, w, u, z, hx, hy, h, ru, rz => by
    have ih := eqQ_in I e n
    unfold eqQ at h
    split at h
    · rename_i b' hb
      cases h
      obtain ⟨h1, h2⟩ := eqD_in I e hx hy hb ru rz
      exact ⟨fun A hu => h1 A (by omega), h2⟩
    · split at h
      · rename_i xs ys hh
        obtain ⟨a, us, ev, hf, hd⟩ := hx
        obtain ⟨c, ws, ew, hg, he⟩ := hy
        subst ev ew
        cases (show u = Value.ref a from ru)
        cases (show z = Value.ref c from rz)
        cases hq : eqQL (eqQ n) xs ys with
        | none => rw [hq] at h; cases h
        | some b0 =>
          rw [hq] at h
          have h : (b0 && xs.length == ys.length) = b := Option.some.inj h
          obtain ⟨ej, g1, g2⟩ := eqQL_get hq
          obtain ⟨_, i1, r1, o1, ho1, hc1, n1, hd1⟩ := (show ObjOk X.prog X.w H s.heap a (.tup us) from I.hok a _ (e _ _ hf))
          obtain ⟨_, i2, r2, o2, ho2, hc2, n2, hd2⟩ := (show ObjOk X.prog X.w H s.heap c (.tup ws) from I.hok c _ (e _ _ hg))
          have l1 : xs.length = i1.length := by rw [hd.length, r1.length]
          have l2 : ys.length = i2.length := by rw [he.length, r2.length]
          have item : ∀ j (h1 : j < i1.length) (h2 : j < i2.length), (∀ A : Around, A.units + 64 + n < cLine → EqIn X.prog X.w A s i1[j] i2[j] (ej j)) ∧ (i1[j] = i2[j] → ej j = true) := fun j h1 h2 => by
            have hx : xs[j]? = some (xs[j]'(by omega)) := List.getElem?_eq_getElem _
            have hy : ys[j]? = some (ys[j]'(by omega)) := List.getElem?_eq_getElem _
            obtain ⟨v1, hv1, dv1⟩ := hd.get hx
            obtain ⟨v2, hv2, dv2⟩ := he.get hy
            obtain ⟨u1, hu1, ru1⟩ := r1.get hv1
            obtain ⟨u2, hu2, ru2⟩ := r2.get hv2
            rw [List.getElem?_eq_getElem h1] at hu1
            rw [List.getElem?_eq_getElem h2] at hu2
            cases hu1
            cases hu2
            exact ih _ _ _ _ _ _ _ dv1 dv2 (g1 j _ _ hx hy) ru1 ru2
          refine ⟨fun A hu => ?_, fun ez => ?_⟩
          · by_cases hac : a = c
            · subst hac
              rw [ho1] at ho2; cases ho2
              rw [hd1] at hd2
              have hi : i1 = i2 := by injection hd2 with q1 q2; simpa using q1
              subst hi
              have hb : b = true := by
                rw [← h, ← g2, l1, l2]
                simp only [Nat.min_self, Bool.and_eq_true, List.all_eq_true, List.mem_range, beq_self_eq_true, and_true]
                exact fun j hj => (item j hj hj).2 rfl
              rw [hb]
              exact (SeqAt.EqAt.same _).inModel X.prog X.w
            · refine SeqAt.EqIn.of_refs hac fun E Q hq => ?_
              refine rcIn_tuples (items := i1.toArray) (items2 := i2.toArray) (e := ej) ⟨o1, ho1, hc1, n1, hd1⟩ ⟨o2, ho2, hc2, n2, hd2⟩ (by omega) (fun j q1 q2 => ?_) ?_
              · have q1' : j < i1.length := by simpa using q1
                have q2' : j < i2.length := by simpa using q2
                have := (item j q1' q2').1 A.in1 (by show A.units + 1 + 64 + n < cLine; omega)
                simpa using this
              · have : ((List.range (min i1.toArray.size i2.toArray.size)).all ej && i1.toArray.size == i2.toArray.size) = b := by
                  rw [← h, ← g2, l1, l2]
                  simp
                rw [this]; exact hq
          · have hac : a = c := Value.ref.inj ez
            subst hac
            rw [ho1] at ho2; cases ho2
            rw [hd1] at hd2
            have hi : i1 = i2 := by injection hd2 with q1 q2; simpa using q1
            subst hi
            rw [← h, ← g2, l1, l2]
            simp only [Nat.min_self, Bool.and_eq_true, List.all_eq_true, List.mem_range, beq_self_eq_true, and_true]
            exact fun j hj => (item j hj hj).2 rfl
      · rename_i k i k' i' hh
        split at h
        · rename_i hk
          obtain ⟨rfl, rfl⟩ := hk
          cases h
          refine ⟨fun A hu => ?_, fun _ => rfl⟩
          have hv : ∃ a, v = .ref a := by obtain ⟨a, kvs, ev, _⟩ := hx; exact ⟨a, ev⟩
          have hw : ∃ a, w = .ref a := by obtain ⟨a, kvs, ev, _⟩ := hy; exact ⟨a, ev⟩
          obtain ⟨a, rfl⟩ := hv
          obtain ⟨c, rfl⟩ := hw
          cases (show u = Value.ref a from ru)
          cases (show z = Value.ref c from rz)
          by_cases hac : a = c
          · subst hac
            exact (SeqAt.EqAt.same _).inModel X.prog X.w
          · obtain ⟨sa, k1, u1, tk1, ti1, e1, e2, da⟩ := dik_at I e hx
            obtain ⟨sc, k2, u2, tk2, ti2, e3, e4, dc⟩ := dik_at I e hy
            subst e2 e4
            refine SeqAt.EqIn.of_refs hac fun E Q hq => ?_
            have hva : valueAt [((Sum.inr k : Key), Value.int i ti2)] (Sum.inr k) = some (Value.int i ti2) := by simp [valueAt]
            have hin : EqIn X.prog X.w A.in1 s (Value.int i ti1) (Value.int i ti2) true := by
              have := eqAt_reads (.int i) (.int i) A.in1 s _ _ _ _ (.int i ti1) (.int i ti2) rfl rfl (by show A.units + 1 + min 0 0 < cLine; omega)
              have q : PyData.eqv (.int i) (.int i) = true := by simp [PyData.eqv]
              rw [q] at this
              exact this.inModel X.prog X.w
            exact keq_eqIn sa sc da dc (by omega) (fun _ => .hit hva hin .nil) hq
        · cases h
      · cases h
end
/-- == of two tuples that may hold such -/
def rEqQ (K : PySem.W.Frag) : R2 := fun x y H Q => ∃ (F : Hp) (cls : Str → Option Addr) (pw : Option Addr) (xs ys : List D) (b : Bool), Same F H ∧ Den ⟨K, cls, pw⟩ F (.tup xs) x ∧ Den ⟨K, cls, pw⟩ F (.tup ys) y ∧ eqQ 20 (.tup xs) (.tup ys) = some b ∧ Q (.bl b) H
section
open PySem.SeqAt PySem.W
theorem op_eqQ {X : Cx} (hu : X.A.units + 128 < cLine) : OpR X (compareOp .Eq) (rEqQ X.K) := by
  intro pins s σ H x y v u Q I rx ry h
  obtain ⟨F, cls, pw, xs, ys, b, e, hx, hy, h, q⟩ := h
  have fin : ∀ b', b' = b → EP X pins σ Q (.bool b') s := fun b' eb => by subst eb; exact ⟨.bl _, H, I, rfl, q⟩
  unfold eqQ at h
  split at h
  · rename_i b' hb
    cases h
    obtain ⟨p, q', hp, hq, s1, s2, eb⟩ := eqD_some hb
    obtain ⟨as, r1⟩ := Dp.reads I p x v (dp_of e hx hp) rx
    obtain ⟨bs, r2⟩ := Dp.reads I q' y u (dp_of e hy hq) ry
    exact SeqAt.compareEq_shaped r1 r2 s1 s2 (by omega) (fin _ eb)
  · dsimp only at h
    obtain ⟨a, us, ev, hf, hd⟩ := hx
    obtain ⟨c, ws, ew, hg, he⟩ := hy
    subst ev ew
    cases (show v = Value.ref a from rx)
    cases (show u = Value.ref c from ry)
    cases hq : eqQL (eqQ 19) xs ys with
    | none => rw [hq] at h; cases h
    | some b0 =>
      rw [hq] at h
      have h : (b0 && xs.length == ys.length) = b := Option.some.inj h
      obtain ⟨ej, g1, g2⟩ := eqQL_get hq
      obtain ⟨_, i1, r1, o1, ho1, hc1, n1, hd1⟩ := (show ObjOk X.prog X.w H s.heap a (.tup us) from I.hok a _ (e _ _ hf))
      obtain ⟨_, i2, r2, o2, ho2, hc2, n2, hd2⟩ := (show ObjOk X.prog X.w H s.heap c (.tup ws) from I.hok c _ (e _ _ hg))
      have l1 : xs.length = i1.length := by rw [hd.length, r1.length]
      have l2 : ys.length = i2.length := by rw [he.length, r2.length]
      refine rcIn_tuples (items := i1.toArray) (items2 := i2.toArray) (e := ej) ⟨o1, ho1, hc1, n1, hd1⟩ ⟨o2, ho2, hc2, n2, hd2⟩ (by omega) (fun j q1 q2 => ?_) ?_
      · have h1 : j < i1.length := by simpa using q1
        have h2 : j < i2.length := by simpa using q2
        have hx : xs[j]? = some (xs[j]'(by omega)) := List.getElem?_eq_getElem _
        have hy : ys[j]? = some (ys[j]'(by omega)) := List.getElem?_eq_getElem _
        obtain ⟨v1, hv1, dv1⟩ := hd.get hx
        obtain ⟨v2, hv2, dv2⟩ := he.get hy
        obtain ⟨u1, hu1, ru1⟩ := r1.get hv1
        obtain ⟨u2, hu2, ru2⟩ := r2.get hv2
        rw [List.getElem?_eq_getElem h1] at hu1
        rw [List.getElem?_eq_getElem h2] at hu2
        cases hu1
        cases hu2
        have := (eqQ_in I e 19 _ _ _ _ _ _ _ dv1 dv2 (g1 j _ _ hx hy) ru1 ru2).1 X.A.in1 (by show X.A.units + 1 + 64 + 19 < cLine; omega)
        simpa using this
      · refine fin _ ?_
        rw [← h, ← g2, l1, l2]
        simp
end
section
variable {W : Wd} {B : Bs} {F F' H H' : Hp} {σ : L2.St} {ρ : Ev}
def gEqQ : D → D → Ev → (Ev → D → Prop) → Prop := fun x y ρ Q => ∃ xs ys b, x = .tup xs ∧ y = .tup ys ∧ eqQ 20 (.tup xs) (.tup ys) = some b ∧ Q ρ (.bl b)
theorem re_eqQ {ta tb : TE} {a b : DE} (ra : RE W B ta a) (rb : RE W B tb b) : RE W B (tOp (rEqQ W.K) ta tb) (fun ρ Q => a ρ fun ρ1 x => b ρ1 fun ρ2 y => gEqQ x y ρ2 Q) :=
  re_bin ra rb fun σ H F ρ x y dx dy Q R r d1 d2 h k => by
    obtain ⟨xs, ys, b, rfl, rfl, hb, h⟩ := h
    exact ⟨F, W.cls, W.pw, xs, ys, b, r.ex, d1, d2, hb, k _ H F ρ (.bl b) r (Same.refl _) rfl h⟩
end
end DL

-- part EX6
set_option maxHeartbeats 4000000
/-! == and != where one class stands below the other; {k: i}; a list times an int -/
namespace DL
open PySem PySem.Spec PyProof.Rows L2
section
variable {M : Model} {prog : Program} {w : World} {A : Around} {E : Value → Shared → Prop} {s : Shared} {K : PySem.W.Frag} {x y C C2 f : Addr} {ox oy : Obj} {od od2 : Option Obj}
/-- x != y, y of a class below x's: y is asked first -/
theorem ne_KR {Q : Value → Shared → Prop} (hu : A.units + 1 < cLine) (X : K.In s.heap) (I : PySem.W.InstAt s.heap x ox C od) (I2 : PySem.W.InstAt s.heap y oy C2 od2) (hcc : C ≠ C2) (hsub : PySem.W.subIn K (.ref C2) (.ref C) = some true)
    (hne : PySem.W.findIn K (.ref C2) "__ne__" = some (some (.builtin "object.__ne__"))) (hm : PySem.W.mroIn K C2 (.type "object") = some true) (hs : PySem.W.findIn K (.ref C2) "__eq__" = some (some (.ref f))) (hf : PySem.W.isFn K (.ref f) = true)
    (h : wpAny (model prog w) A.in1 (call (.ref f) [.ref y, .ref x]) (fun v s' => ∃ c, v = .bool c ∧ Q (.bool (!c)) s') E s) : wpAny (model prog w) A (richCompare .NotEq (.ref x) (.ref y)) Q E s := by
  have one : wpAny (model prog w) A (tryCompare (.ref y) "__ne__" (.ref x)) (fun r s' => ∃ v, r = some v ∧ Q v s') E s := by
    unfold tryCompare
    refine wpAny_bind (ifBound_objNe X I2 hne (wpAny_call (codeAny_call_builtin F.cmp_object.ne.plain F.cmpEntry_ne (PySem.W.check_slot F.cmpKind_ne F.cmpSplit_ne (I2.type.andThen (PySem.W.looks_mroIn X hm)) (F.cmpArgs_ne _ _)
      (entry_objNe X I2 hs hf hu (wpAny_mono h (fun v s' hv => ?_) fun _ _ e => e))))))
    obtain ⟨c, rfl, hq⟩ := hv
    first | exact ⟨c, rfl, wpAny_pure ⟨_, rfl, hq⟩⟩ | exact ⟨c, rfl, wpAny_pure (wpAny_pure ⟨_, rfl, hq⟩)⟩
  unfold richCompare
  simp only [oneThing_ref]
  refine wpAny_holding (wpAny_bind (wpAny_cRoomFor (Nat.lt_of_succ_lt hu) ?_))
  refine wpAny_bind (I.type.here (wpAny_bind (I2.type.here ?_)))
  rw [cmpInfo_NotEq]
  dsimp only
  have hb : (Value.ref C != Value.ref C2) = true := by
    simp [bne_iff_ne, hcc]
  rw [if_pos hb]
  refine wpAny_bind ((PySem.W.looks_subIn X hsub).here ?_)
  simp only [if_true]
  refine wpAny_bind (wpAny_mono one (fun r s' z => ?_) fun _ _ e => e)
  obtain ⟨v, rfl, hq⟩ := z
  exact wpAny_bind (wpAny_rule (wpAny_pure hq))
end
def rNeR (K : PySem.W.Frag) (f : Addr) (sp : Sp) (E : XK) : R2 := fun x y H Q => ∃ a C dx fs b C2 dy gs, x = .ref a ∧ H a = some (.ins C dx fs) ∧ y = .ref b ∧ H b = some (.ins C2 dy gs) ∧ C ≠ C2 ∧ PySem.W.subIn K (.ref C2) (.ref C) = some true ∧ PySem.W.findIn K (.ref C2) "__eq__" = some (some (.ref f)) ∧
  PySem.W.findIn K (.ref C2) "__ne__" = some (some (.builtin "object.__ne__")) ∧ PySem.W.mroIn K C2 (.type "object") = some true ∧ sp [y, x] H (fun v H' => ∃ b, v = .bl b ∧ Q (.bl (!b)) H') E
def rNeX (K : PySem.W.Frag) (f : Addr) (sp : Sp) (E : XK) : R2 := fun x y H Q => rNeI K f sp E x y H Q ∨ rNeR K f sp E x y H Q
section
variable {X : Cx} {CX : CXT} {n : Nat} {f : Addr} {sp : Sp} {E : XK}
theorem op_neX (hf : PySem.W.isFn X.K (.ref f) = true) (F : FnR X.prog X.w X.K X.mg X.base CX n f sp) (hr : Room (n + 1) X.A) (hx : Passes CX X E) : OpR X (compareOp .NotEq) (rNeX X.K f sp E) := by
  intro pins s σ H x y v u Q I rx ry h
  rcases h with h | h
  · exact op_neI hf F hr hx pins s σ H x y v u Q I rx ry h
  obtain ⟨a, C, dx, fs, b, C2, dy, gs, rfl, ha, rfl, hb, hcc, hsub, hs, hne, hm, q⟩ := h
  cases (show v = Value.ref a from rx)
  cases (show u = Value.ref b from ry)
  obtain ⟨mA, O, _⟩ := ins_get I.hok ha
  obtain ⟨oda, J, _⟩ := O.look
  obtain ⟨mB, O2, _⟩ := ins_get I.hok hb
  obtain ⟨odb, J2, _⟩ := O2.look
  refine ne_KR (by have := hr.un; omega) I.kIn J J2 hcc hsub hne hm hs hf ?_
  refine wpAny_call (codeAny_mono (F X.A.in1 X.stack s H [.ref b, .ref a] [.ref b, .ref a] _ E hr.in1 I.env0.in1 (.cons rfl (.cons rfl .nil)) q) fun r s' hq => ?_)
  cases r with
  | error e => exact hx pins σ _ _ e s' I hq
  | ok fl =>
    cases fl with
    | ret u' =>
      obtain ⟨v', H', I3, rv, c, ev, q3⟩ := I.after hq
      subst ev
      exact ⟨c, rv, .bl (!c), H', I3, rfl, q3⟩
    | next => exact False.elim hq
    | brk => exact False.elim hq
    | cont => exact False.elim hq
end
/-- classes that share an __eq__; okp: neither asks the other first; sub: the second is below the first -/
structure EqU (K : PySem.W.Frag) (cls : Str → Option Addr) (f : Addr) (okp sub : Str → Str → Bool) : Prop where
  ins : InsT K cls
  eq : ∀ c C, cls c = some C → PySem.W.findIn K (.ref C) "__eq__" = some (some (.ref f))
  ne : ∀ c C, cls c = some C → PySem.W.findIn K (.ref C) "__ne__" = some (some (.builtin "object.__ne__"))
  nf : ∀ c C c2 C2, cls c = some C → cls c2 = some C2 → okp c c2 = true → PySem.W.notFirst K C (.ref C2) = true
  nt : ∀ c C, cls c = some C → PySem.W.notFirst K C (.type "tuple") = true
  sb : ∀ c C c2 C2, cls c = some C → cls c2 = some C2 → sub c c2 = true → C ≠ C2 ∧ PySem.W.subIn K (.ref C2) (.ref C) = some true
section
variable {W : Wd} {B : Bs} {F F' H H' : Hp} {σ : L2.St} {ρ : Ev}
def okY (okp : Str → Str → Bool) (c : Str) : D → Bool
  | .obj c2 _ _ => okp c c2
  | .tup _ => true
  | _ => false
theorem EqU.ty {f : Addr} {okp sub : Str → Str → Bool} (T : EqU W.K W.cls f okp sub) (e : Same F H) {c : Str} {C : Addr} {d : D} {v : V} (hc : W.cls c = some C) (ho : okY okp c d = true) (h : Den W F d v) : ∃ t, TyX W.K H v t ∧ PySem.W.notFirst W.K C t = true := by
  cases d with
  | obj c' ns ds =>
    have h' := h
    obtain ⟨a, C', dx, gs, ev, hf, hc', hn, hd⟩ := h
    exact ⟨.ref C', tyx_obj T.ins e h' (by show (W.cls c').map Value.ref = _; rw [hc']; rfl), T.nf _ _ _ _ hc hc' ho⟩
  | tup xs => exact ⟨_, tyx_of e h rfl, T.nt _ _ hc⟩
  | _ => cases ho
def gEqU (okp : Str → Str → Bool) (G : GF) : D → D → Ev → (Ev → D → Prop) → Prop := fun x y ρ Q => match x with
  | .obj c ns ds => okY okp c y = true ∧ G [.obj c ns ds, y] ρ.c fun d c' => Q (ρ.cnt c') d
  | _ => False
def gNeU (okp sub : Str → Str → Bool) (G : GF) : D → D → Ev → (Ev → D → Prop) → Prop := fun x y ρ Q => match x with
  | .obj c ns ds => (okY okp c y = true ∧ G [.obj c ns ds, y] ρ.c fun d c' => match d with | .bl b => Q (ρ.cnt c') (.bl (!b)) | _ => False) ∨
    ∃ c2 ms es, y = .obj c2 ms es ∧ sub c c2 = true ∧ G [y, .obj c ns ds] ρ.c fun d c' => match d with | .bl b => Q (ρ.cnt c') (.bl (!b)) | _ => False
  | _ => False
theorem re_eqU {f : Addr} {G : GF} {ta tb : TE} {a b : DE} {E : XK} {okp sub : Str → Str → Bool} (T : EqU W.K W.cls f okp sub) (ra : RE W B ta a) (rb : RE W B tb b) : RE W B (tOp (rEqI W.K f (spD W.K W.cls G) E) ta tb) (fun ρ Q => a ρ fun ρ1 x => b ρ1 fun ρ2 y => gEqU okp G x y ρ2 Q) :=
  re_bin ra rb fun σ H F ρ x y dx dy Q R r d1 d2 h k => by
    unfold gEqU at h
    split at h
    · rename_i c ns ds
      obtain ⟨ho, h⟩ := h
      have d1' := d1
      obtain ⟨p, C, dxx, gs, ev, hf, hc, hn, hd⟩ := d1
      obtain ⟨t, ht, hnf⟩ := T.ty r.ex hc ho d2
      refine ⟨p, C, dxx, gs, t, ev, r.ex _ _ hf, ht, hnf, T.eq _ _ hc, ?_⟩
      exact r.spD (.cons d1' (.cons d2 DenL.nil)) h fun v H' F' ρ' d r' s' dv q => k v H' F' ρ' d r' s' dv q
    · exact h.elim
theorem re_neU {f : Addr} {G : GF} {ta tb : TE} {a b : DE} {E : XK} {okp sub : Str → Str → Bool} (T : EqU W.K W.cls f okp sub) (ra : RE W B ta a) (rb : RE W B tb b) : RE W B (tOp (rNeX W.K f (spD W.K W.cls G) E) ta tb) (fun ρ Q => a ρ fun ρ1 x => b ρ1 fun ρ2 y => gNeU okp sub G x y ρ2 Q) :=
  re_bin ra rb fun σ H F ρ x y dx dy Q R r d1 d2 h k => by
    unfold gNeU at h
    split at h
    · rename_i c ns ds
      have d1' := d1
      obtain ⟨p, C, dxx, gs, ev, hf, hc, hn, hd⟩ := d1
      rcases h with ⟨ho, h⟩ | ⟨c2, ms, es, rfl, hsub, h⟩
      · obtain ⟨t, ht, hnf⟩ := T.ty r.ex hc ho d2
        refine .inl ⟨p, C, dxx, gs, t, ev, r.ex _ _ hf, ht, hnf, T.eq _ _ hc, T.ne _ _ hc, T.ins.hm _ _ hc, ?_⟩
        refine r.spD (Q := fun ρ' d => match d with | .bl b => Q ρ' (.bl (!b)) | _ => False) (.cons d1' (.cons d2 DenL.nil)) h fun v H' F' ρ' d r' s' dv q => ?_
        split at q
        · rename_i b
          have ev : v = .bl b := dv
          exact ⟨b, ev, k (.bl (!b)) H' F' ρ' (.bl (!b)) r' s' rfl q⟩
        · exact q.elim
      · have d2' := d2
        obtain ⟨p2, C2, dy2, gs2, ev2, hf2, hc2, hn2, hd2⟩ := d2
        obtain ⟨q1, q2⟩ := T.sb _ _ _ _ hc hc2 hsub
        refine .inr ⟨p, C, dxx, gs, p2, C2, dy2, gs2, ev, r.ex _ _ hf, ev2, r.ex _ _ hf2, q1, q2, T.eq _ _ hc2, T.ne _ _ hc2, T.ins.hm _ _ hc2, ?_⟩
        refine r.spD (Q := fun ρ' d => match d with | .bl b => Q ρ' (.bl (!b)) | _ => False) (.cons d2' (.cons d1' DenL.nil)) h fun v H' F' ρ' d r' s' dv q => ?_
        split at q
        · rename_i b
          have ev : v = .bl b := dv
          exact ⟨b, ev, k (.bl (!b)) H' F' ρ' (.bl (!b)) r' s' rfl q⟩
        · exact q.elim
    · exact h.elim
/-- {k: i} -/
theorem re_disp1 {k : Str} {i : Int} : RE W B (tDisp [(tC (.str k), tC (.int i))]) (dC (.dik [.inr k] [.int i])) := by
  intro σ H F ρ Q R rl h kk p hp
  refine ⟨upd_same, [((.inr k : Key), V.int i)], rfl, by show 1 ≤ 15; decide, ?_⟩
  have e : upd (upd H p (.dK [])) p (.dK (mergeK [] [((.inr k : Key), V.int i)])) = upd H p (.dK [(.inr k, .int i)]) := by
    funext b
    by_cases hb : b = p
    · subst hb; rw [upd_same, upd_same]; rfl
    · rw [upd_ne hb, upd_ne hb, upd_ne hb]
  rw [e]
  have st := Stp.one (o := .dK [(.inr k, .int i)]) rl.ex hp
  exact kk _ _ _ ρ (.dik [.inr k] [.int i]) (rl.stp st) st.ff ⟨p, [(.inr k, .int i)], rfl, upd_same, rfl, ⟨_, _, rfl, rfl, rfl⟩⟩ h
theorem denL_rep {ds : List D} {xs : List V} (h : DenL W F ds xs) : ∀ n : Nat, DenL W F (List.replicate n ds).flatten (List.replicate n xs).flatten
  | 0 => rfl
  | n + 1 => by
    rw [List.replicate_succ, List.replicate_succ, List.flatten_cons, List.flatten_cons]
    exact h.append (denL_rep h n)
/-- [..] * n -/
theorem re_rep {ta : TE} {a : DE} {n : Int} (ra : RN W B ta a) : RE W B (tOp rRep ta (tC (.int n))) (fun ρ Q => a ρ fun ρ1 x => ∃ ds, x = .lst ds ∧ 0 ≤ n ∧ n < 2 ^ 63 ∧ ds.length * n.toNat ≤ sizeLine ∧ Q ρ1 (.lst (List.replicate n.toNat ds).flatten)) := by
  intro σ H F ρ Q R rl h k
  refine ra σ H F ρ _ _ rl h fun p H1 F1 ρ1 d r1 s1 n1 h1 => ?_
  obtain ⟨ds, rfl, h2, h3, h4, h5⟩ := h1
  obtain ⟨xs, hp, hd⟩ := n1.own
  refine ⟨p, n, xs, rfl, rfl, hp, by omega, h3, by rw [← hd.length]; exact h4, fun q hq => ?_⟩
  have st := Stp.one (o := .lst (List.replicate n.toNat xs).flatten) r1.ex hq
  exact k _ _ _ ρ1 (.lst _) (r1.stp st) (s1.trans st.ff) ⟨q, _, rfl, .inl (.inl upd_same), (denL_rep hd _).mono st.ff⟩ h5
end
end DL

-- part EX7
set_option maxHeartbeats 4000000
/-! x, y = a, b; != of texts; how long a repr is -/
namespace DL
open PySem PySem.Spec PyProof.Rows L2
mutual
/-- no sign of a text is beyond what repr writes short -/
def strsS : PyData → Bool
  | .str x => x.cps.toList.all fun c => decide (c < 16 ^ 8)
  | .list xs => strsSL xs
  | .tuple xs => strsSL xs
  | .dict kvs => strsSK kvs
  | _ => true
def strsSL : List PyData → Bool
  | [] => true
  | x :: xs => strsS x && strsSL xs
def strsSK : List (PyData × PyData) → Bool
  | [] => true
  | (k, v) :: r => strsS k && strsS v && strsSK r
end
mutual
theorem leaves_of : ∀ d : PyData, d.showable = true → strsS d = true → d.leavesShort 2000 = true
  | .none, _, _ => rfl
  | .bool _, _, _ => rfl
  | .int i, h, _ => by
    have h : i.natAbs.log2 < 1920 := by simpa [PyData.showable] using h
    have e := int_text_length_le (a := i) (k := 1920) (by decide) h
    unfold PyData.leavesShort
    refine decide_eq_true ?_
    show (Str.ofString (toString i)).length ≤ 2000
    rw [PySem.ofString_length]
    omega
  | .str x, _, h => by
    unfold strsS at h
    unfold PyData.leavesShort
    exact h
  | .list xs, h, g => by
    unfold PyData.showable at h
    unfold strsS at g
    unfold PyData.leavesShort
    exact leaves_ofL xs h g
  | .tuple xs, h, g => by
    unfold PyData.showable at h
    unfold strsS at g
    unfold PyData.leavesShort
    exact leaves_ofL xs h g
  | .dict kvs, h, g => by
    unfold PyData.showable at h
    unfold strsS at g
    unfold PyData.leavesShort
    exact leaves_ofK kvs h g
theorem leaves_ofL : ∀ xs : List PyData, PyData.showableAll xs = true → strsSL xs = true → PyData.leavesShortAll 2000 xs = true
  | [], _, _ => rfl
  | x :: xs, h, g => by
    unfold PyData.showableAll at h
    unfold strsSL at g
    unfold PyData.leavesShortAll
    rw [Bool.and_eq_true] at h g ⊢
    exact ⟨leaves_of x h.1 g.1, leaves_ofL xs h.2 g.2⟩
theorem leaves_ofK : ∀ kvs : List (PyData × PyData), PyData.showableKv kvs = true → strsSK kvs = true → PyData.leavesShortKv 2000 kvs = true
  | [], _, _ => rfl
  | (k, v) :: r, h, g => by
    unfold PyData.showableKv at h
    unfold strsSK at g
    unfold PyData.leavesShortKv
    rw [Bool.and_eq_true, Bool.and_eq_true] at h g ⊢
    exact ⟨⟨leaves_of k h.1.1 g.1.1, leaves_of v h.1.2 g.1.2⟩, leaves_ofK r h.2 g.2⟩
end
/-- repr may be asked of it -/
def chkQ (x : D) : Bool := match toQ x with
  | some p => p.showable && decide (p.depth ≤ 60) && strsS p && decide (p.weight ≤ 8000)
  | none => false
theorem chkQ_of {x : D} (h : chkQ x = true) : ∃ p, toQ x = some p ∧ p.showable = true ∧ p.depth ≤ 60 ∧ p.shown.length ≤ sizeLine := by
  unfold chkQ at h
  split at h
  · rename_i p hp
    simp only [Bool.and_eq_true, decide_eq_true_eq] at h
    obtain ⟨⟨⟨h1, h2⟩, h3⟩, h4⟩ := h
    refine ⟨p, hp, h1, h2, ?_⟩
    have e := PyData.shown_le 2000 (by decide) p (leaves_of p h1 h3)
    have : (2002 * 8000 + 2000 : Nat) ≤ sizeLine := by decide
    have : 2002 * p.weight ≤ 2002 * 8000 := Nat.mul_le_mul_left _ h4
    omega
  · cases h
section
variable {W : Wd} {B : Bs} {F F' H H' : Hp} {σ : L2.St} {ρ : Ev}
def gNeS : D → D → Ev → (Ev → D → Prop) → Prop := fun x y ρ Q => ∃ s t b, x = .str s ∧ y = .str t ∧ b = decide (s = t) ∧ Q ρ (.bl (!b))
theorem dec_str {s t : Str} : decide (V.str s = V.str t) = decide (s = t) := by
  by_cases h : s = t
  · subst h; simp
  · rw [decide_eq_false h, decide_eq_false (fun z => h (V.str.inj z))]
theorem re_neS {ta tb : TE} {a b : DE} (ra : RE W B ta a) (rb : RE W B tb b) : RE W B (tOp rNe ta tb) (fun ρ Q => a ρ fun ρ1 x => b ρ1 fun ρ2 y => gNeS x y ρ2 Q) :=
  re_bin ra rb fun σ H F ρ x y dx dy Q R r d1 d2 h k => by
    obtain ⟨s, t, c, rfl, rfl, hc, h⟩ := h
    have e1 : x = .str s := d1
    have e2 : y = .str t := d2
    subst e1 e2
    refine ⟨rfl, ?_⟩
    rw [dec_str, ← hc]
    exact k (.bl (!c)) H F ρ (.bl (!c)) r (Same.refl _) rfl h
def dPar (i j : Nat) (t : DA) : DS := fun DD ρ => t ρ fun ρ1 ds => match ds with | [x, y] => DD.nx ((ρ1.set i (.v x)).set j (.v y)) | _ => False
theorem rs_par {i j : Nat} {ta : TA} {t : DA} (ra : RA W B ta t) : RS W B (tPar i j ta) (dPar i j t) := by
  intro σ H F ρ D DD rl h f
  refine ra σ H F ρ _ _ rl h fun vs H1 F1 ρ1 ds r1 s1 d1 h1 => ?_
  split at h1
  · obtain ⟨u, v, rfl, du, dv⟩ := den2 d1
    exact ⟨u, v, rfl, f.nx _ _ F1 _ ((r1.setv du).setv dv) s1 h1⟩
  · exact h1.elim
end
end DL

-- part LK1
set_option maxHeartbeats 4000000
/-! x.m(k = v); list(a row); {} as data; how long a repr is -/
namespace DL
open PySem PySem.Spec PyProof.Rows L2
/-- x.m(k = v, ..) -/
def tMethK (C : Addr) (m : Str) (n : Nat) (sp : Sp) (gV : List V → List V → List V) (E : XK) (to : TE) (tk : TA) : TE := fun σ H Q =>
  to σ H fun x H1 => ∃ a dx fs, x = .ref a ∧ H1 a = some (.ins C dx fs) ∧ fs.lookup m = none ∧ tk σ H1 fun zs H2 => zs.length = n ∧ sp (gV [x] zs) H2 Q E
section
variable {X : Cx} {CX : CXT} {k : Nat} {f C : Addr} {fd : FuncData} {ps ks : List Str} {sp : Sp} {E : XK} {m : Str} {o : Expr} {to : TE} {tk : TA} {apos pos : Pos} {kws : List Keyword} {pl : Sem Bool} {g : List Value → List Value → List Value} {gV : List V → List V → List V}
theorem pe_methK0 (ro : PE X o to) (hC : Cls X.K C) (hM : Meth X.K C m f) (F : FnOk X.prog X.w X.K X.mg X.base CX k f fd ps sp) (hr : Room k X.A) (hb : KBn X.K fd ps 1 ks g gV) (hx : Passes CX X E) (rk : PK X kws tk)
    (some_ : (backToKw pos (keywordEach kws X.env)).all (·.1.isSome) = true := by rfl) (names : (backToKw pos (keywordEach kws X.env)).filterMap (·.1) = ks := by rfl)
    (plain_ : ((backTo pos (starEach [] X.env)).any (·.1) || (backToKw pos (keywordEach kws X.env)).any (·.1.isNone)) = false := by rfl)
    (tree : eval (.Call (.Attribute o m apos) [] kws pos) X.env = (do
      let it ← eval o X.env
      standAt apos.atName
      let (g, fst) ← holding [it] (getMethod it m pl)
      callWith pos g fst (backTo pos (starEach [] X.env)) (backToKw pos (keywordEach kws X.env))) := by rfl) :
    PE X (.Call (.Attribute o m apos) [] kws pos) (tMethK C m ks.length sp gV E to tk) := by
  refine ⟨fun pins s σ H Q I h => ?_⟩
  refine PySem.W.methodCall_KW (pl := pl) (thn (ro.run pins s σ H _ I h) fun u s1 hh => ?_) tree
  obtain ⟨x, H1, I1, rx, a, dx, fs, ex, ea, l, q⟩ := hh
  subst ex
  obtain rfl : u = Value.ref a := rx
  refine getmeth_ok I1 ea hC hM l ?_
  refine PySem.W.callWith_KW0 (first := [.ref a]) (h₀ := X.base) I.ok.mod.kin hM.kp some_ ?_ plain_
  refine thn (rk.run pos pins s1 σ H1 _ I1 q) fun ws s2 hh => ?_
  obtain ⟨zs, H2, I2, rz, hl, q2⟩ := hh
  refine ⟨I2.kIn, ?_⟩
  rw [names]
  exact run_fnN (us := [.ref a]) (vs := [.ref a]) F hr hb hx I2 (.cons rfl .nil) rz rfl hl q2
end
/-! ### list(a row) -/
def rListK (K : PySem.W.Frag) : List V → Hp → VK → Prop := fun xs H Q => ∃ p ys, xs = [.ref p] ∧ (SqL K H p ys ∨ SqT K H p ys) ∧ ∀ l, H l = none → Q (.ref l) (upd H l (.lst ys))
theorem call_listK {X : Cx} : CallR X (.type "list") (rListK X.K) := call_list_of
section
variable {W : Wd} {B : Bs} {F F' H H' : Hp} {σ : L2.St} {ρ ρ' : Ev}
theorem re_methK0 {C : Addr} {c m : Str} {n : Nat} {G : GF} {te : TE} {t : DE} {ta : TA} {a : DA} {E : XK} (hc : W.cls c = some C) (re : RE W B te t) (ra : RA W B ta a) :
    RE W B (tMethK C m n (spD W.K W.cls G) (fun us ws => us ++ ws) E te ta) (fun ρ Q => t ρ fun ρ1 x => ∃ ns ds, x = .obj c ns ds ∧ m ∉ ns ∧ a ρ1 fun ρ2 es => es.length = n ∧ G (.obj c ns ds :: es) ρ2.c fun d c' => Q (ρ2.cnt c') d) := by
  intro σ H F ρ Q R rl h k
  refine re σ H F ρ _ _ rl h fun x H1 F1 ρ1 dx r1 s1 d1 h1 => ?_
  obtain ⟨ns, ds, rfl, hm, h1⟩ := h1
  have d1' := d1
  obtain ⟨p, C', dx, gs, ev, hf, hc', hn, hl⟩ := d1
  have : C' = C := Option.some.inj (hc'.symm.trans hc)
  subst this
  refine ⟨p, dx, gs, ev, r1.ex _ _ hf, lookup_none (by rw [hn]; exact hm), ?_⟩
  refine ra σ H1 F1 ρ1 _ _ r1 h1 fun vs H2 F2 ρ2 es r2 s2 d2 h2 => ?_
  refine ⟨by rw [← d2.length]; exact h2.1, ?_⟩
  exact r2.spD (.cons (d1'.mono s2) d2) h2.2 fun v H' F' ρ' d r' s' dv q => k v H' F' ρ' d r' ((s1.trans s2).trans s') dv q
theorem re_listK {ta : TA} {a : DA} (ra : RA W B ta a) : RE W B (tCB (rListK W.K) ta) (fun ρ Q => a ρ fun ρ1 ds => ∃ x xs, ds = [x] ∧ rowOf x = some xs ∧ Q ρ1 (.lst xs)) :=
  re_cb ra (g := fun ds ρ1 Q => ∃ x xs, ds = [x] ∧ rowOf x = some xs ∧ Q ρ1 (.lst xs)) fun σ H F ρ vs ds Q R r d h k => by
    obtain ⟨x, xs, rfl, hx, h⟩ := h
    obtain ⟨v, rfl, hd⟩ := den1 d
    have fin : ∀ (p : Addr) (us : List V), DenL W F xs us → ∀ l, H l = none → R (.ref l) (upd H l (.lst us)) := fun p us hus l hl => by
      have st := Stp.one (o := .lst us) r.ex hl
      exact k _ _ _ ρ (.lst xs) (r.stp st) st.ff ⟨l, us, rfl, .inl (.inl upd_same), hus.mono st.ff⟩ h
    cases x with
    | lst ys =>
      cases hx
      obtain ⟨p, us, rfl, hs, hl⟩ := hd
      exact ⟨p, us, rfl, .inl (same_sqL r.ex hs), fin p us hl⟩
    | tup ys =>
      cases hx
      obtain ⟨p, us, rfl, hs, hl⟩ := hd
      exact ⟨p, us, rfl, .inr (sqT_of r.ex hs), fin p us hl⟩
    | _ => cases hx
theorem ou_listK {x : D} {xs : List D} (hx : rowOf x = some xs) : OpU (fun ds ρ1 (Q : Ev → D → Prop) => ∃ x xs, ds = [x] ∧ rowOf x = some xs ∧ Q ρ1 (.lst xs)) [x] (.lst xs) := fun ρ Q q => ⟨x, xs, rfl, hx, q⟩
/-- {} -/
theorem re_dnewK : RE W B tDNewK (dC (.dik [] [])) := by
  intro σ H F ρ Q R rl h kk p hp
  have st := Stp.one (o := .dK []) rl.ex hp
  exact kk _ _ _ ρ (.dik [] []) (rl.stp st) st.ff ⟨p, [], rfl, upd_same, rfl, rfl⟩ h
/-! ### how long a repr is -/
structure ShwP (p : PyData) (w : Nat) : Prop where
  sh : p.showable = true
  st : strsS p = true
  nd : p.hasDict = false
  wt : p.weight ≤ w
theorem ShwP.mono {p : PyData} {w v : Nat} (h : ShwP p w) (hv : w ≤ v) : ShwP p v := ⟨h.sh, h.st, h.nd, Nat.le_trans h.wt hv⟩
theorem ShwP.int {i : Int} {n : Nat} (h : i.natAbs < 2 ^ n) (hn : n ≤ 1900) : ShwP (.int i) n := by
  have hl : i.natAbs ≠ 0 → i.natAbs.log2 < n := fun h0 => (Nat.log2_lt h0).mpr h
  refine ⟨?_, rfl, rfl, ?_⟩
  · unfold PyData.showable
    refine decide_eq_true ?_
    by_cases h0 : i.natAbs = 0
    · rw [h0]; decide
    · exact Nat.lt_of_lt_of_le (hl h0) (by omega)
  · unfold PyData.weight
    show (if (i == 0) = true then 0 else i.natAbs.log2 + 1) ≤ n
    split
    · omega
    · rename_i h1
      have h1 : i ≠ 0 := fun z => h1 (by rw [z]; rfl)
      exact hl (by omega)
theorem shw_all {w : Nat} : ∀ {l : List PyData}, (∀ p ∈ l, ShwP p w) → PyData.showableAll l = true ∧ strsSL l = true ∧ PyData.hasDictAll l = false ∧ PyData.weightAll l ≤ l.length * (w + 1)
  | [], _ => ⟨rfl, rfl, rfl, Nat.zero_le _⟩
  | p :: l, h => by
    obtain ⟨a1, a2, a3, a4⟩ := shw_all fun q hq => h q (List.mem_cons_of_mem _ hq)
    have h1 := h p (List.mem_cons_self ..)
    have h4 := h1.wt
    refine ⟨?_, ?_, ?_, ?_⟩
    · unfold PyData.showableAll; rw [h1.sh, a1]; rfl
    · unfold strsSL; rw [h1.st, a2]; rfl
    · unfold PyData.hasDictAll; rw [h1.nd, a3]; rfl
    · unfold PyData.weightAll; rw [List.length_cons, Nat.succ_mul]; omega
theorem ShwP.list {w : Nat} {l : List PyData} (h : ∀ p ∈ l, ShwP p w) : ShwP (.list l) (l.length * (w + 1)) := by
  obtain ⟨a1, a2, a3, a4⟩ := shw_all h
  exact ⟨by unfold PyData.showable; exact a1, by unfold strsS; exact a2, by unfold PyData.hasDict; exact a3, by unfold PyData.weight; exact a4⟩
theorem ShwP.tup {w : Nat} {l : List PyData} (h : ∀ p ∈ l, ShwP p w) : ShwP (.tuple l) (l.length * (w + 1)) := by
  obtain ⟨a1, a2, a3, a4⟩ := shw_all h
  exact ⟨by unfold PyData.showable; exact a1, by unfold strsS; exact a2, by unfold PyData.hasDict; exact a3, by unfold PyData.weight; exact a4⟩
theorem ShwP.len {p : PyData} (h : ShwP p 8000) : p.shown.length ≤ sizeLine := by
  have e := PyData.shown_le 2000 (by decide) p (leaves_of p h.sh h.st)
  have : (2002 * 8000 + 2000 : Nat) ≤ sizeLine := by decide
  have : 2002 * p.weight ≤ 2002 * 8000 := Nat.mul_le_mul_left _ h.wt
  omega
theorem ou_repr {x : D} {p : PyData} {xs : List D} (hp : toP x = some p) (hx : x = .lst xs) (h : ShwP p 8000) (hd : p.depth ≤ 60) : OpU (fun ds ρ1 (Q : Ev → D → Prop) => ∃ x p, ds = [x] ∧ toP x = some p ∧ (∃ xs, x = .lst xs ∨ x = .tup xs) ∧ p.showable = true ∧ p.hasDict = false ∧ p.depth ≤ 60 ∧ p.shown.length ≤ sizeLine ∧ Q ρ1 (.str p.shown)) [x] (.str p.shown) :=
  fun ρ Q q => ⟨x, p, rfl, hp, ⟨xs, .inl hx⟩, h.sh, h.nd, hd, h.len, q⟩
theorem ob_neS {s t : Str} : OpB gNeS (.str s) (.str t) (.bl (!decide (s = t))) := fun ρ Q q => ⟨s, t, _, rfl, rfl, rfl, q⟩
end
end DL

-- part DX8
set_option maxHeartbeats 4000000
/-! the end for a law whose def asks for repr and makes lambdas: one table of code objects -/
namespace DL
open PySem PySem.Spec PyProof.Rows L2
abbrev tab0 : Obj := { cls := .none, data := .fields #[] }
/-- what may be tracked where a law begins: the script, the table -/
def OnlyT (H : Hp) (P : Addr) : Prop := H P = some (.tbl #[]) ∧ ∀ b, H b = none ∨ b = P ∨ ∃ o xs, H b = some (.frz o (.lst xs))
section
variable {Pr : Program} {w : World} {K : PySem.W.Frag} {mg mb : Str → Option Value} {k : Nat} {fa a c P : Addr} {fd : FuncData} {x : Str} {sp : Sp} {s₁ : Shared} {vs : List Value} {ns : List Int}
theorem law_coreT (inK : K.In s₁.heap) (gl : s₁.heap.Ns mainGlobals mg) (bl : s₁.heap.Ns builtinsNs mb) (bb : ∀ x : Str, x ≠ "__name__" → mb x = bootBuiltins x) (lim : s₁.heap.NoLimit) (hg : s₁.gens = #[])
    (tb : s₁.heap.get? P = some tab0) (nT : K.lookup P = none) (C : PySem.W.CodeHd s₁.heap c P)
    (bmain : ∃ (bm : Addr) (ob : Obj), mg "__builtins__" = some (.ref bm) ∧ bm ≠ builtinsNs ∧ s₁.heap.get? bm = some ob ∧ ob.cls = .type "module" ∧ ob.dict = some builtinsNs ∧ ob.data = .plain)
    (ha : s₁.heap.get? a = some { cls := .type "list", data := .seq vs.toArray }) (hr : Room k callerA)
    (F : ∀ base : Heap, K.In base → base.Ns mainGlobals mg → LamX.TabB base mg c P → FnG Pr w K mg base CX0 k fa fd [x] sp) (bind : ∀ (s : Shared) (u : Value), BindsTo s fd ⟨[u], []⟩ [(x, u)])
    (H : Hp) (only : OnlyT H P) (hok : HOk Pr w H s₁.heap) (hA : ∀ b, H b ≠ none → b = a ∨ b = P) (hK : H a ≠ none → K.lookup a = none) (law : sp [.ref a] H (fun v _ => v = .bl true) fun _ _ _ => False) :
    codeAny (model Pr w) callerA (.call (.ref fa) ⟨[.ref a], []⟩) (fun r s' => r = .ok (.ret (.bool true)) ∧ OldK s₁.heap s'.heap ∧ s'.os = s₁.os ∧ AllBare s'.gens) s₁ := by
  obtain ⟨tbP, one⟩ := only
  have off : ∀ {b : Addr} {o : Obj}, s₁.heap.get? b = some o → (∀ u m, o.data ≠ .seq u m) → o.data ≠ .fields #[] → H b = none := fun {b o} e h1 h2 => by
    cases q : H b with
    | none => rfl
    | some u =>
      rcases hA b (by rw [q]; exact fun z => nomatch z) with z | z
      · rw [z, ha] at e; cases e; exact absurd rfl (h1 _ _)
      · rw [z, tb] at e; cases e; exact absurd rfl h2
  have to0 : ∀ {b : Addr} {o : Obj}, s₁.heap.get? b = some o → (∀ u m, o.data ≠ .seq u m) → o.data ≠ .fields #[] → (hidT s₁.heap H).get? b = some o := fun e h1 h2 => hidT_get e (off e h1 h2)
  have ns0 : ∀ {b : Addr} {m : Str → Option Value}, s₁.heap.Ns b m → (hidT s₁.heap H).Ns b m := fun {b m} ⟨o, es, ep, e, d, r⟩ =>
    ⟨o, es, ep, to0 e (fun u m z => by rw [d] at z; cases z) (fun z => by rw [d] at z; cases z), d, r⟩
  have in0 : K.In (hidT s₁.heap H) := fun b o e => hidT_get (inK b o e) (by
    cases q : H b with
    | none => rfl
    | some u =>
      rcases hA b (by rw [q]; exact fun z => nomatch z) with z | z
      · rw [z] at q e
        rw [hK (by rw [q]; exact fun z => nomatch z)] at e; cases e
      · rw [z, nT] at e; cases e)
  have tab : LamX.TabB (hidT s₁.heap H) mg c P := by
    refine ⟨?_, ?_, fun z => ?_⟩
    · obtain ⟨o, us, fl, tf, fg, tg, inF, tx, tt, e1, r1, r2, r3, rest⟩ := C
      refine ⟨o, us, fl, tf, fg, tg, inF, tx, tt, to0 e1 (fun u m z => by rw [r2] at z; cases z) (fun z => ?_), r1, r2, r3, rest⟩
      rw [r2] at z
      cases z
      simp at r3
    · obtain ⟨bm, ob, b1, b2, b3, b4, b5, b6⟩ := bmain
      refine ⟨bm, ob, b1, b2, fun q => ?_, fun q => ?_, to0 b3 (fun u m z => by rw [b6] at z; cases z) (fun z => by rw [b6] at z; cases z), b4, b5, b6⟩
      · obtain ⟨o, es, ep, e, hd, _⟩ := gl
        rw [q, e] at b3; cases b3
        rw [hd] at b6; cases b6
      · rw [q, tb] at b3; cases b3; cases b6
    · obtain ⟨o, es, ep, e, hd, _⟩ := gl
      rw [z, tb] at e; cases e; cases hd
  obtain ⟨mc, l1, l2⟩ := lim
  have e0 : Env0 Pr w K mg (hidT s₁.heap H) callerA [] s₁ H := ⟨rfl, ⟨in0, ns0 gl, ⟨mb, ns0 bl, bb⟩, ⟨mc, ns0 l1, l2⟩⟩, fun b o e => of_hidT e, Nat.le_of_eq (hidT_size _ _), trivial, (fun b hb => nomatch hb), hok, .of_eq hg⟩
  refine codeAny_mono ((F _ in0 (ns0 gl) tab).run callerA hr rfl [] s₁ H ⟨[.ref a], []⟩ [.ref a] [.ref a] _ _ e0 (bind s₁ (.ref a)) (.cons rfl .nil) law) fun r s' h => ?_
  match r, h with
  | .ok (.ret u), ⟨v, H', os, bare, un, hok', r', q⟩ =>
    have q : v = .bl true := q
    subst q
    obtain rfl : u = Value.bool true := r'
    have rest : ∀ b o, b ≠ P → s₁.heap.get? b = some o → s'.heap.get? b = some o := fun b o hb e => by
      rcases one b with q | q | ⟨ob, xs, q⟩
      · exact un.keep b o e q (fun z => nomatch z) (fun z => nomatch z)
      · exact absurd q hb
      · have e1 := (hok b _ q).1
        have e2 := (hok' b _ (un.frzs b ob _ q)).1
        rw [e] at e1; cases e1
        exact e2
    obtain ⟨more, grown⟩ := un.tbls P #[] tbP
    have at1 : s'.heap.get? P = some { cls := .none, data := .fields (#[] ++ more) } := hok' P _ grown
    refine ⟨rfl, ⟨fun b o e => ?_, fun b o e => ?_⟩, os, bare⟩
    · by_cases hb : b = P
      · subst hb
        rw [tb] at e
        cases e
        exact .inr (.inl ⟨(C.tab tb).isCodeTable, rfl, #[], more, rfl, at1⟩)
      · exact .inl (rest b o hb e)
    · by_cases hb : b = P
      · subst hb; exact ⟨_, at1⟩
      · exact ⟨o, rest b o hb e⟩
theorem law_callT (inK : K.In s₁.heap) (gl : s₁.heap.Ns mainGlobals mg) (bl : s₁.heap.Ns builtinsNs mb) (bb : ∀ x : Str, x ≠ "__name__" → mb x = bootBuiltins x) (lim : s₁.heap.NoLimit) (hg : s₁.gens = #[])
    (tb : s₁.heap.get? P = some tab0) (nT : K.lookup P = none) (C : PySem.W.CodeHd s₁.heap c P)
    (bmain : ∃ (bm : Addr) (ob : Obj), mg "__builtins__" = some (.ref bm) ∧ bm ≠ builtinsNs ∧ s₁.heap.get? bm = some ob ∧ ob.cls = .type "module" ∧ ob.dict = some builtinsNs ∧ ob.data = .plain)
    (ha : s₁.heap.get? a = some { cls := .type "list", data := .seq vs.toArray }) (hi : IntsAre vs ns) (hl : ns.length ≤ sizeLine) (hr : Room k callerA)
    (F : ∀ base : Heap, K.In base → base.Ns mainGlobals mg → LamX.TabB base mg c P → FnG Pr w K mg base CX0 k fa fd [x] sp) (bind : ∀ (s : Shared) (u : Value), BindsTo s fd ⟨[u], []⟩ [(x, u)])
    (law : ∀ H : Hp, OnlyT H P → SqL K H a (ns.map V.int) → sp [.ref a] H (fun v _ => v = .bl true) fun _ _ _ => False) :
    codeAny (model Pr w) callerA (.call (.ref fa) ⟨[.ref a], []⟩) (fun r s' => r = .ok (.ret (.bool true)) ∧ OldK s₁.heap s'.heap ∧ s'.os = s₁.os ∧ AllBare s'.gens) s₁ := by
  have rv := vals_ints hi
  have nPa : P ≠ a := fun z => by rw [z, ha] at tb; cases tb
  cases hk : K.lookup a with
  | some o =>
    have e := inK a o hk
    rw [ha] at e
    cases e
    obtain ⟨H, hH⟩ : ∃ H : Hp, H = fun b => if b = P then some (.tbl #[]) else none := ⟨_, rfl⟩
    have at_ : H P = some (.tbl #[]) := by rw [hH]; exact if_pos rfl
    have off : ∀ b, b ≠ P → H b = none := fun b hb => by rw [hH]; exact if_neg hb
    have only : OnlyT H P := ⟨at_, fun b => by
      by_cases hb : b = P
      · exact .inr (.inl hb)
      · exact .inl (off b hb)⟩
    refine law_coreT inK gl bl bb lim hg tb nT C bmain ha hr F bind H only (fun b u z => ?_) (fun b z => ?_) (fun z => absurd (off a fun q => nPa q.symm) z) (law _ only (.inr ⟨_, vs.toArray, _, hk, rfl, rfl, rfl, by rw [List.size_toArray, hi.length]; exact hl, by simpa using rv⟩))
    · by_cases hb : b = P
      · subst hb; rw [at_] at z; cases z; exact tb
      · rw [off b hb] at z; cases z
    · by_cases hb : b = P
      · exact .inr hb
      · exact absurd (off b hb) z
  | none =>
    obtain ⟨H, hH⟩ : ∃ H : Hp, H = fun b => if b = a then some (.frz { cls := .type "list", data := .seq vs.toArray } (.lst (ns.map V.int))) else if b = P then some (.tbl #[]) else none := ⟨_, rfl⟩
    have at_ : H a = some (.frz { cls := .type "list", data := .seq vs.toArray } (.lst (ns.map V.int))) := by rw [hH]; exact if_pos rfl
    have atP : H P = some (.tbl #[]) := by rw [hH]; exact (if_neg nPa).trans (if_pos rfl)
    have off : ∀ b, b ≠ a → b ≠ P → H b = none := fun b h1 h2 => by rw [hH]; exact (if_neg h1).trans (if_neg h2)
    have only : OnlyT H P := ⟨atP, fun b => by
      by_cases hb : b = P
      · exact .inr (.inl hb)
      · by_cases hc : b = a
        · rw [hc]; exact .inr (.inr ⟨_, _, at_⟩)
        · exact .inl (off b hc hb)⟩
    refine law_coreT inK gl bl bb lim hg tb nT C bmain ha hr F bind H only (fun b u z => ?_) (fun b z => ?_) (fun _ => hk) (law _ only (.inl (.inr ⟨_, at_⟩)))
    · by_cases hb : b = a
      · subst hb
        rw [at_] at z
        cases z
        exact ⟨ha, by rw [List.length_map]; exact hl, vs, _, rv, ha⟩
      · by_cases hc : b = P
        · subst hc; rw [atP] at z; cases z; exact tb
        · rw [off b hb hc] at z; cases z
    · by_cases hb : b = a
      · exact .inl hb
      · by_cases hc : b = P
        · exact .inr hc
        · exact absurd (off b hb hc) z
end
/-- what is known of the law's promise where it is called -/
def LawAtT (l : PySem.W.OpenLaw) (w : World) (K : PySem.W.Frag) (k n : Nat) (x nm : Str) (mg : Str → Option Value) (fa : Addr) : Prop :=
  ∃ (fd : FuncData) (c P : Addr) (sp : Sp), PySem.W.tabIn K nm = some (c, P) ∧ K.lookup P = none ∧ (∀ (s : Shared) (u : Value), BindsTo s fd ⟨[u], []⟩ [(x, u)]) ∧
    (∀ (H : Hp) (a : Addr) (ns : List Int), ns.length ≤ n → OnlyT H P → SqL K H a (ns.map V.int) → sp [.ref a] H (fun v _ => v = .bl true) fun _ _ _ => False) ∧
    ∀ base : Heap, K.In base → base.Ns mainGlobals mg → LamX.TabB base mg c P → FnG l.prog w K mg base CX0 k fa fd [x] sp
theorem walk_ofT {l : PySem.W.OpenLaw} {n k : Nat} {q : Program} {loose : List Str} {XP : (Str → Option Value) → Heap → Prop} {YP : World → Heap → Prop} {d : PySem.DefRec} {K : Params → PySem.W.Frag} {x : Str}
    (hn : l.most = some n) (hn2 : n ≤ sizeLine) (hdf : d.params.defaults = []) (hr : Room k callerA) (hrec : (recsOf q).find? (fun e => e.name == d.name) = some d) (hY : ∀ (w : World) (h : Heap), YP w h → (K w.params).In h)
    (F : ∀ (w : World) (mg : Str → Option Value) (fa : Addr) (h : Heap), (K w.params).In h → h.Ns mainGlobals mg → mg d.name = some (.ref fa) → LawAtT l w (K w.params) k n x d.name mg fa) :
    PySem.W.WalkO q loose XP YP l.row.toRowW d [] (fun f vs => PySem.call f vs) := by
  refine Att.attach_callB hn hdf fun w s₀ s₁ mg mb fa o pm cd doc a vs ns G Y ho hd hcd hmg hobj hints hlen hbits hg => ?_
  have inK := hY w _ Y
  obtain ⟨fd, c, P, sp, ht, nT, hb, hsp, hF⟩ := F w mg fa _ inK G.T.g hmg
  obtain ⟨C, tb⟩ := PySem.W.tab_of G.T inK hrec ht
  exact law_callT inK G.T.g G.T.b G.T.builtins G.T.nolimit hg tb nT C G.T.bmain hobj hints (Nat.le_trans hlen hn2) hr hF hb fun H hO hS => hsp H a ns hlen hO hS
end DL

-- part LK2
set_option maxHeartbeats 4000000
/-! a law's def that makes lambdas and asks for repr; how lambdas bind; runs of methods and makers -/
namespace DL
open PySem PySem.Spec PyProof.Rows L2
section
variable {P : Program} {w : World} {K : PySem.W.Frag} {mg : Str → Option Value} {base : Heap} {k : Nat} {f : Addr} {N ps : List Str} {sp : Sp}
/-- okG, the def's code known -/
theorem okGC {x qual : Str} {st : Stmt} {fd : FuncData} (F : Fun K x qual st f fd) (S : FnScope N ps (defScope st)) (len : ∀ vs H Q E, sp vs H Q E → vs.length = ps.length)
    (hbody : ∀ (A : Around) (outer : List Env) (s : Shared) (H : Hp) (vs : List V) (Q : VK) (E : XK), Room k (A.deeper (envOfC qual (defScope st) s.heap.objs.size f fd.code)) → A.guards = some [] → sp vs H Q E →
      ∃ t, PSs (cxOf CX0 P w K mg base N qual (defScope st) f fd.code A outer s H E).nox (defBody st) t ∧ t { nx := fun _ H' => Q .non H', rt := Q } (start N vs) H) : FnG P w K mg base CX0 (k + 1) f fd ps sp := by
  obtain ⟨oc, od, kV, doc, pm, an, cdv, ct, osl, rfl, lk, hcd⟩ := F.ex
  refine ⟨len, fun A hr hg outer s H args us vs Q E e0 hb r hsp => ?_⟩
  have inK : K.In s.heap := e0.mod.kin.keeps fun b o e => (e0.bs b o e).1
  have noLim : s.heap.NoLimit := e0.mod.nolimit.keeps fun b o e => (e0.bs b o e).1
  have kinds : ∀ y ∈ ps.zip us, (defScope st).names.lookup y.1 = some .local ∨ ((defScope st).names.lookup y.1 = some .cell ∧ ((cellsFrom (s.heap.objs.size + 1) (defScope st).names []).lookup y.1).isSome = true) := fun y hy =>
    (S.par y.1 (List.of_mem_zip hy).1).imp id fun q => ⟨q, PySem.W.cellsFrom_some _ _ _ (.inl q)⟩
  refine codeAny_call_function hr.depth (inK _ _ lk) rfl S.co S.gen rfl (PySem.W.codeRec_of inK hcd) (hb _ _ _ _ (wpAny_newFunctionEnv_cells S.kind kinds fun env he s1 x => ?_))
  subst he
  refine ⟨noLim.keeps x.toInCall.keep, codeAny_func ?_⟩
  obtain ⟨t, ht, hq⟩ := hbody A outer s H vs Q E (hr.deeper _) hg hsp
  have I : Inv (cxOf CX0 P w K mg base N qual (defScope st) f cdv A outer s H E) [] (start N vs) H s1 := inv_start S hr.hd e0 (len _ _ _ _ hsp) r x
  refine wpAny_mono (ht.nox.run [] s1 (start N vs) H _ I hq) (fun fl s' hs => ?_) fun e s' hs => hs
  cases fl with
  | ret u =>
    obtain ⟨v, σ', H', J, rv, q⟩ := hs
    exact ⟨v, H', J.os, J.bare, J.base, J.hok, rv, q⟩
  | next =>
    obtain ⟨σ', H', J, q⟩ := hs
    exact ⟨V.non, H', J.os, J.bare, J.base, J.hok, rfl, q⟩
  | brk =>
    obtain ⟨_, _, _, q⟩ := hs
    exact q.elim
  | cont =>
    obtain ⟨_, _, _, q⟩ := hs
    exact q.elim
end
def spLawT (K : PySem.W.Frag) (P : Addr) : Sp := fun vs H Q _ => ∃ (a : Addr) (ns : List Int), vs = [.ref a] ∧ SqL K H a (ns.map V.int) ∧ ns.length ≤ 63 ∧ OnlyT H P ∧ ∀ H', Q (.bl true) H'
/-! how lambdas bind -/
theorem bindL0 {q : Str} {params : Arguments} {body : Expr} {scope : Scope} {a : Str} (h : ∀ cl pm cv ctv, bindArgs (lfn q params body scope cl pm cv ctv .none) ⟨[], []⟩ = pure [] := by exact fun _ _ _ _ => rfl) : BindL q params body scope none a := fun cl pm cv ctv dV h1 H hd s _ => ⟨[], rfl, by
  obtain rfl : dV = .none := hd
  exact .of_eq (h cl pm cv ctv)⟩
theorem bindL1 {q : Str} {params : Arguments} {body : Expr} {scope : Scope} {a : Str} {i : Int} (h : ∀ cl pm cv ctv T, ∃ k : Option (Array Value) → Sem (List (Str × Value)), bindArgs (lfn q params body scope cl pm cv ctv (.ref T)) ⟨[], []⟩ = seqItems? (.ref T) >>= k ∧ ∀ t, k (some #[.int i t]) = pure [(a, .int i t)]) : BindL q params body scope (some i) a := fun cl pm cv ctv dV h1 H hd s hs => by
  obtain ⟨T, t, rfl, _, ht⟩ := hd
  obtain ⟨k, e1, e2⟩ := h cl pm cv ctv T
  refine ⟨[.int i t], rfl, ?_⟩
  subst hs
  exact BindsTo.of_defaults rfl ht rfl e1 (e2 t)
/-- what a callee of a lambda's body raises goes on -/
theorem pass_lam {X : Cx} {A : Around} {outer : List Env} {s : Shared} {H : Hp} {E : XK} {scope : Scope} {f c' : Addr} : Passes (L2.CX X.prog X.w) (LamX.lamCx X A outer s H E scope f c') E := L2.passes_call (L2.takes_of rfl rfl rfl rfl) (fun _ _ _ _ h => h)
/-! runs -/
section
variable {ρ ρ' ρ1 : Ev}
theorem RnE.meth {c m : Str} {G : GF} {t : DE} {a : DA} {ns : List Str} {ds es : List D} {d : D} (h : RnE t ρ ρ1 (.obj c ns ds)) (hm : m ∉ ns) (k : RnA a ρ1 ρ' es) (o : OpF G (.obj c ns ds :: es) d) : RnE (dMeth c m G t a) ρ ρ' d := fun Q q => h _ ⟨rfl, hm, k _ (o _ _ q)⟩
theorem RnE.methK {c m : Str} {G : GF} {t : DE} {a : DA} {n : Nat} {ns : List Str} {ds es : List D} {d : D} (h : RnE t ρ ρ1 (.obj c ns ds)) (hm : m ∉ ns) (k : RnA a ρ1 ρ' es) (hl : es.length = n) (o : OpF G (.obj c ns ds :: es) d) :
    RnE (fun ρ Q => t ρ fun ρ1 x => ∃ ns ds, x = .obj c ns ds ∧ m ∉ ns ∧ a ρ1 fun ρ2 es => es.length = n ∧ G (.obj c ns ds :: es) ρ2.c fun d c' => Q (ρ2.cnt c') d) ρ ρ' d := fun Q q => h _ ⟨ns, ds, rfl, hm, k _ ⟨hl, o _ _ q⟩⟩
theorem RnE.repC {a : DA} {n : Nat} {ds : List D} (h : RnA a ρ ρ' ds) (hn : n ≤ 1000) (hl : ds.length ≤ 10) : RnE (fun ρ Q => a ρ fun ρ1 ds => n ≤ 1000 ∧ ds.length ≤ 10 ∧ Q ρ1 (.lst (List.replicate n ds).flatten)) ρ ρ' (.lst (List.replicate n ds).flatten) := fun Q q => h _ ⟨hn, hl, q⟩
theorem RnE.revL {t : DE} {xs : List D} (h : RnE t ρ ρ' (.lst xs)) : RnE (fun ρ Q => t ρ fun ρ1 x => ∃ xs, x = .lst xs ∧ Q ρ1 (.lst xs.reverse)) ρ ρ' (.lst xs.reverse) := fun Q q => h _ ⟨xs, rfl, q⟩
theorem ob_cat {xs ys : List D} (h : xs.length + ys.length ≤ sizeLine) : OpB gCat (.lst xs) (.lst ys) (.lst (xs ++ ys)) := fun ρ Q q => ⟨h, q⟩
theorem ob_catT {xs ys : List D} (h0 : xs ≠ []) (h : xs.length + ys.length ≤ sizeLine) : OpB gCatT (.tup xs) (.tup ys) (.tup (xs ++ ys)) := fun ρ Q q => ⟨h0, h, q⟩
theorem ob_repT {xs : List D} {n : Nat} (h0 : xs ≠ []) (hn : n ≤ 1000) (hl : xs.length ≤ 1000) : OpB gRepT (.tup xs) (.int (n : Nat)) (.tup (List.replicate n xs).flatten) := fun ρ Q q => ⟨xs, n, rfl, rfl, h0, hn, hl, q⟩
end
end DL

-- part K08Q
set_option maxHeartbeats 4000000
/-! K08: what the law's statements tell: runs, menus, sizes -/
namespace DL
namespace K08
open PySem PySem.Spec PyProof.Rows L2
section
variable {ρ ρ' ρ1 : Ev} {m m' : Nat} {l l' : List Trm}
theorem dt {w v : Nat} {Q : Ev → D → Prop} (hw : ρ.sl[w]? = some (.v .well)) (hv : ρ.sl[v]? = some (.v (.int (m : Nat)))) (hm : m ≤ 6) (hc : ρ.c + 50 ≤ 1048576) (k : ∀ (l : List Trm) (c' : Nat), c' ≤ ρ.c + 50 → l.length ≤ 12 → TOk m l → Q (ρ.cnt c') (.lst (l.map trmD))) : dCall gTerms (dCons (dVar w) (dCons (dVar v) dNil)) ρ Q :=
  RnA.cons (RnE.var hw) (RnA.one (RnE.var hv)) _ ⟨m, rfl, hm, hc, k⟩
theorem tok_okL (h : TOk m l) (hl : l.length ≤ 1000) : OkL m l := ⟨hl, fun t ht => ⟨(h t ht).1, (h t ht).2.1⟩⟩
theorem op_ord (h : l.length ≤ 1000) : OpF gOrd [.lst (l.map trmD)] (.tup ((norm l).map trmD)) := fun c Q q => ⟨l, rfl, h, q⟩
theorem RnE.neC {a b : DE} (h : RnE a ρ ρ1 (polD m l)) (k : RnE b ρ1 ρ' (polD m' l')) : RnE (fun ρ Q => a ρ fun ρ1 x => b ρ1 fun ρ2 y => (∃ ns ds, x = .obj "Poly" ns ds) ∧ isOTC "Poly" y ∧ gEqP [x, y] ρ2.c fun d c' => ∃ z, d = .bl z ∧ Q (ρ2.cnt c') (.bl (!z))) ρ ρ' (.bl (!decide ((m, l) = (m', l')))) :=
  fun Q q => h _ (k _ ⟨⟨_, _, rfl⟩, rfl, m, l, _, rfl, .inr ⟨m', l', rfl, _, rfl, q⟩⟩)
theorem RnE.eqC {a b : DE} (h : RnE a ρ ρ1 (polD m l)) (k : RnE b ρ1 ρ' (polD m' l')) : RnE (fun ρ Q => a ρ fun ρ1 x => b ρ1 fun ρ2 y => (∃ ns ds, x = .obj "Poly" ns ds) ∧ isOTC "Poly" y ∧ gEqP [x, y] ρ2.c fun d c' => Q (ρ2.cnt c') d) ρ ρ' (.bl (decide ((m, l) = (m', l')))) :=
  fun Q q => h _ (k _ ⟨⟨_, _, rfl⟩, rfl, m, l, _, rfl, .inr ⟨m', l', rfl, q⟩⟩)
theorem RnE.eqCT {a b : DE} {ys : List D} (h : RnE a ρ ρ1 (polD m l)) (k : RnE b ρ1 ρ' (.tup ys)) : RnE (fun ρ Q => a ρ fun ρ1 x => b ρ1 fun ρ2 y => (∃ ns ds, x = .obj "Poly" ns ds) ∧ isOTC "Poly" y ∧ gEqP [x, y] ρ2.c fun d c' => Q (ρ2.cnt c') d) ρ ρ' (.bl false) :=
  fun Q q => h _ (k _ ⟨⟨_, _, rfl⟩, trivial, m, l, _, rfl, .inl ⟨⟨_, rfl⟩, q⟩⟩)
theorem RnE.pol {a : DA} {x : D} (h : RnA a ρ ρ' [.int (m : Nat), x]) (hm : m ≤ 6) (hx : RowT x l) (hl : OkL m l) : RnE (dMakeI "Poly" gPoly a) ρ ρ' (polD m (norm l)) := RnE.make h fun QD q => ⟨m, x, l, rfl, rfl, hm, hx, hl, q⟩
theorem RnE.polK {a : DA} {x : D} (h : RnA a ρ ρ' [x, .int (m : Nat)]) (hm : m ≤ 6) (hx : RowT x l) (hl : OkL m l) : RnE (fun ρ Q => a ρ fun ρ1 ds => ds.length = 2 ∧ gPoly "Poly" (List.reverse ds) ρ1.c fun ns es c' => Q (ρ1.cnt c') (.obj "Poly" ns es)) ρ ρ' (polD m (norm l)) :=
  fun Q q => h _ ⟨rfl, m, x, l, rfl, rfl, hm, hx, hl, q⟩
theorem RnE.saidM {a : DA} {G : GX} {ds : List D} {i : Nat} {p : Str} (h : RnA a ρ ρ' ds) (hi : i < 4) (g : ∀ x c XD, XD i p c → G (.opq (.ref x) :: ds) c XD) :
    RnE (fun ρ Q => (fun ρ QX => a ρ fun ρ1 ds => ∀ x, G (.opq (.ref x) :: ds) ρ1.c fun i p c' => QX (ρ1.cnt c') i p) ρ fun ρ1 i p => i < 4 ∧ Q ρ1 (.tup [.str (kindW i), .str p])) ρ ρ' (.tup [.str (kindW i), .str p]) := fun Q q => h _ fun x => g x _ _ ⟨hi, q⟩
theorem RnE.saidO {c mt : Str} {t : DE} {a : DA} {G : GX} {ns : List Str} {ds es : List D} {i : Nat} {p : Str} (h : RnE t ρ ρ1 (.obj c ns ds)) (hm : mt ∉ ns) (k : RnA a ρ1 ρ' es) (hi : i < 4) (g : ∀ n XD, XD i p n → G (.obj c ns ds :: es) n XD) :
    RnE (fun ρ Q => (fun ρ QX => t ρ fun ρ1 x => ∃ ns ds, x = .obj c ns ds ∧ mt ∉ ns ∧ a ρ1 fun ρ2 es => G (.obj c ns ds :: es) ρ2.c fun i p c' => QX (ρ2.cnt c') i p) ρ fun ρ1 i p => i < 4 ∧ Q ρ1 (.tup [.str (kindW i), .str p])) ρ ρ' (.tup [.str (kindW i), .str p]) := fun Q q => h _ ⟨ns, ds, rfl, hm, k _ (g _ _ ⟨hi, q⟩)⟩
theorem nums_run {b : DE} {xs : List Int} {Q : Ev → D → Prop} (h1 : ρ.sl[1]? = some (.v .well)) (h3 : ρ.sl[3]? = some (.v (.int (m : Nat)))) (hm : m ≤ 6) (n19 : noOwn ρ [19] = true) (hc : ρ.c + 6 ≤ 1048576) (hlen : ρ.sl.length = 20) (hb : ∀ ρ1, RnE b ρ1 ρ1 (.lst (xs.map .int))) (h0 : 0 < xs.length) (hl : xs.length ≤ 100)
    (k : ∀ ns : List Int, ns.length = m → (∀ n ∈ ns, n ∈ xs) → Q (ρ.cnt (ρ.c + m)) (.lst (ns.map .int))) : dLc (dRng1 (dCons (dVar 3) dNil)) (dgName 19) dYes (dCall gOne (dCons (dVar 1) (dCons b dNil))) [19] ρ Q := by
  unfold dLc dRng1
  refine RnA.one (RnE.var h3) _ ⟨⟨by omega, by omega⟩, n19, ?_⟩
  rw [Int.toNat_natCast]
  refine lc_inv (fun k c acc => c = ρ.c + k ∧ ∃ ns : List Int, acc = ns.map .int ∧ ns.length = k ∧ ∀ n ∈ ns, n ∈ xs) (fun k d acc c T U hd hI hT hU => ?_) (fun k c acc hk hI => ?_) ⟨rfl, [], rfl, rfl, fun n hn => nomatch hn⟩ (fun c acc hI => ?_)
  · obtain ⟨rfl, ns, rfl, hn, hx⟩ := hI
    have hk : k < m := by
      rcases Nat.lt_or_ge k m with h | h
      · exact h
      · rw [List.getElem?_eq_none (by rw [intsD_length]; exact h)] at hd; cases hd
    refine RnG.name _ ?_
    have w1 : (((ρ.cnt (ρ.c + k)).wipe [19]).set 19 (.v d)).sl[1]? = some (.v .well) := agr_at ((Agr.wipe (ρ := ρ) (c := ρ.c + k) (vs := [19])).put (by decide)) (by decide) h1
    refine dr1 w1 (hb _) (by rw [List.length_map]; exact h0) (by rw [List.length_map]; omega) (by show ρ.c + k < _; omega) fun y hy => ?_
    obtain ⟨n, hn1, rfl⟩ := List.mem_map.mp hy
    refine hT _ _ (((Agr.wipe (ρ := ρ) (c := ρ.c + k) (vs := [19])).put (by decide))) ⟨rfl, ns ++ [n], by rw [List.map_append]; rfl, by rw [List.length_append, hn]; rfl, fun z hz => ?_⟩
    rcases List.mem_append.mp hz with h | h
    · exact hx z h
    · rw [List.mem_singleton.mp h]; exact hn1
  · obtain ⟨rfl, ns, rfl, hn, hx⟩ := hI
    rw [intsD_length] at hk
    rw [List.length_map, hn, sizeLine_eq]; omega
  · obtain ⟨rfl, ns, rfl, hn, hx⟩ := hI
    rw [intsD_length] at hn ⊢
    exact k ns hn hx
end
/-! menus -/
def trmL (t : Trm) : D := .lst [.int t.1, .lst (t.2.map nat)]
def menuT (l : List Trm) : List D := [.lst (l.map trmD), .tup (l.map trmD), .lst (l.map trmL)]
theorem menuT_row {l : List Trm} {d : D} (h : d ∈ menuT l) : RowT d l := by
  simp only [menuT, List.mem_cons, List.not_mem_nil, or_false] at h
  rcases h with rfl | rfl | rfl
  · exact rowT_lst l
  · exact rowT_tup l
  · exact ⟨trmL, rfl, fun t _ => ⟨.lst (t.2.map nat), rfl, rfl⟩⟩
def menuN : List D := [.non, .int (-1), .int 7, .bl true, .str "2", .tup [.int 1]]
theorem menuN_ok : ∀ d ∈ menuN, plain d = true ∧ within d 0 6 = false := by
  intro d h
  simp only [menuN, List.mem_cons, List.not_mem_nil, or_false] at h
  rcases h with rfl | rfl | rfl | rfl | rfl | rfl <;> exact ⟨rfl, rfl⟩
def zs (m : Nat) : List D := List.replicate m (.int 0)
theorem flat1 {α : Type} (x : α) : ∀ n : Nat, (List.replicate n [x]).flatten = List.replicate n x
  | 0 => rfl
  | n + 1 => by rw [List.replicate_succ, List.replicate_succ, List.flatten_cons, flat1 x n]; rfl
def someD (m : Nat) : List D := [.non, .int 5, .lst [.int 5], .lst [.tup [.int 1]], .dik [] [], .lst [.tup [.tup (zs m), .int 1]]]
def moreD (m : Nat) : List D := [.lst [.tup [.int 1, .tup (zs (m + 1))]], .lst [.tup [.bl true, .tup (zs m)]], .lst [.tup [.str "1", .tup (zs m)]], .lst [.tup [.int 1, .tup (zs m), .int 0]]]
def farD (m : Nat) : List D := [.lst [.tup [.int 1, .tup (.int 4 :: zs (m - 1))]], .lst [.tup [.int 1, .tup (.int (-1) :: zs (m - 1))]], .lst [.tup [.int 1, .tup (.bl true :: zs (m - 1))]]]
theorem bad_all : ∀ m < 7, ((someD m ++ moreD m).all fun d => deep 3 d && !areT d m) = true := by decide +kernel
theorem far_all : ∀ m < 7, 0 < m → ((farD m).all fun d => deep 3 d && !areT d m) = true := by decide +kernel
theorem bad_ok {m : Nat} (hm : m ≤ 6) {d : D} (h : d ∈ someD m ++ moreD m) : deep 3 d = true ∧ areT d m = false := by
  have h1 := List.all_eq_true.mp (bad_all m (by omega)) d h
  rw [Bool.and_eq_true, Bool.not_eq_true'] at h1
  exact h1
theorem far_ok {m : Nat} (hm : m ≤ 6) (h0 : 0 < m) {d : D} (h : d ∈ farD m) : deep 3 d = true ∧ areT d m = false := by
  have h1 := List.all_eq_true.mp (far_all m (by omega) h0) d h
  rw [Bool.and_eq_true, Bool.not_eq_true'] at h1
  exact h1
theorem far0_ok : deep 3 (.lst [.tup [.int 1, .int 0]]) = true ∧ areT (.lst [.tup [.int 1, .int 0]]) (0 : Nat) = false := by decide +kernel
theorem init_none {d : D} (h : d ∈ menuN) (x : D) (v : D) (c : Nat) (XD : Nat → Str → Nat → Prop) (q : XD 2 "many" c) : gInitX [v, d, x] c XD := ⟨v, d, x, rfl, .inl ⟨(menuN_ok d h).1, (menuN_ok d h).2, q⟩⟩
theorem within_m {m : Nat} (hm : m ≤ 6) : within (.int (m : Nat)) 0 6 = true := by
  show (decide ((0 : Int) ≤ m) && decide ((m : Int) ≤ 6)) = true
  rw [decide_eq_true (by omega), decide_eq_true (by omega)]; rfl
theorem init_bad {m : Nat} (hm : m ≤ 6) {x : D} (h : deep 3 x = true ∧ areT x m = false) (v : D) (c : Nat) (XD : Nat → Str → Nat → Prop) (q : XD 3 "terms" c) : gInitX [v, .int (m : Nat), x] c XD := ⟨v, .int (m : Nat), x, rfl, .inr ⟨m, rfl, within_m hm, h.1, h.2, q⟩⟩
/-- what is no row of as many integers -/
def oddD (m : Nat) (ns : List Int) (s : Str) : List D := [.non, .int 5, .lst (ns.map .int ++ [.int 0]), .str s, if decide ((m : Int) > 0) then .lst (List.replicate m .non) else .dik [] [], if decide ((m : Int) > 0) then .lst (List.replicate m (.bl true)) else .int 5]
theorem odd_two : ∀ m : Nat, m < 7 → (([if decide ((m : Int) > 0) then .lst (List.replicate m .non) else .dik [] [], if decide ((m : Int) > 0) then .lst (List.replicate m (.bl true)) else .int 5] : List D).all fun d => deep 1 d && !aiB m d) = true := by decide +kernel
theorem odd_ok {m : Nat} (hm : m ≤ 6) {ns : List Int} (hn : ns.length = m) {s : Str} {d : D} (h : d ∈ oddD m ns s) : deep 1 d = true ∧ aiB m d = false := by
  unfold oddD at h
  rcases List.mem_cons.mp h with rfl | h
  · exact ⟨rfl, rfl⟩
  rcases List.mem_cons.mp h with rfl | h
  · exact ⟨rfl, rfl⟩
  rcases List.mem_cons.mp h with rfl | h
  · refine ⟨deep_row (xs := ns.map D.int ++ [D.int 0]) rfl (by rw [List.length_append, List.length_map]; show ns.length + 1 ≤ _; omega) fun x hx => ?_, ?_⟩
    · rcases List.mem_append.mp hx with h | h
      · obtain ⟨n, _, rfl⟩ := List.mem_map.mp h
        rfl
      · rw [List.mem_singleton.mp h]; rfl
    · unfold aiB
      show (decide (((ns.map D.int ++ [D.int 0]).length : Int) = m) && _) = false
      rw [List.length_append, List.length_map, hn, decide_eq_false (by show ¬ ((m + 1 : Nat) : Int) = m; omega), Bool.false_and]
  rcases List.mem_cons.mp h with rfl | h
  · exact ⟨rfl, rfl⟩
  · have h1 := List.all_eq_true.mp (odd_two m (by omega)) d h
    rw [Bool.and_eq_true, Bool.not_eq_true'] at h1
    exact h1
def othD (m : Nat) (l : List Trm) : List D := [.non, .tup (l.map trmD), polD ((m + 1) % 7) (norm []), .int 0]
theorem oth_ok {m : Nat} (hm : m ≤ 6) {l l' : List Trm} {d : D} (h : d ∈ othD m l) (c : Nat) (XD : Nat → Str → Nat → Prop) (q : XD 3 "other" c) : gLeX [polD m l', d] c XD := by
  refine ⟨m, l', d, rfl, ?_, q⟩
  unfold othD at h
  rcases List.mem_cons.mp h with rfl | h
  · exact .inl rfl
  rcases List.mem_cons.mp h with rfl | h
  · exact .inl rfl
  rcases List.mem_cons.mp h with rfl | h
  · exact .inr ⟨(m + 1) % 7, norm [], rfl, by omega⟩
  · rw [List.mem_singleton.mp h]; exact .inl rfl
/-! sizes -/
theorem pws_sum : ∀ (ns : List Int) (k : Ks), pws (ns.zip k) ≤ k.sum
  | [], k => Nat.zero_le _
  | n :: ns, [] => Nat.zero_le _
  | n :: ns, a :: k => by
    show a + pws (ns.zip k) ≤ (a :: k).sum
    rw [List.sum_cons]
    have := pws_sum ns k
    omega
theorem worth_le {b : Nat} : ∀ {l : List Trm} {ns : List Int}, (∀ t ∈ l, t.1.natAbs ≤ b ∧ t.2.sum ≤ 3) → (∀ n ∈ ns, n.natAbs < 2 ^ 64) → (worth l ns).natAbs ≤ l.length * (b * 2 ^ 192)
  | [], ns, _, _ => Nat.zero_le _
  | t :: l, ns, h, hN => by
    have h1 := worth_le (fun u hu => h u (List.mem_cons_of_mem _ hu)) hN
    obtain ⟨h2, h3⟩ := h t (List.mem_cons_self ..)
    have e1 := pw_le (ns.zip t.2) (fun p hp => hN _ (List.of_mem_zip (a := p.1) (b := p.2) hp).1)
    have e2 := pws_sum ns t.2
    have e3 : (pw (ns.zip t.2)).natAbs ≤ 2 ^ 192 := Nat.le_trans e1 (Nat.pow_le_pow_right (by decide) (by omega))
    have e4 : (t.1 * pw (ns.zip t.2)).natAbs ≤ b * 2 ^ 192 := by rw [Int.natAbs_mul]; exact Nat.mul_le_mul h2 e3
    show (t.1 * pw (ns.zip t.2) + worth l ns).natAbs ≤ _
    rw [List.length_cons, Nat.succ_mul]
    generalize b * 2 ^ 192 = z at *
    generalize t.1 * pw (ns.zip t.2) = y at *
    omega
theorem norm_tok {m : Nat} {l : List Trm} (h : TOk m l) (hl : l.length ≤ 12) : ∀ t ∈ norm l, t.1.natAbs ≤ 12 * 10 ^ 30 ∧ t.2.length = m ∧ t.2.sum ≤ 3 := fun t ht => by
  obtain ⟨h1, h2⟩ := norm_keys ht
  obtain ⟨u, hu, e⟩ := keysOf_mem.mp h1
  have h3 := sumOf_le (b := 10 ^ 30) (fun t ht => (h t ht).2.2) t.2
  rw [← h2] at h3
  refine ⟨Nat.le_trans h3 (Nat.mul_le_mul_right _ hl), ?_⟩
  rw [← e]
  exact ⟨(h u hu).1, (h u hu).2.1⟩
theorem shw_trm {m : Nat} {t : Trm} (h : t.1.natAbs ≤ 12 * 10 ^ 30 ∧ t.2.length = m ∧ t.2.sum ≤ 3) (hm : m ≤ 6) : ShwP (trmP t) 210 := by
  have hk : ShwP (ksP t.2) 104 := by
    unfold ksP
    refine (ShwP.tup (w := 2) fun p hp => ?_).mono (by rw [List.length_map]; omega)
    obtain ⟨n, hn, rfl⟩ := List.mem_map.mp hp
    have hb : ∀ (k : Ks), n ∈ k → n ≤ k.sum := by
      intro k
      induction k with
      | nil => exact fun h => nomatch h
      | cons a k ih =>
        intro h
        rw [List.sum_cons]
        rcases List.mem_cons.mp h with rfl | h
        · omega
        · have := ih h; omega
    have := hb t.2 hn
    exact ShwP.int (by omega) (by decide)
  unfold trmP
  refine ShwP.tup (w := 104) fun p hp => ?_
  rcases List.mem_cons.mp hp with rfl | hp
  · exact ShwP.int (Nat.lt_of_le_of_lt h.1 (by decide)) (by decide)
  · rw [List.mem_singleton.mp hp]; exact hk
theorem deg_le {m : Nat} {l : List Trm} (h : TOk m l) (hl : l.length ≤ 12) : (degT (norm l)).natAbs ≤ 3 := by
  unfold degT
  rcases mx_mem ((norm l).map fun t => ((t.2.sum : Nat) : Int)) with e | e
  · rw [e]; decide
  · obtain ⟨t, ht, e⟩ := List.mem_map.mp e
    rw [← e]
    have := (norm_tok h hl t ht).2.2
    omega
def repA (m : Nat) (l : List Trm) : PyData := .list [.int m, .tuple (l.map trmP), .int (degT l)]
theorem toP_repA (m : Nat) (l : List Trm) : toP (.lst [.int m, .tup (l.map trmD), .int (degT l)]) = some (repA m l) := by
  show (toPs _).map _ = _
  unfold toPs toPs toPs toPs
  rw [emb_trms.tp l]
  rfl
theorem shw_repA {m : Nat} {l : List Trm} (hm : m ≤ 6) (h : TOk m l) (hl : l.length ≤ 12) : ShwP (repA m (norm l)) 8000 := by
  have h1 : ShwP (.tuple ((norm l).map trmP)) 2532 := by
    refine (ShwP.tup (w := 210) fun p hp => ?_).mono ?_
    · obtain ⟨t, ht, rfl⟩ := List.mem_map.mp hp
      exact shw_trm (norm_tok h hl t ht) hm
    · rw [List.length_map]
      have := norm_length l
      omega
  unfold repA
  refine (ShwP.list (w := 2532) fun p hp => ?_).mono (by show 3 * (2532 + 1) ≤ 8000; decide)
  rcases List.mem_cons.mp hp with rfl | hp
  · exact (ShwP.int (n := 3) (by show (m : Int).natAbs < _; omega) (by decide)).mono (by decide)
  rcases List.mem_cons.mp hp with rfl | hp
  · exact h1
  · rw [List.mem_singleton.mp hp]
    have := deg_le h hl
    exact (ShwP.int (n := 2) (by omega) (by decide)).mono (by decide)
theorem dep_repA (m : Nat) (l : List Trm) : (repA m l).depth ≤ 60 := by
  unfold repA PyData.depth PyData.depthAll PyData.depthAll PyData.depthAll PyData.depthAll
  have := emb_trms.dp l
  have e1 : ∀ i : Int, (PyData.int i).depth = 0 := fun i => rfl
  rw [e1, e1]
  omega
def repB (x : Int) : PyData := .list [.int x, .int x]
theorem toP_repB (x : Int) : toP (.lst [.int x, .int x]) = some (repB x) := rfl
theorem shw_repB {m : Nat} {l : List Trm} (h : TOk m l) (hl : l.length ≤ 12) {ns : List Int} (hN : ∀ n ∈ ns, n.natAbs < 2 ^ 64) : ShwP (repB (worth l ns)) 8000 := by
  have h1 := worth_le (b := 10 ^ 30) (l := l) (fun t ht => ⟨(h t ht).2.2, (h t ht).2.1⟩) hN
  have h2 : (worth l ns).natAbs ≤ 12 * (10 ^ 30 * 2 ^ 192) := Nat.le_trans h1 (Nat.mul_le_mul_right _ hl)
  have h3 : ShwP (.int (worth l ns)) 300 := ShwP.int (Nat.lt_of_le_of_lt h2 (by decide)) (by decide)
  unfold repB
  refine (ShwP.list (w := 300) fun p hp => ?_).mono (by show 2 * (300 + 1) ≤ 8000; decide)
  rcases List.mem_cons.mp hp with rfl | hp
  · exact h3
  · rw [List.mem_singleton.mp hp]; exact h3
theorem dep_repB (x : Int) : (repB x).depth ≤ 60 := by
  unfold repB PyData.depth PyData.depthAll PyData.depthAll PyData.depthAll
  have e1 : ∀ i : Int, (PyData.int i).depth = 0 := fun i => rfl
  rw [e1]
  omega
end K08
end DL

-- part K08R
set_option maxHeartbeats 4000000
/-! K08: more of what the law's statements tell -/
namespace DL
namespace K08
open PySem PySem.Spec PyProof.Rows L2
def BaseS (ρ : Ev) : Prop := ρ.sl.length = 20 ∧ ρ.sl[1]? = some (.v .well) ∧ ρ.sl[17]? = some .un ∧ ρ.sl[18]? = some .un ∧ ρ.sl[19]? = some .un
theorem lt20 {ρ : Ev} {i : Nat} (h : ρ.sl.length = 20) (hi : i < 20) : i < ρ.sl.length := by rw [h]; exact hi
theorem no2 {ρ : Ev} (h7 : ρ.sl[17]? = some .un) (h8 : ρ.sl[18]? = some .un) : noOwn ρ [17, 18] = true := by
  unfold noOwn
  rw [List.all_cons, List.all_cons, h7, h8]; rfl
theorem w_make {ρ : Ev} {cn : Str} {G : GI} {a : DA} {Q : Ev → D → Prop} (h : a ρ fun ρ1 ds => G cn ds ρ1.c fun ns es c' => Q (ρ1.cnt c') (.obj cn ns es)) : dMakeI cn G a ρ Q := h
theorem w_lst {ρ : Ev} {a : DA} {Q : Ev → D → Prop} (h : a ρ fun ρ1 ds => ds.length ≤ sizeLine ∧ Q ρ1 (.lst ds)) : dLst a ρ Q := h
theorem f_degree (m : Nat) (l : List Trm) : fldD polF (polE m l) "degree" = some (.int (degT l)) := rfl
theorem rowT_rev (l : List Trm) : RowT (.lst (l.map trmD).reverse) l.reverse := by
  rw [← List.map_reverse]; exact rowT_lst _
theorem okL_rev {m : Nat} {l : List Trm} (h : OkL m l) : OkL m l.reverse := ⟨by rw [List.length_reverse]; exact h.1, fun t ht => h.2 t (List.mem_reverse.mp ht)⟩
theorem okL_nil (m : Nat) : OkL m [] := ⟨Nat.zero_le _, fun t ht => nomatch ht⟩
theorem ob_neB {a b : Bool} : OpB gNe (.bl a) (.bl b) (.bl (!decide (a = b))) := fun ρ Q q => ⟨decide (a = b), by cases a <;> cases b <;> rfl, q⟩
theorem neg_length (l : List Trm) : (neg l).length = l.length := by unfold neg; rw [List.length_map]
theorem neg_own (l : List Trm) : l.map (fun t => trmD ((0 - t.1, t.2) : Trm)) = (neg l).map trmD := by
  unfold neg
  rw [List.map_map]
  congr 1
  funext t
  show trmD (0 - t.1, t.2) = trmD (-t.1, t.2)
  rw [Int.zero_sub]
theorem op_less {m : Nat} {l l' : List Trm} (hm : m ≤ 6) (h : OkL m l) (h' : OkL m l') (hl : l.length + l'.length ≤ 1000) : OpF gLe [polD m l, polD m l'] (polD m (norm (l ++ neg l'))) := fun c Q q => ⟨m, l, l', rfl, hm, okL_app h (okL_neg h') (by rw [neg_length]; exact hl), q⟩
def numsM : List Int := [0, 1, -1, 3, (10 : Int) ^ (12 : Int).toNat]
theorem numsM_ok : ∀ n ∈ numsM, n.natAbs < 2 ^ 64 := by decide
theorem op_wo {m : Nat} {l : List Trm} {ns : List Int} {y : D} (hm : m ≤ 6) (h : TOk m l) (hl : l.length ≤ 12) (hn : ns.length = m) (hN : ∀ n ∈ ns, n.natAbs < 2 ^ 64) (hy : rowOf y = some (ns.map .int)) : OpF gWo [polD m (norm l), y] (.int (worth l ns)) := fun c Q q =>
  ⟨m, norm l, y, ns, rfl, hy, hn, hN, okL_norm (tok_okL h (by omega)), hm, fun t ht => Nat.lt_of_le_of_lt (norm_tok h hl t ht).1 (Nat.lt_of_lt_of_le (show 12 * 10 ^ 30 < 2 ^ 110 by decide) (Nat.pow_le_pow_right (by decide) (by decide))), by rw [worth_norm]; exact q⟩
theorem op_at {m : Nat} {l : List Trm} {ns : List Int} (h : TOk m l) (hl : l.length ≤ 12) (hN : ∀ n ∈ ns, n.natAbs < 2 ^ 64) : OpF gAt [.lst (l.map trmD), .lst (ns.map .int)] (.int (worth l ns)) := fun c Q q =>
  ⟨m, l, ns, rfl, tok_okL h (by omega), hN, fun t ht => Nat.lt_of_le_of_lt (h t ht).2.2 (Nat.lt_of_lt_of_le (show 10 ^ 30 < 2 ^ 110 by decide) (Nat.pow_le_pow_right (by decide) (by decide))), q⟩
theorem RnE.zs {ρ : Ev} {e : DE} {n : Nat} (h : RnE e ρ ρ (.int (n : Nat))) (hn : n ≤ 1000) : RnE (fun ρ Q => dTup (dCons (dC (vC (V.int 0))) dNil) ρ fun ρ1 x => e ρ1 fun ρ2 y => gRepT x y ρ2 Q) ρ ρ (.tup (zs n)) := by
  have h1 := RnE.bin (RnE.tup (RnA.one (RnE.c (ρ := ρ) (d := vC (V.int 0)))) (by show 1 ≤ sizeLine; decide)) h (ob_repT (xs := [D.int 0]) (fun z => nomatch z) hn (by show 1 ≤ 1000; decide))
  rw [flat1] at h1
  exact h1
theorem dr1s {ρ : Ev} {w : Nat} {b : DE} {xs : Str → List D} {Q : Ev → D → Prop} (hw : ρ.sl[w]? = some (.v .well)) (hb : ∀ Q : Ev → D → Prop, (∀ s, Q ρ (.lst (xs s))) → b ρ Q) (h0 : ∀ s, 0 < (xs s).length) (hm : ∀ s, (xs s).length < 1073741824) (hc : ρ.c < 1048576) (k : ∀ s, ∀ d ∈ xs s, Q (ρ.cnt (ρ.c + 1)) d) : dCall gOne (dCons (dVar w) (dCons b dNil)) ρ Q := by
  unfold dCall
  exact w_cons (RnE.var hw _ (w_cons (hb _ fun s => ⟨xs s, rfl, h0 s, hm s, hc, k s⟩)))
theorem heard_eq : OpB gNe (.lst [.tup [.str (kindW 2), .str "many"], .tup [.str (kindW 3), .str "terms"], .tup [.str (kindW 3), .str "terms"], .tup [.str (kindW 3), .str "numbers"], .tup [.str (kindW 3), .str "other"]]) (.lst [.tup [.str "number", .str "many"], .tup [.str "value", .str "terms"], .tup [.str "value", .str "terms"], .tup [.str "value", .str "numbers"], .tup [.str "value", .str "other"]]) (.bl false) := fun ρ Q q => ⟨true, by decide +kernel, q⟩
end K08
end DL

-- part K08T
set_option maxHeartbeats 40000000
/-! K08: the law's walk -/
namespace DL
namespace K08
open PySem PySem.Spec PyProof.Rows L2 ZX
abbrev sLaw : Stmt := topS 32
abbrev NL : List Str := ["script", "well", "turn", "many", "terms", "more", "one", "two", "due", "numbers", "none", "some", "bad", "far", "odd", "other", "heard", "number", "powers", "cell"]
theorem scL : FnScope NL ["script"] (defScope sLaw) := ⟨rfl, rfl, rfl, by decide +kernel, rfl, by decide +kernel, by decide +kernel⟩
abbrev qL : Str := ("law" : Str) ++ ".<locals>." ++ "<lambda>"
theorem kw2 : ∀ {W : Wd} (F : Hp) (x : V) (zs : List V) (ds : List D), DenL W F ds zs → ds.length = 2 → ∃ us, (fun us ws => us ++ ws.reverse : List V → List V → List V) [x] zs = x :: us ∧ DenL W F (List.reverse ds) us := fun F x zs ds h hl => by
  match ds, hl with
  | [a, b], _ =>
    obtain ⟨u, v, rfl, du, dv⟩ := den2 h
    exact ⟨[v, u], rfl, ⟨v, [u], rfl, dv, ⟨u, [], rfl, du, rfl⟩⟩⟩
section
variable {P : Program} {w : World} {K : PySem.W.Frag} {mg : Str → Option Value} {base : Heap} {cls : Str → Option Addr}
theorem ok_law {f fe fi fw fl C0 CSo fS c Pt a1 a2 a3 a4 a5 a6 : Addr} {fd di dw dl fdS d1 d2 d3 d4 d5 d6 : FuncData} {Cs : Nat → Addr} (F : Fun K "law" "law" sLaw f fd) (BL : Blt mg)
    (A__law_well : Fn1 K mg "_law_well" sWell ["script"] a1 d1) (G__law_well : FnOk P w K mg base CX0 12 a1 d1 ["script"] (spWell K cls))
    (A__law_draw : Fn1 K mg "_law_draw" sDraw ["well", "many"] a2 d2) (G__law_draw : FnOk P w K mg base CX0 12 a2 d2 ["well", "many"] (spD K cls gDraw))
    (A__law_one : Fn1 K mg "_law_one" sOne ["well", "some"] a3 d3) (G__law_one : FnOk P w K mg base CX0 12 a3 d3 ["well", "some"] (spD K cls gOne))
    (A__law_terms : Fn1 K mg "_law_terms" sTe ["well", "many"] a4 d4) (G__law_terms : FnOk P w K mg base CX0 12 a4 d4 ["well", "many"] (spD K cls gTerms))
    (A__law_ordered : Fn1 K mg "_law_ordered" sOd ["terms"] a5 d5) (G__law_ordered : FnOk P w K mg base CX0 12 a5 d5 ["terms"] (spD K cls gOrd))
    (A__law_at_numbers : Fn1 K mg "_law_at_numbers" sAt ["terms", "numbers"] a6 d6) (G__law_at_numbers : FnOk P w K mg base CX0 12 a6 d6 ["terms", "numbers"] (spD K cls gAt))
    (T : ClsT K cls "Poly" C0 polF) (TE : ClsEq K C0 fe) (M : Mk K C0 fi) (g_Poly : mg "Poly" = some (.ref C0)) (bI : Binds K di ["self", "many", "terms"] []) (kI : KBn K di ["self", "many", "terms"] 1 ["terms", "many"] (fun us ws => us ++ ws.reverse) (fun us ws => us ++ ws.reverse))
    (GI : FnOk P w K mg base CX0 12 fi di ["self", "many", "terms"] (spI K cls gPoly)) (GIX : FnOk P w K mg base (L2.CX P w) 12 fi di ["self", "many", "terms"] (spX K cls Cs gInitX))
    (ef : PySem.W.isFn K (.ref fe) = true) (Fe : FnR P w K mg base CX0 12 fe (spD K cls gEqP))
    (hMw : Meth K C0 "worth_at" fw) (bw : Binds K dw ["self", "numbers"] []) (kw : KBn K dw ["self", "numbers"] 1 ["numbers"] (fun us ws => us ++ ws) (fun us ws => us ++ ws)) (Gw : FnOk P w K mg base CX0 12 fw dw ["self", "numbers"] (spD K cls gWo)) (GwX : FnOk P w K mg base (L2.CX P w) 12 fw dw ["self", "numbers"] (spX K cls Cs gWoX))
    (hMl : Meth K C0 "less" fl) (bl : Binds K dl ["self", "other"] []) (kl : KBn K dl ["self", "other"] 1 ["other"] (fun us ws => us ++ ws) (fun us ws => us ++ ws)) (Gl : FnOk P w K mg base CX0 12 fl dl ["self", "other"] (spD K cls gLe)) (GlX : FnOk P w K mg base (L2.CX P w) 12 fl dl ["self", "other"] (spX K cls Cs gLeX))
    (FS : Fun K "_law_said" "_law_said" sSaid fS fdS) (bS : Binds K fdS ["ask"] []) (gS : mg "_law_said" = some (.ref fS)) (ER : ErrT K mg Cs CSo)
    (tabP : cls (tabN qL) = some Pt) (tabA : ∀ q P', cls (tabN q) = some P' → P' = Pt ∧ q = qL) (nT : K.lookup Pt = none) (TB : LamX.TabB base mg c Pt) (own : fd.code = .ref c) : FnG P w K mg base CX0 20 f fd ["script"] (spLawT K Pt) := by
  have tabU : ∀ q', cls (tabN q') = some Pt → q' = qL := fun q' h => (tabA q' Pt h).2
  have FSk := FS.kp
  obtain ⟨ocS, odS, kVS, docS, pmS, anS, cdvS, ctS, oslS, rfl, lkS, hcdS⟩ := FS.ex
  refine okGC F scL (fun vs H Q E h => ?_) (fun A outer s H vs Q E hr hgd h => ?_)
  · obtain ⟨a, ns, rfl, _⟩ := h
    rfl
  obtain ⟨a, ns, rfl, hS, hl, ⟨tbP, only⟩, q⟩ := h
  have hu := hr.units
  refine ⟨_, pss_cons (ps_set (i := 1) scL.nd rfl (by first | exact .inl rfl | exact .inr rfl) (pe_call G__law_well (by exact hr.mono (by decide)) (by rfl) A__law_well.gl A__law_well.fn.kp A__law_well.bd .nil pass0 (pa_cons (pv 0) pa_nil)))
    (pss_cons (ps_for PassesOwn.never rfl (pi_range1 (by rfl) BL.m_range (pa_cons pe_int pa_nil)) (pg_name (i := 2) scL.nd rfl (by first | exact .inl rfl | exact .inr rfl)) (pss_cons (ps_set (i := 3) scL.nd rfl (by first | exact .inl rfl | exact .inr rfl) (pe_call G__law_draw (by exact hr.mono (by decide)) (by rfl) A__law_draw.gl A__law_draw.fn.kp A__law_draw.bd .nil pass0 (pa_cons (pv 1) (pa_cons pe_int pa_nil))))
    (pss_cons (ps_par (i := 4) (j := 5) rfl scL.nd rfl rfl (by decide) rfl rfl (pa_cons (pe_call G__law_terms (by exact hr.mono (by decide)) (by rfl) A__law_terms.gl A__law_terms.fn.kp A__law_terms.bd .nil pass0 (pa_cons (pv 1) (pa_cons (pv 3) pa_nil))) (pa_cons (pe_call G__law_terms (by exact hr.mono (by decide)) (by rfl) A__law_terms.gl A__law_terms.fn.kp A__law_terms.bd .nil pass0 (pa_cons (pv 1) (pa_cons (pv 3) pa_nil))) pa_nil)) rfl)
    (pss_cons (ps_asg (pe_tup (pa_cons (pe_make M GI (by exact hr.mono (by decide)) (by rfl) g_Poly bI .nil pass0 (pa_cons (pv 3) (pa_cons (pe_call G__law_one (by exact hr.mono (by decide)) (by rfl) A__law_one.gl A__law_one.fn.kp A__law_one.bd .nil pass0 (pa_cons (pv 1) (pa_cons (pe_lst (pa_cons (pv 4) (pa_cons (pe_tupleOf (by rfl) BL.m_tuple (pv 4)) (pa_cons (pe_lc rfl scL.nd (pi_seqK (K := K) rfl (pv 4)) (own := [("number", 17), ("powers", 18)]) (blkOk_by rfl) (fun _ _ _ _ _ => (pg_tupK (K := K) (n := 2) rfl rfl (pgs_cons (pg_name (i := 17) scL.nd rfl (by first | exact .inl rfl | exact .inr rfl)) (pgs_cons (pg_name (i := 18) scL.nd rfl (by first | exact .inl rfl | exact .inr rfl)) pgs_nil)))) (fun _ _ _ _ _ => pts_nil) (fun _ _ _ _ _ => (pe_lst (pa_cons (pv 17) (pa_cons (pe_callTy (r := rListK K) call_listK (by rfl) BL.m_list (by decide +kernel) (pa_cons (pv 18) pa_nil)) pa_nil))))) pa_nil)))) pa_nil))) pa_nil))) (pa_cons (pe_make M GI (by exact hr.mono (by decide)) (by rfl) g_Poly bI .nil pass0 (pa_cons (pv 3) (pa_cons (pv 5) pa_nil))) pa_nil))) (pg_tupK (K := K) (n := 2) rfl rfl (pgs_cons (pg_name (i := 6) scL.nd rfl (by first | exact .inl rfl | exact .inr rfl)) (pgs_cons (pg_name (i := 7) scL.nd rfl (by first | exact .inl rfl | exact .inr rfl)) pgs_nil))))
    (pss_cons (ps_set (i := 8) scL.nd rfl (by first | exact .inl rfl | exact .inr rfl) (pe_call G__law_ordered (by exact hr.mono (by decide)) (by rfl) A__law_ordered.gl A__law_ordered.fn.kp A__law_ordered.bd .nil pass0 (pa_cons (pv 4) pa_nil)))
    (pss_cons (ps_if (pt_cmpR (r := rNe) op_ne (pe_callB (call_reprD hgd hr.units) (by rfl) BL.m_repr (by decide +kernel) (pa_cons (pe_lst (pa_cons (pe_fld (pv 6) rfl) (pa_cons (pe_fld (pv 6) rfl) (pa_cons (pe_fld (pv 6) rfl) pa_nil)))) pa_nil)) (pe_callB (call_reprD hgd hr.units) (by rfl) BL.m_repr (by decide +kernel) (pa_cons (pe_lst (pa_cons (pv 3) (pa_cons (pv 8) (pa_cons (pe_callB (r := rMax K) (cr_max rfl) (by rfl) BL.m_max (by decide +kernel) (pa_cons (pe_op op_catS (pe_lst (pa_cons pe_int pa_nil)) (pe_lc rfl scL.nd (pi_seqK (K := K) rfl (pv 8)) (own := [("number", 17), ("powers", 18)]) (blkOk_by rfl) (fun _ _ _ _ _ => (pg_tupK (K := K) (n := 2) rfl rfl (pgs_cons (pg_name (i := 17) scL.nd rfl (by first | exact .inl rfl | exact .inr rfl)) (pgs_cons (pg_name (i := 18) scL.nd rfl (by first | exact .inl rfl | exact .inr rfl)) pgs_nil)))) (fun _ _ _ _ _ => pts_nil) (fun _ _ _ _ _ => (pe_callB (r := rSumA K) (cr_sumA rfl) (by rfl) BL.m_sum (by decide +kernel) (pa_cons (pv 18) pa_nil))))) pa_nil)) pa_nil)))) pa_nil)) (nomark _)) (pss_one (ps_ret pe_bl)) pss_nil)
    (pss_cons (ps_if (PW.pt (pw_or (pt_cmpR (r := rNeI K fe (spD K cls gEqP) E0) (op_neI (E := E0) ef Fe (by exact hr.mono (by decide)) pass0) (pv 6) (pe_makeK0 M GI (by exact hr.mono (by decide)) (by rfl) g_Poly kI pass0 (pk_cons (pe_revL (pv 4)) (pk_cons (pv 3) pk_nil))) (nomark _)) (pw_or (pt_cmpR (r := rNeD K) (op_neD hu) (pe_cmpR (r := rEqI K fe (spD K cls gEqP) E0) (op_eqI (E := E0) ef Fe (by exact hr.mono (by decide)) pass0) (pv 6) (pv 7) (nomark _)) (pe_cmpR (r := rEqD K) (op_eqD hu) (pv 8) (pe_call G__law_ordered (by exact hr.mono (by decide)) (by rfl) A__law_ordered.gl A__law_ordered.fn.kp A__law_ordered.bd .nil pass0 (pa_cons (pv 5) pa_nil)) (nomark _)) (nomark _)) (pw_or (pt_cmpR (r := rEqI K fe (spD K cls gEqP) E0) (op_eqI (E := E0) ef Fe (by exact hr.mono (by decide)) pass0) (pv 6) (pv 8) (nomark _)) (pw_or1 (PW.pt (pw_and (pt_cmpR op_lt (pv 3) pe_int (nomark _)) (pw_and1 (pt_cmpR (r := rEqI K fe (spD K cls gEqP) E0) (op_eqI (E := E0) ef Fe (by exact hr.mono (by decide)) pass0) (pv 6) (pe_make M GI (by exact hr.mono (by decide)) (by rfl) g_Poly bI .nil pass0 (pa_cons (pe_op op_add (pv 3) pe_int) (pa_cons (pe_lst pa_nil) pa_nil))) (nomark _)))))))))) (pss_one (ps_ret pe_bl)) pss_nil)
    (pss_cons (ps_if (PW.pt (pw_or (pt_cmpR (r := rNeD K) (op_neD hu) (pe_fld (pe_methK0 (pv 6) T.cl hMl Gl (by exact hr.mono (by decide)) kl pass0 (pk_cons (pv 7) pk_nil)) rfl) (pe_call G__law_ordered (by exact hr.mono (by decide)) (by rfl) A__law_ordered.gl A__law_ordered.fn.kp A__law_ordered.bd .nil pass0 (pa_cons (pe_op op_catS (pv 4) (pe_lc rfl scL.nd (pi_seqK (K := K) rfl (pv 5)) (own := [("number", 17), ("powers", 18)]) (blkOk_by rfl) (fun _ _ _ _ _ => (pg_tupK (K := K) (n := 2) rfl rfl (pgs_cons (pg_name (i := 17) scL.nd rfl (by first | exact .inl rfl | exact .inr rfl)) (pgs_cons (pg_name (i := 18) scL.nd rfl (by first | exact .inl rfl | exact .inr rfl)) pgs_nil)))) (fun _ _ _ _ _ => pts_nil) (fun _ _ _ _ _ => (pe_tup (pa_cons (pe_op op_sub pe_int (pv 17)) (pa_cons (pv 18) pa_nil)))))) pa_nil)) (nomark _)) (pw_or1 (pt_cmpR (r := rNeI K fe (spD K cls gEqP) E0) (op_neI (E := E0) ef Fe (by exact hr.mono (by decide)) pass0) (pe_meth (pv 6) T.cl hMl Gl (by exact hr.mono (by decide)) bl .nil pass0 (pa_cons (pv 6) pa_nil)) (pe_make M GI (by exact hr.mono (by decide)) (by rfl) g_Poly bI .nil pass0 (pa_cons (pv 3) (pa_cons (pe_lst pa_nil) pa_nil))) (nomark _))))) (pss_one (ps_ret pe_bl)) pss_nil)
    (pss_cons (ps_setLc (i := 9) rfl scL.nd rfl rfl rfl (pi_range1 (by rfl) BL.m_range (pa_cons (pv 3) pa_nil)) (own := [("cell", 19)]) (blkOk_by rfl) (fun _ _ _ _ _ => (pg_name (i := 19) scL.nd rfl (by first | exact .inl rfl | exact .inr rfl))) (fun _ _ _ _ _ => pts_nil) (fun _ _ _ _ _ => (pe_call G__law_one (by exact hr.mono (by decide)) (by rfl) A__law_one.gl A__law_one.fn.kp A__law_one.bd .nil pass0 (pa_cons (pv 1) (pa_cons (pe_lst (pa_cons pe_int (pa_cons pe_int (pa_cons (pe_un un_neg pe_int) (pa_cons pe_int (pa_cons (pe_op op_pow pe_int pe_int) pa_nil)))))) pa_nil)))))
    (pss_cons (ps_if (pt_cmpR (r := rNe) op_ne (pe_callB (call_reprD hgd hr.units) (by rfl) BL.m_repr (by decide +kernel) (pa_cons (pe_lst (pa_cons (pe_meth (pv 6) T.cl hMw Gw (by exact hr.mono (by decide)) bw .nil pass0 (pa_cons (pv 9) pa_nil)) (pa_cons (pe_methK0 (pv 6) T.cl hMw Gw (by exact hr.mono (by decide)) kw pass0 (pk_cons (pe_tupleOf (by rfl) BL.m_tuple (pv 9)) pk_nil)) pa_nil))) pa_nil)) (pe_callB (call_reprD hgd hr.units) (by rfl) BL.m_repr (by decide +kernel) (pa_cons (pe_op op_rep (pe_lst (pa_cons (pe_call G__law_at_numbers (by exact hr.mono (by decide)) (by rfl) A__law_at_numbers.gl A__law_at_numbers.fn.kp A__law_at_numbers.bd .nil pass0 (pa_cons (pv 4) (pa_cons (pv 9) pa_nil))) pa_nil)) pe_int) pa_nil)) (nomark _)) (pss_one (ps_ret pe_bl)) pss_nil)
    (pss_cons (ps_asg (pe_tup (pa_cons (pe_call G__law_one (by exact hr.mono (by decide)) (by rfl) A__law_one.gl A__law_one.fn.kp A__law_one.bd .nil pass0 (pa_cons (pv 1) (pa_cons (pe_lst (pa_cons pe_non (pa_cons (pe_un un_neg pe_int) (pa_cons pe_int (pa_cons pe_bl (pa_cons pe_str (pa_cons (pe_tup (pa_cons pe_int pa_nil)) pa_nil))))))) pa_nil))) (pa_cons (pe_lst (pa_cons pe_non (pa_cons pe_int (pa_cons (pe_lst (pa_cons pe_int pa_nil)) (pa_cons (pe_lst (pa_cons (pe_tup (pa_cons pe_int pa_nil)) pa_nil)) (pa_cons pe_dnewK (pa_cons (pe_lst (pa_cons (pe_tup (pa_cons (pe_op op_repTA (pe_tup (pa_cons pe_int pa_nil)) (pv 3)) (pa_cons pe_int pa_nil))) pa_nil)) pa_nil))))))) pa_nil))) (pg_tupK (K := K) (n := 2) rfl rfl (pgs_cons (pg_name (i := 10) scL.nd rfl (by first | exact .inl rfl | exact .inr rfl)) (pgs_cons (pg_name (i := 11) scL.nd rfl (by first | exact .inl rfl | exact .inr rfl)) pgs_nil))))
    (pss_cons (ps_set (i := 12) scL.nd rfl (by first | exact .inl rfl | exact .inr rfl) (pe_call G__law_one (by exact hr.mono (by decide)) (by rfl) A__law_one.gl A__law_one.fn.kp A__law_one.bd .nil pass0 (pa_cons (pv 1) (pa_cons (pe_op op_catS (pv 11) (pe_lst (pa_cons (pe_lst (pa_cons (pe_tup (pa_cons pe_int (pa_cons (pe_op op_repTA (pe_tup (pa_cons pe_int pa_nil)) (pe_op op_add (pv 3) pe_int)) pa_nil))) pa_nil)) (pa_cons (pe_lst (pa_cons (pe_tup (pa_cons pe_bl (pa_cons (pe_op op_repTA (pe_tup (pa_cons pe_int pa_nil)) (pv 3)) pa_nil))) pa_nil)) (pa_cons (pe_lst (pa_cons (pe_tup (pa_cons pe_str (pa_cons (pe_op op_repTA (pe_tup (pa_cons pe_int pa_nil)) (pv 3)) pa_nil))) pa_nil)) (pa_cons (pe_lst (pa_cons (pe_tup (pa_cons pe_int (pa_cons (pe_op op_repTA (pe_tup (pa_cons pe_int pa_nil)) (pv 3)) (pa_cons pe_int pa_nil)))) pa_nil)) pa_nil)))))) pa_nil))))
    (pss_cons (ps_set (i := 13) scL.nd rfl (by first | exact .inl rfl | exact .inr rfl) (pe_ifExp (pt_cmpR op_gt (pv 3) pe_int (nomark _)) (pe_call G__law_one (by exact hr.mono (by decide)) (by rfl) A__law_one.gl A__law_one.fn.kp A__law_one.bd .nil pass0 (pa_cons (pv 1) (pa_cons (pe_lst (pa_cons (pe_lst (pa_cons (pe_tup (pa_cons pe_int (pa_cons (pe_op op_catT (pe_tup (pa_cons pe_int pa_nil)) (pe_op op_repTA (pe_tup (pa_cons pe_int pa_nil)) (pe_op op_sub (pv 3) pe_int))) pa_nil))) pa_nil)) (pa_cons (pe_lst (pa_cons (pe_tup (pa_cons pe_int (pa_cons (pe_op op_catT (pe_tup (pa_cons (pe_un un_neg pe_int) pa_nil)) (pe_op op_repTA (pe_tup (pa_cons pe_int pa_nil)) (pe_op op_sub (pv 3) pe_int))) pa_nil))) pa_nil)) (pa_cons (pe_lst (pa_cons (pe_tup (pa_cons pe_int (pa_cons (pe_op op_catT (pe_tup (pa_cons pe_bl pa_nil)) (pe_op op_repTA (pe_tup (pa_cons pe_int pa_nil)) (pe_op op_sub (pv 3) pe_int))) pa_nil))) pa_nil)) pa_nil)))) pa_nil))) (pe_lst (pa_cons (pe_tup (pa_cons pe_int (pa_cons pe_int pa_nil))) pa_nil))))
    (pss_cons (ps_set (i := 14) scL.nd rfl (by first | exact .inl rfl | exact .inr rfl) (pe_call G__law_one (by exact hr.mono (by decide)) (by rfl) A__law_one.gl A__law_one.fn.kp A__law_one.bd .nil pass0 (pa_cons (pv 1) (pa_cons (pe_lst (pa_cons pe_non (pa_cons pe_int (pa_cons (pe_op op_catS (pv 9) (pe_lst (pa_cons pe_int pa_nil))) (pa_cons (pe_op op_repS pe_str (pv 3)) (pa_cons (pe_ifExp (pt_cmpR op_gt (pv 3) pe_int (nomark _)) (pe_op op_rep (pe_lst (pa_cons pe_non pa_nil)) (pv 3)) pe_dnewK) (pa_cons (pe_ifExp (pt_cmpR op_gt (pv 3) pe_int (nomark _)) (pe_op op_rep (pe_lst (pa_cons pe_bl pa_nil)) (pv 3)) pe_int) pa_nil))))))) pa_nil))))
    (pss_cons (ps_set (i := 15) scL.nd rfl (by first | exact .inl rfl | exact .inr rfl) (pe_call G__law_one (by exact hr.mono (by decide)) (by rfl) A__law_one.gl A__law_one.fn.kp A__law_one.bd .nil pass0 (pa_cons (pv 1) (pa_cons (pe_lst (pa_cons pe_non (pa_cons (pv 8) (pa_cons (pe_make M GI (by exact hr.mono (by decide)) (by rfl) g_Poly bI .nil pass0 (pa_cons (pe_op op_mod (pe_op op_add (pv 3) pe_int) pe_int) (pa_cons (pe_lst pa_nil) pa_nil))) (pa_cons pe_int pa_nil))))) pa_nil))))
    (pss_cons (ps_set (i := 16) scL.nd rfl (by first | exact .inl rfl | exact .inr rfl) (pe_lst (pa_cons (pe_ask (k := 13) (n := none) (ar := "") (by rfl) gS FSk lkS hcdS bS scSaid rfl (.inl rfl) (said_gives ER BL.m_isinstance) TB own (by exact hr.mono (by decide)) (lamN_by (by show lamNB (defScope sLaw) _ NL _ = true; decide +kernel)) rfl rfl bindL0 (fun _ _ _ _ _ _ _ hr2 => (pe_make M GIX (by exact hr2.mono (by decide)) (by rfl) g_Poly bI .nil pass_lam (pa_cons (pv 10) (pa_cons (pv 12) pa_nil))))) (pa_cons (pe_ask (k := 13) (n := some 0) (ar := "a1") (by rfl) gS FSk lkS hcdS bS scSaid rfl (.inl rfl) (said_gives ER BL.m_isinstance) TB own (by exact hr.mono (by decide)) (lamN_by (by show lamNB (defScope sLaw) _ NL _ = true; decide +kernel)) ⟨_, _, rfl⟩ rfl (bindL1 (fun _ _ _ _ _ => ⟨_, rfl, fun _ => rfl⟩)) (fun _ _ _ _ _ _ _ hr2 => (pe_make M GIX (by exact hr2.mono (by decide)) (by rfl) g_Poly bI .nil pass_lam (pa_cons (pv 3) (pa_cons (pv 12) pa_nil))))) (pa_cons (pe_ask (k := 13) (n := some 0) (ar := "b1") (by rfl) gS FSk lkS hcdS bS scSaid rfl (.inl rfl) (said_gives ER BL.m_isinstance) TB own (by exact hr.mono (by decide)) (lamN_by (by show lamNB (defScope sLaw) _ NL _ = true; decide +kernel)) ⟨_, _, rfl⟩ rfl (bindL1 (fun _ _ _ _ _ => ⟨_, rfl, fun _ => rfl⟩)) (fun _ _ _ _ _ _ _ hr2 => (pe_make M GIX (by exact hr2.mono (by decide)) (by rfl) g_Poly bI .nil pass_lam (pa_cons (pv 3) (pa_cons (pv 13) pa_nil))))) pa_nil)))))
    (pss_cons (ps_set (i := 16) scL.nd rfl (by first | exact .inl rfl | exact .inr rfl) (pe_op op_catS (pv 16) (pe_lst (pa_cons (pe_ask (k := 13) (n := none) (ar := "") (by rfl) gS FSk lkS hcdS bS scSaid rfl (.inl rfl) (said_gives ER BL.m_isinstance) TB own (by exact hr.mono (by decide)) (lamN_by (by show lamNB (defScope sLaw) _ NL _ = true; decide +kernel)) rfl rfl bindL0 (fun _ _ _ _ _ _ _ hr2 => (pe_meth (pv 6) T.cl hMw GwX (by exact hr2.mono (by decide)) bw .nil pass_lam (pa_cons (pv 14) pa_nil)))) (pa_cons (pe_ask (k := 13) (n := some 0) (ar := "a1") (by rfl) gS FSk lkS hcdS bS scSaid rfl (.inl rfl) (said_gives ER BL.m_isinstance) TB own (by exact hr.mono (by decide)) (lamN_by (by show lamNB (defScope sLaw) _ NL _ = true; decide +kernel)) ⟨_, _, rfl⟩ rfl (bindL1 (fun _ _ _ _ _ => ⟨_, rfl, fun _ => rfl⟩)) (fun _ _ _ _ _ _ _ hr2 => (pe_meth (pv 6) T.cl hMl GlX (by exact hr2.mono (by decide)) bl .nil pass_lam (pa_cons (pv 15) pa_nil)))) pa_nil)))))
    (pss_one (ps_if (pt_cmpR (r := rNeD K) (op_neD hu) (pv 16) (pe_lst (pa_cons (pe_tup (pa_cons pe_str (pa_cons pe_str pa_nil))) (pa_cons (pe_tup (pa_cons pe_str (pa_cons pe_str pa_nil))) (pa_cons (pe_tup (pa_cons pe_str (pa_cons pe_str pa_nil))) (pa_cons (pe_tup (pa_cons pe_str (pa_cons pe_str pa_nil))) (pa_cons (pe_tup (pa_cons pe_str (pa_cons pe_str pa_nil))) pa_nil)))))) (nomark _)) (pss_one (ps_ret pe_bl)) pss_nil)))))))))))))))))))
    (pss_one (ps_ret pe_bl))), ?_⟩
  have nPa : Pt ≠ a := fun z => by
    subst z
    rcases hS with (hS | ⟨o, hS⟩) | ⟨o, us, n, hS, _⟩
    · rw [tbP] at hS; cases hS
    · rw [tbP] at hS; cases hS
    · rw [nT] at hS; cases hS
  refine seq_mid (fun σ' H' => ∃ (p pc : Addr) (F' : Hp) (ns' : List Int), σ' = (start NL [V.ref a]).set 1 (some (.ref p)) ∧ Same F' H' ∧ F' p = none ∧ ns'.length ≤ 60 ∧ H' p = some (.lst [.ref pc, .int 0, .int 0]) ∧ SqL K F' pc (ns'.map V.int) ∧ TabsOk ⟨K, cls, some p⟩ [] F' H') (fun nx hnx => ?_) ?_
  · refine ⟨.ref a, rfl, fun b => if b = a then H b else none, a, ns, rfl, ?_, ?_, by omega, fun q P' e => ?_, fun p pc H' F' ns' k hp fp' hl' hp' hs' ht' => ?_⟩
    · intro b o e
      have e : (if b = a then H b else none) = some o := e
      by_cases hb : b = a
      · rw [if_pos hb] at e; exact e
      · rw [if_neg hb] at e; cases e
    · have ea : (fun b => if b = a then H b else none : Hp) a = H a := if_pos rfl
      rcases hS with (hS | ⟨o, hS⟩) | hS
      · exact .inl (.inl (ea.trans hS))
      · exact .inl (.inr ⟨o, ea.trans hS⟩)
      · exact .inr hS
    · obtain ⟨rfl, rfl⟩ := tabA q P' e
      exact ⟨if_neg nPa, fun z => (nomatch z), LamX.TabS.nil tbP⟩
    · exact hnx _ _ ⟨p, pc, F', ns', rfl, k.fh, fp', hl', hp', hs', ht'⟩
  rintro σ' H' ⟨p, pc, F', ns', rfl, sf, fp, hl', hp, hs, ht⟩
  have hio : (bs0 F' H').io = [] := rfl
  refine well_go (ts := tSeq (tFor _ _ _) (tRet _)) (W := ⟨K, cls, some p⟩) (B := bs0 F' H') (F := F') (ρ := ⟨[.un, .v .well, .un, .un, .un, .un, .un, .un, .un, .un, .un, .un, .un, .un, .un, .un, .un, .un, .un, .un], 0⟩) (DD := { nx := fun _ => False, rt := fun _ d => d = .bl true })
    (rs_seq (rs_for (ri_rng1 (ra_cons re_c ra_nil)) (rg_name (i := 2)) (rs_seq (rs_asg (re_call (E := E0) (ra_cons (re_var (i := 1) hio) (ra_cons re_c ra_nil))) (rg_name (i := 3)))
    (rs_seq (rs_par (i := 4) (j := 5) (ra_cons (re_call (E := E0) (ra_cons (re_var (i := 1) hio) (ra_cons (re_var (i := 3) hio) ra_nil))) (ra_cons (re_call (E := E0) (ra_cons (re_var (i := 1) hio) (ra_cons (re_var (i := 3) hio) ra_nil))) ra_nil)))
    (rs_seq (rs_asg (re_tup (ra_cons (RN.re (rn_make (G := gPoly) (E := E0) (cn := "Poly") T.at_ (ra_cons (re_var (i := 3) hio) (ra_cons (re_call (E := E0) (ra_cons (re_var (i := 1) hio) (ra_cons (re_lst (ra_cons (re_var (i := 4) hio) (ra_cons (re_kTup (re_var (i := 4) hio)) (ra_cons (RN.re (rn_lc (is := [17, 18]) (vs := [17, 18]) (ri_seq (re_var (i := 4) hio)) (fun B hb => by have hio := hb.trans hio; exact (rg_tup (rgs_cons (rg_name (i := 17)) (rgs_cons (rg_name (i := 18)) rgs_nil)))) (fun B hb => by have hio := hb.trans hio; exact rt_yes) (fun B hb => by have hio := hb.trans hio; exact (re_lst (ra_cons (re_var (i := 17) hio) (ra_cons (re_listK (ra_cons (re_var (i := 18) hio) ra_nil)) ra_nil)))) (fun _ h => h))) ra_nil)))) ra_nil))) ra_nil)))) (ra_cons (RN.re (rn_make (G := gPoly) (E := E0) (cn := "Poly") T.at_ (ra_cons (re_var (i := 3) hio) (ra_cons (re_var (i := 5) hio) ra_nil)))) ra_nil))) (rg_tup (rgs_cons (rg_name (i := 6)) (rgs_cons (rg_name (i := 7)) rgs_nil))))
    (rs_seq (rs_asg (re_call (E := E0) (ra_cons (re_var (i := 4) hio) ra_nil)) (rg_name (i := 8)))
    (rs_seq (rs_ifC (rt_test (re_neS (re_repr (ra_cons (re_lst (ra_cons (re_fldC T (re_var (i := 6) hio) (by decide +kernel)) (ra_cons (re_fldC T (re_var (i := 6) hio) (by decide +kernel)) (ra_cons (re_fldC T (re_var (i := 6) hio) (by decide +kernel)) ra_nil)))) ra_nil)) (re_repr (ra_cons (re_lst (ra_cons (re_var (i := 3) hio) (ra_cons (re_var (i := 8) hio) (ra_cons (re_max (ra_cons (re_catS (re_lst (ra_cons re_c ra_nil)) (RN.re (rn_lc (is := [17, 18]) (vs := [17, 18]) (ri_seq (re_var (i := 8) hio)) (fun B hb => by have hio := hb.trans hio; exact (rg_tup (rgs_cons (rg_name (i := 17)) (rgs_cons (rg_name (i := 18)) rgs_nil)))) (fun B hb => by have hio := hb.trans hio; exact rt_yes) (fun B hb => by have hio := hb.trans hio; exact (re_sumA (ra_cons (re_var (i := 18) hio) ra_nil))) (fun _ h => h)))) ra_nil)) ra_nil)))) ra_nil)))) (rs_ret re_c) rs_next)
    (rs_seq (rs_ifC (rt_orC (rt_test (re_neC (E := E0) T TE (re_var (i := 6) hio) (RN.re (rn_makeK0 (G := gPoly) (E := E0) (cn := "Poly") (pm := List.reverse) T.at_ (ra_cons (re_revL (re_var (i := 4) hio)) (ra_cons (re_var (i := 3) hio) ra_nil)) kw2)))) (rt_orC (rt_test (re_neD (re_eqC (E := E0) T TE (re_var (i := 6) hio) (re_var (i := 7) hio)) (re_eqD (re_var (i := 8) hio) (re_call (E := E0) (ra_cons (re_var (i := 5) hio) ra_nil))))) (rt_orC (rt_test (re_eqC (E := E0) T TE (re_var (i := 6) hio) (re_var (i := 8) hio))) (rt_andC (rt_test (re_I0 (re_var (i := 3) hio) re_c)) (rt_test (re_eqC (E := E0) T TE (re_var (i := 6) hio) (RN.re (rn_make (G := gPoly) (E := E0) (cn := "Poly") T.at_ (ra_cons (re_I0 (re_var (i := 3) hio) re_c) (ra_cons (re_lst ra_nil) ra_nil)))))))))) (rs_ret re_c) rs_next)
    (rs_seq (rs_ifC (rt_orC (rt_test (re_neD (re_fldC T (re_methK0 (E := E0) T.at_ (re_var (i := 6) hio) (ra_cons (re_var (i := 7) hio) ra_nil)) (by decide +kernel)) (re_call (E := E0) (ra_cons (re_catS (re_var (i := 4) hio) (RN.re (rn_lc (is := [17, 18]) (vs := [17, 18]) (ri_seq (re_var (i := 5) hio)) (fun B hb => by have hio := hb.trans hio; exact (rg_tup (rgs_cons (rg_name (i := 17)) (rgs_cons (rg_name (i := 18)) rgs_nil)))) (fun B hb => by have hio := hb.trans hio; exact rt_yes) (fun B hb => by have hio := hb.trans hio; exact (re_tup (ra_cons (re_I0 re_c (re_var (i := 17) hio)) (ra_cons (re_var (i := 18) hio) ra_nil)))) (fun _ h => h)))) ra_nil)))) (rt_test (re_neC (E := E0) T TE (re_meth (E := E0) T.at_ (re_var (i := 6) hio) (ra_cons (re_var (i := 6) hio) ra_nil)) (RN.re (rn_make (G := gPoly) (E := E0) (cn := "Poly") T.at_ (ra_cons (re_var (i := 3) hio) (ra_cons (re_lst ra_nil) ra_nil))))))) (rs_ret re_c) rs_next)
    (rs_seq (rs_asg (RN.re (rn_lc (is := [19]) (vs := [19]) (ri_rng1 (ra_cons (re_var (i := 3) hio) ra_nil)) (fun B hb => by have hio := hb.trans hio; exact (rg_name (i := 19))) (fun B hb => by have hio := hb.trans hio; exact rt_yes) (fun B hb => by have hio := hb.trans hio; exact (re_call (E := E0) (ra_cons (re_var (i := 1) hio) (ra_cons (re_lst (ra_cons re_c (ra_cons re_c (ra_cons (re_U re_c) (ra_cons re_c (ra_cons (re_I re_c re_c) ra_nil)))))) ra_nil)))) (fun _ h => h))) (rg_name (i := 9)))
    (rs_seq (rs_ifC (rt_test (re_neS (re_repr (ra_cons (re_lst (ra_cons (re_meth (E := E0) T.at_ (re_var (i := 6) hio) (ra_cons (re_var (i := 9) hio) ra_nil)) (ra_cons (re_methK0 (E := E0) T.at_ (re_var (i := 6) hio) (ra_cons (re_kTup (re_var (i := 9) hio)) ra_nil)) ra_nil))) ra_nil)) (re_repr (ra_cons (RN.re (rn_repC (n := 2) (ra_cons (re_call (E := E0) (ra_cons (re_var (i := 4) hio) (ra_cons (re_var (i := 9) hio) ra_nil))) ra_nil))) ra_nil)))) (rs_ret re_c) rs_next)
    (rs_seq (rs_asg (re_tup (ra_cons (re_call (E := E0) (ra_cons (re_var (i := 1) hio) (ra_cons (re_lst (ra_cons re_c (ra_cons (re_U re_c) (ra_cons re_c (ra_cons re_c (ra_cons re_c (ra_cons (re_tup (ra_cons re_c ra_nil)) ra_nil))))))) ra_nil))) (ra_cons (re_lst (ra_cons re_c (ra_cons re_c (ra_cons (re_lst (ra_cons re_c ra_nil)) (ra_cons (re_lst (ra_cons (re_tup (ra_cons re_c ra_nil)) ra_nil)) (ra_cons re_dnewK (ra_cons (re_lst (ra_cons (re_tup (ra_cons (re_repT (re_tup (ra_cons re_c ra_nil)) (re_var (i := 3) hio)) (ra_cons re_c ra_nil))) ra_nil)) ra_nil))))))) ra_nil))) (rg_tup (rgs_cons (rg_name (i := 10)) (rgs_cons (rg_name (i := 11)) rgs_nil))))
    (rs_seq (rs_asg (re_call (E := E0) (ra_cons (re_var (i := 1) hio) (ra_cons (re_catS (re_var (i := 11) hio) (re_lst (ra_cons (re_lst (ra_cons (re_tup (ra_cons re_c (ra_cons (re_repT (re_tup (ra_cons re_c ra_nil)) (re_I0 (re_var (i := 3) hio) re_c)) ra_nil))) ra_nil)) (ra_cons (re_lst (ra_cons (re_tup (ra_cons re_c (ra_cons (re_repT (re_tup (ra_cons re_c ra_nil)) (re_var (i := 3) hio)) ra_nil))) ra_nil)) (ra_cons (re_lst (ra_cons (re_tup (ra_cons re_c (ra_cons (re_repT (re_tup (ra_cons re_c ra_nil)) (re_var (i := 3) hio)) ra_nil))) ra_nil)) (ra_cons (re_lst (ra_cons (re_tup (ra_cons re_c (ra_cons (re_repT (re_tup (ra_cons re_c ra_nil)) (re_var (i := 3) hio)) (ra_cons re_c ra_nil)))) ra_nil)) ra_nil)))))) ra_nil))) (rg_name (i := 12)))
    (rs_seq (rs_asg (re_ifC (rt_test (re_I0 (re_var (i := 3) hio) re_c)) (re_call (E := E0) (ra_cons (re_var (i := 1) hio) (ra_cons (re_lst (ra_cons (re_lst (ra_cons (re_tup (ra_cons re_c (ra_cons (re_catT (re_tup (ra_cons re_c ra_nil)) (re_repT (re_tup (ra_cons re_c ra_nil)) (re_I0 (re_var (i := 3) hio) re_c))) ra_nil))) ra_nil)) (ra_cons (re_lst (ra_cons (re_tup (ra_cons re_c (ra_cons (re_catT (re_tup (ra_cons (re_U re_c) ra_nil)) (re_repT (re_tup (ra_cons re_c ra_nil)) (re_I0 (re_var (i := 3) hio) re_c))) ra_nil))) ra_nil)) (ra_cons (re_lst (ra_cons (re_tup (ra_cons re_c (ra_cons (re_catT (re_tup (ra_cons re_c ra_nil)) (re_repT (re_tup (ra_cons re_c ra_nil)) (re_I0 (re_var (i := 3) hio) re_c))) ra_nil))) ra_nil)) ra_nil)))) ra_nil))) (re_lst (ra_cons (re_tup (ra_cons re_c (ra_cons re_c ra_nil))) ra_nil))) (rg_name (i := 13)))
    (rs_seq (rs_asg (re_call (E := E0) (ra_cons (re_var (i := 1) hio) (ra_cons (re_lst (ra_cons re_c (ra_cons re_c (ra_cons (re_catS (re_var (i := 9) hio) (re_lst (ra_cons re_c ra_nil))) (ra_cons (re_repS re_c (re_var (i := 3) hio)) (ra_cons (re_ifC (rt_test (re_I0 (re_var (i := 3) hio) re_c)) (RN.re (rn_repV (i := 3) (ra_cons re_c ra_nil))) re_dnewK) (ra_cons (re_ifC (rt_test (re_I0 (re_var (i := 3) hio) re_c)) (RN.re (rn_repV (i := 3) (ra_cons re_c ra_nil))) re_c) ra_nil))))))) ra_nil))) (rg_name (i := 14)))
    (rs_seq (rs_asg (re_call (E := E0) (ra_cons (re_var (i := 1) hio) (ra_cons (re_lst (ra_cons re_c (ra_cons (re_var (i := 8) hio) (ra_cons (RN.re (rn_make (G := gPoly) (E := E0) (cn := "Poly") T.at_ (ra_cons (re_I (re_I0 (re_var (i := 3) hio) re_c) re_c) (ra_cons (re_lst ra_nil) ra_nil)))) (ra_cons re_c ra_nil))))) ra_nil))) (rg_name (i := 15)))
    (rs_seq (rs_asg (re_lst (ra_cons (re_said (rx_make (G := gInitX) (Cs := Cs) (ra_cons (re_var (i := 10) hio) (ra_cons (re_var (i := 12) hio) ra_nil))) tabP tabU) (ra_cons (re_said (rx_make (G := gInitX) (Cs := Cs) (ra_cons (re_var (i := 3) hio) (ra_cons (re_var (i := 12) hio) ra_nil))) tabP tabU) (ra_cons (re_said (rx_make (G := gInitX) (Cs := Cs) (ra_cons (re_var (i := 3) hio) (ra_cons (re_var (i := 13) hio) ra_nil))) tabP tabU) ra_nil)))) (rg_name (i := 16)))
    (rs_seq (rs_asg (re_catS (re_var (i := 16) hio) (re_lst (ra_cons (re_said (rx_meth (G := gWoX) (Cs := Cs) T.at_ (re_var (i := 6) hio) (ra_cons (re_var (i := 14) hio) ra_nil)) tabP tabU) (ra_cons (re_said (rx_meth (G := gLeX) (Cs := Cs) T.at_ (re_var (i := 6) hio) (ra_cons (re_var (i := 15) hio) ra_nil)) tabP tabU) ra_nil)))) (rg_name (i := 16)))
    (rs_ifC (rt_test (re_neD (re_var (i := 16) hio) (re_lst (ra_cons (re_tup (ra_cons re_c (ra_cons re_c ra_nil))) (ra_cons (re_tup (ra_cons re_c (ra_cons re_c ra_nil))) (ra_cons (re_tup (ra_cons re_c (ra_cons re_c ra_nil))) (ra_cons (re_tup (ra_cons re_c (ra_cons re_c ra_nil))) (ra_cons (re_tup (ra_cons re_c (ra_cons re_c ra_nil))) ra_nil)))))))) (rs_ret re_c) rs_next))))))))))))))))))
    (rs_ret re_c)) ?_ ?_ ?_
  · exact rel_well (n := 18) rfl rfl sf fp hl' hp hs ht
  · exact ⟨fun _ _ _ _ _ _ z => z.elim, fun _ _ _ _ _ _ z => z.elim, fun _ _ _ _ _ _ z => z.elim, fun σ2 H2 F2 ρ2 d v r s2 dv e => by
      have e : d = .bl true := e
      subst e
      have ev : v = .bl true := dv
      subst ev
      exact q H2⟩
  refine dfor_M (fun i ρ => BaseS ρ ∧ ρ.c ≤ 200 * i) [.int 0, .int 1, .int 2, .int 3, .int 4, .int 5] ?_ ?_ ?_ ?_
  · exact ⟨by decide, rfl, ⟨rfl, rfl, rfl, rfl, rfl⟩, Nat.zero_le _⟩
  · rintro it tv ρ0 hit ⟨⟨B0, B1, B17, B18, B19⟩, hcn⟩ nxO hO
    have hi6 : it < 6 := (List.getElem?_eq_some_iff.mp hit).1
    refine RnG.name _ ?_
    generalize h0 : ρ0.set 2 (.v tv) = r0
    have L0 : r0.sl.length = 20 := by rw [← h0, len_set]; exact B0
    have e1_0 : r0.sl[1]? = some (.v .well) := by rw [← h0, at_ne (by decide)]; exact B1
    have e17_0 : r0.sl[17]? = some (.un) := by rw [← h0, at_ne (by decide)]; exact B17
    have e18_0 : r0.sl[18]? = some (.un) := by rw [← h0, at_ne (by decide)]; exact B18
    have e19_0 : r0.sl[19]? = some (.un) := by rw [← h0, at_ne (by decide)]; exact B19
    have c0 : r0.c ≤ 200 * it := by rw [← h0]; exact hcn
    refine dseq_mid (fun ρ' => ∃ m : Nat, m ≤ 6 ∧ ρ' = (r0.cnt (r0.c + 1)).set 3 (.v (.int (m : Nat)))) (fun nx hnx => ?_) ?_
    · unfold dAsg
      refine dr e1_0 RnE.c (by decide) (by omega) fun z z0 z1 => ?_
      obtain ⟨n, rfl⟩ : ∃ j : Nat, z = (j : Int) := ⟨_, (Int.toNat_of_nonneg z0).symm⟩
      exact RnG.name _ (hnx _ ⟨n, by omega, rfl⟩)
    rintro _ ⟨m, hm, rfl⟩
    generalize h1 : (r0.cnt (r0.c + 1)).set 3 (.v (.int (m : Nat))) = r1
    have L1 : r1.sl.length = 20 := by rw [← h1, len_set]; exact L0
    have e1_1 : r1.sl[1]? = some (.v .well) := by rw [← h1, at_ne (by decide)]; exact e1_0
    have e17_1 : r1.sl[17]? = some (.un) := by rw [← h1, at_ne (by decide)]; exact e17_0
    have e18_1 : r1.sl[18]? = some (.un) := by rw [← h1, at_ne (by decide)]; exact e18_0
    have e19_1 : r1.sl[19]? = some (.un) := by rw [← h1, at_ne (by decide)]; exact e19_0
    have e3_1 : r1.sl[3]? = some (.v (.int (m : Nat))) := by rw [← h1]; exact at_set (by exact lt20 L0 (by decide))
    have c1 : r1.c = (r0.c + 1) := by rw [← h1]; rfl
    refine dseq_mid (fun ρ' => ∃ (l l2 : List Trm) (c' : Nat), c' ≤ r1.c + 100 ∧ l.length ≤ 12 ∧ TOk m l ∧ l2.length ≤ 12 ∧ TOk m l2 ∧ ρ' = ((r1.cnt c').set 4 (.v (.lst (l.map trmD)))).set 5 (.v (.lst (l2.map trmD)))) (fun nx hnx => ?_) ?_
    · unfold dPar
      refine w_cons (dt e1_1 e3_1 hm (by omega) fun l cl1 hc1 hl ht => w_cons (dt (ρ := r1.cnt cl1) e1_1 e3_1 hm (by show cl1 + 50 ≤ _; omega) fun l2 cl2 hc2 hl2 ht2 => ?_))
      have hc2 : cl2 ≤ cl1 + 50 := hc2
      exact hnx _ ⟨l, l2, cl2, by omega, hl, ht, hl2, ht2, rfl⟩
    rintro _ ⟨l, l2, cc, hcc, hl, ht, hl2, ht2, rfl⟩
    generalize h2 : ((r1.cnt cc).set 4 (.v (.lst (l.map trmD)))).set 5 (.v (.lst (l2.map trmD))) = r2
    have L2 : r2.sl.length = 20 := by rw [← h2, len_set, len_set]; exact L1
    have e1_2 : r2.sl[1]? = some (.v .well) := by rw [← h2, at_ne (by decide), at_ne (by decide)]; exact e1_1
    have e3_2 : r2.sl[3]? = some (.v (.int (m : Nat))) := by rw [← h2, at_ne (by decide), at_ne (by decide)]; exact e3_1
    have e17_2 : r2.sl[17]? = some (.un) := by rw [← h2, at_ne (by decide), at_ne (by decide)]; exact e17_1
    have e18_2 : r2.sl[18]? = some (.un) := by rw [← h2, at_ne (by decide), at_ne (by decide)]; exact e18_1
    have e19_2 : r2.sl[19]? = some (.un) := by rw [← h2, at_ne (by decide), at_ne (by decide)]; exact e19_1
    have e4_2 : r2.sl[4]? = some (.v (.lst (l.map trmD))) := by rw [← h2, at_ne (by decide)]; exact at_set (by exact lt20 L1 (by decide))
    have e5_2 : r2.sl[5]? = some (.v (.lst (l2.map trmD))) := by rw [← h2]; exact at_set (by rw [len_set]; exact lt20 L1 (by decide))
    have c2 : r2.c = cc := by rw [← h2]; rfl
    have ok : OkL m l := tok_okL ht (by omega)
    have ok2 : OkL m l2 := tok_okL ht2 (by omega)
    have okn := okL_norm ok
    have okn2 := okL_norm ok2
    have hnl := norm_length l
    have hnl2 := norm_length l2
    have hS : ∀ {n : Nat}, n ≤ 100 → n ≤ sizeLine := fun h => Nat.le_trans h (by decide)
    refine dseq_mid (fun ρ' => ρ' = ((r2.cnt (r2.c + 1)).set 6 (.v (polD m (norm l)))).set 7 (.v (polD m (norm l2)))) (fun nx hnx => ?_) ?_
    · have hcomp := RnE.lcY (ρ := r2) (ρ' := r2) (xs := l) (r := trmD) (s := dSq (dVar 4)) (g := dgTup 2 (dgCons (dgName 17) (dgCons (dgName 18) dgNil))) (vs := [17, 18]) (e := dLst (dCons (dVar 17) (dCons (fun ρ Q => dCons (dVar 18) dNil ρ fun ρ1 ds => ∃ x xs, ds = [x] ∧ rowOf x = some xs ∧ Q ρ1 (.lst xs)) dNil))) trmL (RnA.seq (RnE.var e4_2) rfl) (no2 e17_2 e18_2) (hS (by omega)) (fun t ht => ⟨_, ag2, rfl, RnG.two, RnE.lst (RnA.cons (RnE.var (atw2' (by decide) (lt20 L2 (by decide)))) (RnA.one (RnE.app (RnA.one (RnE.var (atw2 (lt20 L2 (by decide))))) (ou_listK (xs := t.2.map nat) rfl)))) (by show 2 ≤ sizeLine; decide)⟩)
      unfold dAsg
      refine w_tup (w_cons (w_make (w_cons (RnE.var e3_2 _ (w_cons (dr1 (xs := menuT l) e1_2 (RnE.lst (RnA.cons (RnE.var e4_2) (RnA.cons (RnE.un (RnE.var e4_2) (ov_tup rfl)) (RnA.one hcomp))) (by show 3 ≤ sizeLine; decide)) (by show 0 < 3; decide) (by show 3 < 1073741824; decide) (by omega) fun d hd => ?_))))))
      refine ⟨m, d, l, rfl, rfl, hm, menuT_row hd, ok, ?_⟩
      refine w_cons (RnE.pol (ρ := r2.cnt (r2.c + 1)) (RnA.cons (RnE.var e3_2) (RnA.one (RnE.var e5_2))) hm (rowT_lst l2) ok2 _ ?_)
      exact ⟨(by show 2 ≤ sizeLine; decide), RnG.two _ (hnx _ rfl)⟩
    rintro _ rfl
    generalize h3 : ((r2.cnt (r2.c + 1)).set 6 (.v (polD m (norm l)))).set 7 (.v (polD m (norm l2))) = r3
    have L3 : r3.sl.length = 20 := by rw [← h3, len_set, len_set]; exact L2
    have e1_3 : r3.sl[1]? = some (.v .well) := by rw [← h3, at_ne (by decide), at_ne (by decide)]; exact e1_2
    have e3_3 : r3.sl[3]? = some (.v (.int (m : Nat))) := by rw [← h3, at_ne (by decide), at_ne (by decide)]; exact e3_2
    have e4_3 : r3.sl[4]? = some (.v (.lst (l.map trmD))) := by rw [← h3, at_ne (by decide), at_ne (by decide)]; exact e4_2
    have e5_3 : r3.sl[5]? = some (.v (.lst (l2.map trmD))) := by rw [← h3, at_ne (by decide), at_ne (by decide)]; exact e5_2
    have e17_3 : r3.sl[17]? = some (.un) := by rw [← h3, at_ne (by decide), at_ne (by decide)]; exact e17_2
    have e18_3 : r3.sl[18]? = some (.un) := by rw [← h3, at_ne (by decide), at_ne (by decide)]; exact e18_2
    have e19_3 : r3.sl[19]? = some (.un) := by rw [← h3, at_ne (by decide), at_ne (by decide)]; exact e19_2
    have e6_3 : r3.sl[6]? = some (.v (polD m (norm l))) := by rw [← h3, at_ne (by decide)]; exact at_set (by exact lt20 L2 (by decide))
    have e7_3 : r3.sl[7]? = some (.v (polD m (norm l2))) := by rw [← h3]; exact at_set (by rw [len_set]; exact lt20 L2 (by decide))
    have c3 : r3.c = (r2.c + 1) := by rw [← h3]; rfl
    refine dseq_mid (fun ρ' => ρ' = r3.set 8 (.v (.tup ((norm l).map trmD)))) (fun nx hnx => ?_) ?_
    · exact dsAsg (RnE.call (RnA.one (RnE.var e4_3)) (op_ord (by omega))) RnG.name (hnx _ rfl)
    rintro _ rfl
    generalize h4 : r3.set 8 (.v (.tup ((norm l).map trmD))) = r4
    have L4 : r4.sl.length = 20 := by rw [← h4, len_set]; exact L3
    have e1_4 : r4.sl[1]? = some (.v .well) := by rw [← h4, at_ne (by decide)]; exact e1_3
    have e3_4 : r4.sl[3]? = some (.v (.int (m : Nat))) := by rw [← h4, at_ne (by decide)]; exact e3_3
    have e4_4 : r4.sl[4]? = some (.v (.lst (l.map trmD))) := by rw [← h4, at_ne (by decide)]; exact e4_3
    have e5_4 : r4.sl[5]? = some (.v (.lst (l2.map trmD))) := by rw [← h4, at_ne (by decide)]; exact e5_3
    have e6_4 : r4.sl[6]? = some (.v (polD m (norm l))) := by rw [← h4, at_ne (by decide)]; exact e6_3
    have e7_4 : r4.sl[7]? = some (.v (polD m (norm l2))) := by rw [← h4, at_ne (by decide)]; exact e7_3
    have e17_4 : r4.sl[17]? = some (.un) := by rw [← h4, at_ne (by decide)]; exact e17_3
    have e18_4 : r4.sl[18]? = some (.un) := by rw [← h4, at_ne (by decide)]; exact e18_3
    have e19_4 : r4.sl[19]? = some (.un) := by rw [← h4, at_ne (by decide)]; exact e19_3
    have e8_4 : r4.sl[8]? = some (.v (.tup ((norm l).map trmD))) := by rw [← h4]; exact at_set (by exact lt20 L3 (by decide))
    have c4 : r4.c = r3.c := by rw [← h4]; rfl
    refine dseq_mid (fun ρ' => r4 = ρ') (fun nx hnx => ?_) ?_
    · have hs := RnE.lcY (ρ := r4) (ρ' := r4) (xs := norm l) (r := trmD) (s := dSq (dVar 8)) (g := dgTup 2 (dgCons (dgName 17) (dgCons (dgName 18) dgNil))) (vs := [17, 18]) (e := fun ρ Q => dCons (dVar 18) dNil ρ fun ρ1 ds => ∃ ns : List Int, (ds = [.lst (ns.map .int)] ∨ ds = [.tup (ns.map .int)]) ∧ Q ρ1 (.int ns.sum)) (fun t => .int (t.2.sum : Nat)) (RnA.seq (RnE.var e8_4) rfl) (no2 e17_4 e18_4) (hS (by omega)) (fun t ht => ⟨_, ag2, rfl, RnG.two, RnE.app (RnA.one (RnE.var (atw2 (lt20 L4 (by decide))))) ou_sumK⟩)
      have es : (norm l).map (fun t => D.int (t.2.sum : Nat)) = ((norm l).map fun t => ((t.2.sum : Nat) : Int)).map .int := by rw [List.map_map]; rfl
      rw [es] at hs
      have hmx := RnE.max (ns := (norm l).map fun t => ((t.2.sum : Nat) : Int)) (RnA.one (RnE.bin (RnE.lst (RnA.one (RnE.c (ρ := r4) (d := vC (V.int 0)))) (by show 1 ≤ sizeLine; decide)) hs (ob_cat (hS (by rw [List.length_map, List.length_map]; show 1 + _ ≤ _; omega)))))
      have hA := RnE.app (RnA.one (RnE.lst (RnA.cons (RnE.fldC (RnE.var e6_4) (f_many m (norm l))) (RnA.cons (RnE.fldC (RnE.var e6_4) (f_terms m (norm l))) (RnA.one (RnE.fldC (RnE.var e6_4) (f_degree m (norm l)))))) (by show 3 ≤ sizeLine; decide))) (ou_repr (toP_repA m (norm l)) rfl (shw_repA hm ht hl) (dep_repA _ _))
      have hB := RnE.app (RnA.one (RnE.lst (RnA.cons (RnE.var e3_4) (RnA.cons (RnE.var e8_4) (RnA.one hmx))) (by show 3 ≤ sizeLine; decide))) (ou_repr (toP_repA m (norm l)) rfl (shw_repA hm ht hl) (dep_repA _ _))
      have hT := RnT.b (RnE.bin hA hB (ob_neS (s := (repA m (norm l)).shown) (t := (repA m (norm l)).shown)))
      rw [decide_eq_true rfl] at hT
      exact dsIf false hT (fun h => by cases h) (fun _ => by exact hnx _ rfl)
    rintro _ rfl
    refine dseq_mid (fun ρ' => r4 = ρ') (fun nx hnx => ?_) ?_
    · have h1 := RnE.neC (RnE.var e6_4) (RnE.polK (RnA.cons (RnE.revL (RnE.var e4_4)) (RnA.one (RnE.var e3_4))) hm (rowT_rev l) (okL_rev ok))
      rw [norm_rev, decide_eq_true rfl] at h1
      have h2 := RnE.bin (RnE.eqC (RnE.var e6_4) (RnE.var e7_4)) (RnE.bin (RnE.var e8_4) (RnE.call (RnA.one (RnE.var e5_4)) (op_ord (l := l2) (by omega))) (emb_trms.ob (by decide) (a := norm l) (b := norm l2))) (ob_neB (a := decide ((m, norm l) = (m, norm l2))) (b := decide (norm l = norm l2)))
      rw [show decide ((m, norm l) = (m, norm l2)) = decide (norm l = norm l2) from decide_eq_decide.mpr ⟨fun h => (Prod.mk.inj h).2, fun h => by rw [h]⟩, decide_eq_true rfl] at h2
      have h3 := RnE.eqCT (RnE.var e6_4) (RnE.var e8_4)
      have h5 : (m : Int) < 6 → RnE _ r4 r4 _ := fun hm6 => RnE.eqC (RnE.var e6_4) (RnE.pol (m := m + 1) (l := []) (RnA.cons (RnE.bin (RnE.var e3_4) (RnE.c (d := vC (V.int 1))) (ob_I0 (f := fun i j => vC (V.int (i + j))))) (RnA.one (RnE.lst RnA.nil (by decide)))) (by omega) (rowT_lst []) (okL_nil _))
      have h4 := RnT.andB (RnT.b (RnE.bin (RnE.var e3_4) (RnE.c (d := vC (V.int 6))) (ob_I0 (f := fun i j => vC (V.bl (decide (i < j))))))) (fun h => RnT.b (h5 (of_decide_eq_true h)))
      rw [show decide ((m, norm l) = (m + 1, norm [])) = false from decide_eq_false fun h => by have := (Prod.mk.inj h).1; omega, Bool.and_false] at h4
      exact dsIf false (RnT.or (RnT.b h1) (RnT.or (RnT.b h2) (RnT.or (RnT.b h3) h4))) (fun h => by cases h) (fun _ => by exact hnx _ rfl)
    rintro _ rfl
    refine dseq_mid (fun ρ' => r4 = ρ') (fun nx hnx => ?_) ?_
    · have hneg := RnE.lcY (ρ := r4) (ρ' := r4) (xs := l2) (r := trmD) (s := dSq (dVar 5)) (g := dgTup 2 (dgCons (dgName 17) (dgCons (dgName 18) dgNil))) (vs := [17, 18]) (e := dTup (dCons (fun ρ Q => dC (vC (V.int 0)) ρ fun ρ1 x => dVar 17 ρ1 fun ρ2 y => gI0 (fun i j => vC (V.int (i - j))) x y ρ2 Q) (dCons (dVar 18) dNil))) (fun t => trmD ((0 - t.1, t.2) : Trm)) (RnA.seq (RnE.var e5_4) rfl) (no2 e17_4 e18_4) (hS (by omega)) (fun t ht => ⟨_, ag2, rfl, RnG.two, RnE.tup (RnA.cons (RnE.bin RnE.c (RnE.var (atw2' (by decide) (lt20 L4 (by decide)))) ob_I0) (RnA.one (RnE.var (atw2 (lt20 L4 (by decide)))))) (by show 2 ≤ sizeLine; decide)⟩)
      rw [neg_own] at hneg
      have hcat := RnE.bin (RnE.var e4_4) hneg (ob_cat (hS (by rw [List.length_map, List.length_map, neg_length]; omega)))
      rw [← List.map_append] at hcat
      have hA := RnE.fldC (RnE.methK (m := "less") (n := 1) (RnE.var e6_4) (by decide +kernel) (RnA.one (RnE.var e7_4)) rfl (op_less hm okn okn2 (by omega))) (f_terms m _)
      have h1 := RnE.bin hA (RnE.call (RnA.one hcat) (op_ord (by rw [List.length_append, neg_length]; omega))) (emb_trms.obN (by decide))
      rw [norm_less, decide_eq_true rfl] at h1
      have h2 := RnE.neC (RnE.meth (m := "less") (RnE.var e6_4) (by decide +kernel) (RnA.one (RnE.var e6_4)) (op_less hm okn okn (by omega))) (RnE.pol (m := m) (l := []) (RnA.cons (RnE.var e3_4) (RnA.one (RnE.lst RnA.nil (by decide)))) hm (rowT_lst []) (okL_nil _))
      rw [norm_self, norm_nil, decide_eq_true rfl] at h2
      exact dsIf false (RnT.or (RnT.b h1) (RnT.b h2)) (fun h => by cases h) (fun _ => by exact hnx _ rfl)
    rintro _ rfl
    refine dseq_mid (fun ρ' => ∃ ns : List Int, ns.length = m ∧ (∀ n ∈ ns, n.natAbs < 2 ^ 64) ∧ ρ' = (r4.cnt (r4.c + m)).set 9 (.v (.lst (ns.map .int)))) (fun nx hnx => ?_) ?_
    · unfold dAsg
      exact nums_run (xs := numsM) e1_4 e3_4 hm (noOwn1 (l := r4.sl) (c := r4.c) e19_4 rfl) (by omega) L4 (fun ρ1 Q q => ⟨⟨by decide, by decide, by decide⟩, by decide, q⟩) (by decide) (by decide) fun ns hn hx => RnG.name _ (hnx _ ⟨ns, hn, fun n h => numsM_ok n (hx n h), rfl⟩)
    rintro _ ⟨ns, hn, hN, rfl⟩
    generalize h5 : (r4.cnt (r4.c + m)).set 9 (.v (.lst (ns.map .int))) = r5
    have L5 : r5.sl.length = 20 := by rw [← h5, len_set]; exact L4
    have e1_5 : r5.sl[1]? = some (.v .well) := by rw [← h5, at_ne (by decide)]; exact e1_4
    have e3_5 : r5.sl[3]? = some (.v (.int (m : Nat))) := by rw [← h5, at_ne (by decide)]; exact e3_4
    have e4_5 : r5.sl[4]? = some (.v (.lst (l.map trmD))) := by rw [← h5, at_ne (by decide)]; exact e4_4
    have e5_5 : r5.sl[5]? = some (.v (.lst (l2.map trmD))) := by rw [← h5, at_ne (by decide)]; exact e5_4
    have e6_5 : r5.sl[6]? = some (.v (polD m (norm l))) := by rw [← h5, at_ne (by decide)]; exact e6_4
    have e7_5 : r5.sl[7]? = some (.v (polD m (norm l2))) := by rw [← h5, at_ne (by decide)]; exact e7_4
    have e8_5 : r5.sl[8]? = some (.v (.tup ((norm l).map trmD))) := by rw [← h5, at_ne (by decide)]; exact e8_4
    have e17_5 : r5.sl[17]? = some (.un) := by rw [← h5, at_ne (by decide)]; exact e17_4
    have e18_5 : r5.sl[18]? = some (.un) := by rw [← h5, at_ne (by decide)]; exact e18_4
    have e19_5 : r5.sl[19]? = some (.un) := by rw [← h5, at_ne (by decide)]; exact e19_4
    have e9_5 : r5.sl[9]? = some (.v (.lst (ns.map .int))) := by rw [← h5]; exact at_set (by exact lt20 L4 (by decide))
    have c5 : r5.c = (r4.c + m) := by rw [← h5]; rfl
    refine dseq_mid (fun ρ' => r5 = ρ') (fun nx hnx => ?_) ?_
    · have hA := RnE.app (RnA.one (RnE.lst (RnA.cons (RnE.meth (m := "worth_at") (RnE.var e6_5) (by decide +kernel) (RnA.one (RnE.var e9_5)) (op_wo hm ht hl hn hN rfl)) (RnA.one (RnE.methK (m := "worth_at") (n := 1) (RnE.var e6_5) (by decide +kernel) (RnA.one (RnE.un (RnE.var e9_5) (ov_tup rfl))) rfl (op_wo hm ht hl hn hN rfl)))) (by show 2 ≤ sizeLine; decide))) (ou_repr (toP_repB (worth l ns)) rfl (shw_repB ht hl hN) (dep_repB _))
      have hB := RnE.app (RnA.one (RnE.repC (n := 2) (RnA.one (RnE.call (RnA.cons (RnE.var e4_5) (RnA.one (RnE.var e9_5))) (op_at ht hl hN))) (by decide) (by show 1 ≤ 10; decide))) (ou_repr (toP_repB (worth l ns)) rfl (shw_repB ht hl hN) (dep_repB _))
      have hT := RnT.b (RnE.bin hA hB (ob_neS (s := (repB (worth l ns)).shown) (t := (repB (worth l ns)).shown)))
      rw [decide_eq_true rfl] at hT
      exact dsIf false hT (fun h => by cases h) (fun _ => by exact hnx _ rfl)
    rintro _ rfl
    refine dseq_mid (fun ρ' => ∃ d, d ∈ menuN ∧ ρ' = ((r5.cnt (r5.c + 1)).set 10 (.v d)).set 11 (.v (.lst (someD m)))) (fun nx hnx => ?_) ?_
    · unfold dAsg
      refine w_tup (w_cons (dr1 (xs := menuN) e1_5 (fun Q q => ⟨by decide, by decide, q⟩) (by decide) (by decide) (by omega) fun d hd => ?_))
      have hz := RnE.zs (ρ := r5.cnt (r5.c + 1)) (RnE.var e3_5) (by omega)
      refine w_cons (RnE.lst (RnA.cons RnE.c (RnA.cons RnE.c (RnA.cons (RnE.lst (RnA.one RnE.c) (by decide)) (RnA.cons (RnE.lst (RnA.one (RnE.tup (RnA.one RnE.c) (by decide))) (by decide)) (RnA.cons RnE.c (RnA.one (RnE.lst (RnA.one (RnE.tup (RnA.cons hz (RnA.one RnE.c)) (by show 2 ≤ sizeLine; decide))) (by show 1 ≤ sizeLine; decide)))))))) (by show 6 ≤ sizeLine; decide) _ ?_)
      exact ⟨(by show 2 ≤ sizeLine; decide), RnG.two _ (hnx _ ⟨d, hd, rfl⟩)⟩
    rintro _ ⟨dN, hdN, rfl⟩
    generalize h6 : ((r5.cnt (r5.c + 1)).set 10 (.v dN)).set 11 (.v (.lst (someD m))) = r6
    have L6 : r6.sl.length = 20 := by rw [← h6, len_set, len_set]; exact L5
    have e1_6 : r6.sl[1]? = some (.v .well) := by rw [← h6, at_ne (by decide), at_ne (by decide)]; exact e1_5
    have e3_6 : r6.sl[3]? = some (.v (.int (m : Nat))) := by rw [← h6, at_ne (by decide), at_ne (by decide)]; exact e3_5
    have e4_6 : r6.sl[4]? = some (.v (.lst (l.map trmD))) := by rw [← h6, at_ne (by decide), at_ne (by decide)]; exact e4_5
    have e5_6 : r6.sl[5]? = some (.v (.lst (l2.map trmD))) := by rw [← h6, at_ne (by decide), at_ne (by decide)]; exact e5_5
    have e6_6 : r6.sl[6]? = some (.v (polD m (norm l))) := by rw [← h6, at_ne (by decide), at_ne (by decide)]; exact e6_5
    have e7_6 : r6.sl[7]? = some (.v (polD m (norm l2))) := by rw [← h6, at_ne (by decide), at_ne (by decide)]; exact e7_5
    have e8_6 : r6.sl[8]? = some (.v (.tup ((norm l).map trmD))) := by rw [← h6, at_ne (by decide), at_ne (by decide)]; exact e8_5
    have e9_6 : r6.sl[9]? = some (.v (.lst (ns.map .int))) := by rw [← h6, at_ne (by decide), at_ne (by decide)]; exact e9_5
    have e17_6 : r6.sl[17]? = some (.un) := by rw [← h6, at_ne (by decide), at_ne (by decide)]; exact e17_5
    have e18_6 : r6.sl[18]? = some (.un) := by rw [← h6, at_ne (by decide), at_ne (by decide)]; exact e18_5
    have e19_6 : r6.sl[19]? = some (.un) := by rw [← h6, at_ne (by decide), at_ne (by decide)]; exact e19_5
    have e10_6 : r6.sl[10]? = some (.v dN) := by rw [← h6, at_ne (by decide)]; exact at_set (by exact lt20 L5 (by decide))
    have e11_6 : r6.sl[11]? = some (.v (.lst (someD m))) := by rw [← h6]; exact at_set (by rw [len_set]; exact lt20 L5 (by decide))
    have c6 : r6.c = (r5.c + 1) := by rw [← h6]; rfl
    refine dseq_mid (fun ρ' => ∃ d, d ∈ someD m ++ moreD m ∧ ρ' = (r6.cnt (r6.c + 1)).set 12 (.v d)) (fun nx hnx => ?_) ?_
    · unfold dAsg
      have hz := RnE.zs (RnE.var e3_6) (by omega)
      have hz1 := RnE.zs (n := m + 1) (RnE.bin (RnE.var e3_6) (RnE.c (d := vC (V.int 1))) (ob_I0 (f := fun i j => vC (V.int (i + j))))) (by omega)
      have hb := RnE.bin (RnE.var e11_6) (RnE.lst (RnA.cons (RnE.lst (RnA.one (RnE.tup (RnA.cons (RnE.c (d := vC (V.int 1))) (RnA.one hz1)) (by show 2 ≤ sizeLine; decide))) (by show 1 ≤ sizeLine; decide)) (RnA.cons (RnE.lst (RnA.one (RnE.tup (RnA.cons (RnE.c (d := vC (V.bl true))) (RnA.one hz)) (by show 2 ≤ sizeLine; decide))) (by show 1 ≤ sizeLine; decide)) (RnA.cons (RnE.lst (RnA.one (RnE.tup (RnA.cons (RnE.c (d := vC (V.str "1"))) (RnA.one hz)) (by show 2 ≤ sizeLine; decide))) (by show 1 ≤ sizeLine; decide)) (RnA.one (RnE.lst (RnA.one (RnE.tup (RnA.cons (RnE.c (d := vC (V.int 1))) (RnA.cons hz (RnA.one (RnE.c (d := vC (V.int 0)))))) (by show 3 ≤ sizeLine; decide))) (by show 1 ≤ sizeLine; decide)))))) (by show 4 ≤ sizeLine; decide)) (ob_cat (xs := someD m) (ys := moreD m) (by show 6 + 4 ≤ sizeLine; decide))
      exact dr1 (xs := someD m ++ moreD m) e1_6 hb (by show 0 < 10; decide) (by show 10 < 1073741824; decide) (by omega) fun d hd => RnG.name _ (hnx _ ⟨d, hd, rfl⟩)
    rintro _ ⟨dB, hdB, rfl⟩
    generalize h7 : (r6.cnt (r6.c + 1)).set 12 (.v dB) = r7
    have L7 : r7.sl.length = 20 := by rw [← h7, len_set]; exact L6
    have e1_7 : r7.sl[1]? = some (.v .well) := by rw [← h7, at_ne (by decide)]; exact e1_6
    have e3_7 : r7.sl[3]? = some (.v (.int (m : Nat))) := by rw [← h7, at_ne (by decide)]; exact e3_6
    have e4_7 : r7.sl[4]? = some (.v (.lst (l.map trmD))) := by rw [← h7, at_ne (by decide)]; exact e4_6
    have e5_7 : r7.sl[5]? = some (.v (.lst (l2.map trmD))) := by rw [← h7, at_ne (by decide)]; exact e5_6
    have e6_7 : r7.sl[6]? = some (.v (polD m (norm l))) := by rw [← h7, at_ne (by decide)]; exact e6_6
    have e7_7 : r7.sl[7]? = some (.v (polD m (norm l2))) := by rw [← h7, at_ne (by decide)]; exact e7_6
    have e8_7 : r7.sl[8]? = some (.v (.tup ((norm l).map trmD))) := by rw [← h7, at_ne (by decide)]; exact e8_6
    have e9_7 : r7.sl[9]? = some (.v (.lst (ns.map .int))) := by rw [← h7, at_ne (by decide)]; exact e9_6
    have e10_7 : r7.sl[10]? = some (.v dN) := by rw [← h7, at_ne (by decide)]; exact e10_6
    have e11_7 : r7.sl[11]? = some (.v (.lst (someD m))) := by rw [← h7, at_ne (by decide)]; exact e11_6
    have e17_7 : r7.sl[17]? = some (.un) := by rw [← h7, at_ne (by decide)]; exact e17_6
    have e18_7 : r7.sl[18]? = some (.un) := by rw [← h7, at_ne (by decide)]; exact e18_6
    have e19_7 : r7.sl[19]? = some (.un) := by rw [← h7, at_ne (by decide)]; exact e19_6
    have e12_7 : r7.sl[12]? = some (.v dB) := by rw [← h7]; exact at_set (by exact lt20 L6 (by decide))
    have c7 : r7.c = (r6.c + 1) := by rw [← h7]; rfl
    refine dseq_mid (fun ρ' => ∃ (d : D) (c' : Nat), (deep 3 d = true ∧ areT d m = false) ∧ c' ≤ r7.c + 1 ∧ ρ' = (r7.cnt c').set 13 (.v d)) (fun nx hnx => ?_) ?_
    · unfold dAsg
      refine dr_if (c := decide ((m : Int) > 0)) (RnT.b (RnE.bin (RnE.var e3_7) RnE.c ob_I0)) (fun h => ?_) (fun h => ?_)
      · have h0 : 0 < m := by have := of_decide_eq_true h; omega
        have em : (m : Int) - 1 = ((m - 1 : Nat) : Int) := by omega
        have hk : RnE (fun ρ Q => dVar 3 ρ fun ρ1 x => dC (vC (V.int 1)) ρ1 fun ρ2 y => gI0 (fun i j => vC (V.int (i - j))) x y ρ2 Q) r7 r7 (.int ((m - 1 : Nat) : Int)) := by rw [← em]; exact RnE.bin (RnE.var e3_7) RnE.c ob_I0
        have hz := RnE.zs hk (by omega)
        have zl : (zs (m - 1)).length ≤ 6 := by unfold zs; rw [List.length_replicate]; omega
        have hc : ∀ x : D, ({e : DE} → RnE e r7 r7 x → RnE _ r7 r7 (.lst [.tup [.int 1, .tup (x :: zs (m - 1))]])) := fun x e he => RnE.lst (RnA.one (RnE.tup (RnA.cons (RnE.c (d := vC (V.int 1))) (RnA.one (RnE.bin (RnE.tup (RnA.one he) (by show 1 ≤ sizeLine; decide)) hz (ob_catT (xs := [x]) (fun z => nomatch z) (hS (by show 1 + _ ≤ 100; omega)))))) (by show 2 ≤ sizeLine; decide))) (by show 1 ≤ sizeLine; decide)
        exact dr1 (xs := farD m) e1_7 (RnE.lst (RnA.cons (hc (.int 4) RnE.c) (RnA.cons (hc (.int (-1)) (fun Q q => q)) (RnA.one (hc (.bl true) RnE.c)))) (by show 3 ≤ sizeLine; decide)) (by show 0 < 3; decide) (by show 3 < 1073741824; decide) (by omega) fun d hd => RnG.name _ (hnx _ ⟨d, _, far_ok hm h0 hd, Nat.le_refl _, rfl⟩)
      · have h0 : m = 0 := by have := of_decide_eq_false h; omega
        exact RnE.lst (RnA.one (RnE.tup (RnA.cons RnE.c (RnA.one RnE.c)) (by show 2 ≤ sizeLine; decide))) (by show 1 ≤ sizeLine; decide) _ (RnG.name _ (hnx _ ⟨.lst [.tup [.int 1, .int 0]], r7.c, by rw [h0]; exact far0_ok, Nat.le_succ _, rfl⟩))
    rintro _ ⟨dF, cf, hdF, hcf, rfl⟩
    generalize h8 : (r7.cnt cf).set 13 (.v dF) = r8
    have L8 : r8.sl.length = 20 := by rw [← h8, len_set]; exact L7
    have e1_8 : r8.sl[1]? = some (.v .well) := by rw [← h8, at_ne (by decide)]; exact e1_7
    have e3_8 : r8.sl[3]? = some (.v (.int (m : Nat))) := by rw [← h8, at_ne (by decide)]; exact e3_7
    have e4_8 : r8.sl[4]? = some (.v (.lst (l.map trmD))) := by rw [← h8, at_ne (by decide)]; exact e4_7
    have e5_8 : r8.sl[5]? = some (.v (.lst (l2.map trmD))) := by rw [← h8, at_ne (by decide)]; exact e5_7
    have e6_8 : r8.sl[6]? = some (.v (polD m (norm l))) := by rw [← h8, at_ne (by decide)]; exact e6_7
    have e7_8 : r8.sl[7]? = some (.v (polD m (norm l2))) := by rw [← h8, at_ne (by decide)]; exact e7_7
    have e8_8 : r8.sl[8]? = some (.v (.tup ((norm l).map trmD))) := by rw [← h8, at_ne (by decide)]; exact e8_7
    have e9_8 : r8.sl[9]? = some (.v (.lst (ns.map .int))) := by rw [← h8, at_ne (by decide)]; exact e9_7
    have e10_8 : r8.sl[10]? = some (.v dN) := by rw [← h8, at_ne (by decide)]; exact e10_7
    have e11_8 : r8.sl[11]? = some (.v (.lst (someD m))) := by rw [← h8, at_ne (by decide)]; exact e11_7
    have e12_8 : r8.sl[12]? = some (.v dB) := by rw [← h8, at_ne (by decide)]; exact e12_7
    have e17_8 : r8.sl[17]? = some (.un) := by rw [← h8, at_ne (by decide)]; exact e17_7
    have e18_8 : r8.sl[18]? = some (.un) := by rw [← h8, at_ne (by decide)]; exact e18_7
    have e19_8 : r8.sl[19]? = some (.un) := by rw [← h8, at_ne (by decide)]; exact e19_7
    have e13_8 : r8.sl[13]? = some (.v dF) := by rw [← h8]; exact at_set (by exact lt20 L7 (by decide))
    have c8 : r8.c = cf := by rw [← h8]; rfl
    refine dseq_mid (fun ρ' => ∃ d, (deep 1 d = true ∧ aiB m d = false) ∧ ρ' = (r8.cnt (r8.c + 1)).set 14 (.v d)) (fun nx hnx => ?_) ?_
    · unfold dAsg
      have hcat := RnE.bin (RnE.var e9_8) (RnE.lst (RnA.one (RnE.c (d := vC (V.int 0)))) (by show 1 ≤ sizeLine; decide)) (ob_cat (xs := ns.map D.int) (ys := [D.int 0]) (hS (by rw [List.length_map]; show _ + 1 ≤ 100; omega)))
      have hgt := RnT.b (RnE.bin (RnE.var e3_8) (RnE.c (d := vC (V.int 0))) (ob_I0 (f := fun i j => vC (V.bl (decide (i > j))))))
      have hr1 := RnE.repV (i := 3) (RnA.one (RnE.c (ρ := r8) (d := vC V.non))) e3_8 (by omega) (by show 1 ≤ 10; decide)
      have hr2 := RnE.repV (i := 3) (RnA.one (RnE.c (ρ := r8) (d := vC (V.bl true)))) e3_8 (by omega) (by show 1 ≤ 10; decide)
      rw [flat1] at hr1 hr2
      have hi1 := RnE.ite hgt (fun _ => hr1) (fun _ => RnE.c (d := .dik [] []))
      have hi2 := RnE.ite hgt (fun _ => hr2) (fun _ => RnE.c (d := vC (V.int 5)))
      exact dr1s (xs := oddD m ns) e1_8 (fun Q q => w_lst (w_cons (RnE.c _ (w_cons (RnE.c _ (w_cons (hcat _ (w_cons (RnE.c _ (RnE.var e3_8 _ ⟨_, m, rfl, rfl, by omega, by decide, fun s => w_cons (hi1 _ (w_cons (hi2 _ ⟨(by show 6 ≤ sizeLine; decide), q s⟩)))⟩)))))))))) (fun s => by show 0 < 6; decide) (fun s => by show 6 < 1073741824; decide) (by omega) fun s d hd => RnG.name _ (hnx _ ⟨d, odd_ok hm hn hd, rfl⟩)
    rintro _ ⟨dO, hdO, rfl⟩
    generalize h9 : (r8.cnt (r8.c + 1)).set 14 (.v dO) = r9
    have L9 : r9.sl.length = 20 := by rw [← h9, len_set]; exact L8
    have e1_9 : r9.sl[1]? = some (.v .well) := by rw [← h9, at_ne (by decide)]; exact e1_8
    have e3_9 : r9.sl[3]? = some (.v (.int (m : Nat))) := by rw [← h9, at_ne (by decide)]; exact e3_8
    have e4_9 : r9.sl[4]? = some (.v (.lst (l.map trmD))) := by rw [← h9, at_ne (by decide)]; exact e4_8
    have e5_9 : r9.sl[5]? = some (.v (.lst (l2.map trmD))) := by rw [← h9, at_ne (by decide)]; exact e5_8
    have e6_9 : r9.sl[6]? = some (.v (polD m (norm l))) := by rw [← h9, at_ne (by decide)]; exact e6_8
    have e7_9 : r9.sl[7]? = some (.v (polD m (norm l2))) := by rw [← h9, at_ne (by decide)]; exact e7_8
    have e8_9 : r9.sl[8]? = some (.v (.tup ((norm l).map trmD))) := by rw [← h9, at_ne (by decide)]; exact e8_8
    have e9_9 : r9.sl[9]? = some (.v (.lst (ns.map .int))) := by rw [← h9, at_ne (by decide)]; exact e9_8
    have e10_9 : r9.sl[10]? = some (.v dN) := by rw [← h9, at_ne (by decide)]; exact e10_8
    have e11_9 : r9.sl[11]? = some (.v (.lst (someD m))) := by rw [← h9, at_ne (by decide)]; exact e11_8
    have e12_9 : r9.sl[12]? = some (.v dB) := by rw [← h9, at_ne (by decide)]; exact e12_8
    have e13_9 : r9.sl[13]? = some (.v dF) := by rw [← h9, at_ne (by decide)]; exact e13_8
    have e17_9 : r9.sl[17]? = some (.un) := by rw [← h9, at_ne (by decide)]; exact e17_8
    have e18_9 : r9.sl[18]? = some (.un) := by rw [← h9, at_ne (by decide)]; exact e18_8
    have e19_9 : r9.sl[19]? = some (.un) := by rw [← h9, at_ne (by decide)]; exact e19_8
    have e14_9 : r9.sl[14]? = some (.v dO) := by rw [← h9]; exact at_set (by exact lt20 L8 (by decide))
    have c9 : r9.c = (r8.c + 1) := by rw [← h9]; rfl
    refine dseq_mid (fun ρ' => ∃ d, d ∈ othD m (norm l) ∧ ρ' = (r9.cnt (r9.c + 1)).set 15 (.v d)) (fun nx hnx => ?_) ?_
    · unfold dAsg
      refine dr1 (xs := othD m (norm l)) e1_9 (RnE.lst (RnA.cons RnE.c (RnA.cons (RnE.var e8_9) (RnA.cons (RnE.pol (m := (m + 1) % 7) (l := []) (RnA.cons (fun Q q => RnE.var e3_9 _ ⟨by show (0 : Int) < 7; decide, ?_⟩) (RnA.one (RnE.lst RnA.nil (by decide)))) (by omega) (rowT_lst []) (okL_nil _)) (RnA.one RnE.c)))) (by show 4 ≤ sizeLine; decide)) (by show 0 < 4; decide) (by show 4 < 1073741824; decide) (by omega) fun d hd => RnG.name _ (hnx _ ⟨d, hd, rfl⟩)
      have e7 : ((m : Int) + 1) % 7 = (((m + 1) % 7 : Nat) : Int) := by omega
      show Q _ (.int (((m : Int) + 1) % 7))
      rw [e7]; exact q
    rintro _ ⟨dT, hdT, rfl⟩
    generalize h10 : (r9.cnt (r9.c + 1)).set 15 (.v dT) = r10
    have L10 : r10.sl.length = 20 := by rw [← h10, len_set]; exact L9
    have e1_10 : r10.sl[1]? = some (.v .well) := by rw [← h10, at_ne (by decide)]; exact e1_9
    have e3_10 : r10.sl[3]? = some (.v (.int (m : Nat))) := by rw [← h10, at_ne (by decide)]; exact e3_9
    have e4_10 : r10.sl[4]? = some (.v (.lst (l.map trmD))) := by rw [← h10, at_ne (by decide)]; exact e4_9
    have e5_10 : r10.sl[5]? = some (.v (.lst (l2.map trmD))) := by rw [← h10, at_ne (by decide)]; exact e5_9
    have e6_10 : r10.sl[6]? = some (.v (polD m (norm l))) := by rw [← h10, at_ne (by decide)]; exact e6_9
    have e7_10 : r10.sl[7]? = some (.v (polD m (norm l2))) := by rw [← h10, at_ne (by decide)]; exact e7_9
    have e8_10 : r10.sl[8]? = some (.v (.tup ((norm l).map trmD))) := by rw [← h10, at_ne (by decide)]; exact e8_9
    have e9_10 : r10.sl[9]? = some (.v (.lst (ns.map .int))) := by rw [← h10, at_ne (by decide)]; exact e9_9
    have e10_10 : r10.sl[10]? = some (.v dN) := by rw [← h10, at_ne (by decide)]; exact e10_9
    have e11_10 : r10.sl[11]? = some (.v (.lst (someD m))) := by rw [← h10, at_ne (by decide)]; exact e11_9
    have e12_10 : r10.sl[12]? = some (.v dB) := by rw [← h10, at_ne (by decide)]; exact e12_9
    have e13_10 : r10.sl[13]? = some (.v dF) := by rw [← h10, at_ne (by decide)]; exact e13_9
    have e14_10 : r10.sl[14]? = some (.v dO) := by rw [← h10, at_ne (by decide)]; exact e14_9
    have e17_10 : r10.sl[17]? = some (.un) := by rw [← h10, at_ne (by decide)]; exact e17_9
    have e18_10 : r10.sl[18]? = some (.un) := by rw [← h10, at_ne (by decide)]; exact e18_9
    have e19_10 : r10.sl[19]? = some (.un) := by rw [← h10, at_ne (by decide)]; exact e19_9
    have e15_10 : r10.sl[15]? = some (.v dT) := by rw [← h10]; exact at_set (by exact lt20 L9 (by decide))
    have c10 : r10.c = (r9.c + 1) := by rw [← h10]; rfl
    refine dseq_mid (fun ρ' => ρ' = r10.set 16 (.v (.lst [.tup [.str (kindW 2), .str "many"], .tup [.str (kindW 3), .str "terms"], .tup [.str (kindW 3), .str "terms"]]))) (fun nx hnx => ?_) ?_
    · exact dsAsg (RnE.lst (RnA.cons (RnE.saidM (i := 2) (p := "many") (RnA.cons (RnE.var e10_10) (RnA.one (RnE.var e12_10))) (by decide) (fun x c XD q => init_none hdN _ _ c XD q)) (RnA.cons (RnE.saidM (i := 3) (p := "terms") (RnA.cons (RnE.var e3_10) (RnA.one (RnE.var e12_10))) (by decide) (fun x c XD q => init_bad hm (bad_ok hm hdB) _ c XD q)) (RnA.one (RnE.saidM (i := 3) (p := "terms") (RnA.cons (RnE.var e3_10) (RnA.one (RnE.var e13_10))) (by decide) (fun x c XD q => init_bad hm hdF _ c XD q))))) (by show 3 ≤ sizeLine; decide)) RnG.name (hnx _ rfl)
    rintro _ rfl
    generalize h11 : r10.set 16 (.v (.lst [.tup [.str (kindW 2), .str "many"], .tup [.str (kindW 3), .str "terms"], .tup [.str (kindW 3), .str "terms"]])) = r11
    have L11 : r11.sl.length = 20 := by rw [← h11, len_set]; exact L10
    have e1_11 : r11.sl[1]? = some (.v .well) := by rw [← h11, at_ne (by decide)]; exact e1_10
    have e3_11 : r11.sl[3]? = some (.v (.int (m : Nat))) := by rw [← h11, at_ne (by decide)]; exact e3_10
    have e4_11 : r11.sl[4]? = some (.v (.lst (l.map trmD))) := by rw [← h11, at_ne (by decide)]; exact e4_10
    have e5_11 : r11.sl[5]? = some (.v (.lst (l2.map trmD))) := by rw [← h11, at_ne (by decide)]; exact e5_10
    have e6_11 : r11.sl[6]? = some (.v (polD m (norm l))) := by rw [← h11, at_ne (by decide)]; exact e6_10
    have e7_11 : r11.sl[7]? = some (.v (polD m (norm l2))) := by rw [← h11, at_ne (by decide)]; exact e7_10
    have e8_11 : r11.sl[8]? = some (.v (.tup ((norm l).map trmD))) := by rw [← h11, at_ne (by decide)]; exact e8_10
    have e9_11 : r11.sl[9]? = some (.v (.lst (ns.map .int))) := by rw [← h11, at_ne (by decide)]; exact e9_10
    have e10_11 : r11.sl[10]? = some (.v dN) := by rw [← h11, at_ne (by decide)]; exact e10_10
    have e11_11 : r11.sl[11]? = some (.v (.lst (someD m))) := by rw [← h11, at_ne (by decide)]; exact e11_10
    have e12_11 : r11.sl[12]? = some (.v dB) := by rw [← h11, at_ne (by decide)]; exact e12_10
    have e13_11 : r11.sl[13]? = some (.v dF) := by rw [← h11, at_ne (by decide)]; exact e13_10
    have e14_11 : r11.sl[14]? = some (.v dO) := by rw [← h11, at_ne (by decide)]; exact e14_10
    have e15_11 : r11.sl[15]? = some (.v dT) := by rw [← h11, at_ne (by decide)]; exact e15_10
    have e17_11 : r11.sl[17]? = some (.un) := by rw [← h11, at_ne (by decide)]; exact e17_10
    have e18_11 : r11.sl[18]? = some (.un) := by rw [← h11, at_ne (by decide)]; exact e18_10
    have e19_11 : r11.sl[19]? = some (.un) := by rw [← h11, at_ne (by decide)]; exact e19_10
    have e16_11 : r11.sl[16]? = some (.v (.lst [.tup [.str (kindW 2), .str "many"], .tup [.str (kindW 3), .str "terms"], .tup [.str (kindW 3), .str "terms"]])) := by rw [← h11]; exact at_set (by exact lt20 L10 (by decide))
    have c11 : r11.c = r10.c := by rw [← h11]; rfl
    refine dseq_mid (fun ρ' => ρ' = r11.set 16 (.v (.lst [.tup [.str (kindW 2), .str "many"], .tup [.str (kindW 3), .str "terms"], .tup [.str (kindW 3), .str "terms"], .tup [.str (kindW 3), .str "numbers"], .tup [.str (kindW 3), .str "other"]]))) (fun nx hnx => ?_) ?_
    · exact dsAsg (RnE.bin (RnE.var e16_11) (RnE.lst (RnA.cons (RnE.saidO (i := 3) (p := "numbers") (RnE.var e6_11) (by decide +kernel) (RnA.one (RnE.var e14_11)) (by decide) (fun n XD q => ⟨m, norm l, _, rfl, hdO.1, hdO.2, q⟩)) (RnA.one (RnE.saidO (i := 3) (p := "other") (RnE.var e6_11) (by decide +kernel) (RnA.one (RnE.var e15_11)) (by decide) (fun n XD q => oth_ok hm hdT n XD q)))) (by show 2 ≤ sizeLine; decide)) (ob_cat (xs := [.tup [.str (kindW 2), .str "many"], .tup [.str (kindW 3), .str "terms"], .tup [.str (kindW 3), .str "terms"]]) (ys := [.tup [.str (kindW 3), .str "numbers"], .tup [.str (kindW 3), .str "other"]]) (by show 3 + 2 ≤ sizeLine; decide))) RnG.name (hnx _ rfl)
    rintro _ rfl
    generalize h12 : r11.set 16 (.v (.lst [.tup [.str (kindW 2), .str "many"], .tup [.str (kindW 3), .str "terms"], .tup [.str (kindW 3), .str "terms"], .tup [.str (kindW 3), .str "numbers"], .tup [.str (kindW 3), .str "other"]])) = r12
    have L12 : r12.sl.length = 20 := by rw [← h12, len_set]; exact L11
    have e1_12 : r12.sl[1]? = some (.v .well) := by rw [← h12, at_ne (by decide)]; exact e1_11
    have e3_12 : r12.sl[3]? = some (.v (.int (m : Nat))) := by rw [← h12, at_ne (by decide)]; exact e3_11
    have e4_12 : r12.sl[4]? = some (.v (.lst (l.map trmD))) := by rw [← h12, at_ne (by decide)]; exact e4_11
    have e5_12 : r12.sl[5]? = some (.v (.lst (l2.map trmD))) := by rw [← h12, at_ne (by decide)]; exact e5_11
    have e6_12 : r12.sl[6]? = some (.v (polD m (norm l))) := by rw [← h12, at_ne (by decide)]; exact e6_11
    have e7_12 : r12.sl[7]? = some (.v (polD m (norm l2))) := by rw [← h12, at_ne (by decide)]; exact e7_11
    have e8_12 : r12.sl[8]? = some (.v (.tup ((norm l).map trmD))) := by rw [← h12, at_ne (by decide)]; exact e8_11
    have e9_12 : r12.sl[9]? = some (.v (.lst (ns.map .int))) := by rw [← h12, at_ne (by decide)]; exact e9_11
    have e10_12 : r12.sl[10]? = some (.v dN) := by rw [← h12, at_ne (by decide)]; exact e10_11
    have e11_12 : r12.sl[11]? = some (.v (.lst (someD m))) := by rw [← h12, at_ne (by decide)]; exact e11_11
    have e12_12 : r12.sl[12]? = some (.v dB) := by rw [← h12, at_ne (by decide)]; exact e12_11
    have e13_12 : r12.sl[13]? = some (.v dF) := by rw [← h12, at_ne (by decide)]; exact e13_11
    have e14_12 : r12.sl[14]? = some (.v dO) := by rw [← h12, at_ne (by decide)]; exact e14_11
    have e15_12 : r12.sl[15]? = some (.v dT) := by rw [← h12, at_ne (by decide)]; exact e15_11
    have e17_12 : r12.sl[17]? = some (.un) := by rw [← h12, at_ne (by decide)]; exact e17_11
    have e18_12 : r12.sl[18]? = some (.un) := by rw [← h12, at_ne (by decide)]; exact e18_11
    have e19_12 : r12.sl[19]? = some (.un) := by rw [← h12, at_ne (by decide)]; exact e19_11
    have e16_12 : r12.sl[16]? = some (.v (.lst [.tup [.str (kindW 2), .str "many"], .tup [.str (kindW 3), .str "terms"], .tup [.str (kindW 3), .str "terms"], .tup [.str (kindW 3), .str "numbers"], .tup [.str (kindW 3), .str "other"]])) := by rw [← h12]; exact at_set (by exact lt20 L11 (by decide))
    have c12 : r12.c = r11.c := by rw [← h12]; rfl
    exact dsIf false (RnT.b (RnE.bin (RnE.var e16_12) (RnE.lst (RnA.cons (RnE.tup (RnA.cons RnE.c (RnA.one RnE.c)) (by show 2 ≤ sizeLine; decide)) (RnA.cons (RnE.tup (RnA.cons RnE.c (RnA.one RnE.c)) (by show 2 ≤ sizeLine; decide)) (RnA.cons (RnE.tup (RnA.cons RnE.c (RnA.one RnE.c)) (by show 2 ≤ sizeLine; decide)) (RnA.cons (RnE.tup (RnA.cons RnE.c (RnA.one RnE.c)) (by show 2 ≤ sizeLine; decide)) (RnA.cons (RnE.tup (RnA.cons RnE.c (RnA.one RnE.c)) (by show 2 ≤ sizeLine; decide)) RnA.nil))))) (by show 5 ≤ sizeLine; decide)) heard_eq)) (fun h => by cases h) (fun _ => by exact hO _ ⟨⟨L12, e1_12, e17_12, e18_12, e19_12⟩, by omega⟩)
  · rintro ρ _
    exact rfl
  · exact fun Q Q' h q => ⟨q.1, h _ _ q.2⟩
end
end K08
end DL

-- part K08W
set_option maxHeartbeats 4000000
/-! K08: the errors with a part are made; small facts for the end -/
namespace DL
namespace K08
open PySem PySem.Spec PyProof.Rows L2
structure SupD (P : Program) (K : PySem.W.Frag) (mg : Str → Option Value) (qual : Str) (st : Stmt) (f D : Addr) (fd : FuncData) : Prop where
  ex : ∃ (oc : Value) (od : Option Addr) (kV doc pm : Value) (an : Option Addr) (cda : Addr) (ct : Value) (osl : Array (Option Value)) (cc : Addr) (cl : Value) (cld : Option Addr) (csl : Array (Option Value)) (cdD : ClassData) (ccl : Value) (cdd : Option Addr) (vs : Array Value) (ccs : Array (Option Value)) (file : Str) (tf : Tok),
    fd = PySem.W.fnX "__init__" qual (defArgs st) (defBody st) (defScope st) [("__class__", cc)] .none kV doc pm an (.ref cda) ct ∧ K.lookup f = some ⟨oc, od, .func fd, osl⟩ ∧ PySem.W.codeIn K (.ref cda) qual = true ∧
    K.lookup cda = some ⟨ccl, cdd, .fields vs, ccs⟩ ∧ vs[2]? = some (.str file tf) ∧ ((P.main.file : Str) == file) = true ∧ K.lookup cc = some ⟨cl, cld, .cell (some (.ref D)), csl⟩ ∧ PySem.W.clsIn K D = some cdD
  ms : mg "super" = none
  top : (P.main.scope.names.lookup ("super" : Str)).isSome = false
  no : PySem.W.nsIn K cStatics "thirdparty.any" = some none
/-- an exception class C whose __init__ is that of D -/
structure EcC (K : PySem.W.Frag) (D C : Addr) : Prop where
  x : XkC K C
  mr : PySem.W.mroIn K C (.ref D) = some true
  sup : PySem.W.ks_superIn K C D "__init__" = some (some (.builtin "ValueError.__init__"))
/-- one class of errors -/
structure ErrF (K : PySem.W.Frag) (C CSo : Addr) : Prop where
  sa : PySem.W.findIn K (.ref C) "__setattr__" = some (some (.builtin "object.__setattr__"))
  exC : PySem.W.subIn K (.ref C) (.type "BaseException") = some true
  tyC : PySem.W.typeIn K (.ref C) = some (.type "type")
  kC : PySem.W.keepIn K (.ref C) = true
  ga : PySem.W.findIn K (.ref C) "__getattribute__" = some (some (.builtin "BaseException.__getattribute__"))
  gg : PySem.W.findIn K (.ref C) "__getattr__" = some none
  hd : PySem.W.hasDictIn K C = true
  ve : PySem.W.mroIn K C (.type "ValueError") = some true
  ob : PySem.W.mroIn K C (.type "object") = some true
  cl : PySem.W.findIn K (.ref C) "__class__" = some (some (.builtin "object.__class__"))
  nf : PySem.W.findIn K (.ref C) "part" = some none
  kS : PySem.W.subIn K (.ref C) (.ref CSo) = some true
theorem exm_mk {K : PySem.W.Frag} {C CSo : Addr} {cd : ClassData} (b : PySem.W.subIn K (.ref CSo) (.type "BaseException") = some true) (d : PySem.W.clsIn K CSo = some cd) (t : PySem.W.typeIn K (.ref CSo) = some (.type "type")) (s : PySem.W.subIn K (.ref C) (.ref CSo) = some true) : PySem.W.exmOne K (.ref C) (.ref CSo) = some true := by
  unfold PySem.W.exmOne PySem.W.kitCls
  rw [b, if_pos (by rfl)]
  dsimp only
  rw [d, t, if_pos (by rfl)]
  exact s
theorem tab_first (q : Str) : (tabN q).cps[0]? = some 0 := by
  have h : (#[0] ++ q.cps : Array Nat)[0]? = some 0 := by rw [Array.getElem?_append_left (by decide)]; rfl
  exact h
theorem tab_poly (q : Str) : tabN q ≠ "Poly" := fun h => by
  have h1 := tab_first q
  rw [h] at h1
  exact absurd h1 (by decide)
theorem tab_ne : tabN qL ≠ "Poly" := tab_poly qL
theorem tabN_inj {q r : Str} (h : tabN q = tabN r) : q = r := by
  have h1 : (#[0] ++ q.cps : Array Nat) = #[0] ++ r.cps := congrArg Str.cps h
  have h2 : q.cps = r.cps := by
    have := congrArg Array.toList h1
    rw [Array.toList_append, Array.toList_append] at this
    exact Array.ext' (List.append_cancel_left this)
  cases q; cases r
  exact congrArg Str.mk h2
section
variable {P : Program} {w : World} {K : PySem.W.Frag} {mg : Str → Option Value} {base : Heap}
abbrev sPartI : Stmt := inClass (topS 7) 0
theorem scPartI : FnScopeS ["self", "part"] ["self", "part"] (defScope sPartI) := ⟨rfl, rfl, rfl, by decide +kernel, rfl, by decide +kernel, by decide +kernel, by decide +kernel⟩
theorem ok_PartI {f D : Addr} {fd : FuncData} {k : Nat} (S : SupD P K mg "PartError.__init__" sPartI f D fd) : FnOk P w K mg base CX0 (k + 1) f fd ["self", "part"] (spE1 K (fun C => EcC K D C ∧ PySem.W.findIn K (.ref C) "part" = some none) "part") := by
  obtain ⟨oc, od, kV, doc, pm, an, cda, ct, osl, cc, cl, cld, csl, cdD, ccl, cdd, vs, ccs, file, tf, rfl, lk, hcd, lcd, hvs, hfile, lcc, hD⟩ := S.ex
  refine fn_sup lk hcd scPartI lcc rfl (fun vs H Q E ⟨a, C, x, e, _⟩ => by rw [e]; rfl) (fun A outer s H vs Q E hr h => ?_)
  obtain ⟨a, C, x, rfl, hH, ⟨T, hno⟩, q⟩ := h
  refine ⟨_, _, ps_superE rfl rfl rfl rfl rfl lk rfl rfl rfl lcd hvs hfile rfl lcc hD S.ms S.top S.no (pa_cons (pv 1) pa_nil) (by decide +kernel), pss_one (ps_ost (pv 0) (pv 1)), ?_⟩
  refine ⟨a, C, rfl, hH, T.x.o, T.mr, T.x.ve, T.sup, x, rfl, by show 1 ≤ 1000; decide, hH, ?_⟩
  exact ⟨x, rfl, .ref a, rfl, a, C, rfl, T.x.o, hno, .inl ⟨hH, fun dx h1 h2 => q dx h1 h2⟩⟩
end
theorem kbn_Pi {K : PySem.W.Frag} {f : Addr} {oc kV dc pm cd ct : Value} {od an : Option Addr} {sl : Array (Option Value)} (_l : K.lookup f = some ⟨oc, od, .func (PySem.W.fnOf "__init__" "Poly.__init__" (defArgs sInit) (defBody sInit) (defScope sInit) .none kV dc pm an cd ct), sl⟩) : KBn K (PySem.W.fnOf "__init__" "Poly.__init__" (defArgs sInit) (defBody sInit) (defScope sInit) .none kV dc pm an cd ct) ["self", "many", "terms"] 1 ["terms", "many"] (fun us ws => us ++ ws.reverse) (fun us ws => us ++ ws.reverse) :=
  ⟨fun s us ws _ l1 l2 => match us, ws, l1, l2 with | [_], [_, _], _, _ => .of_eq rfl, fun r1 r2 => r1.append r2.reverse⟩
theorem kbn_Pw {K : PySem.W.Frag} {f : Addr} {oc kV dc pm cd ct : Value} {od an : Option Addr} {sl : Array (Option Value)} (_l : K.lookup f = some ⟨oc, od, .func (PySem.W.fnOf "worth_at" "Poly.worth_at" (defArgs sWo) (defBody sWo) (defScope sWo) .none kV dc pm an cd ct), sl⟩) : KBn K (PySem.W.fnOf "worth_at" "Poly.worth_at" (defArgs sWo) (defBody sWo) (defScope sWo) .none kV dc pm an cd ct) ["self", "numbers"] 1 ["numbers"] (fun us ws => us ++ ws) (fun us ws => us ++ ws) :=
  ⟨fun s us ws _ l1 l2 => match us, ws, l1, l2 with | [_], [_], _, _ => .of_eq rfl, fun r1 r2 => r1.append r2⟩
theorem kbn_Pl {K : PySem.W.Frag} {f : Addr} {oc kV dc pm cd ct : Value} {od an : Option Addr} {sl : Array (Option Value)} (_l : K.lookup f = some ⟨oc, od, .func (PySem.W.fnOf "less" "Poly.less" (defArgs sLe) (defBody sLe) (defScope sLe) .none kV dc pm an cd ct), sl⟩) : KBn K (PySem.W.fnOf "less" "Poly.less" (defArgs sLe) (defBody sLe) (defScope sLe) .none kV dc pm an cd ct) ["self", "other"] 1 ["other"] (fun us ws => us ++ ws) (fun us ws => us ++ ws) :=
  ⟨fun s us ws _ l1 l2 => match us, ws, l1, l2 with | [_], [_], _, _ => .of_eq rfl, fun r1 r2 => r1.append r2⟩
end K08
end DL

-- part K08X
set_option maxHeartbeats 40000000
/-! K08: what the top has written, put together -/
namespace DL
namespace K08
open PySem PySem.Spec PyProof.Rows L2 ZX
theorem all_mk {P : Program} {w : World} {K : PySem.W.Frag} {mg : Str → Option Value} {h : Heap} {fa : Addr} {CP CSo CPt Pt adL : Addr}
    {fII : Addr} {odII anII : Option Addr} {slII : Array (Option Value)} {ocII kVII dcII pmII cdII ctII : Value}
    {fIW : Addr} {odIW anIW : Option Addr} {slIW : Array (Option Value)} {ocIW kVIW dcIW pmIW cdIW ctIW : Value}
    {fIR : Addr} {odIR anIR : Option Addr} {slIR : Array (Option Value)} {ocIR kVIR dcIR pmIR cdIR ctIR : Value}
    {fAI : Addr} {odAI anAI : Option Addr} {slAI : Array (Option Value)} {ocAI kVAI dcAI pmAI cdAI ctAI : Value}
    {fDG : Addr} {odDG anDG : Option Addr} {slDG : Array (Option Value)} {ocDG kVDG dcDG pmDG cdDG ctDG : Value}
    {fAT : Addr} {odAT anAT : Option Addr} {slAT : Array (Option Value)} {ocAT kVAT dcAT pmAT cdAT ctAT : Value}
    {fPW : Addr} {odPW anPW : Option Addr} {slPW : Array (Option Value)} {ocPW kVPW dcPW pmPW cdPW ctPW : Value}
    {fWe : Addr} {odWe anWe : Option Addr} {slWe : Array (Option Value)} {ocWe kVWe dcWe pmWe cdWe ctWe : Value}
    {fDr : Addr} {odDr anDr : Option Addr} {slDr : Array (Option Value)} {ocDr kVDr dcDr pmDr cdDr ctDr : Value}
    {fOn : Addr} {odOn anOn : Option Addr} {slOn : Array (Option Value)} {ocOn kVOn dcOn pmOn cdOn ctOn : Value}
    {fSo : Addr} {odSo anSo : Option Addr} {slSo : Array (Option Value)} {ocSo kVSo dcSo pmSo cdSo ctSo : Value}
    {fSa : Addr} {odSa anSa : Option Addr} {slSa : Array (Option Value)} {ocSa kVSa dcSa pmSa cdSa ctSa : Value}
    {fTe : Addr} {odTe anTe : Option Addr} {slTe : Array (Option Value)} {ocTe kVTe dcTe pmTe cdTe ctTe : Value}
    {fOd : Addr} {odOd anOd : Option Addr} {slOd : Array (Option Value)} {ocOd kVOd dcOd pmOd cdOd ctOd : Value}
    {fAn : Addr} {odAn anAn : Option Addr} {slAn : Array (Option Value)} {ocAn kVAn dcAn pmAn cdAn ctAn : Value}
    {fL : Addr} {odL anL : Option Addr} {slL : Array (Option Value)} {ocL kVL dcL pmL  ctL : Value}
    {fPi : Addr} {odPi anPi : Option Addr} {slPi : Array (Option Value)} {ocPi kVPi dcPi pmPi cdPi ctPi : Value}
    {fPe : Addr} {odPe anPe : Option Addr} {slPe : Array (Option Value)} {ocPe kVPe dcPe pmPe cdPe ctPe : Value}
    {fPw : Addr} {odPw anPw : Option Addr} {slPw : Array (Option Value)} {ocPw kVPw dcPw pmPw cdPw ctPw : Value}
    {fPl : Addr} {odPl anPl : Option Addr} {slPl : Array (Option Value)} {ocPl kVPl dcPl pmPl cdPl ctPl : Value}
    {oLc : Value} {dLc : Option Addr} {vLc : Array Value} {sLc : Array (Option Value)}
    {tkC tkD : Tok}
    {C0 C1 C2 C3 C4 C5 C6 C7 : Addr} {cdS : ClassData}
    {nm0 q0 : Str} {N0 : Addr} {bs0 bm0 sub0 : List Value} {sn0 : List Str} {ab0 : Bool} {col0 : Option Bool} {dd0 : Option Addr} {u0 v0 w0 x0 y0 : Option Value}
    {nm1 q1 : Str} {N1 : Addr} {bs1 bm1 sub1 : List Value} {sn1 : List Str} {ab1 : Bool} {col1 : Option Bool} {dd1 : Option Addr} {u1 v1 w1 x1 y1 : Option Value}
    {nm2 q2 : Str} {N2 : Addr} {bs2 bm2 sub2 : List Value} {sn2 : List Str} {ab2 : Bool} {col2 : Option Bool} {dd2 : Option Addr} {u2 v2 w2 x2 y2 : Option Value}
    {nm3 q3 : Str} {N3 : Addr} {bs3 bm3 sub3 : List Value} {sn3 : List Str} {ab3 : Bool} {col3 : Option Bool} {dd3 : Option Addr} {u3 v3 w3 x3 y3 : Option Value}
    {fh0 cch0 cdah0 : Addr} {odh0 anh0 cldh0 cddh0 : Option Addr} {slh0 cslh0 ccsh0 : Array (Option Value)} {och0 kVh0 dch0 pmh0 cth0 clh0 cclh0 : Value} {vsh0 : Array Value} {fileh0 : Str} {tfh0 : Tok} {cdDh0 : ClassData}
    (X : K.In h) (G : h.Ns mainGlobals mg) (hfa : mg "law" = some (.ref fa))
    (aCP : PySem.W.nsIn K mainGlobals "Poly" = some (some (.ref CP)))
    (aCSo : PySem.W.nsIn K mainGlobals "SoError" = some (some (.ref CSo)))
    (aCPt : PySem.W.nsIn K mainGlobals "PartError" = some (some (.ref CPt)))
    (aII : PySem.W.nsIn K mainGlobals "is_integer" = some (some (.ref fII)))
    (lII : K.lookup fII = some ⟨ocII, odII, .func (PySem.W.fnOf "is_integer" "is_integer" (defArgs sIsI) (defBody sIsI) (defScope sIsI) .none kVII dcII pmII anII cdII ctII), slII⟩)
    (cII : PySem.W.codeIn K cdII "is_integer" = true)
    (kII : PySem.W.keepIn K (.ref fII) = true)
    (aIW : PySem.W.nsIn K mainGlobals "is_within" = some (some (.ref fIW)))
    (lIW : K.lookup fIW = some ⟨ocIW, odIW, .func (PySem.W.fnOf "is_within" "is_within" (defArgs sIsW) (defBody sIsW) (defScope sIsW) .none kVIW dcIW pmIW anIW cdIW ctIW), slIW⟩)
    (cIW : PySem.W.codeIn K cdIW "is_within" = true)
    (kIW : PySem.W.keepIn K (.ref fIW) = true)
    (aIR : PySem.W.nsIn K mainGlobals "is_row" = some (some (.ref fIR)))
    (lIR : K.lookup fIR = some ⟨ocIR, odIR, .func (PySem.W.fnOf "is_row" "is_row" (defArgs sIsR) (defBody sIsR) (defScope sIsR) .none kVIR dcIR pmIR anIR cdIR ctIR), slIR⟩)
    (cIR : PySem.W.codeIn K cdIR "is_row" = true)
    (kIR : PySem.W.keepIn K (.ref fIR) = true)
    (aAI : PySem.W.nsIn K mainGlobals "are_integers" = some (some (.ref fAI)))
    (lAI : K.lookup fAI = some ⟨ocAI, odAI, .func (PySem.W.fnOf "are_integers" "are_integers" (defArgs sAreI) (defBody sAreI) (defScope sAreI) .none kVAI dcAI pmAI anAI cdAI ctAI), slAI⟩)
    (cAI : PySem.W.codeIn K cdAI "are_integers" = true)
    (kAI : PySem.W.keepIn K (.ref fAI) = true)
    (aDG : PySem.W.nsIn K mainGlobals "degree_of" = some (some (.ref fDG)))
    (lDG : K.lookup fDG = some ⟨ocDG, odDG, .func (PySem.W.fnOf "degree_of" "degree_of" (defArgs sDeg) (defBody sDeg) (defScope sDeg) .none kVDG dcDG pmDG anDG cdDG ctDG), slDG⟩)
    (cDG : PySem.W.codeIn K cdDG "degree_of" = true)
    (kDG : PySem.W.keepIn K (.ref fDG) = true)
    (aAT : PySem.W.nsIn K mainGlobals "are_terms" = some (some (.ref fAT)))
    (lAT : K.lookup fAT = some ⟨ocAT, odAT, .func (PySem.W.fnOf "are_terms" "are_terms" (defArgs sAreT) (defBody sAreT) (defScope sAreT) .none kVAT dcAT pmAT anAT cdAT ctAT), slAT⟩)
    (cAT : PySem.W.codeIn K cdAT "are_terms" = true)
    (kAT : PySem.W.keepIn K (.ref fAT) = true)
    (aPW : PySem.W.nsIn K mainGlobals "power_of" = some (some (.ref fPW)))
    (lPW : K.lookup fPW = some ⟨ocPW, odPW, .func (PySem.W.fnOf "power_of" "power_of" (defArgs sPow) (defBody sPow) (defScope sPow) .none kVPW dcPW pmPW anPW cdPW ctPW), slPW⟩)
    (cPW : PySem.W.codeIn K cdPW "power_of" = true)
    (kPW : PySem.W.keepIn K (.ref fPW) = true)
    (aWe : PySem.W.nsIn K mainGlobals "_law_well" = some (some (.ref fWe)))
    (lWe : K.lookup fWe = some ⟨ocWe, odWe, .func (PySem.W.fnOf "_law_well" "_law_well" (defArgs sWell) (defBody sWell) (defScope sWell) .none kVWe dcWe pmWe anWe cdWe ctWe), slWe⟩)
    (cWe : PySem.W.codeIn K cdWe "_law_well" = true)
    (kWe : PySem.W.keepIn K (.ref fWe) = true)
    (aDr : PySem.W.nsIn K mainGlobals "_law_draw" = some (some (.ref fDr)))
    (lDr : K.lookup fDr = some ⟨ocDr, odDr, .func (PySem.W.fnOf "_law_draw" "_law_draw" (defArgs sDraw) (defBody sDraw) (defScope sDraw) .none kVDr dcDr pmDr anDr cdDr ctDr), slDr⟩)
    (cDr : PySem.W.codeIn K cdDr "_law_draw" = true)
    (kDr : PySem.W.keepIn K (.ref fDr) = true)
    (aOn : PySem.W.nsIn K mainGlobals "_law_one" = some (some (.ref fOn)))
    (lOn : K.lookup fOn = some ⟨ocOn, odOn, .func (PySem.W.fnOf "_law_one" "_law_one" (defArgs sOne) (defBody sOne) (defScope sOne) .none kVOn dcOn pmOn anOn cdOn ctOn), slOn⟩)
    (cOn : PySem.W.codeIn K cdOn "_law_one" = true)
    (kOn : PySem.W.keepIn K (.ref fOn) = true)
    (aSo : PySem.W.nsIn K mainGlobals "_law_some" = some (some (.ref fSo)))
    (lSo : K.lookup fSo = some ⟨ocSo, odSo, .func (PySem.W.fnOf "_law_some" "_law_some" (defArgs sSo) (defBody sSo) (defScope sSo) .none kVSo dcSo pmSo anSo cdSo ctSo), slSo⟩)
    (cSo : PySem.W.codeIn K cdSo "_law_some" = true)
    (kSo : PySem.W.keepIn K (.ref fSo) = true)
    (aSa : PySem.W.nsIn K mainGlobals "_law_said" = some (some (.ref fSa)))
    (lSa : K.lookup fSa = some ⟨ocSa, odSa, .func (PySem.W.fnOf "_law_said" "_law_said" (defArgs sSaid) (defBody sSaid) (defScope sSaid) .none kVSa dcSa pmSa anSa cdSa ctSa), slSa⟩)
    (cSa : PySem.W.codeIn K cdSa "_law_said" = true)
    (kSa : PySem.W.keepIn K (.ref fSa) = true)
    (aTe : PySem.W.nsIn K mainGlobals "_law_terms" = some (some (.ref fTe)))
    (lTe : K.lookup fTe = some ⟨ocTe, odTe, .func (PySem.W.fnOf "_law_terms" "_law_terms" (defArgs sTe) (defBody sTe) (defScope sTe) .none kVTe dcTe pmTe anTe cdTe ctTe), slTe⟩)
    (cTe : PySem.W.codeIn K cdTe "_law_terms" = true)
    (kTe : PySem.W.keepIn K (.ref fTe) = true)
    (aOd : PySem.W.nsIn K mainGlobals "_law_ordered" = some (some (.ref fOd)))
    (lOd : K.lookup fOd = some ⟨ocOd, odOd, .func (PySem.W.fnOf "_law_ordered" "_law_ordered" (defArgs sOd) (defBody sOd) (defScope sOd) .none kVOd dcOd pmOd anOd cdOd ctOd), slOd⟩)
    (cOd : PySem.W.codeIn K cdOd "_law_ordered" = true)
    (kOd : PySem.W.keepIn K (.ref fOd) = true)
    (aAn : PySem.W.nsIn K mainGlobals "_law_at_numbers" = some (some (.ref fAn)))
    (lAn : K.lookup fAn = some ⟨ocAn, odAn, .func (PySem.W.fnOf "_law_at_numbers" "_law_at_numbers" (defArgs sAt) (defBody sAt) (defScope sAt) .none kVAn dcAn pmAn anAn cdAn ctAn), slAn⟩)
    (cAn : PySem.W.codeIn K cdAn "_law_at_numbers" = true)
    (kAn : PySem.W.keepIn K (.ref fAn) = true)
    (aL : PySem.W.nsIn K mainGlobals "law" = some (some (.ref fL)))
    (lL : K.lookup fL = some ⟨ocL, odL, .func (PySem.W.fnOf "law" "law" (defArgs sLaw) (defBody sLaw) (defScope sLaw) .none kVL dcL pmL anL (.ref adL) ctL), slL⟩)
    (cL : PySem.W.codeIn K (.ref adL) "law" = true)
    (kL : PySem.W.keepIn K (.ref fL) = true)
    (aPi : PySem.W.findIn K (.ref CP) "__init__" = some (some (.ref fPi)))
    (lPi : K.lookup fPi = some ⟨ocPi, odPi, .func (PySem.W.fnOf "__init__" "Poly.__init__" (defArgs sInit) (defBody sInit) (defScope sInit) .none kVPi dcPi pmPi anPi cdPi ctPi), slPi⟩)
    (cPi : PySem.W.codeIn K cdPi "Poly.__init__" = true)
    (kPi : PySem.W.keepIn K (.ref fPi) = true)
    (aPe : PySem.W.findIn K (.ref CP) "__eq__" = some (some (.ref fPe)))
    (lPe : K.lookup fPe = some ⟨ocPe, odPe, .func (PySem.W.fnOf "__eq__" "Poly.__eq__" (defArgs sEqP) (defBody sEqP) (defScope sEqP) .none kVPe dcPe pmPe anPe cdPe ctPe), slPe⟩)
    (cPe : PySem.W.codeIn K cdPe "Poly.__eq__" = true)
    (kPe : PySem.W.keepIn K (.ref fPe) = true)
    (aPw : PySem.W.findIn K (.ref CP) "worth_at" = some (some (.ref fPw)))
    (lPw : K.lookup fPw = some ⟨ocPw, odPw, .func (PySem.W.fnOf "worth_at" "Poly.worth_at" (defArgs sWo) (defBody sWo) (defScope sWo) .none kVPw dcPw pmPw anPw cdPw ctPw), slPw⟩)
    (cPw : PySem.W.codeIn K cdPw "Poly.worth_at" = true)
    (kPw : PySem.W.keepIn K (.ref fPw) = true)
    (aPl : PySem.W.findIn K (.ref CP) "less" = some (some (.ref fPl)))
    (lPl : K.lookup fPl = some ⟨ocPl, odPl, .func (PySem.W.fnOf "less" "Poly.less" (defArgs sLe) (defBody sLe) (defScope sLe) .none kVPl dcPl pmPl anPl cdPl ctPl), slPl⟩)
    (cPl : PySem.W.codeIn K cdPl "Poly.less" = true)
    (kPl : PySem.W.keepIn K (.ref fPl) = true)
    (lLc : K.lookup adL = some ⟨oLc, dLc, .fields vLc, sLc⟩)
    (vP : vLc[11]? = some (.ref Pt))
    (nT : K.lookup Pt = none)
    (aMC : PySem.W.nsIn K mainGlobals "MOST_CELLS" = some (some (.int 6 tkC)))
    (aMD : PySem.W.nsIn K mainGlobals "MOST_DEGREE" = some (some (.int 3 tkD)))
    (pg : PySem.W.plainGet K CP Str.empty = true)
    (hd : PySem.W.hasDictIn K CP = true)
    (po : PySem.W.plainOver K CP = true)
    (sa : PySem.W.findIn K (.ref CP) "__setattr__" = some (some (.builtin "object.__setattr__")))
    (n_many : PySem.W.findIn K (.ref CP) "many" = some none)
    (n_terms : PySem.W.findIn K (.ref CP) "terms" = some none)
    (n_degree : PySem.W.findIn K (.ref CP) "degree" = some none)
    (ha : PySem.W.findIn K (.ref CP) "__class__" = some (some (.builtin "object.__class__")))
    (oc : PySem.W.specialIn K (.builtin "object.__class__") "__get__" = some (some (.builtin "getset_descriptor.__get__")))
    (ot : PySem.W.takesIn K (.builtin "object.__class__") = some true)
    (hm : PySem.W.mroIn K CP (.type "object") = some true)
    (k1 : PySem.W.kitOne K (.ref CP) (.ref CP) = some true)
    (k2_NoneType : PySem.W.kitOne K (.type "NoneType") (.ref CP) = some false)
    (k2_bool : PySem.W.kitOne K (.type "bool") (.ref CP) = some false)
    (k2_int : PySem.W.kitOne K (.type "int") (.ref CP) = some false)
    (k2_str : PySem.W.kitOne K (.type "str") (.ref CP) = some false)
    (k2_list : PySem.W.kitOne K (.type "list") (.ref CP) = some false)
    (k2_tuple : PySem.W.kitOne K (.type "tuple") (.ref CP) = some false)
    (k2_dict : PySem.W.kitOne K (.type "dict") (.ref CP) = some false)
    (ne : PySem.W.findIn K (.ref CP) "__ne__" = some (some (.builtin "object.__ne__")))
    (nf : PySem.W.notFirst K CP (.ref CP) = true)
    (nt : PySem.W.notFirst K CP (.type "tuple") = true)
    (mk : PySem.W.makesIn K CP = true)
    (kp : PySem.W.keepIn K (.ref CP) = true)
    (iPi : PySem.W.isFn K (.ref fPi) = true)
    (iPe : PySem.W.isFn K (.ref fPe) = true)
    (iPw : PySem.W.isFn K (.ref fPw) = true)
    (iPl : PySem.W.isFn K (.ref fPl) = true)
    (aE0 : PySem.W.nsIn K mainGlobals "BadProgram" = some (some (.ref C0)))
    (aE1 : PySem.W.nsIn K mainGlobals "BadPlace" = some (some (.ref C1)))
    (aE2 : PySem.W.nsIn K mainGlobals "BadNumber" = some (some (.ref C2)))
    (aE3 : PySem.W.nsIn K mainGlobals "BadValue" = some (some (.ref C3)))
    (aE4 : PySem.W.nsIn K mainGlobals "BadText" = some (some (.ref C4)))
    (aE5 : PySem.W.nsIn K mainGlobals "BadCommand" = some (some (.ref C5)))
    (aE6 : PySem.W.nsIn K mainGlobals "Nothing" = some (some (.ref C6)))
    (aE7 : PySem.W.nsIn K mainGlobals "TooMany" = some (some (.ref C7)))
    (xc0 : K.lookup C0 = some (excClassObj nm0 q0 C0 N0 bs0 bm0 true sn0 sub0 ab0 col0 dd0 u0 v0 w0 x0 y0 "ValueError.__new__"))
    (xr0 : PySem.HandSPX.refsVE bm0 = true)
    (X0 : ErrF K C0 CSo)
    (k0_0 : PySem.W.kitOne K (.ref C0) (.ref C0) = some true)
    (k0_1 : PySem.W.kitOne K (.ref C0) (.ref C1) = some false)
    (k0_2 : PySem.W.kitOne K (.ref C0) (.ref C2) = some false)
    (k0_3 : PySem.W.kitOne K (.ref C0) (.ref C3) = some false)
    (k0_4 : PySem.W.kitOne K (.ref C0) (.ref C4) = some false)
    (k0_5 : PySem.W.kitOne K (.ref C0) (.ref C5) = some false)
    (k0_6 : PySem.W.kitOne K (.ref C0) (.ref C6) = some false)
    (k0_7 : PySem.W.kitOne K (.ref C0) (.ref C7) = some false)
    (xc1 : K.lookup C1 = some (excClassObj nm1 q1 C1 N1 bs1 bm1 true sn1 sub1 ab1 col1 dd1 u1 v1 w1 x1 y1 "ValueError.__new__"))
    (xr1 : PySem.HandSPX.refsVE bm1 = true)
    (X1 : ErrF K C1 CSo)
    (k1_0 : PySem.W.kitOne K (.ref C1) (.ref C0) = some false)
    (k1_1 : PySem.W.kitOne K (.ref C1) (.ref C1) = some true)
    (k1_2 : PySem.W.kitOne K (.ref C1) (.ref C2) = some false)
    (k1_3 : PySem.W.kitOne K (.ref C1) (.ref C3) = some false)
    (k1_4 : PySem.W.kitOne K (.ref C1) (.ref C4) = some false)
    (k1_5 : PySem.W.kitOne K (.ref C1) (.ref C5) = some false)
    (k1_6 : PySem.W.kitOne K (.ref C1) (.ref C6) = some false)
    (k1_7 : PySem.W.kitOne K (.ref C1) (.ref C7) = some false)
    (xc2 : K.lookup C2 = some (excClassObj nm2 q2 C2 N2 bs2 bm2 true sn2 sub2 ab2 col2 dd2 u2 v2 w2 x2 y2 "ValueError.__new__"))
    (xr2 : PySem.HandSPX.refsVE bm2 = true)
    (X2 : ErrF K C2 CSo)
    (k2_0 : PySem.W.kitOne K (.ref C2) (.ref C0) = some false)
    (k2_1 : PySem.W.kitOne K (.ref C2) (.ref C1) = some false)
    (k2_2 : PySem.W.kitOne K (.ref C2) (.ref C2) = some true)
    (k2_3 : PySem.W.kitOne K (.ref C2) (.ref C3) = some false)
    (k2_4 : PySem.W.kitOne K (.ref C2) (.ref C4) = some false)
    (k2_5 : PySem.W.kitOne K (.ref C2) (.ref C5) = some false)
    (k2_6 : PySem.W.kitOne K (.ref C2) (.ref C6) = some false)
    (k2_7 : PySem.W.kitOne K (.ref C2) (.ref C7) = some false)
    (xc3 : K.lookup C3 = some (excClassObj nm3 q3 C3 N3 bs3 bm3 true sn3 sub3 ab3 col3 dd3 u3 v3 w3 x3 y3 "ValueError.__new__"))
    (xr3 : PySem.HandSPX.refsVE bm3 = true)
    (X3 : ErrF K C3 CSo)
    (k3_0 : PySem.W.kitOne K (.ref C3) (.ref C0) = some false)
    (k3_1 : PySem.W.kitOne K (.ref C3) (.ref C1) = some false)
    (k3_2 : PySem.W.kitOne K (.ref C3) (.ref C2) = some false)
    (k3_3 : PySem.W.kitOne K (.ref C3) (.ref C3) = some true)
    (k3_4 : PySem.W.kitOne K (.ref C3) (.ref C4) = some false)
    (k3_5 : PySem.W.kitOne K (.ref C3) (.ref C5) = some false)
    (k3_6 : PySem.W.kitOne K (.ref C3) (.ref C6) = some false)
    (k3_7 : PySem.W.kitOne K (.ref C3) (.ref C7) = some false)
    (bS : PySem.W.subIn K (.ref CSo) (.type "BaseException") = some true)
    (dS : PySem.W.clsIn K CSo = some cdS)
    (tS : PySem.W.typeIn K (.ref CSo) = some (.type "type"))
    (ih0 : PySem.W.findIn K (.ref CPt) "__init__" = some (some (.ref fh0)))
    (lh0 : K.lookup fh0 = some ⟨och0, odh0, .func (PySem.W.fnX "__init__" "PartError.__init__" (defArgs sPartI) (defBody sPartI) (defScope sPartI) [("__class__", cch0)] .none kVh0 dch0 pmh0 anh0 (.ref cdah0) cth0), slh0⟩)
    (coh0 : PySem.W.codeIn K (.ref cdah0) "PartError.__init__" = true)
    (lkh0 : K.lookup cdah0 = some ⟨cclh0, cddh0, .fields vsh0, ccsh0⟩)
    (vh0 : vsh0[2]? = some (.str fileh0 tfh0))
    (fih0 : ((P.main.file : Str) == fileh0) = true)
    (cc_h0 : K.lookup cch0 = some ⟨clh0, cldh0, .cell (some (.ref CPt)), cslh0⟩)
    (dh0 : PySem.W.clsIn K CPt = some cdDh0)
    (th0 : PySem.W.typeIn K (.ref fh0) = some (.type "function"))
    (in0 : PySem.W.findIn K (.ref C0) "__init__" = some (some (.ref fh0)))
    (mr0 : PySem.W.mroIn K C0 (.ref CPt) = some true)
    (su0 : PySem.W.ks_superIn K C0 CPt "__init__" = some (some (.builtin "ValueError.__init__")))
    (in1 : PySem.W.findIn K (.ref C1) "__init__" = some (some (.ref fh0)))
    (mr1 : PySem.W.mroIn K C1 (.ref CPt) = some true)
    (su1 : PySem.W.ks_superIn K C1 CPt "__init__" = some (some (.builtin "ValueError.__init__")))
    (in2 : PySem.W.findIn K (.ref C2) "__init__" = some (some (.ref fh0)))
    (mr2 : PySem.W.mroIn K C2 (.ref CPt) = some true)
    (su2 : PySem.W.ks_superIn K C2 CPt "__init__" = some (some (.builtin "ValueError.__init__")))
    (in3 : PySem.W.findIn K (.ref C3) "__init__" = some (some (.ref fh0)))
    (mr3 : PySem.W.mroIn K C3 (.ref CPt) = some true)
    (su3 : PySem.W.ks_superIn K C3 CPt "__init__" = some (some (.builtin "ValueError.__init__")))
    (no : PySem.W.nsIn K cStatics "thirdparty.any" = some none)
    (top : (P.main.scope.names.lookup ("super" : Str)).isSome = false)
    (z_int : PySem.W.nsIn K mainGlobals "int" = some none)
    (z_abs : PySem.W.nsIn K mainGlobals "abs" = some none)
    (z_len : PySem.W.nsIn K mainGlobals "len" = some none)
    (z_range : PySem.W.nsIn K mainGlobals "range" = some none)
    (z_isinstance : PySem.W.nsIn K mainGlobals "isinstance" = some none)
    (z_list : PySem.W.nsIn K mainGlobals "list" = some none)
    (z_tuple : PySem.W.nsIn K mainGlobals "tuple" = some none)
    (z_bool : PySem.W.nsIn K mainGlobals "bool" = some none)
    (z_all : PySem.W.nsIn K mainGlobals "all" = some none)
    (z_sum : PySem.W.nsIn K mainGlobals "sum" = some none)
    (z_min : PySem.W.nsIn K mainGlobals "min" = some none)
    (z_max : PySem.W.nsIn K mainGlobals "max" = some none)
    (z_sorted : PySem.W.nsIn K mainGlobals "sorted" = some none)
    (z_zip : PySem.W.nsIn K mainGlobals "zip" = some none)
    (z_dict : PySem.W.nsIn K mainGlobals "dict" = some none)
    (z_repr : PySem.W.nsIn K mainGlobals "repr" = some none)
    (z_super : PySem.W.nsIn K mainGlobals "super" = some none) :
    ∃ (fd : FuncData) (c Pq : Addr), PySem.W.tabIn K "law" = some (c, Pq) ∧ K.lookup Pq = none ∧ (∀ (s : Shared) (v : Value), BindsTo s fd ⟨[v], []⟩ [("script", v)]) ∧ ∀ base : Heap, K.In base → base.Ns mainGlobals mg → LamX.TabB base mg c Pq → FnG P w K mg base CX0 20 fa fd ["script"] (spLawT K Pq) := by
  have e := hfa.symm.trans (PySem.W.mg_of X G aL)
  cases e
  have FII := fun_mk (st := sIsI) lII cII kII
  have FIW := fun_mk (st := sIsW) lIW cIW kIW
  have FIR := fun_mk (st := sIsR) lIR cIR kIR
  have FAI := fun_mk (st := sAreI) lAI cAI kAI
  have FDG := fun_mk (st := sDeg) lDG cDG kDG
  have FAT := fun_mk (st := sAreT) lAT cAT kAT
  have FPW := fun_mk (st := sPow) lPW cPW kPW
  have FWe := fun_mk (st := sWell) lWe cWe kWe
  have FDr := fun_mk (st := sDraw) lDr cDr kDr
  have FOn := fun_mk (st := sOne) lOn cOn kOn
  have FSo := fun_mk (st := sSo) lSo cSo kSo
  have FSa := fun_mk (st := sSaid) lSa cSa kSa
  have FTe := fun_mk (st := sTe) lTe cTe kTe
  have FOd := fun_mk (st := sOd) lOd cOd kOd
  have FAn := fun_mk (st := sAt) lAn cAn kAn
  have FL := fun_mk (st := sLaw) lL cL kL
  have FPi := fun_mk (st := sInit) lPi cPi kPi
  have FPe := fun_mk (st := sEqP) lPe cPe kPe
  have FPw := fun_mk (st := sWo) lPw cPw kPw
  have FPl := fun_mk (st := sLe) lPl cPl kPl
  have bII := FII.binds (ps := ["value"]) fun _ _ _ _ _ _ us hl => match us, hl with | [_], _ => rfl
  have bIW := FIW.binds (ps := ["value", "least", "most"]) fun _ _ _ _ _ _ us hl => match us, hl with | [_, _, _], _ => rfl
  have bIR := FIR.binds (ps := ["value"]) fun _ _ _ _ _ _ us hl => match us, hl with | [_], _ => rfl
  have bAI := FAI.binds (ps := ["value", "size"]) fun _ _ _ _ _ _ us hl => match us, hl with | [_, _], _ => rfl
  have bDG := FDG.binds (ps := ["powers"]) fun _ _ _ _ _ _ us hl => match us, hl with | [_], _ => rfl
  have bAT := FAT.binds (ps := ["value", "many"]) fun _ _ _ _ _ _ us hl => match us, hl with | [_, _], _ => rfl
  have bPW := FPW.binds (ps := ["numbers", "powers"]) fun _ _ _ _ _ _ us hl => match us, hl with | [_, _], _ => rfl
  have bWe := FWe.binds (ps := ["script"]) fun _ _ _ _ _ _ us hl => match us, hl with | [_], _ => rfl
  have bDr := FDr.binds (ps := ["well", "many"]) fun _ _ _ _ _ _ us hl => match us, hl with | [_, _], _ => rfl
  have bOn := FOn.binds (ps := ["well", "some"]) fun _ _ _ _ _ _ us hl => match us, hl with | [_, _], _ => rfl
  have bSo := FSo.binds (ps := ["well", "some", "many"]) fun _ _ _ _ _ _ us hl => match us, hl with | [_, _, _], _ => rfl
  have bSa := FSa.binds (ps := ["ask"]) fun _ _ _ _ _ _ us hl => match us, hl with | [_], _ => rfl
  have bTe := FTe.binds (ps := ["well", "many"]) fun _ _ _ _ _ _ us hl => match us, hl with | [_, _], _ => rfl
  have bOd := FOd.binds (ps := ["terms"]) fun _ _ _ _ _ _ us hl => match us, hl with | [_], _ => rfl
  have bAn := FAn.binds (ps := ["terms", "numbers"]) fun _ _ _ _ _ _ us hl => match us, hl with | [_, _], _ => rfl
  have bL := FL.binds (ps := ["script"]) fun _ _ _ _ _ _ us hl => match us, hl with | [_], _ => rfl
  have bPi := FPi.binds (ps := ["self", "many", "terms"]) fun _ _ _ _ _ _ us hl => match us, hl with | [_, _, _], _ => rfl
  have bPe := FPe.binds (ps := ["self", "other"]) fun _ _ _ _ _ _ us hl => match us, hl with | [_, _], _ => rfl
  have bPw := FPw.binds (ps := ["self", "numbers"]) fun _ _ _ _ _ _ us hl => match us, hl with | [_, _], _ => rfl
  have bPl := FPl.binds (ps := ["self", "other"]) fun _ _ _ _ _ _ us hl => match us, hl with | [_, _], _ => rfl
  have m_int := PySem.W.mg_none_of X G z_int
  have m_abs := PySem.W.mg_none_of X G z_abs
  have m_len := PySem.W.mg_none_of X G z_len
  have m_range := PySem.W.mg_none_of X G z_range
  have m_isinstance := PySem.W.mg_none_of X G z_isinstance
  have m_list := PySem.W.mg_none_of X G z_list
  have m_tuple := PySem.W.mg_none_of X G z_tuple
  have m_bool := PySem.W.mg_none_of X G z_bool
  have m_all := PySem.W.mg_none_of X G z_all
  have m_sum := PySem.W.mg_none_of X G z_sum
  have m_min := PySem.W.mg_none_of X G z_min
  have m_max := PySem.W.mg_none_of X G z_max
  have m_sorted := PySem.W.mg_none_of X G z_sorted
  have m_zip := PySem.W.mg_none_of X G z_zip
  have m_dict := PySem.W.mg_none_of X G z_dict
  have m_repr := PySem.W.mg_none_of X G z_repr
  have m_super := PySem.W.mg_none_of X G z_super
  have BL : Blt mg := ⟨m_int, m_abs, m_len, m_range, m_isinstance, m_list, m_tuple, m_bool, m_all, m_sum, m_min, m_max, m_sorted, m_zip, m_dict, m_repr⟩
  have AII : Fn1 K mg "is_integer" sIsI ["value"] fII _ := ⟨FII, bII, PySem.W.mg_of X G aII⟩
  have AIW : Fn1 K mg "is_within" sIsW ["value", "least", "most"] fIW _ := ⟨FIW, bIW, PySem.W.mg_of X G aIW⟩
  have AIR : Fn1 K mg "is_row" sIsR ["value"] fIR _ := ⟨FIR, bIR, PySem.W.mg_of X G aIR⟩
  have AAI : Fn1 K mg "are_integers" sAreI ["value", "size"] fAI _ := ⟨FAI, bAI, PySem.W.mg_of X G aAI⟩
  have ADG : Fn1 K mg "degree_of" sDeg ["powers"] fDG _ := ⟨FDG, bDG, PySem.W.mg_of X G aDG⟩
  have AAT : Fn1 K mg "are_terms" sAreT ["value", "many"] fAT _ := ⟨FAT, bAT, PySem.W.mg_of X G aAT⟩
  have APW : Fn1 K mg "power_of" sPow ["numbers", "powers"] fPW _ := ⟨FPW, bPW, PySem.W.mg_of X G aPW⟩
  have AWe : Fn1 K mg "_law_well" sWell ["script"] fWe _ := ⟨FWe, bWe, PySem.W.mg_of X G aWe⟩
  have ADr : Fn1 K mg "_law_draw" sDraw ["well", "many"] fDr _ := ⟨FDr, bDr, PySem.W.mg_of X G aDr⟩
  have AOn : Fn1 K mg "_law_one" sOne ["well", "some"] fOn _ := ⟨FOn, bOn, PySem.W.mg_of X G aOn⟩
  have ASo : Fn1 K mg "_law_some" sSo ["well", "some", "many"] fSo _ := ⟨FSo, bSo, PySem.W.mg_of X G aSo⟩
  have ASa : Fn1 K mg "_law_said" sSaid ["ask"] fSa _ := ⟨FSa, bSa, PySem.W.mg_of X G aSa⟩
  have ATe : Fn1 K mg "_law_terms" sTe ["well", "many"] fTe _ := ⟨FTe, bTe, PySem.W.mg_of X G aTe⟩
  have AOd : Fn1 K mg "_law_ordered" sOd ["terms"] fOd _ := ⟨FOd, bOd, PySem.W.mg_of X G aOd⟩
  have AAn : Fn1 K mg "_law_at_numbers" sAt ["terms", "numbers"] fAn _ := ⟨FAn, bAn, PySem.W.mg_of X G aAn⟩
  have tl : PySem.W.tabIn K "law" = some (adL, Pt) := by
    unfold PySem.W.tabIn
    rw [aL]; dsimp only
    rw [lL]; dsimp only
    rw [lLc]; dsimp only
    rw [vP]
  refine ⟨PySem.W.fnOf "law" "law" (defArgs sLaw) (defBody sLaw) (defScope sLaw) .none kVL dcL pmL anL (.ref adL) ctL, adL, Pt, tl, nT, fun s v => .of_eq rfl, fun base _ _ TB => ?_⟩
  let cls : Str → Option Addr := fun c => if c = "Poly" then some CP else if c = tabN qL then some Pt else none
  have cP : cls "Poly" = some CP := if_pos rfl
  have cT : cls (tabN qL) = some Pt := (if_neg tab_ne).trans (if_pos rfl)
  have cA : ∀ q P', cls (tabN q) = some P' → P' = Pt ∧ q = qL := fun q P' h => by
    have h : (if tabN q = "Poly" then some CP else if tabN q = tabN qL then some Pt else none) = some P' := h
    rw [if_neg (tab_poly q)] at h
    by_cases hq : tabN q = tabN qL
    · rw [if_pos hq] at h
      exact ⟨(Option.some.inj h).symm, tabN_inj hq⟩
    · rw [if_neg hq] at h; cases h
  have T : ClsT K cls "Poly" CP polF := ⟨cP, ⟨pg, hd, po, sa⟩, fun f hf => by
      simp only [polF, List.mem_cons, List.not_mem_nil, or_false] at hf
      rcases hf with rfl | rfl | rfl
      · exact n_many
      · exact n_terms
      · exact n_degree, ha, oc, ot, hm, k1, fun d T h => by
      cases d <;> cases h
      · exact k2_NoneType
      · exact k2_bool
      · exact k2_int
      · exact k2_str
      · exact k2_list
      · exact k2_tuple
      · exact k2_dict
⟩
  have TE : ClsEq K CP fPe := ⟨aPe, ne, nf, nt⟩
  have M : Mk K CP fPi := ⟨mk, aPi, iPi, kp⟩
  have gP := PySem.W.mg_of X G aCP
  let Cs : Nat → Addr := fun i => match i with | 0 => C0 | 1 => C1 | 2 => C2 | 3 => C3 | 4 => C4 | 5 => C5 | 6 => C6 | _ => C7
  have x0_ : XkC K C0 := ⟨⟨⟨_, _, _, _, _, _, _, _, _, _, _, _, _, _, _, xc0, xr0⟩, X0.sa, X0.exC, X0.tyC, X0.kC⟩, X0.ga, X0.gg, X0.hd, X0.ve, X0.ob, X0.cl⟩
  have x1_ : XkC K C1 := ⟨⟨⟨_, _, _, _, _, _, _, _, _, _, _, _, _, _, _, xc1, xr1⟩, X1.sa, X1.exC, X1.tyC, X1.kC⟩, X1.ga, X1.gg, X1.hd, X1.ve, X1.ob, X1.cl⟩
  have x2_ : XkC K C2 := ⟨⟨⟨_, _, _, _, _, _, _, _, _, _, _, _, _, _, _, xc2, xr2⟩, X2.sa, X2.exC, X2.tyC, X2.kC⟩, X2.ga, X2.gg, X2.hd, X2.ve, X2.ob, X2.cl⟩
  have x3_ : XkC K C3 := ⟨⟨⟨_, _, _, _, _, _, _, _, _, _, _, _, _, _, _, xc3, xr3⟩, X3.sa, X3.exC, X3.tyC, X3.kC⟩, X3.ga, X3.gg, X3.hd, X3.ve, X3.ob, X3.cl⟩
  have ER : ErrT K mg Cs CSo := ⟨fun i hi => match i, hi with | 0, _ => PySem.W.mg_of X G aE0 | 1, _ => PySem.W.mg_of X G aE1 | 2, _ => PySem.W.mg_of X G aE2 | 3, _ => PySem.W.mg_of X G aE3 | 4, _ => PySem.W.mg_of X G aE4 | 5, _ => PySem.W.mg_of X G aE5 | 6, _ => PySem.W.mg_of X G aE6 | 7, _ => PySem.W.mg_of X G aE7, PySem.W.mg_of X G aCSo, fun i hi => match i, hi with | 0, _ => x0_ | 1, _ => x1_ | 2, _ => x2_ | 3, _ => x3_,
    fun i j hi hj => match i, j, hi, hj with | 0, 0, _, _ => k0_0 | 0, 1, _, _ => k0_1 | 0, 2, _, _ => k0_2 | 0, 3, _, _ => k0_3 | 0, 4, _, _ => k0_4 | 0, 5, _, _ => k0_5 | 0, 6, _, _ => k0_6 | 0, 7, _, _ => k0_7 | 1, 0, _, _ => k1_0 | 1, 1, _, _ => k1_1 | 1, 2, _, _ => k1_2 | 1, 3, _, _ => k1_3 | 1, 4, _, _ => k1_4 | 1, 5, _, _ => k1_5 | 1, 6, _, _ => k1_6 | 1, 7, _, _ => k1_7 | 2, 0, _, _ => k2_0 | 2, 1, _, _ => k2_1 | 2, 2, _, _ => k2_2 | 2, 3, _, _ => k2_3 | 2, 4, _, _ => k2_4 | 2, 5, _, _ => k2_5 | 2, 6, _, _ => k2_6 | 2, 7, _, _ => k2_7 | 3, 0, _, _ => k3_0 | 3, 1, _, _ => k3_1 | 3, 2, _, _ => k3_2 | 3, 3, _, _ => k3_3 | 3, 4, _, _ => k3_4 | 3, 5, _, _ => k3_5 | 3, 6, _, _ => k3_6 | 3, 7, _, _ => k3_7,
    fun i hi => match i, hi with | 0, _ => exm_mk bS dS tS X0.kS | 1, _ => exm_mk bS dS tS X1.kS | 2, _ => exm_mk bS dS tS X2.kS | 3, _ => exm_mk bS dS tS X3.kS, fun i hi => match i, hi with | 0, _ => X0.nf | 1, _ => X1.nf | 2, _ => X2.nf | 3, _ => X3.nf, oc, ot⟩
  have Sh0 : SupD P K mg "PartError.__init__" sPartI fh0 CPt (PySem.W.fnX "__init__" "PartError.__init__" (defArgs sPartI) (defBody sPartI) (defScope sPartI) [("__class__", cch0)] .none kVh0 dch0 pmh0 anh0 (.ref cdah0) cth0) :=
    ⟨⟨_, _, _, _, _, _, _, _, _, _, _, _, _, _, _, _, _, _, _, _, rfl, lh0, coh0, lkh0, vh0, fih0, cc_h0, dh0⟩, m_super, top, no⟩
  have EI : ErrI P w K mg base Cs (fun C => EcC K CPt C ∧ PySem.W.findIn K (.ref C) "part" = some none) fh0 _ := ⟨fun k => ok_PartI (k := k) Sh0, Binds.all fun us hl => match us, hl with | [_, _], _ => rfl,
    fun i hi => match i, hi with | 0, _ => in0 | 1, _ => in1 | 2, _ => in2 | 3, _ => in3, th0, fun i hi => match i, hi with | 0, _ => ⟨⟨x0_, mr0, su0⟩, X0.nf⟩ | 1, _ => ⟨⟨x1_, mr1, su1⟩, X1.nf⟩ | 2, _ => ⟨⟨x2_, mr2, su2⟩, X2.nf⟩ | 3, _ => ⟨⟨x3_, mr3, su3⟩, X3.nf⟩, fun i hi => match i, hi with | 0, _ => x0_.o | 1, _ => x1_.o | 2, _ => x2_.o | 3, _ => x3_.o, fun i hi => match i, hi with | 0, _ => PySem.W.mg_of X G aE0 | 1, _ => PySem.W.mg_of X G aE1 | 2, _ => PySem.W.mg_of X G aE2 | 3, _ => PySem.W.mg_of X G aE3⟩
  have gMC := PySem.W.mg_of X G aMC
  have gMD := PySem.W.mg_of X G aMD
  have GIW : ∀ k, FnOk P w K mg base CX0 (k + 2) fIW _ ["value", "least", "most"] (spD K cls gIsW) := fun k => ok_isW FIW FII bII AII.gl m_isinstance m_int m_bool
  have GAI : ∀ k, FnOk P w K mg base CX0 (k + 2) fAI _ ["value", "size"] (spD K cls gAreI) := fun k => ok_areI FAI FII bII AII.gl FIR bIR AIR.gl m_isinstance m_int m_bool m_list m_tuple m_len m_all
  have GDG : ∀ k, FnOk P w K mg base CX0 (k + 1) fDG _ ["powers"] (spD K cls gDeg) := fun k => ok_deg FDG BL
  have GAT : ∀ k, FnOk P w K mg base CX0 (k + 3) fAT _ ["value", "many"] (spD K cls gAreT) := fun k => ok_areT FAT BL gMD AIR AII AAI ADG
  have GPW : ∀ k, FnOk P w K mg base CX0 (k + 1) fPW _ ["numbers", "powers"] (spD K cls gPow) := fun k => ok_pow FPW BL
  have GI : ∀ k, FnOk P w K mg base CX0 (k + 4) fPi _ ["self", "many", "terms"] (spI K cls gPoly) := fun k => ok_init FPi BL gMC T AIW AAT ADG (GIW (k + 1)) (GAT k) (GDG (k + 2))
  have GDr : ∀ k, FnOk P w K mg base CX0 (k + 1) fDr _ ["well", "many"] (spD K cls gDraw) := fun k => ok_draw FDr m_int m_abs m_len
  have GOn : ∀ k, FnOk P w K mg base CX0 (k + 2) fOn _ ["well", "some"] (spD K cls gOne) := fun k => ok_one FOn FDr bDr ADr.gl m_int m_abs m_len
  have GSo : ∀ k, FnOk P w K mg base CX0 (k + 2) fSo _ ["well", "some", "many"] (spD K cls gSome) := fun k => ok_some FSo ADr (GDr k)
  have kI : KBn K _ ["self", "many", "terms"] 1 ["terms", "many"] (fun us ws => us ++ ws.reverse) (fun us ws => us ++ ws.reverse) := kbn_Pi lPi
  exact ok_law FL BL AWe (ok_well (k := 11) FWe m_int) ADr (GDr 11) AOn (GOn 10) ATe (ok_terms (k := 9) FTe BL ADr (GDr 10) AOn (GOn 9) ASo (GSo 9)) AOd (ok_ord (k := 11) FOd BL) AAn (ok_at (k := 11) FAn BL)
    T TE M gP bPi kI (GI 8) (ok_initX (C0 := CP) (k := 9) FPi gMC EI AIW AAT (GIW 9) (GAT 8))
    iPe (((ok_eqP (k := 11) FPe BL gP T).raw bPe .nil).imp fun vs H Q E h => by rw [List.append_nil]; exact h)
    ⟨aPw, iPw, kPw⟩ bPw (kbn_Pw lPw) (ok_wo (k := 10) FPw BL T AAI APW (GAI 9) (GPW 10)) (ok_woX (k := 9) FPw EI T AAI (GAI 9))
    ⟨aPl, iPl, kPl⟩ bPl (kbn_Pl lPl) (ok_le (k := 9) FPl BL gP T M bPi (GI 6)) (ok_leX (k := 9) FPl BL gP EI T)
    FSa bSa ASa.gl ER cT cA nT TB rfl
end K08
end DL

-- part K08Z
open PySem PySem.W PyProof.Rows
set_option maxHeartbeats 0
theorem PySem.Challenge.cw_alwaysso_k08_polynomials_made_and_refuse_holds : PySem.Challenge.rw_alwaysso_k08_polynomials_made_and_refuse.Holds := by
  w_on; o_law; k_head; (case hw => w_witness2)
  k_fill
  refine DL.walk_ofT (l := PySem.Challenge.rw_alwaysso_k08_polynomials_made_and_refuse) (n := 63) (k := 20) (x := "script") rfl (by decide) rfl ⟨rfl, by decide, by decide⟩ ?R (fun w h Y => PySem.W.km_in_of Y) ?F
  case R => rfl
  case F =>
    intro w mg fa h KX G hmg
    refine' Exists.elim (DL.K08.all_mk (P := PySem.Challenge.rw_alwaysso_k08_polynomials_made_and_refuse.prog) (w := w) KX G hmg ?aCP ?aCSo ?aCPt ?aII ?lII ?cII ?kII ?aIW ?lIW ?cIW ?kIW ?aIR ?lIR ?cIR ?kIR ?aAI ?lAI ?cAI ?kAI ?aDG ?lDG ?cDG ?kDG ?aAT ?lAT ?cAT ?kAT ?aPW ?lPW ?cPW ?kPW ?aWe ?lWe ?cWe ?kWe ?aDr ?lDr ?cDr ?kDr ?aOn ?lOn ?cOn ?kOn ?aSo ?lSo ?cSo ?kSo ?aSa ?lSa ?cSa ?kSa ?aTe ?lTe ?cTe ?kTe ?aOd ?lOd ?cOd ?kOd ?aAn ?lAn ?cAn ?kAn ?aL ?lL ?cL ?kL ?aPi ?lPi ?cPi ?kPi ?aPe ?lPe ?cPe ?kPe ?aPw ?lPw ?cPw ?kPw ?aPl ?lPl ?cPl ?kPl ?lLc ?vP ?nT ?aMC ?aMD ?pg ?hd ?po ?sa ?n_many ?n_terms ?n_degree ?ha ?oc ?ot ?hm ?k1 ?k2_NoneType ?k2_bool ?k2_int ?k2_str ?k2_list ?k2_tuple ?k2_dict ?ne ?nf ?nt ?mk ?kp ?iPi ?iPe ?iPw ?iPl ?aE0 ?aE1 ?aE2 ?aE3 ?aE4 ?aE5 ?aE6 ?aE7 ?xc0 ?xr0 ?X0 ?k0_0 ?k0_1 ?k0_2 ?k0_3 ?k0_4 ?k0_5 ?k0_6 ?k0_7 ?xc1 ?xr1 ?X1 ?k1_0 ?k1_1 ?k1_2 ?k1_3 ?k1_4 ?k1_5 ?k1_6 ?k1_7 ?xc2 ?xr2 ?X2 ?k2_0 ?k2_1 ?k2_2 ?k2_3 ?k2_4 ?k2_5 ?k2_6 ?k2_7 ?xc3 ?xr3 ?X3 ?k3_0 ?k3_1 ?k3_2 ?k3_3 ?k3_4 ?k3_5 ?k3_6 ?k3_7 ?bS ?dS ?tS ?ih0 ?lh0 ?coh0 ?lkh0 ?vh0 ?fih0 ?cc_h0 ?dh0 ?th0 ?in0 ?mr0 ?su0 ?in1 ?mr1 ?su1 ?in2 ?mr2 ?su2 ?in3 ?mr3 ?su3 ?no ?top ?z_int ?z_abs ?z_len ?z_range ?z_isinstance ?z_list ?z_tuple ?z_bool ?z_all ?z_sum ?z_min ?z_max ?z_sorted ?z_zip ?z_dict ?z_repr ?z_super) (fun fd q => Exists.elim q fun c q => Exists.elim q fun Pq q => ⟨fd, c, Pq, DL.spLawT _ Pq, q.1, q.2.1, q.2.2.1, fun H a ns hl hO hS => ⟨a, ns, rfl, hS, hl, hO, fun _ => rfl⟩, q.2.2.2⟩)
    (case aCP => k_is)
    (case aCSo => k_is)
    (case aCPt => k_is)
    (case aII => k_is)
    (case lII => k_is)
    (case cII => k_is)
    (case kII => k_is)
    (case aIW => k_is)
    (case lIW => k_is)
    (case cIW => k_is)
    (case kIW => k_is)
    (case aIR => k_is)
    (case lIR => k_is)
    (case cIR => k_is)
    (case kIR => k_is)
    (case aAI => k_is)
    (case lAI => k_is)
    (case cAI => k_is)
    (case kAI => k_is)
    (case aDG => k_is)
    (case lDG => k_is)
    (case cDG => k_is)
    (case kDG => k_is)
    (case aAT => k_is)
    (case lAT => k_is)
    (case cAT => k_is)
    (case kAT => k_is)
    (case aPW => k_is)
    (case lPW => k_is)
    (case cPW => k_is)
    (case kPW => k_is)
    (case aWe => k_is)
    (case lWe => k_is)
    (case cWe => k_is)
    (case kWe => k_is)
    (case aDr => k_is)
    (case lDr => k_is)
    (case cDr => k_is)
    (case kDr => k_is)
    (case aOn => k_is)
    (case lOn => k_is)
    (case cOn => k_is)
    (case kOn => k_is)
    (case aSo => k_is)
    (case lSo => k_is)
    (case cSo => k_is)
    (case kSo => k_is)
    (case aSa => k_is)
    (case lSa => k_is)
    (case cSa => k_is)
    (case kSa => k_is)
    (case aTe => k_is)
    (case lTe => k_is)
    (case cTe => k_is)
    (case kTe => k_is)
    (case aOd => k_is)
    (case lOd => k_is)
    (case cOd => k_is)
    (case kOd => k_is)
    (case aAn => k_is)
    (case lAn => k_is)
    (case cAn => k_is)
    (case kAn => k_is)
    (case aL => k_is)
    (case lL => k_is)
    (case cL => k_is)
    (case kL => k_is)
    (case aPi => k_is)
    (case lPi => k_is)
    (case cPi => k_is)
    (case kPi => k_is)
    (case aPe => k_is)
    (case lPe => k_is)
    (case cPe => k_is)
    (case kPe => k_is)
    (case aPw => k_is)
    (case lPw => k_is)
    (case cPw => k_is)
    (case kPw => k_is)
    (case aPl => k_is)
    (case lPl => k_is)
    (case cPl => k_is)
    (case kPl => k_is)
    (case lLc => k_is)
    (case vP => rfl)
    (case nT => kernel_rfl)
    (case aMC => k_is)
    (case aMD => k_is)
    (case pg => k_is)
    (case hd => k_is)
    (case po => k_is)
    (case sa => k_is)
    (case n_many => k_is)
    (case n_terms => k_is)
    (case n_degree => k_is)
    (case ha => k_is)
    (case oc => k_is)
    (case ot => k_is)
    (case hm => k_is)
    (case k1 => kit_is)
    (case k2_NoneType => kit_is)
    (case k2_bool => kit_is)
    (case k2_int => kit_is)
    (case k2_str => kit_is)
    (case k2_list => kit_is)
    (case k2_tuple => kit_is)
    (case k2_dict => kit_is)
    (case ne => k_is)
    (case nf => k_is)
    (case nt => k_is)
    (case mk => k_is)
    (case kp => k_is)
    (case iPi => k_is)
    (case iPe => k_is)
    (case iPw => k_is)
    (case iPl => k_is)
    (case aE0 => k_is)
    (case aE1 => k_is)
    (case aE2 => k_is)
    (case aE3 => k_is)
    (case aE4 => k_is)
    (case aE5 => k_is)
    (case aE6 => k_is)
    (case aE7 => k_is)
    (case xc0 => k_is)
    (case xr0 => decide +kernel)
    (case k0_0 => kit_is)
    (case k0_1 => kit_is)
    (case k0_2 => kit_is)
    (case k0_3 => kit_is)
    (case k0_4 => kit_is)
    (case k0_5 => kit_is)
    (case k0_6 => kit_is)
    (case k0_7 => kit_is)
    (case xc1 => k_is)
    (case xr1 => decide +kernel)
    (case k1_0 => kit_is)
    (case k1_1 => kit_is)
    (case k1_2 => kit_is)
    (case k1_3 => kit_is)
    (case k1_4 => kit_is)
    (case k1_5 => kit_is)
    (case k1_6 => kit_is)
    (case k1_7 => kit_is)
    (case xc2 => k_is)
    (case xr2 => decide +kernel)
    (case k2_0 => kit_is)
    (case k2_1 => kit_is)
    (case k2_2 => kit_is)
    (case k2_3 => kit_is)
    (case k2_4 => kit_is)
    (case k2_5 => kit_is)
    (case k2_6 => kit_is)
    (case k2_7 => kit_is)
    (case xc3 => k_is)
    (case xr3 => decide +kernel)
    (case k3_0 => kit_is)
    (case k3_1 => kit_is)
    (case k3_2 => kit_is)
    (case k3_3 => kit_is)
    (case k3_4 => kit_is)
    (case k3_5 => kit_is)
    (case k3_6 => kit_is)
    (case k3_7 => kit_is)
    (case bS => k_is)
    (case dS => k_is)
    (case tS => k_is)
    (case ih0 => k_is)
    (case lh0 => k_is)
    (case coh0 => k_is)
    (case lkh0 => k_is)
    (case vh0 => rfl)
    (case fih0 => decide +kernel)
    (case cc_h0 => k_is)
    (case dh0 => k_is)
    (case th0 => k_is)
    (case in0 => k_is)
    (case mr0 => k_is)
    (case su0 => ks_is)
    (case in1 => k_is)
    (case mr1 => k_is)
    (case su1 => ks_is)
    (case in2 => k_is)
    (case mr2 => k_is)
    (case su2 => ks_is)
    (case in3 => k_is)
    (case mr3 => k_is)
    (case su3 => ks_is)
    (case no => k_is)
    (case top => decide +kernel)
    (case z_int => k_is)
    (case z_abs => k_is)
    (case z_len => k_is)
    (case z_range => k_is)
    (case z_isinstance => k_is)
    (case z_list => k_is)
    (case z_tuple => k_is)
    (case z_bool => k_is)
    (case z_all => k_is)
    (case z_sum => k_is)
    (case z_min => k_is)
    (case z_max => k_is)
    (case z_sorted => k_is)
    (case z_zip => k_is)
    (case z_dict => k_is)
    (case z_repr => k_is)
    (case z_super => k_is)
    (case X0 => exact ⟨by k_is, by k_is, by k_is, by k_is, by k_is, by k_is, by k_is, by k_is, by k_is, by k_is, by k_is, by k_is⟩)
    (case X1 => exact ⟨by k_is, by k_is, by k_is, by k_is, by k_is, by k_is, by k_is, by k_is, by k_is, by k_is, by k_is, by k_is⟩)
    (case X2 => exact ⟨by k_is, by k_is, by k_is, by k_is, by k_is, by k_is, by k_is, by k_is, by k_is, by k_is, by k_is, by k_is⟩)
    (case X3 => exact ⟨by k_is, by k_is, by k_is, by k_is, by k_is, by k_is, by k_is, by k_is, by k_is, by k_is, by k_is, by k_is⟩)

