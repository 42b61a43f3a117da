import PyProof.Rows.All
import Wide.All
import OpenK.AllK
import Wide.FinOn
import HandS.ForMost
import HandS.ForExc
import HandS.IsInst
import KE.KSuper
import HandS.ClsMeth
import KE.KTypeName
import HandS.Text
import HandS.Conv
import HandS.MakeKwOnly
import HandS.SlotsOwn
import PyProof.InstNe
import HandS.Style
import PySem.Challenge.RW_alwaysso_k60_papers_on_questions_kept
import HandS.Star
set_option Elab.async false
set_option linter.all false
set_option maxRecDepth 100000
-- part DL1
set_option maxHeartbeats 4000000
/-! a layer of values as trees over the readings of the hand layer -/
namespace DL
open PySem L2

/-! ### values as trees -/
inductive D where
  | non | bl (b : Bool) | int (i : Int) | str (x : Str)
  | lst (xs : List D) | tup (xs : List D)
  | obj (c : Str) (ns : List Str) (ds : List D)
  | dic (ks vs : List D)
  | opq (v : V)
  | well

structure Wd where
  K : PySem.W.Frag
  cls : Str → Option Addr
  /-- what draws, if there is such a list -/
  pw : Option Addr

def keyD : Key → D
  | .inl i => .int i
  | .inr x => .str x
def keyT (ks : List Key) : D := .tup (ks.map keyD)

mutual
def Den (W : Wd) (F : Hp) : D → V → Prop
  | .non, v => v = .non
  | .bl b, v => v = .bl b
  | .int i, v => v = .int i
  | .str x, v => v = .str x
  | .lst ds, v => ∃ a xs, v = .ref a ∧ SqL W.K F a xs ∧ DenL W F ds xs
  | .tup ds, v => ∃ a xs, v = .ref a ∧ SqT W.K F a xs ∧ DenL W F ds xs
  | .obj c ns ds, v => ∃ a C dx gs, v = .ref a ∧ F a = some (.ins C dx gs) ∧ W.cls c = some C ∧ gs.map (·.1) = ns ∧ DenL W F ds (gs.map (·.2))
  | .dic ks vs, v => ∃ a, v = .ref a ∧ ((∃ kvs : List (Key × V), F a = some (.dK kvs) ∧ ks = kvs.map (fun p => keyD p.1) ∧ DenL W F vs (kvs.map (·.2))) ∨
      ∃ kvs : List (List Key × V), F a = some (.dT kvs) ∧ ks = kvs.map (fun p => keyT p.1) ∧ DenL W F vs (kvs.map (·.2)))
  | .opq u, v => v = u
  | .well, v => ∃ p, W.pw = some p ∧ v = .ref p
def DenL (W : Wd) (F : Hp) : List D → List V → Prop
  | [], xs => xs = []
  | d :: ds, xs => ∃ x r, xs = x :: r ∧ Den W F d x ∧ DenL W F ds r
end

theorem same_sqL {K : PySem.W.Frag} {F F' : Hp} {a : Addr} {xs : List V} (e : Same F F') (h : SqL K F a xs) : SqL K F' a xs := e.seq h
theorem same_sqT {K : PySem.W.Frag} {F F' : Hp} {a : Addr} {xs : List V} (e : Same F F') (h : SqT K F a xs) : SqT K F' a xs := by
  rcases h with (h | ⟨o, h⟩) | h
  · exact .inl (.inl (e _ _ h))
  · exact .inl (.inr ⟨o, e _ _ h⟩)
  · exact .inr h
mutual
theorem Den.mono {W : Wd} {F F' : Hp} (e : Same F F') : ∀ {d : D} {v : V}, Den W F d v → Den W F' d v
  | .non, _, h => h
  | .bl _, _, h => h
  | .int _, _, h => h
  | .str _, _, h => h
  | .lst ds, _, ⟨a, xs, ev, hs, hd⟩ => ⟨a, xs, ev, same_sqL e hs, DenL.mono e hd⟩
  | .tup ds, _, ⟨a, xs, ev, hs, hd⟩ => ⟨a, xs, ev, same_sqT e hs, DenL.mono e hd⟩
  | .obj c ns ds, _, ⟨a, C, dx, gs, ev, hf, hc, hn, hd⟩ => ⟨a, C, dx, gs, ev, e _ _ hf, hc, hn, DenL.mono e hd⟩
  | .dic ks vs, _, ⟨a, ev, h⟩ => ⟨a, ev, by
      rcases h with ⟨kvs, h1, h2, h3⟩ | ⟨kvs, h1, h2, h3⟩
      · exact .inl ⟨kvs, e _ _ h1, h2, DenL.mono e h3⟩
      · exact .inr ⟨kvs, e _ _ h1, h2, DenL.mono e h3⟩⟩
  | .opq _, _, h => h
  | .well, _, h => h
theorem DenL.mono {W : Wd} {F F' : Hp} (e : Same F F') : ∀ {ds : List D} {xs : List V}, DenL W F ds xs → DenL W F' ds xs
  | [], _, h => h
  | _ :: _, _, ⟨x, r, ev, h1, h2⟩ => ⟨x, r, ev, Den.mono e h1, DenL.mono e h2⟩
end
theorem DenL.nil {W : Wd} {F : Hp} : DenL W F [] [] := rfl
theorem DenL.cons {W : Wd} {F : Hp} {d : D} {ds : List D} {x : V} {xs : List V} (h : Den W F d x) (t : DenL W F ds xs) : DenL W F (d :: ds) (x :: xs) := ⟨x, xs, rfl, h, t⟩
theorem DenL.length {W : Wd} {F : Hp} : ∀ {ds : List D} {xs : List V}, DenL W F ds xs → ds.length = xs.length
  | [], _, h => by cases h; rfl
  | _ :: ds, _, ⟨x, r, ev, _, h2⟩ => by subst ev; rw [List.length_cons, List.length_cons, DenL.length h2]
theorem DenL.append {W : Wd} {F : Hp} : ∀ {ds es : List D} {xs ys : List V}, DenL W F ds xs → DenL W F es ys → DenL W F (ds ++ es) (xs ++ ys)
  | [], _, _, _, h, t => by cases h; exact t
  | _ :: ds, _, _, _, ⟨x, r, ev, h1, h2⟩, t => by subst ev; exact ⟨x, _, rfl, h1, DenL.append h2 t⟩
theorem DenL.get {W : Wd} {F : Hp} : ∀ {ds : List D} {xs : List V} {i : Nat} {d : D}, DenL W F ds xs → ds[i]? = some d → ∃ x, xs[i]? = some x ∧ Den W F d x
  | _ :: _, _, 0, d, ⟨x, r, ev, h1, _⟩, e => by subst ev; cases e; exact ⟨x, rfl, h1⟩
  | _ :: ds, _, i + 1, d, ⟨x, r, ev, _, h2⟩, e => by
    subst ev
    obtain ⟨y, hy, hd⟩ := DenL.get (i := i) (d := d) h2 (by simpa using e)
    exact ⟨y, by simpa using hy, hd⟩
theorem DenL.getV {W : Wd} {F : Hp} {ds : List D} {xs : List V} {i : Nat} {x : V} (h : DenL W F ds xs) (e : xs[i]? = some x) : ∃ d, ds[i]? = some d ∧ Den W F d x := by
  have hl := h.length
  obtain ⟨hi, _⟩ := List.getElem?_eq_some_iff.mp e
  have hd : ds[i]? = some (ds[i]'(by omega)) := List.getElem?_eq_getElem _
  obtain ⟨y, hy, hdy⟩ := h.get hd
  rw [e] at hy; cases hy
  exact ⟨_, hd, hdy⟩
theorem DenL.split {W : Wd} {F : Hp} : ∀ {ds es : List D} {xs : List V}, DenL W F (ds ++ es) xs → ∃ x1 x2, xs = x1 ++ x2 ∧ DenL W F ds x1 ∧ DenL W F es x2
  | [], _, xs, h => ⟨[], xs, rfl, rfl, h⟩
  | _ :: ds, _, _, ⟨x, r, ev, h1, h2⟩ => by
    subst ev
    obtain ⟨x1, x2, e, a, b⟩ := DenL.split (ds := ds) h2
    exact ⟨x :: x1, x2, by rw [e]; rfl, ⟨x, x1, rfl, h1, a⟩, b⟩
theorem DenL.take {W : Wd} {F : Hp} : ∀ {ds : List D} {xs : List V} (n : Nat), DenL W F ds xs → DenL W F (ds.take n) (xs.take n)
  | _, _, 0, _ => rfl
  | [], _, _ + 1, h => by cases h; rfl
  | _ :: _, _, n + 1, ⟨x, r, ev, h1, h2⟩ => by subst ev; exact ⟨x, r.take n, rfl, h1, DenL.take n h2⟩
theorem DenL.drop {W : Wd} {F : Hp} : ∀ {ds : List D} {xs : List V} (n : Nat), DenL W F ds xs → DenL W F (ds.drop n) (xs.drop n)
  | _, _, 0, h => h
  | [], _, _ + 1, h => by cases h; rfl
  | _ :: _, _, n + 1, ⟨x, r, ev, h1, h2⟩ => by subst ev; exact DenL.drop n h2
theorem DenL.set {W : Wd} {F : Hp} {d : D} {x : V} (h : Den W F d x) : ∀ {ds : List D} {xs : List V} (n : Nat), DenL W F ds xs → DenL W F (ds.set n d) (xs.set n x)
  | [], _, _, t => by cases t; rfl
  | _ :: _, _, 0, ⟨y, r, ev, h1, h2⟩ => by subst ev; exact ⟨x, r, rfl, h, h2⟩
  | _ :: _, _, n + 1, ⟨y, r, ev, h1, h2⟩ => by subst ev; exact ⟨y, _, rfl, h1, DenL.set h n h2⟩
theorem denL_ints {W : Wd} {F : Hp} : ∀ (ns : List Int), DenL W F (ns.map D.int) (ns.map V.int)
  | [] => rfl
  | n :: ns => ⟨_, _, rfl, rfl, denL_ints ns⟩
theorem denL_ints_inv {W : Wd} {F : Hp} : ∀ {ns : List Int} {xs : List V}, DenL W F (ns.map D.int) xs → xs = ns.map V.int
  | [], _, h => h
  | n :: ns, _, ⟨x, r, ev, h1, h2⟩ => by
    have h1 : x = .int n := h1
    rw [ev, h1, denL_ints_inv h2]; rfl

/-- an object of one's own: its content stands in H, what is in it is frozen in F -/
def OwnAt (W : Wd) (F H : Hp) (p : Addr) : D → Prop
  | .lst ds => ∃ xs, H p = some (.lst xs) ∧ DenL W F ds xs
  | .obj c ns ds => ∃ C dx gs, H p = some (.ins C dx gs) ∧ W.cls c = some C ∧ gs.map (·.1) = ns ∧ DenL W F ds (gs.map (·.2))
  | .dic ks vs => (∃ kvs : List (Key × V), H p = some (.dK kvs) ∧ ks = kvs.map (fun p => keyD p.1) ∧ DenL W F vs (kvs.map (·.2))) ∨
      ∃ kvs : List (List Key × V), H p = some (.dT kvs) ∧ ks = kvs.map (fun p => keyT p.1) ∧ DenL W F vs (kvs.map (·.2))
  | _ => False
theorem OwnAt.ne {W : Wd} {F H : Hp} {p : Addr} : ∀ {d : D}, OwnAt W F H p d → ∃ o, H p = some o
  | .lst _, ⟨_, h, _⟩ => ⟨_, h⟩
  | .obj _ _ _, ⟨_, _, _, h, _⟩ => ⟨_, h⟩
  | .dic _ _, h => by
    rcases h with ⟨_, h, _⟩ | ⟨_, h, _⟩
    · exact ⟨_, h⟩
    · exact ⟨_, h⟩
theorem OwnAt.mono {W : Wd} {F F' H H' : Hp} {p : Addr} (e : Same F F') (hp : H' p = H p) : ∀ {d : D}, OwnAt W F H p d → OwnAt W F' H' p d
  | .lst _, ⟨_, h, k⟩ => ⟨_, hp.trans h, DenL.mono e k⟩
  | .obj _ _ _, ⟨_, _, _, h, c, n, k⟩ => ⟨_, _, _, hp.trans h, c, n, DenL.mono e k⟩
  | .dic _ _, h => by
    rcases h with ⟨_, h, c, k⟩ | ⟨_, h, c, k⟩
    · exact .inl ⟨_, hp.trans h, c, DenL.mono e k⟩
    · exact .inr ⟨_, hp.trans h, c, DenL.mono e k⟩
/-- given up: it is frozen as it stands -/
theorem OwnAt.freeze {W : Wd} {F F' H : Hp} {p : Addr} (e : Same F F') (hp : F' p = H p) : ∀ {d : D}, OwnAt W F H p d → Den W F' d (.ref p)
  | .lst _, ⟨_, h, k⟩ => ⟨p, _, rfl, .inl (.inl (hp.trans h)), DenL.mono e k⟩
  | .obj _ _ _, ⟨_, _, _, h, c, n, k⟩ => ⟨p, _, _, _, rfl, hp.trans h, c, n, DenL.mono e k⟩
  | .dic _ _, h => by
    rcases h with ⟨_, h, c, k⟩ | ⟨_, h, c, k⟩
    · exact ⟨p, rfl, .inl ⟨_, hp.trans h, c, DenL.mono e k⟩⟩
    · exact ⟨p, rfl, .inr ⟨_, hp.trans h, c, DenL.mono e k⟩⟩

/-! ### the state -/
inductive Sl where
  | un | v (d : D) | o (d : D)
structure Ev where
  sl : List Sl
  c : Nat
def Ev.set (ρ : Ev) (i : Nat) (s : Sl) : Ev := ⟨ρ.sl.set i s, ρ.c⟩
def Ev.cnt (ρ : Ev) (c : Nat) : Ev := ⟨ρ.sl, c⟩

structure Bs where
  F0 : Hp
  H0 : Hp
  io : List Addr
  /-- objects of one's own that no slot holds (a comprehension's list) -/
  hid : List (Addr × D)

def SlOk (W : Wd) (B : Bs) (F H : Hp) (x : Option (Option V)) : Sl → Prop
  | .un => True
  | .v d => ∃ u, x = some (some u) ∧ Den W F d u
  | .o d => ∃ p, x = some (some (.ref p)) ∧ F p = none ∧ (B.H0 p = none ∨ p ∈ B.io) ∧ W.pw ≠ some p ∧ OwnAt W F H p d

def WellOk (W : Wd) (B : Bs) (F H : Hp) (c : Nat) : Prop :=
  match W.pw with
  | none => True
  | some p => F p = none ∧ p ∉ B.io ∧ ∃ (pc : Addr) (ns : List Int) (t r : Int), H p = some (.lst [.ref pc, .int t, .int r]) ∧ SqL W.K F pc (ns.map V.int) ∧ 0 ≤ t ∧ t ≤ (c : Int) ∧ 0 ≤ r ∧ ns.length ≤ 60

structure Rel (W : Wd) (B : Bs) (F H : Hp) (σ : St) (ρ : Ev) : Prop where
  ex : Same F H
  len : σ.length = ρ.sl.length
  sl : ∀ (i : Nat) (s : Sl), ρ.sl[i]? = some s → SlOk W B F H σ[i]? s
  inj : ∀ (i j : Nat) (d e : D) (p : Addr), ρ.sl[i]? = some (.o d) → ρ.sl[j]? = some (.o e) → σ[i]? = some (some (.ref p)) → σ[j]? = some (some (.ref p)) → i = j
  well : WellOk W B F H ρ.c
  keep : ∀ a o, B.H0 a = some o → W.pw ≠ some a → a ∉ B.io → H a = some o
  new : ∀ a, B.H0 a ≠ none → B.F0 a = none → F a = none
  f0 : Same B.F0 F
  ioH : ∀ a ∈ B.io, H a ≠ none
  hid : ∀ q ∈ B.hid, F q.1 = none ∧ B.H0 q.1 = none ∧ W.pw ≠ some q.1 ∧ OwnAt W F H q.1 q.2
  hap : ∀ q ∈ B.hid, ∀ (i : Nat) (e : D), ρ.sl[i]? = some (.o e) → σ[i]? ≠ some (some (.ref q.1))
  hnd : (B.hid.map (·.1)).Nodup

section
variable {W : Wd} {B : Bs} {F F' H H' : Hp} {σ : St} {ρ : Ev}
theorem WellOk.hp {c : Nat} (h : WellOk W B F H c) {p : Addr} (e : W.pw = some p) : H p ≠ none := by
  unfold WellOk at h
  rw [e] at h
  obtain ⟨_, _, _, _, _, _, h, _⟩ := h
  rw [h]; exact fun q => nomatch q
theorem WellOk.fp {c : Nat} (h : WellOk W B F H c) {p : Addr} (e : W.pw = some p) : F p = none := by
  unfold WellOk at h
  rw [e] at h
  exact h.1
theorem WellOk.mono {c : Nat} (h : WellOk W B F H c) (e : Same F F') (hw : ∀ p, W.pw = some p → F' p = none ∧ H' p = H p) : WellOk W B F' H' c := by
  unfold WellOk at h ⊢
  cases hp : W.pw with
  | none => trivial
  | some p =>
    rw [hp] at h
    obtain ⟨h1, h2, pc, ns, t, r, h3, h4, h5⟩ := h
    obtain ⟨q1, q2⟩ := hw p hp
    exact ⟨q1, h2, pc, ns, t, r, q2.trans h3, same_sqL e h4, h5⟩
/-- an address that H does not know was not known at the entry -/
theorem Rel.fresh0 (R : Rel W B F H σ ρ) {p : Addr} (h : H p = none) : B.H0 p = none := by
  cases q : B.H0 p with
  | none => rfl
  | some o =>
    by_cases h1 : W.pw = some p
    · exact absurd h (R.well.hp h1)
    · by_cases h2 : p ∈ B.io
      · exact absurd h (R.ioH p h2)
      · rw [R.keep p o q h1 h2] at h; cases h
theorem Rel.npw (R : Rel W B F H σ ρ) {p : Addr} (h : H p = none) : W.pw ≠ some p := fun e => R.well.hp e h
theorem Rel.fF (R : Rel W B F H σ ρ) {p : Addr} (h : H p = none) : F p = none := R.ex.free h

/-- both heaps grow by new objects alone -/
structure Stp (F H F' H' : Hp) : Prop where
  ff : Same F F'
  hh : Same H H'
  fh : Same F' H'
  new : ∀ a, H a ≠ none → F a = none → F' a = none
theorem Stp.refl (h : Same F H) : Stp F H F H := ⟨Same.refl _, Same.refl _, h, fun _ _ h => h⟩
theorem Stp.trans {F1 H1 F2 H2 : Hp} (a : Stp F H F1 H1) (b : Stp F1 H1 F2 H2) : Stp F H F2 H2 :=
  ⟨a.ff.trans b.ff, a.hh.trans b.hh, b.fh, fun p h1 h2 => b.new p (by
    cases q : H p with
    | none => exact absurd q h1
    | some o => rw [a.hh _ _ q]; exact fun z => nomatch z) (a.new p h1 h2)⟩
theorem same_upd {F : Hp} {p : Addr} {o : HO} (h : F p = none) : Same F (upd F p o) := fun b u e => by
  rw [upd_ne (ne_of_none e h)]; exact e
theorem same_upd2 {p : Addr} {o : HO} (e : Same F H) : Same (upd F p o) (upd H p o) := fun b u h => by
  by_cases hb : b = p
  · subst hb; rw [upd_same] at h ⊢; exact h
  · rw [upd_ne hb] at h ⊢; exact e _ _ h
theorem Stp.one {p : Addr} {o : HO} (e : Same F H) (h : H p = none) : Stp F H (upd F p o) (upd H p o) :=
  ⟨same_upd (e.free h), same_upd h, same_upd2 e, fun a h1 h2 => by
    have : a ≠ p := fun z => by subst z; exact h1 h
    rw [upd_ne this]; exact h2⟩
/-- an object that is laid but not frozen (an instance's own dict) -/
theorem Stp.lay {p : Addr} {o : HO} (e : Same F H) (h : H p = none) : Stp F H F (upd H p o) :=
  ⟨Same.refl _, same_upd h, e.trans (same_upd h), fun a _ h2 => h2⟩
theorem Rel.stp (R : Rel W B F H σ ρ) (s : Stp F H F' H') : Rel W B F' H' σ ρ := by
  have hne : ∀ {p : Addr} {o : HO}, H p = some o → H p ≠ none := fun h q => by rw [h] at q; cases q
  refine ⟨s.fh, R.len, fun i sl h => ?_, R.inj, ?_, fun a o h1 h2 h3 => s.hh _ _ (R.keep a o h1 h2 h3), fun a h1 h2 => ?_, R.f0.trans s.ff, fun a ha => ?_, fun q hq => ?_, R.hap, R.hnd⟩
  · have q := R.sl i sl h
    cases sl with
    | un => trivial
    | v d => obtain ⟨u, e, hd⟩ := q; exact ⟨u, e, hd.mono s.ff⟩
    | o d =>
      obtain ⟨p, e, fp, h0, hw, own⟩ := q
      obtain ⟨o, ho⟩ := own.ne
      exact ⟨p, e, s.new p (hne ho) fp, h0, hw, own.mono s.ff ((s.hh _ _ ho).trans ho.symm)⟩
  · refine R.well.mono s.ff fun p hp => ⟨s.new p (R.well.hp hp) (R.well.fp hp), ?_⟩
    cases q : H p with
    | none => exact absurd q (R.well.hp hp)
    | some o => exact s.hh _ _ q
  · by_cases hq : H a = none
    · exact absurd (R.fresh0 hq) h1
    · exact s.new a hq (R.new a h1 h2)
  · have := R.ioH a ha
    cases q : H a with
    | none => exact absurd q this
    | some o => rw [s.hh _ _ q]; exact fun z => nomatch z
  · obtain ⟨h1, h2, h3, h4⟩ := R.hid q hq
    obtain ⟨o, ho⟩ := h4.ne
    exact ⟨s.new _ (hne ho) h1, h2, h3, h4.mono s.ff ((s.hh _ _ ho).trans ho.symm)⟩
end
end DL

-- part DL2
set_option maxHeartbeats 4000000
namespace DL
open PySem L2

/-! ### readings over trees -/
abbrev DE := Ev → (Ev → D → Prop) → Prop
abbrev DT := Ev → (Ev → Bool → Prop) → Prop
abbrev DA := Ev → (Ev → List D → Prop) → Prop
abbrev DI := Ev → (Ev → List D → Prop) → Prop
abbrev DG := D → Ev → (Ev → Prop) → Prop
abbrev DGs := List D → Ev → (Ev → Prop) → Prop
structure DEnds where
  nx : Ev → Prop
  rt : Ev → D → Prop
  bk : Ev → Prop := fun _ => False
  ct : Ev → Prop := fun _ => False
abbrev DS := DEnds → Ev → Prop

structure Fits (W : Wd) (B : Bs) (F : Hp) (D : Ends) (DD : DEnds) : Prop where
  nx : ∀ σ H F' ρ, Rel W B F' H σ ρ → Same F F' → DD.nx ρ → D.nx σ H
  bk : ∀ σ H F' ρ, Rel W B F' H σ ρ → Same F F' → DD.bk ρ → D.bk σ H
  ct : ∀ σ H F' ρ, Rel W B F' H σ ρ → Same F F' → DD.ct ρ → D.ct σ H
  rt : ∀ σ H F' ρ d v, Rel W B F' H σ ρ → Same F F' → Den W F' d v → DD.rt ρ d → D.rt v H

def RE (W : Wd) (B : Bs) (te : TE) (t : DE) : Prop := ∀ (σ : St) (H F : Hp) (ρ : Ev) (Q : Ev → D → Prop) (R : VK), Rel W B F H σ ρ → t ρ Q →
  (∀ v H' F' ρ' d, Rel W B F' H' σ ρ' → Same F F' → Den W F' d v → Q ρ' d → R v H') → te σ H R
def RT (W : Wd) (B : Bs) (te : TT) (t : DT) : Prop := ∀ (σ : St) (H F : Hp) (ρ : Ev) (Q : Ev → Bool → Prop) (R : Bool → Hp → Prop), Rel W B F H σ ρ → t ρ Q →
  (∀ b H' F' ρ', Rel W B F' H' σ ρ' → Same F F' → Q ρ' b → R b H') → te σ H R
def RA (W : Wd) (B : Bs) (te : TA) (t : DA) : Prop := ∀ (σ : St) (H F : Hp) (ρ : Ev) (Q : Ev → List D → Prop) (R : List V → Hp → Prop), Rel W B F H σ ρ → t ρ Q →
  (∀ vs H' F' ρ' ds, Rel W B F' H' σ ρ' → Same F F' → DenL W F' ds vs → Q ρ' ds → R vs H') → te σ H R
/-- a new object of one's own -/
structure New (W : Wd) (B : Bs) (F H : Hp) (σ : St) (ρ : Ev) (p : Addr) (d : D) : Prop where
  own : OwnAt W F H p d
  fp : F p = none
  h0 : B.H0 p = none
  pw : W.pw ≠ some p
  ap : ∀ (i : Nat) (e : D), ρ.sl[i]? = some (.o e) → σ[i]? ≠ some (some (.ref p))
  nh : ∀ q ∈ B.hid, q.1 ≠ p
def RN (W : Wd) (B : Bs) (te : TE) (t : DE) : Prop := ∀ (σ : St) (H F : Hp) (ρ : Ev) (Q : Ev → D → Prop) (R : VK), Rel W B F H σ ρ → t ρ Q →
  (∀ p H' F' ρ' d, Rel W B F' H' σ ρ' → Same F F' → New W B F' H' σ ρ' p d → Q ρ' d → R (.ref p) H') → te σ H R
def RS (W : Wd) (B : Bs) (ts : TS) (t : DS) : Prop := ∀ (σ : St) (H F : Hp) (ρ : Ev) (D : Ends) (DD : DEnds), Rel W B F H σ ρ → t DD ρ → Fits W B F D DD → ts D σ H
/-- a target; is: the slots that it sets -/
def RG (W : Wd) (B : Bs) (tg : TG) (t : DG) (is : List Nat) : Prop := ∀ (σ : St) (H F : Hp) (ρ : Ev) (v : V) (d : D) (Q : Ev → Prop) (R : St → Hp → Prop), Rel W B F H σ ρ → Den W F d v → t d ρ Q →
  (∀ σ' ρ', Rel W B F H σ' ρ' → (∀ j, j ∉ is → σ'[j]? = σ[j]?) → σ'.length = σ.length → Q ρ' → R σ' H) → tg v σ H R
def RGs (W : Wd) (B : Bs) (tg : TGs) (t : DGs) (is : List Nat) : Prop := ∀ (σ : St) (H F : Hp) (ρ : Ev) (vs : List V) (ds : List D) (Q : Ev → Prop) (R : St → Hp → Prop), Rel W B F H σ ρ → DenL W F ds vs → t ds ρ Q →
  (∀ σ' ρ', Rel W B F H σ' ρ' → (∀ j, j ∉ is → σ'[j]? = σ[j]?) → σ'.length = σ.length → Q ρ' → R σ' H) → tg vs σ H R

section
variable {W : Wd} {B : Bs} {F F' H H' : Hp} {σ : St} {ρ : Ev}
theorem Fits.mono {D : Ends} {DD : DEnds} (f : Fits W B F D DD) (e : Same F F') : Fits W B F' D DD :=
  ⟨fun σ H F2 ρ r s => f.nx σ H F2 ρ r (e.trans s), fun σ H F2 ρ r s => f.bk σ H F2 ρ r (e.trans s), fun σ H F2 ρ r s => f.ct σ H F2 ρ r (e.trans s), fun σ H F2 ρ d v r s => f.rt σ H F2 ρ d v r (e.trans s)⟩

theorem set_get_self {α : Type} {l : List α} {i : Nat} {a b : α} (h : l[i]? = some b) : (l.set i a)[i]? = some a := by
  have hi := (List.getElem?_eq_some_iff.mp h).1
  rw [List.getElem?_set_self hi]
/-- a slot gets a frozen value -/
theorem Rel.setv (R : Rel W B F H σ ρ) {i : Nat} {d : D} {v : V} (h : Den W F d v) : Rel W B F H (σ.set i (some v)) (ρ.set i (.v d)) := by
  refine ⟨R.ex, by show (σ.set i (some v)).length = (ρ.sl.set i (.v d)).length; rw [List.length_set, List.length_set]; exact R.len, fun j s hj => ?_, fun j k x y p hj hk h1 h2 => ?_, R.well, R.keep, R.new, R.f0, R.ioH, R.hid, fun q hq j x hj h1 => ?_, R.hnd⟩
  · by_cases e : i = j
    · subst e
      have hi : i < ρ.sl.length := by
        have := (List.getElem?_eq_some_iff.mp hj).1
        simpa [Ev.set] using this
      have hs : s = .v d := by
        have : (ρ.sl.set i (.v d))[i]? = some s := hj
        rw [List.getElem?_set_self hi] at this; exact (Option.some.inj this).symm
      subst hs
      exact ⟨v, by rw [List.getElem?_set_self (by rw [R.len]; exact hi)], h⟩
    · have : ρ.sl[j]? = some s := by
        have q : (ρ.sl.set i (.v d))[j]? = some s := hj
        rwa [List.getElem?_set_ne e] at q
      rw [List.getElem?_set_ne e]
      exact R.sl j s this
  · have ne : ∀ {m : Nat} {z : D}, (ρ.set i (.v d)).sl[m]? = some (.o z) → i ≠ m ∧ ρ.sl[m]? = some (.o z) := fun {m z} q => by
      have q : (ρ.sl.set i (.v d))[m]? = some (.o z) := q
      by_cases e : i = m
      · subst e
        have hi : i < ρ.sl.length := by
          have := (List.getElem?_eq_some_iff.mp q).1
          simpa using this
        rw [List.getElem?_set_self hi] at q; cases q
      · rw [List.getElem?_set_ne e] at q; exact ⟨e, q⟩
    obtain ⟨n1, q1⟩ := ne hj
    obtain ⟨n2, q2⟩ := ne hk
    rw [List.getElem?_set_ne n1] at h1
    rw [List.getElem?_set_ne n2] at h2
    exact R.inj j k x y p q1 q2 h1 h2
  · have q : (ρ.sl.set i (.v d))[j]? = some (.o x) := hj
    by_cases e : i = j
    · subst e
      have hi : i < ρ.sl.length := by
        have := (List.getElem?_eq_some_iff.mp q).1
        simpa using this
      rw [List.getElem?_set_self hi] at q; cases q
    · rw [List.getElem?_set_ne e] at q
      rw [List.getElem?_set_ne e] at h1
      exact R.hap _ hq j x q h1
/-- a slot gets an object of one's own -/
theorem Rel.seto (R : Rel W B F H σ ρ) {i : Nat} {d : D} {p : Addr} (n : New W B F H σ ρ p d) : Rel W B F H (σ.set i (some (.ref p))) (ρ.set i (.o d)) := by
  refine ⟨R.ex, by show (σ.set i _).length = (ρ.sl.set i _).length; rw [List.length_set, List.length_set]; exact R.len, fun j s hj => ?_, fun j k x y q hj hk h1 h2 => ?_, R.well, R.keep, R.new, R.f0, R.ioH, R.hid, fun q hq j x hj h1 => ?_, R.hnd⟩
  · by_cases e : i = j
    · subst e
      have hi : i < ρ.sl.length := by
        have := (List.getElem?_eq_some_iff.mp hj).1
        simpa [Ev.set] using this
      have hs : s = .o d := by
        have : (ρ.sl.set i (.o d))[i]? = some s := hj
        rw [List.getElem?_set_self hi] at this; exact (Option.some.inj this).symm
      subst hs
      exact ⟨p, by rw [List.getElem?_set_self (by rw [R.len]; exact hi)], n.fp, .inl n.h0, n.pw, n.own⟩
    · have : ρ.sl[j]? = some s := by
        have q : (ρ.sl.set i (.o d))[j]? = some s := hj
        rwa [List.getElem?_set_ne e] at q
      rw [List.getElem?_set_ne e]
      exact R.sl j s this
  · have at_ : ∀ {m : Nat} {z : D}, (ρ.set i (.o d)).sl[m]? = some (.o z) → (i = m ∧ i < σ.length) ∨ (i ≠ m ∧ ρ.sl[m]? = some (.o z)) := fun {m z} t => by
      have t : (ρ.sl.set i (.o d))[m]? = some (.o z) := t
      by_cases e : i = m
      · subst e
        have hi : i < ρ.sl.length := by
          have := (List.getElem?_eq_some_iff.mp t).1
          simpa using this
        exact .inl ⟨rfl, by rw [R.len]; exact hi⟩
      · rw [List.getElem?_set_ne e] at t; exact .inr ⟨e, t⟩
    rcases at_ hj with ⟨e1, l1⟩ | ⟨n1, q1⟩ <;> rcases at_ hk with ⟨e2, l2⟩ | ⟨n2, q2⟩
    · exact e1.symm.trans e2
    · subst e1
      rw [List.getElem?_set_self l1] at h1
      rw [List.getElem?_set_ne n2] at h2
      cases h1
      exact absurd h2 (n.ap k y q2)
    · subst e2
      rw [List.getElem?_set_self l2] at h2
      rw [List.getElem?_set_ne n1] at h1
      cases h2
      exact absurd h1 (n.ap j x q1)
    · rw [List.getElem?_set_ne n1] at h1
      rw [List.getElem?_set_ne n2] at h2
      exact R.inj j k x y q q1 q2 h1 h2
  · have t : (ρ.sl.set i (.o d))[j]? = some (.o x) := hj
    by_cases e : i = j
    · subst e
      have hi : i < σ.length := by
        have := (List.getElem?_eq_some_iff.mp t).1
        rw [R.len]; simpa using this
      rw [List.getElem?_set_self hi] at h1
      cases h1
      exact n.nh q hq rfl
    · rw [List.getElem?_set_ne e] at t
      rw [List.getElem?_set_ne e] at h1
      exact R.hap _ hq j x t h1
/-- an own slot is frozen -/
theorem Rel.frz (R : Rel W B F H σ ρ) {i : Nat} {d : D} (h : ρ.sl[i]? = some (.o d)) (hio : B.io = []) :
    ∃ v F', σ[i]? = some (some v) ∧ Same F F' ∧ Den W F' d v ∧ Rel W B F' H σ (ρ.set i (.v d)) := by
  obtain ⟨p, e, fp, h0, hw, own⟩ := R.sl i _ h
  obtain ⟨o, ho⟩ := own.ne
  have h0 : B.H0 p = none := by
    rcases h0 with h0 | h0
    · exact h0
    · rw [hio] at h0; cases h0
  have sf : Same F (upd F p o) := same_upd fp
  have den : Den W (upd F p o) d (.ref p) := own.freeze sf (by rw [upd_same, ho])
  have hi : i < ρ.sl.length := (List.getElem?_eq_some_iff.mp h).1
  refine ⟨.ref p, upd F p o, e, sf, den, ⟨fun b u q => ?_, by show σ.length = (ρ.sl.set i _).length; rw [List.length_set]; exact R.len, fun j s hj => ?_, fun j k x y q hj hk h1 h2 => ?_, ?_, R.keep, fun a h1 h2 => ?_, R.f0.trans sf, R.ioH, fun q hq => ?_, fun q hq j x hj h1 => ?_, R.hnd⟩⟩
  · by_cases hb : b = p
    · subst hb; rw [upd_same] at q; cases q; exact ho
    · rw [upd_ne hb] at q; exact R.ex _ _ q
  · by_cases ei : i = j
    · subst ei
      have hs : s = .v d := by
        have t : (ρ.sl.set i (.v d))[i]? = some s := hj
        rw [List.getElem?_set_self hi] at t; exact (Option.some.inj t).symm
      subst hs
      exact ⟨_, e, den⟩
    · have hj' : ρ.sl[j]? = some s := by
        have t : (ρ.sl.set i (.v d))[j]? = some s := hj
        rwa [List.getElem?_set_ne ei] at t
      have q := R.sl j s hj'
      cases s with
      | un => trivial
      | v x => obtain ⟨u, e1, hd⟩ := q; exact ⟨u, e1, hd.mono sf⟩
      | o x =>
        obtain ⟨p2, e2, fp2, h02, hw2, own2⟩ := q
        have hne : p2 ≠ p := fun z => by
          subst z
          exact ei (R.inj i j d x p2 h hj' e e2)
        exact ⟨p2, e2, by rw [upd_ne hne]; exact fp2, h02, hw2, own2.mono sf rfl⟩
  · have ne : ∀ {m : Nat} {z : D}, (ρ.set i (.v d)).sl[m]? = some (.o z) → ρ.sl[m]? = some (.o z) := fun {m z} t => by
      have t : (ρ.sl.set i (.v d))[m]? = some (.o z) := t
      by_cases e : i = m
      · subst e
        rw [List.getElem?_set_self hi] at t; cases t
      · rwa [List.getElem?_set_ne e] at t
    exact R.inj j k x y q (ne hj) (ne hk) h1 h2
  · refine R.well.mono sf fun q hq => ⟨?_, rfl⟩
    have : q ≠ p := fun z => hw (by rw [hq, z])
    rw [upd_ne this]; exact R.well.fp hq
  · have : a ≠ p := fun z => by subst z; exact h1 h0
    rw [upd_ne this]; exact R.new a h1 h2
  · obtain ⟨h1, h2, h3, h4⟩ := R.hid q hq
    have hne : q.1 ≠ p := fun z => R.hap q hq i d h (by rw [z]; exact e)
    exact ⟨by rw [upd_ne hne]; exact h1, h2, h3, h4.mono sf rfl⟩
  · have t : (ρ.sl.set i (.v d))[j]? = some (.o x) := hj
    by_cases ee : i = j
    · subst ee
      rw [List.getElem?_set_self hi] at t; cases t
    · rw [List.getElem?_set_ne ee] at t
      exact R.hap q hq j x t h1
/-- the count of draws may be told greater -/
theorem Rel.cnt (R : Rel W B F H σ ρ) {c : Nat} (h : ρ.c ≤ c) : Rel W B F H σ (ρ.cnt c) :=
  ⟨R.ex, R.len, R.sl, R.inj, by
    have w := R.well
    unfold WellOk at w ⊢
    cases q : W.pw with
    | none => trivial
    | some p =>
      rw [q] at w
      obtain ⟨h1, h2, pc, ns, t, r, h3, h4, h5, h6, h7⟩ := w
      exact ⟨h1, h2, pc, ns, t, r, h3, h4, h5, by show t ≤ (c : Int); omega, h7⟩, R.keep, R.new, R.f0, R.ioH, R.hid, R.hap, R.hnd⟩
end

/-! ### expressions -/
section
variable {W : Wd} {B : Bs}
def dVar (i : Nat) : DE := fun ρ Q => match ρ.sl[i]? with
  | some (.v d) => Q ρ d
  | some (.o d) => Q (ρ.set i (.v d)) d
  | _ => False
theorem re_var {i : Nat} (hio : B.io = [] := by rfl) : RE W B (tVar i) (dVar i) := by
  intro σ H F ρ Q R r h k
  unfold dVar at h
  split at h
  · rename_i d e
    obtain ⟨u, hu, hd⟩ := r.sl i _ e
    exact ⟨u, hu, k u H F ρ d r (Same.refl _) hd h⟩
  · rename_i d e
    obtain ⟨v, F', hv, sf, den, r'⟩ := r.frz e hio
    exact ⟨v, hv, k v H F' _ d r' sf den h⟩
  · exact h.elim
/-- a name whose value is not of one's own -/
def dVal (i : Nat) : DE := fun ρ Q => match ρ.sl[i]? with
  | some (.v d) => Q ρ d
  | _ => False
theorem re_val {i : Nat} : RE W B (tVar i) (dVal i) := by
  intro σ H F ρ Q R r h k
  unfold dVal at h
  split at h
  · rename_i d e
    obtain ⟨u, hu, hd⟩ := r.sl i _ e
    exact ⟨u, hu, k u H F ρ d r (Same.refl _) hd h⟩
  · exact h.elim
def dC (d : D) : DE := fun ρ Q => Q ρ d
def vC : V → D
  | .non => .non | .bl b => .bl b | .int i => .int i | .str x => .str x | v => .opq v
theorem den_vC {F : Hp} : ∀ v : V, Den W F (vC v) v
  | .non => rfl | .bl _ => rfl | .int _ => rfl | .str _ => rfl | .byt _ => rfl | .flt _ => rfl | .ref _ => rfl | .ty _ => rfl
theorem re_c {v : V} : RE W B (tC v) (dC (vC v)) := fun σ H F ρ Q R r h k => k v H F ρ _ r (Same.refl _) (den_vC v) h

/-- two operands -/
theorem re_bin {ta tb : TE} {a b : DE} {r : R2} {g : D → D → Ev → (Ev → D → Prop) → Prop} (ra : RE W B ta a) (rb : RE W B tb b)
    (hr : ∀ σ H F ρ x y dx dy Q (R : VK), Rel W B F H σ ρ → Den W F dx x → Den W F dy y → g dx dy ρ Q →
      (∀ v H' F' ρ' d, Rel W B F' H' σ ρ' → Same F F' → Den W F' d v → Q ρ' d → R v H') → r x y H R) :
    RE W B (tOp r ta tb) (fun ρ Q => a ρ fun ρ1 x => b ρ1 fun ρ2 y => g x y ρ2 Q) := by
  intro σ H F ρ Q R rl h k
  refine ra σ H F ρ _ _ rl h fun x H1 F1 ρ1 dx r1 s1 d1 h1 => ?_
  refine rb σ H1 F1 ρ1 _ _ r1 h1 fun y H2 F2 ρ2 dy r2 s2 d2 h2 => ?_
  exact hr σ H2 F2 ρ2 x y dx dy Q R r2 (d1.mono s2) d2 h2 fun v H' F' ρ' d r' s' d' q => k v H' F' ρ' d r' ((s1.trans s2).trans s') d' q

def gI (C : Int → Int → Prop) (f : Int → Int → D) : D → D → Ev → (Ev → D → Prop) → Prop := fun x y ρ Q => match x, y with
  | .int i, .int j => C i j ∧ Q ρ (f i j)
  | _, _ => False
def gI0 (f : Int → Int → D) : D → D → Ev → (Ev → D → Prop) → Prop := fun x y ρ Q => match x, y with
  | .int i, .int j => Q ρ (f i j)
  | _, _ => False
theorem re_I {ta tb : TE} {a b : DE} {C : Int → Int → Prop} {f : Int → Int → V} (ra : RE W B ta a) (rb : RE W B tb b) :
    RE W B (tOp (rI C f) ta tb) (fun ρ Q => a ρ fun ρ1 x => b ρ1 fun ρ2 y => gI C (fun i j => vC (f i j)) x y ρ2 Q) :=
  re_bin ra rb fun σ H F ρ x y dx dy Q R r d1 d2 h k => by
    unfold gI at h
    split at h
    · rename_i i j
      have e1 : x = .int i := d1
      have e2 : y = .int j := d2
      exact ⟨i, j, e1, e2, h.1, k _ H F ρ _ r (Same.refl _) (den_vC _) h.2⟩
    · exact h.elim
theorem re_I0 {ta tb : TE} {a b : DE} {f : Int → Int → V} (ra : RE W B ta a) (rb : RE W B tb b) :
    RE W B (tOp (rI0 f) ta tb) (fun ρ Q => a ρ fun ρ1 x => b ρ1 fun ρ2 y => gI0 (fun i j => vC (f i j)) x y ρ2 Q) :=
  re_bin ra rb fun σ H F ρ x y dx dy Q R r d1 d2 h k => by
    unfold gI0 at h
    split at h
    · rename_i i j
      have e1 : x = .int i := d1
      have e2 : y = .int j := d2
      exact ⟨i, j, e1, e2, k _ H F ρ _ r (Same.refl _) (den_vC _) h⟩
    · exact h.elim
def gU (f : Int → D) : D → Ev → (Ev → D → Prop) → Prop := fun x ρ Q => match x with
  | .int i => Q ρ (f i)
  | _ => False
theorem re_U {ta : TE} {a : DE} {f : Int → V} (ra : RE W B ta a) : RE W B (tUn (rU f) ta) (fun ρ Q => a ρ fun ρ1 x => gU (fun i => vC (f i)) x ρ1 Q) := by
  intro σ H F ρ Q R rl h k
  refine ra σ H F ρ _ _ rl h fun x H1 F1 ρ1 dx r1 s1 d1 h1 => ?_
  unfold gU at h1
  split at h1
  · rename_i i
    have e1 : x = .int i := d1
    exact ⟨i, e1, k _ H1 F1 ρ1 _ r1 s1 (den_vC _) h1⟩
  · exact h1.elim

/-! ### tests -/
def dB (t : DE) : DT := fun ρ Q => t ρ fun ρ1 x => match x with
  | .bl b => Q ρ1 b
  | _ => False
theorem rt_B {te : TE} {t : DE} (h : RE W B te t) : RT W B (tB te) (dB t) := by
  intro σ H F ρ Q R rl hq k
  refine h σ H F ρ _ _ rl hq fun x H1 F1 ρ1 dx r1 s1 d1 h1 => ?_
  split at h1
  · rename_i b
    have e1 : x = .bl b := d1
    exact ⟨b, e1, k b H1 F1 ρ1 r1 s1 h1⟩
  · exact h1.elim
theorem rt_test {te : TE} {t : DE} (h : RE W B te t) : RT W B (tTest te) (dB t) := rt_B h
def dAnd (t u : DT) : DT := fun ρ Q => t ρ fun ρ1 b => match b with | true => u ρ1 Q | false => Q ρ1 false
def dOr (t u : DT) : DT := fun ρ Q => t ρ fun ρ1 b => match b with | true => Q ρ1 true | false => u ρ1 Q
def dNot (t : DT) : DT := fun ρ Q => t ρ fun ρ1 b => Q ρ1 (!b)
theorem rt_and {ta tb : TT} {a b : DT} (ra : RT W B ta a) (rb : RT W B tb b) : RT W B (tAnd ta tb) (dAnd a b) := by
  intro σ H F ρ Q R rl h k
  refine ra σ H F ρ _ _ rl h fun c H1 F1 ρ1 r1 s1 h1 => ?_
  cases c with
  | true => exact iteT (rb σ H1 F1 ρ1 _ _ r1 h1 fun d H2 F2 ρ2 r2 s2 h2 => k d H2 F2 ρ2 r2 (s1.trans s2) h2)
  | false => exact iteF (k false H1 F1 ρ1 r1 s1 h1)
theorem rt_or {ta tb : TT} {a b : DT} (ra : RT W B ta a) (rb : RT W B tb b) : RT W B (tOr ta tb) (dOr a b) := by
  intro σ H F ρ Q R rl h k
  refine ra σ H F ρ _ _ rl h fun c H1 F1 ρ1 r1 s1 h1 => ?_
  cases c with
  | false => exact iteF (rb σ H1 F1 ρ1 _ _ r1 h1 fun d H2 F2 ρ2 r2 s2 h2 => k d H2 F2 ρ2 r2 (s1.trans s2) h2)
  | true => exact iteT (k true H1 F1 ρ1 r1 s1 h1)
theorem rt_not {ta : TT} {a : DT} (ra : RT W B ta a) : RT W B (tNot ta) (dNot a) := by
  intro σ H F ρ Q R rl h k
  exact ra σ H F ρ _ _ rl h fun c H1 F1 ρ1 r1 s1 h1 => k _ H1 F1 ρ1 r1 s1 h1
def dAndV (t u : DE) : DE := fun ρ Q => t ρ fun ρ1 x => match x with | .bl true => u ρ1 Q | .bl false => Q ρ1 (.bl false) | _ => False
def dOrV (t u : DE) : DE := fun ρ Q => t ρ fun ρ1 x => match x with | .bl false => u ρ1 Q | .bl true => Q ρ1 (.bl true) | _ => False
def dNotV (t : DE) : DE := fun ρ Q => t ρ fun ρ1 x => match x with | .bl b => Q ρ1 (.bl (!b)) | _ => False
theorem re_andV {ta tb : TE} {a b : DE} (ra : RE W B ta a) (rb : RE W B tb b) : RE W B (tAndV ta tb) (dAndV a b) := by
  intro σ H F ρ Q R rl h k
  refine ra σ H F ρ _ _ rl h fun x H1 F1 ρ1 dx r1 s1 d1 h1 => ?_
  split at h1
  · exact ⟨true, d1, iteT (rb σ H1 F1 ρ1 _ _ r1 h1 fun v H2 F2 ρ2 d r2 s2 d2 h2 => k v H2 F2 ρ2 d r2 (s1.trans s2) d2 h2)⟩
  · exact ⟨false, d1, iteF (k _ H1 F1 ρ1 (.bl false) r1 s1 rfl h1)⟩
  · exact h1.elim
theorem re_orV {ta tb : TE} {a b : DE} (ra : RE W B ta a) (rb : RE W B tb b) : RE W B (tOrV ta tb) (dOrV a b) := by
  intro σ H F ρ Q R rl h k
  refine ra σ H F ρ _ _ rl h fun x H1 F1 ρ1 dx r1 s1 d1 h1 => ?_
  split at h1
  · exact ⟨false, d1, iteF (rb σ H1 F1 ρ1 _ _ r1 h1 fun v H2 F2 ρ2 d r2 s2 d2 h2 => k v H2 F2 ρ2 d r2 (s1.trans s2) d2 h2)⟩
  · exact ⟨true, d1, iteT (k _ H1 F1 ρ1 (.bl true) r1 s1 rfl h1)⟩
  · exact h1.elim
theorem re_notV {ta : TE} {a : DE} (ra : RE W B ta a) : RE W B (tNotV ta) (dNotV a) := by
  intro σ H F ρ Q R rl h k
  refine ra σ H F ρ _ _ rl h fun x H1 F1 ρ1 dx r1 s1 d1 h1 => ?_
  split at h1
  · rename_i b
    exact ⟨b, d1, k _ H1 F1 ρ1 (.bl (!b)) r1 s1 rfl h1⟩
  · exact h1.elim
def dIf (t : DT) (a b : DE) : DE := fun ρ Q => t ρ fun ρ1 c => match c with | true => a ρ1 Q | false => b ρ1 Q
theorem re_if {tc : TT} {ta tb : TE} {c : DT} {a b : DE} (rc : RT W B tc c) (ra : RE W B ta a) (rb : RE W B tb b) : RE W B (tIf tc ta tb) (dIf c a b) := by
  intro σ H F ρ Q R rl h k
  refine rc σ H F ρ _ _ rl h fun x H1 F1 ρ1 r1 s1 h1 => ?_
  cases x with
  | true => exact iteT (ra σ H1 F1 ρ1 _ _ r1 h1 fun v H2 F2 ρ2 d r2 s2 d2 h2 => k v H2 F2 ρ2 d r2 (s1.trans s2) d2 h2)
  | false => exact iteF (rb σ H1 F1 ρ1 _ _ r1 h1 fun v H2 F2 ρ2 d r2 s2 d2 h2 => k v H2 F2 ρ2 d r2 (s1.trans s2) d2 h2)

/-! ### arguments, displays -/
def dNil : DA := fun ρ Q => Q ρ []
def dCons (a : DE) (r : DA) : DA := fun ρ Q => a ρ fun ρ1 x => r ρ1 fun ρ2 xs => Q ρ2 (x :: xs)
theorem ra_nil : RA W B tNil dNil := fun σ H F ρ Q R r h k => k [] H F ρ [] r (Same.refl _) rfl h
theorem ra_cons {te : TE} {ta : TA} {a : DE} {b : DA} (ra : RE W B te a) (rb : RA W B ta b) : RA W B (tCons te ta) (dCons a b) := by
  intro σ H F ρ Q R rl h k
  refine ra σ H F ρ _ _ rl h fun x H1 F1 ρ1 dx r1 s1 d1 h1 => ?_
  exact rb σ H1 F1 ρ1 _ _ r1 h1 fun ys H2 F2 ρ2 ds r2 s2 d2 h2 => k _ H2 F2 ρ2 (dx :: ds) r2 (s1.trans s2) ⟨x, ys, rfl, d1.mono s2, d2⟩ h2
def dTup (a : DA) : DE := fun ρ Q => a ρ fun ρ1 ds => ds.length ≤ sizeLine ∧ Q ρ1 (.tup ds)
def dLst (a : DA) : DE := fun ρ Q => a ρ fun ρ1 ds => ds.length ≤ sizeLine ∧ Q ρ1 (.lst ds)
theorem re_tup {ta : TA} {a : DA} (ra : RA W B ta a) : RE W B (tTup ta) (dTup a) := by
  intro σ H F ρ Q R rl h k
  refine ra σ H F ρ _ _ rl h fun xs H1 F1 ρ1 ds r1 s1 d1 h1 => ?_
  refine ⟨by rw [← d1.length]; exact h1.1, fun p hp => ?_⟩
  have st := Stp.one (o := .tup xs) r1.ex hp
  exact k _ _ _ _ (.tup ds) (r1.stp st) (s1.trans st.ff) ⟨p, xs, rfl, .inl (.inl upd_same), d1.mono st.ff⟩ h1.2
theorem re_lst {ta : TA} {a : DA} (ra : RA W B ta a) : RE W B (tLst ta) (dLst a) := by
  intro σ H F ρ Q R rl h k
  refine ra σ H F ρ _ _ rl h fun xs H1 F1 ρ1 ds r1 s1 d1 h1 => ?_
  refine ⟨by rw [← d1.length]; exact h1.1, fun p hp => ?_⟩
  have st := Stp.one (o := .lst xs) r1.ex hp
  exact k _ _ _ _ (.lst ds) (r1.stp st) (s1.trans st.ff) ⟨p, xs, rfl, .inl (.inl upd_same), d1.mono st.ff⟩ h1.2
/-- an address that is free in H: what lies there is new -/
theorem new_of {F H : Hp} {σ : St} {ρ : Ev} {p : Addr} {o : HO} {d : D} (r : Rel W B F H σ ρ) (hp : H p = none) (own : OwnAt W F (upd H p o) p d) : New W B F (upd H p o) σ ρ p d := by
  refine ⟨own, r.fF hp, r.fresh0 hp, r.npw hp, fun i e h q => ?_, fun q hq e => ?_⟩
  · obtain ⟨p2, e2, _, _, _, own2⟩ := r.sl i _ h
    rw [q] at e2; cases e2
    obtain ⟨o2, h2⟩ := own2.ne
    rw [hp] at h2; cases h2
  · obtain ⟨_, _, _, own2⟩ := r.hid q hq
    obtain ⟨o2, h2⟩ := own2.ne
    rw [e, hp] at h2; cases h2
theorem rn_lst {ta : TA} {a : DA} (ra : RA W B ta a) : RN W B (tLst ta) (dLst a) := by
  intro σ H F ρ Q R rl h k
  refine ra σ H F ρ _ _ rl h fun xs H1 F1 ρ1 ds r1 s1 d1 h1 => ?_
  refine ⟨by rw [← d1.length]; exact h1.1, fun p hp => ?_⟩
  exact k p _ _ _ (.lst ds) (r1.stp (Stp.lay (o := .lst xs) r1.ex hp)) s1 (new_of r1 hp ⟨xs, upd_same, d1⟩) h1.2
theorem RN.re {te : TE} {t : DE} (h : RN W B te t) : RE W B te t := by
  intro σ H F ρ Q R rl hq k
  refine h σ H F ρ _ _ rl hq fun p H1 F1 ρ1 d r1 s1 n1 h1 => ?_
  obtain ⟨o, ho⟩ := n1.own.ne
  have sf : Same F1 (upd F1 p o) := same_upd n1.fp
  refine k (.ref p) H1 (upd F1 p o) ρ1 d ⟨fun b u q => ?_, r1.len, fun j s hj => ?_, r1.inj, ?_, r1.keep, fun a h1 h2 => ?_, r1.f0.trans sf, r1.ioH, fun q hq => ?_, r1.hap, r1.hnd⟩ (s1.trans sf) (n1.own.freeze sf (by rw [upd_same, ho])) h1
  · by_cases hb : b = p
    · subst hb; rw [upd_same] at q; cases q; exact ho
    · rw [upd_ne hb] at q; exact r1.ex _ _ q
  · have q := r1.sl j s hj
    cases s with
    | un => trivial
    | v x => obtain ⟨u, e1, hd⟩ := q; exact ⟨u, e1, hd.mono sf⟩
    | o x =>
      obtain ⟨p2, e2, fp2, h02, hw2, own2⟩ := q
      have hne : p2 ≠ p := fun z => by
        subst z
        exact n1.ap j x hj e2
      exact ⟨p2, e2, by rw [upd_ne hne]; exact fp2, h02, hw2, own2.mono sf rfl⟩
  · refine r1.well.mono sf fun q hq => ⟨?_, rfl⟩
    have : q ≠ p := fun z => n1.pw (by rw [hq, z])
    rw [upd_ne this]; exact r1.well.fp hq
  · have : a ≠ p := fun z => by subst z; exact h1 n1.h0
    rw [upd_ne this]; exact r1.new a h1 h2
  · obtain ⟨h1, h2, h3, h4⟩ := r1.hid q hq
    have hne : q.1 ≠ p := n1.nh q hq
    exact ⟨by rw [upd_ne hne]; exact h1, h2, h3, h4.mono sf rfl⟩

/-! ### statements -/
def dSeq (t u : DS) : DS := fun DD ρ => t { DD with nx := u DD } ρ
def dNext : DS := fun DD ρ => DD.nx ρ
def dAsg (t : DE) (g : DG) : DS := fun DD ρ => t ρ fun ρ1 d => g d ρ1 DD.nx
def dAsgN (t : DE) (i : Nat) : DS := fun DD ρ => t ρ fun ρ1 d => DD.nx (ρ1.set i (.o d))
def dDrop (t : DE) : DS := fun DD ρ => t ρ fun ρ1 _ => DD.nx ρ1
def dRet (t : DE) : DS := fun DD ρ => t ρ DD.rt
def dIfS (c : DT) (t u : DS) : DS := fun DD ρ => c ρ fun ρ1 b => match b with | true => t DD ρ1 | false => u DD ρ1
theorem rs_next : RS W B tNext dNext := fun σ H F ρ D DD r h f => f.nx σ H F ρ r (Same.refl _) h
theorem rs_seq {t u : TS} {a b : DS} (ra : RS W B t a) (rb : RS W B u b) : RS W B (tSeq t u) (dSeq a b) := by
  intro σ H F ρ D DD r h f
  exact ra σ H F ρ { D with nx := u D } { DD with nx := b DD } r h ⟨fun σ' H' F' ρ' r' s' h' => rb σ' H' F' ρ' D DD r' h' (f.mono s'), f.bk, f.ct, f.rt⟩
theorem rs_asg {te : TE} {tg : TG} {t : DE} {g : DG} {is : List Nat} (ra : RE W B te t) (rg : RG W B tg g is) : RS W B (tAsg te tg) (dAsg t g) := by
  intro σ H F ρ D DD r h f
  refine ra σ H F ρ _ _ r h fun x H1 F1 ρ1 dx r1 s1 d1 h1 => ?_
  exact rg σ H1 F1 ρ1 x dx _ _ r1 d1 h1 fun σ' ρ' r' _ _ q => f.nx σ' H1 F1 ρ' r' s1 q
theorem rs_asgN {te : TE} {t : DE} {i : Nat} (ra : RN W B te t) : RS W B (tAsg te (gName i)) (dAsgN t i) := by
  intro σ H F ρ D DD r h f
  refine ra σ H F ρ _ _ r h fun p H1 F1 ρ1 dx r1 s1 n1 h1 => ?_
  exact f.nx _ H1 F1 _ (r1.seto n1) s1 h1
theorem rs_drop {te : TE} {t : DE} (ra : RE W B te t) : RS W B (tDrop te) (dDrop t) := by
  intro σ H F ρ D DD r h f
  exact ra σ H F ρ _ _ r h fun x H1 F1 ρ1 dx r1 s1 d1 h1 => f.nx σ H1 F1 ρ1 r1 s1 h1
theorem rs_ret {te : TE} {t : DE} (ra : RE W B te t) : RS W B (tRet te) (dRet t) := by
  intro σ H F ρ D DD r h f
  exact ra σ H F ρ _ _ r h fun x H1 F1 ρ1 dx r1 s1 d1 h1 => f.rt σ H1 F1 ρ1 dx x r1 s1 d1 h1
theorem rs_if {tc : TT} {t u : TS} {c : DT} {a b : DS} (rc : RT W B tc c) (ra : RS W B t a) (rb : RS W B u b) : RS W B (tIfS tc t u) (dIfS c a b) := by
  intro σ H F ρ D DD r h f
  refine rc σ H F ρ _ _ r h fun x H1 F1 ρ1 r1 s1 h1 => ?_
  cases x with
  | true => exact iteT (ra σ H1 F1 ρ1 D DD r1 h1 (f.mono s1))
  | false => exact iteF (rb σ H1 F1 ρ1 D DD r1 h1 (f.mono s1))

/-! ### targets -/
def dgName (i : Nat) : DG := fun d ρ Q => Q (ρ.set i (.v d))
theorem rg_name {i : Nat} : RG W B (gName i) (dgName i) [i] := fun σ H F ρ v d Q R r hd h k => k _ _ (r.setv hd) (fun j hj => by
  rw [List.getElem?_set_ne (fun e => hj (by rw [e]; exact List.mem_singleton.mpr rfl))]) (List.length_set ..) h
def dgNil : DGs := fun ds ρ Q => match ds with | [] => Q ρ | _ => False
def dgCons (g : DG) (r : DGs) : DGs := fun ds ρ Q => match ds with | d :: ds => g d ρ fun ρ1 => r ds ρ1 Q | [] => False
def dgTup (n : Nat) (g : DGs) : DG := fun d ρ Q => match d with | .tup ds => ds.length = n ∧ g ds ρ Q | _ => False
theorem rgs_nil : RGs W B gNil dgNil [] := by
  intro σ H F ρ vs ds Q R r hd h k
  unfold dgNil at h
  split at h
  · exact ⟨hd, k σ ρ r (fun _ _ => rfl) rfl h⟩
  · exact h.elim
theorem rgs_cons {tg : TG} {tr : TGs} {g : DG} {gs : DGs} {is js : List Nat} (ra : RG W B tg g is) (rb : RGs W B tr gs js) : RGs W B (gCons tg tr) (dgCons g gs) (is ++ js) := by
  intro σ H F ρ vs ds Q R r hd h k
  unfold dgCons at h
  split at h
  · rename_i d ds
    obtain ⟨x, xs, e, h1, h2⟩ := hd
    refine ⟨x, xs, e, ra σ H F ρ x d _ _ r h1 h fun σ' ρ' r' o1 l1 q => ?_⟩
    exact rb σ' H F ρ' xs ds _ _ r' h2 q fun σ2 ρ2 r2 o2 l2 q2 => k σ2 ρ2 r2 (fun j hj => (o2 j fun z => hj (List.mem_append_right _ z)).trans (o1 j fun z => hj (List.mem_append_left _ z))) (l2.trans l1) q2
  · exact h.elim
theorem rg_tup {n : Nat} {tr : TGs} {gs : DGs} {is : List Nat} (rb : RGs W B tr gs is) : RG W B (gTup W.K n tr) (dgTup n gs) is := by
  intro σ H F ρ v d Q R r hd h k
  unfold dgTup at h
  split at h
  · rename_i ds
    obtain ⟨a, xs, e, hs, hl⟩ := hd
    exact ⟨a, xs, e, same_sqT r.ex hs, by rw [← hl.length]; exact h.1, rb σ H F ρ xs ds _ _ r hl h.2 k⟩
  · exact h.elim
end
end DL

-- part DL3
set_option maxHeartbeats 4000000
namespace DL
open PySem L2

/-! ### what is walked -/
def Iter (W : Wd) (J : It) (F : Hp) (ds : List D) : Prop := ∀ F2 H, Same F F2 → Same F2 H →
  J.stop ds.length H ∧ ∀ (i : Nat) (d : D), ds[i]? = some d → J.go i H ∧ ∀ x H', J.yld i H x H' → ∃ F3, Stp F2 H F3 H' ∧ Den W F3 d x
def RI (W : Wd) (B : Bs) (wi : TI) (t : DI) : Prop := ∀ (σ : St) (H F : Hp) (ρ : Ev) (Q : Ev → List D → Prop) (R : It → Hp → Prop), Rel W B F H σ ρ → t ρ Q →
  (∀ J H' F' ρ' ds, Rel W B F' H' σ ρ' → Same F F' → Iter W J F' ds → Q ρ' ds → R J H') → wi σ H R
section
variable {W : Wd} {B : Bs} {F F' H H' : Hp} {σ : St} {ρ : Ev}
theorem Iter.mono {J : It} {ds : List D} (h : Iter W J F ds) (e : Same F F') : Iter W J F' ds := fun F2 H a b => h F2 H (e.trans a) b
theorem iter_list {a : Addr} {xs : List V} {ds : List D} (h : SqL W.K F a xs) (hd : DenL W F ds xs) : Iter W (Itl W.K a) F ds := by
  intro F2 H e1 e2
  refine ⟨⟨xs, same_sqL (e1.trans e2) h, by rw [hd.length]; exact Nat.le_refl _⟩, fun i d hi => ?_⟩
  obtain ⟨x, hx, dx⟩ := hd.get hi
  refine ⟨⟨xs, x, same_sqL (e1.trans e2) h, hx⟩, fun y H' ⟨e, hy⟩ => ?_⟩
  subst e
  have := hy xs (same_sqL (e1.trans e2) h)
  rw [hx] at this; cases this
  exact ⟨F2, Stp.refl e2, dx.mono e1⟩
theorem iter_tup {a : Addr} {xs : List V} {ds : List D} (h : SqT W.K F a xs) (hd : DenL W F ds xs) : Iter W (Itt W.K a) F ds := by
  intro F2 H e1 e2
  refine ⟨⟨xs, same_sqT (e1.trans e2) h, by rw [hd.length]; exact Nat.le_refl _⟩, fun i d hi => ?_⟩
  obtain ⟨x, hx, dx⟩ := hd.get hi
  refine ⟨⟨xs, x, same_sqT (e1.trans e2) h, hx⟩, fun y H' ⟨e, hy⟩ => ?_⟩
  subst e
  have := hy xs (same_sqT (e1.trans e2) h)
  rw [hx] at this; cases this
  exact ⟨F2, Stp.refl e2, dx.mono e1⟩
/-- the integers lo, lo + 1, .. -/
def intsD (lo : Int) (n : Nat) : List D := (List.range n).map fun (i : Nat) => .int (lo + (i : Int))
theorem iter_range {lo : Int} {n : Nat} : Iter W (Itr lo n) F (intsD lo n) := by
  intro F2 H e1 e2
  have hl : (intsD lo n).length = n := by unfold intsD; rw [List.length_map, List.length_range]
  refine ⟨by show n ≤ _; rw [hl]; exact Nat.le_refl _, fun i d hi => ?_⟩
  have hin : i < n := by rw [← hl]; exact (List.getElem?_eq_some_iff.mp hi).1
  have hd : d = .int (lo + i) := by
    unfold intsD at hi
    rw [List.getElem?_map, List.getElem?_range hin] at hi
    exact (Option.some.inj hi).symm
  subst hd
  refine ⟨hin, fun y H' ⟨e, hy⟩ => ?_⟩
  subst e
  exact ⟨F2, Stp.refl e2, hy⟩
/-- a list or a tuple -/
def dSq (t : DE) : DI := fun ρ Q => t ρ fun ρ1 d => match d with | .lst ds => Q ρ1 ds | .tup ds => Q ρ1 ds | _ => False
def dSqL (t : DE) : DI := fun ρ Q => t ρ fun ρ1 d => match d with | .lst ds => Q ρ1 ds | _ => False
def dSqT (t : DE) : DI := fun ρ Q => t ρ fun ρ1 d => match d with | .tup ds => Q ρ1 ds | _ => False
theorem ri_list {te : TE} {t : DE} (h : RE W B te t) : RI W B (iList W.K te) (dSqL t) := by
  intro σ H F ρ Q R rl hq k
  refine h σ H F ρ _ _ rl hq fun x H1 F1 ρ1 dx r1 s1 d1 h1 => ?_
  split at h1
  · obtain ⟨a, xs, e, hs, hd⟩ := d1
    exact ⟨a, e, ⟨xs, same_sqL r1.ex hs⟩, k _ H1 F1 ρ1 _ r1 s1 (iter_list hs hd) h1⟩
  · exact h1.elim
theorem ri_tup {te : TE} {t : DE} (h : RE W B te t) : RI W B (iTup W.K te) (dSqT t) := by
  intro σ H F ρ Q R rl hq k
  refine h σ H F ρ _ _ rl hq fun x H1 F1 ρ1 dx r1 s1 d1 h1 => ?_
  split at h1
  · obtain ⟨a, xs, e, hs, hd⟩ := d1
    exact ⟨a, e, ⟨xs, same_sqT r1.ex hs⟩, k _ H1 F1 ρ1 _ r1 s1 (iter_tup hs hd) h1⟩
  · exact h1.elim
/-- a walk over a list or a tuple -/
def iSeq (K : PySem.W.Frag) (tl : TE) : TI := fun σ H R => tl σ H fun x H1 => ∃ a, x = .ref a ∧ (((∃ xs, SqL K H1 a xs) ∧ R (Itl K a) H1) ∨ ((∃ xs, SqT K H1 a xs) ∧ R (Itt K a) H1))
theorem ri_seq {te : TE} {t : DE} (h : RE W B te t) : RI W B (iSeq W.K te) (dSq t) := by
  intro σ H F ρ Q R rl hq k
  refine h σ H F ρ _ _ rl hq fun x H1 F1 ρ1 dx r1 s1 d1 h1 => ?_
  split at h1
  · obtain ⟨a, xs, e, hs, hd⟩ := d1
    exact ⟨a, e, .inl ⟨⟨xs, same_sqL r1.ex hs⟩, k _ H1 F1 ρ1 _ r1 s1 (iter_list hs hd) h1⟩⟩
  · obtain ⟨a, xs, e, hs, hd⟩ := d1
    exact ⟨a, e, .inr ⟨⟨xs, same_sqT r1.ex hs⟩, k _ H1 F1 ρ1 _ r1 s1 (iter_tup hs hd) h1⟩⟩
  · exact h1.elim
theorem pi_seq {X : Cx} {tg l : Expr} {tl : TE} (hl : PE X l tl) : PI X tg l (iSeq X.K tl) := by
  refine ⟨fun pins s σ H R I h => ?_⟩
  refine thn (hl.run pins s σ H _ I h) fun v s1 ⟨x, H1, I1, r1, q1⟩ => ?_
  obtain ⟨a, e, q⟩ := q1
  subst e
  cases r1
  rcases q with ⟨⟨xs, hq⟩, q⟩ | ⟨⟨xs, hq⟩, q⟩
  · obtain ⟨its, rv, p, hz⟩ := I1.list hq
    refine PySem.wpAny_pyIter_list p.isList ?_
    refine ⟨s1.heap.objs.size, [s1.heap.objs.size], _, _, H1, rfl, I1.kept (t' := s1.toks) fun b o e => Heap.get?_push_of_some _ e, turn_list a _, ⟨_, Heap.get?_push_size _ rfl, rfl, rfl⟩, fun b hb => ?_, q⟩
    have e : b = s1.heap.objs.size := by simpa using hb
    subst e
    exact I1.fpOk (Nat.le_refl _) (I1.hok.fresh (Nat.le_refl _))
  · obtain ⟨its, rv, p, hz⟩ := I1.tuple hq
    refine wpAny_pyIter_tuple (show s1.heap.IsTuple a its.toArray from p) ?_
    refine ⟨s1.heap.objs.size, [s1.heap.objs.size], _, _, H1, rfl, I1.kept (t' := s1.toks) fun b o e => Heap.get?_push_of_some _ e, turn_tuple a _, ⟨_, Heap.get?_push_size _ rfl, rfl, rfl⟩, fun b hb => ?_, q⟩
    have e : b = s1.heap.objs.size := by simpa using hb
    subst e
    exact I1.fpOk (Nat.le_refl _) (I1.hok.fresh (Nat.le_refl _))
def dRng1 (t : DA) : DI := fun ρ Q => t ρ fun ρ1 ds => match ds with
  | [.int j] => (-(2 ^ 62) ≤ j ∧ j < 2 ^ 62) ∧ Q ρ1 (intsD 0 j.toNat)
  | _ => False
def dRng2 (t : DA) : DI := fun ρ Q => t ρ fun ρ1 ds => match ds with
  | [.int i, .int j] => (-(2 ^ 62) ≤ i ∧ i < 2 ^ 62 ∧ -(2 ^ 62) ≤ j ∧ j < 2 ^ 62) ∧ Q ρ1 (intsD i (j - i).toNat)
  | _ => False
theorem ri_rng1 {ta : TA} {t : DA} (h : RA W B ta t) : RI W B (iRng1 ta) (dRng1 t) := by
  intro σ H F ρ Q R rl hq k
  refine h σ H F ρ _ _ rl hq fun xs H1 F1 ρ1 ds r1 s1 d1 h1 => ?_
  split at h1
  · rename_i j
    obtain ⟨x, r, e, hx, hr⟩ := d1
    have hx : x = .int j := hx
    have hr : r = [] := hr
    subst hx hr
    exact ⟨j, e, h1.1.1, h1.1.2, k _ H1 F1 ρ1 _ r1 s1 iter_range h1.2⟩
  · exact h1.elim
theorem ri_rng2 {ta : TA} {t : DA} (h : RA W B ta t) : RI W B (iRng2 ta) (dRng2 t) := by
  intro σ H F ρ Q R rl hq k
  refine h σ H F ρ _ _ rl hq fun xs H1 F1 ρ1 ds r1 s1 d1 h1 => ?_
  split at h1
  · rename_i i j
    obtain ⟨x, r, e, hx, y, r2, e2, hy, hr⟩ := d1
    have hx : x = .int i := hx
    have hy : y = .int j := hy
    have hr : r2 = [] := hr
    subst hx hy hr e2
    exact ⟨i, j, e, h1.1, k _ H1 F1 ρ1 _ r1 s1 iter_range h1.2⟩
  · exact h1.elim
/-- enumerate of a list -/
def dEnum (t : DA) : DI := fun ρ Q => t ρ fun ρ1 ds => match ds with
  | [.lst xs] => Q ρ1 (xs.zipIdx.map fun p => .tup [.int (p.2 : Nat), p.1])
  | _ => False
theorem ri_enum {ta : TA} {t : DA} (h : RA W B ta t) : RI W B (iEnum W.K ta) (dEnum t) := by
  intro σ H F ρ Q R rl hq k
  refine h σ H F ρ _ _ rl hq fun xs H1 F1 ρ1 ds r1 s1 d1 h1 => ?_
  split at h1
  · rename_i ys
    obtain ⟨x, r, e, hx, hr⟩ := d1
    obtain ⟨a, zs, ea, hs, hd⟩ := hx
    have hr : r = [] := hr
    subst hr ea
    refine ⟨a, zs, e, same_sqL r1.ex hs, k _ H1 F1 ρ1 _ r1 s1 ?_ h1⟩
    intro F2 H2 e1 e2
    have hs2 := same_sqL (e1.trans e2) hs
    refine ⟨⟨zs, hs2, by rw [List.length_map, List.length_zipIdx, hd.length]; exact Nat.le_refl _⟩, fun i d hi => ?_⟩
    rw [List.getElem?_map, List.getElem?_zipIdx, Nat.zero_add] at hi
    cases hy : ys[i]? with
    | none => rw [hy] at hi; cases hi
    | some y =>
      rw [hy] at hi
      cases hi
      obtain ⟨z, hz, dz⟩ := hd.get hy
      refine ⟨⟨zs, z, hs2, hz⟩, fun v H' ⟨T, z', ev, hT, eH, hz'⟩ => ?_⟩
      have q := hz' zs hs2
      rw [hz] at q; cases q
      subst ev eH
      have st := Stp.one (o := .tup [.int (i : Nat), z]) e2 hT
      exact ⟨_, st, ⟨T, _, rfl, .inl (.inl upd_same), ⟨_, _, rfl, rfl, ⟨_, _, rfl, dz.mono (e1.trans st.ff), rfl⟩⟩⟩⟩
  · exact h1.elim
/-- zip of two lists, of two tuples -/
def dZip (t : DA) : DI := fun ρ Q => t ρ fun ρ1 ds => match ds with
  | [.lst xs, .lst ys] => Q ρ1 ((xs.zip ys).map fun p => .tup [p.1, p.2])
  | [.tup xs, .tup ys] => Q ρ1 ((xs.zip ys).map fun p => .tup [p.1, p.2])
  | _ => False
theorem zip_get {α β : Type} {xs : List α} {ys : List β} {i : Nat} {p : α × β} (h : (xs.zip ys)[i]? = some p) : xs[i]? = some p.1 ∧ ys[i]? = some p.2 := by
  rw [List.getElem?_zip_eq_some] at h; exact h
theorem iter_zipL {a b : Addr} {xs ys : List V} {ds es : List D} (h1 : SqL W.K F a xs) (h2 : SqL W.K F b ys) (d1 : DenL W F ds xs) (d2 : DenL W F es ys) :
    Iter W (Itz W.K a b) F ((ds.zip es).map fun p => .tup [p.1, p.2]) := by
  intro F2 H2 e1 e2
  have q1 := same_sqL (e1.trans e2) h1
  have q2 := same_sqL (e1.trans e2) h2
  refine ⟨⟨xs, ys, q1, q2, by rw [List.length_map, List.length_zip, d1.length, d2.length]; omega⟩, fun i d hi => ?_⟩
  rw [List.getElem?_map] at hi
  cases hy : (ds.zip es)[i]? with
  | none => rw [hy] at hi; cases hi
  | some p =>
    rw [hy] at hi
    cases hi
    obtain ⟨g1, g2⟩ := zip_get hy
    obtain ⟨x, hx, dx⟩ := d1.get g1
    obtain ⟨y, hy, dy⟩ := d2.get g2
    refine ⟨⟨xs, ys, x, y, q1, q2, hx, hy⟩, fun v H' ⟨T, x', y', ev, hT, eH, hx', hy'⟩ => ?_⟩
    have z1 := hx' xs q1
    have z2 := hy' ys q2
    rw [hx] at z1; cases z1
    rw [hy] at z2; cases z2
    subst ev eH
    have st := Stp.one (o := .tup [x, y]) e2 hT
    exact ⟨_, st, ⟨T, _, rfl, .inl (.inl upd_same), ⟨_, _, rfl, dx.mono (e1.trans st.ff), ⟨_, _, rfl, dy.mono (e1.trans st.ff), rfl⟩⟩⟩⟩
theorem ri_zip {ta : TA} {t : DA} (h : RA W B ta t) : RI W B (iZip W.K ta) (fun ρ Q => t ρ fun ρ1 ds => match ds with
  | [.lst xs, .lst ys] => Q ρ1 ((xs.zip ys).map fun p => .tup [p.1, p.2])
  | _ => False) := by
  intro σ H F ρ Q R rl hq k
  refine h σ H F ρ _ _ rl hq fun xs H1 F1 ρ1 ds r1 s1 d1 h1 => ?_
  split at h1
  · rename_i ys zs
    obtain ⟨x, r, e, hx, y, r2, e2, hy, hr⟩ := d1
    obtain ⟨a, us, ea, hs, hd⟩ := hx
    obtain ⟨b, vs, eb, hs2, hd2⟩ := hy
    have hr : r2 = [] := hr
    subst hr ea eb e2
    exact ⟨a, b, us, vs, e, same_sqL r1.ex hs, same_sqL r1.ex hs2, k _ H1 F1 ρ1 _ r1 s1 (iter_zipL hs hs2 hd hd2) h1⟩
  · exact h1.elim

/-! ### for, while -/
def dForL (g : DG) (b : DS) : List D → DS
  | [] => fun DD ρ => DD.nx ρ
  | d :: ds => fun DD ρ => g d ρ fun ρ1 => b { nx := dForL g b ds DD, ct := dForL g b ds DD, bk := DD.nx, rt := DD.rt } ρ1
def dFor (s : DI) (g : DG) (b : DS) : DS := fun DD ρ => s ρ fun ρ1 ds => dForL g b ds DD ρ1
theorem rs_for {wi : TI} {tg : TG} {tb : TS} {s : DI} {g : DG} {b : DS} {is : List Nat} (ri : RI W B wi s) (rg : RG W B tg g is) (rb : RS W B tb b) : RS W B (tFor wi tg tb) (dFor s g b) := by
  intro σ H F ρ D DD r h f
  refine ri σ H F ρ _ _ r h fun J H1 F1 ρ1 ds r1 s1 it h1 => ?_
  refine ⟨fun i m σ H => ∃ F2 ρ2, Rel W B F2 H σ ρ2 ∧ Same F1 F2 ∧ i ≤ ds.length ∧ m = ds.length - i ∧ dForL g b (ds.drop i) DD ρ2, ⟨ds.length, F1, ρ1, r1, Same.refl _, Nat.zero_le _, rfl, h1⟩, ?_⟩
  rintro i m σ2 H2 ⟨F2, ρ2, r2, s2, hi, rfl, hq⟩
  obtain ⟨st, go⟩ := it F2 H2 s2 r2.ex
  by_cases hlt : i < ds.length
  · have hd : ds[i]? = some ds[i] := List.getElem?_eq_getElem hlt
    obtain ⟨g1, y1⟩ := go i _ hd
    rw [List.drop_eq_getElem_cons hlt] at hq
    refine .inr ⟨g1, fun σ3 H3 => ∃ F3 ρ3, Rel W B F3 H3 σ3 ρ3 ∧ Same F1 F3 ∧ dForL g b (ds.drop (i + 1)) DD ρ3, fun σ3 H3 ⟨F3, ρ3, r3, s3, q3⟩ => ⟨ds.length - (i + 1), by omega, F3, ρ3, r3, s3, hlt, rfl, q3⟩, fun x H3 hy => ?_⟩
    obtain ⟨F3, st3, dx⟩ := y1 x H3 hy
    have r3 := r2.stp st3
    refine rg σ2 H3 F3 ρ2 x _ _ _ r3 dx hq fun σ4 ρ4 r4 _ _ q4 => ?_
    refine rb σ4 H3 F3 ρ4 _ _ r4 q4 ⟨fun σ5 H5 F5 ρ5 r5 s5 q5 => ⟨F5, ρ5, r5, (s2.trans st3.ff).trans s5, q5⟩, fun σ5 H5 F5 ρ5 r5 s5 q5 => f.nx σ5 H5 F5 ρ5 r5 (((s1.trans s2).trans st3.ff).trans s5) q5, fun σ5 H5 F5 ρ5 r5 s5 q5 => ⟨F5, ρ5, r5, (s2.trans st3.ff).trans s5, q5⟩, fun σ5 H5 F5 ρ5 d v r5 s5 dv q5 => f.rt σ5 H5 F5 ρ5 d v r5 (((s1.trans s2).trans st3.ff).trans s5) dv q5⟩
  · have e : i = ds.length := by omega
    subst e
    rw [List.drop_length] at hq
    exact .inl ⟨st, f.nx σ2 H2 F2 ρ2 r2 (s1.trans s2) hq⟩
def dWhileN (c : DT) (b : DS) : Nat → DS
  | 0 => fun _ _ => False
  | n + 1 => fun DD ρ => c ρ fun ρ1 t => match t with
    | true => b { nx := dWhileN c b n DD, ct := dWhileN c b n DD, bk := DD.nx, rt := DD.rt } ρ1
    | false => DD.nx ρ1
def dWhile (c : DT) (b : DS) : DS := fun DD ρ => ∃ n, dWhileN c b n DD ρ
theorem rs_while {tc : TT} {tb : TS} {c : DT} {b : DS} (rc : RT W B tc c) (rb : RS W B tb b) : RS W B (tWhile tc tb) (dWhile c b) := by
  intro σ H F ρ D DD r h f
  obtain ⟨n, h⟩ := h
  cases n with
  | zero => exact h.elim
  | succ n =>
  refine ⟨fun m σ H => ∃ F2 ρ2, Rel W B F2 H σ ρ2 ∧ Same F F2 ∧ dWhileN c b (m + 1) DD ρ2, ⟨n, F, ρ, r, Same.refl _, h⟩, ?_⟩
  rintro m σ2 H2 ⟨F2, ρ2, r2, s2, hq⟩
  refine rc σ2 H2 F2 ρ2 _ _ r2 hq fun t H3 F3 ρ3 r3 s3 q3 => ?_
  cases t with
  | false => exact iteF (f.nx σ2 H3 F3 ρ3 r3 (s2.trans s3) q3)
  | true =>
    refine iteT ⟨fun σ4 H4 => ∃ F4 ρ4, Rel W B F4 H4 σ4 ρ4 ∧ Same F F4 ∧ dWhileN c b m DD ρ4, fun σ4 H4 ⟨F4, ρ4, r4, s4, q4⟩ => ?_, ?_⟩
    · cases m with
      | zero => exact q4.elim
      | succ m => exact ⟨m, Nat.lt_succ_self _, F4, ρ4, r4, s4, q4⟩
    · refine rb σ2 H3 F3 ρ3 _ _ r3 q3 ⟨fun σ5 H5 F5 ρ5 r5 s5 q5 => ⟨F5, ρ5, r5, (s2.trans s3).trans s5, q5⟩, fun σ5 H5 F5 ρ5 r5 s5 q5 => f.nx σ5 H5 F5 ρ5 r5 ((s2.trans s3).trans s5) q5, fun σ5 H5 F5 ρ5 r5 s5 q5 => ⟨F5, ρ5, r5, (s2.trans s3).trans s5, q5⟩, fun σ5 H5 F5 ρ5 d v r5 s5 dv q5 => f.rt σ5 H5 F5 ρ5 d v r5 ((s2.trans s3).trans s5) dv q5⟩

/-! ### comprehensions -/
def wipeS (sl : List Sl) : List Nat → List Sl
  | [] => sl
  | v :: vs => (wipeS sl vs).set v .un
def Ev.wipe (ρ : Ev) (vs : List Nat) : Ev := ⟨wipeS ρ.sl vs, ρ.c⟩
theorem wipeS_length (sl : List Sl) : ∀ vs, (wipeS sl vs).length = sl.length
  | [] => rfl
  | v :: vs => by unfold wipeS; rw [List.length_set, wipeS_length sl vs]
theorem wipeS_out {sl : List Sl} {j : Nat} : ∀ {vs : List Nat}, j ∉ vs → (wipeS sl vs)[j]? = sl[j]?
  | [], _ => rfl
  | v :: vs, h => by
    unfold wipeS
    rw [List.getElem?_set_ne (fun e => h (by rw [e]; exact List.mem_cons_self))]
    exact wipeS_out fun z => h (List.mem_cons_of_mem _ z)
theorem wipeS_in {sl : List Sl} {j : Nat} : ∀ {vs : List Nat}, j ∈ vs → j < sl.length → (wipeS sl vs)[j]? = some .un
  | v :: vs, h, hl => by
    unfold wipeS
    by_cases e : v = j
    · subst e; rw [List.getElem?_set_self (by rw [wipeS_length]; exact hl)]
    · rw [List.getElem?_set_ne e]
      rcases List.mem_cons.mp h with z | z
      · exact absurd z.symm e
      · exact wipeS_in z hl
theorem wipe_out {σ : St} {j : Nat} : ∀ {vs : List Nat}, j ∉ vs → (wipe σ vs)[j]? = σ[j]?
  | [], _ => rfl
  | v :: vs, h => by
    unfold wipe
    rw [List.getElem?_set_ne (fun e => h (by rw [e]; exact List.mem_cons_self))]
    exact wipe_out fun z => h (List.mem_cons_of_mem _ z)
theorem wipe_in {σ : St} {j : Nat} : ∀ {vs : List Nat}, j ∈ vs → j < σ.length → (wipe σ vs)[j]? = some none
  | v :: vs, h, hl => by
    unfold wipe
    by_cases e : v = j
    · subst e; rw [List.getElem?_set_self (by rw [wipe_length]; exact hl)]
    · rw [List.getElem?_set_ne e]
      rcases List.mem_cons.mp h with z | z
      · exact absurd z.symm e
      · exact wipe_in z hl
theorem wipe_eq {σ τ : St} {vs : List Nat} (hl : τ.length = σ.length) (h : ∀ j, j ∉ vs → τ[j]? = σ[j]?) : wipe τ vs = wipe σ vs := by
  apply List.ext_getElem?
  intro j
  by_cases hj : j ∈ vs
  · by_cases hl2 : j < σ.length
    · rw [wipe_in hj hl2, wipe_in hj (by rw [hl]; exact hl2)]
    · rw [List.getElem?_eq_none (by rw [wipe_length, hl]; omega), List.getElem?_eq_none (by rw [wipe_length]; omega)]
  · rw [wipe_out hj, wipe_out hj, h j hj]
/-- the slots outside as they are behind the block, those of the block as ahead -/
def resS (vs : List Nat) : Nat → List Sl → List Sl → List Sl
  | k, o :: os, n :: ns => (bif vs.contains k then o else n) :: resS vs (k + 1) os ns
  | _, _, _ => []
theorem resS_length (vs : List Nat) : ∀ (k : Nat) (os ns : List Sl), ns.length = os.length → (resS vs k os ns).length = os.length
  | _, [], [], _ => rfl
  | k, o :: os, n :: ns, h => by
    show (resS vs (k + 1) os ns).length + 1 = os.length + 1
    rw [resS_length vs (k + 1) os ns (by simpa using h)]
theorem resS_get (vs : List Nat) : ∀ (k : Nat) (os ns : List Sl) (i : Nat), ns.length = os.length → (resS vs k os ns)[i]? = if vs.contains (k + i) then os[i]? else ns[i]?
  | k, [], [], i, _ => by simp [resS]
  | k, o :: os, n :: ns, 0, _ => by
    show some (bif vs.contains k then o else n) = _
    rw [Nat.add_zero]
    cases vs.contains k <;> simp
  | k, o :: os, n :: ns, i + 1, h => by
    show (resS vs (k + 1) os ns)[i]? = _
    rw [resS_get vs (k + 1) os ns i (by simpa using h)]
    have : k + 1 + i = k + (i + 1) := by omega
    rw [this]; simp
def Ev.back (ρ : Ev) (vs : List Nat) (ρ2 : Ev) : Ev := ⟨resS vs 0 ρ.sl ρ2.sl, ρ2.c⟩
/-- none of these slots is of one's own -/
def noOwn (ρ : Ev) (vs : List Nat) : Bool := vs.all fun i => match ρ.sl[i]? with | some (.o _) => false | _ => true
def dLcL (g : DG) (tt : DT) (e : DE) (vs : List Nat) : List D → Ev → List D → (Ev → List D → Prop) → Prop
  | [], ρ, acc, K => K ρ acc
  | d :: ds, ρ, acc, K => g d (ρ.wipe vs) fun ρ1 => tt ρ1 fun ρ2 b => match b with
    | true => e ρ2 fun ρ3 y => acc.length < sizeLine ∧ dLcL g tt e vs ds (ρ.back vs ρ3) (acc ++ [y]) K
    | false => dLcL g tt e vs ds (ρ.back vs ρ2) acc K
def dLc (s : DI) (g : DG) (tt : DT) (e : DE) (vs : List Nat) : DE := fun ρ Q => s ρ fun ρ1 ds => noOwn ρ1 vs = true ∧ dLcL g tt e vs ds ρ1 [] fun ρ2 acc => Q ρ2 (.lst acc)
def dYes : DT := fun ρ Q => Q ρ true
theorem rt_yes : RT W B tYes dYes := fun σ H F ρ Q R r h k => k true H F ρ r (Same.refl _) h

theorem noOwn_at {vs : List Nat} (h : noOwn ρ vs = true) {i : Nat} {d : D} (hi : i ∈ vs) : ρ.sl[i]? ≠ some (.o d) := fun e => by
  have := List.all_eq_true.mp h i hi
  rw [e] at this; cases this
/-- into a block: its own slots are forgotten -/
theorem Rel.wiped (r : Rel W B F H σ ρ) (vs : List Nat) : Rel W B F H (wipe σ vs) (ρ.wipe vs) := by
  have at_ : ∀ {j : Nat} {d : D}, (ρ.wipe vs).sl[j]? = some (.o d) → ρ.sl[j]? = some (.o d) ∧ (wipe σ vs)[j]? = σ[j]? := fun {j d} h => by
    have h : (wipeS ρ.sl vs)[j]? = some (.o d) := h
    by_cases hj : j ∈ vs
    · have hl : j < ρ.sl.length := by
        have := (List.getElem?_eq_some_iff.mp h).1
        rwa [wipeS_length] at this
      rw [wipeS_in hj hl] at h; cases h
    · rw [wipeS_out hj] at h; exact ⟨h, wipe_out hj⟩
  refine ⟨r.ex, by rw [wipe_length]; show _ = (wipeS ρ.sl vs).length; rw [wipeS_length]; exact r.len, fun j s hj => ?_, fun j k x y p hj hk h1 h2 => ?_, r.well, r.keep, r.new, r.f0, r.ioH, r.hid, fun q hq j x hj h1 => ?_, r.hnd⟩
  · have h : (wipeS ρ.sl vs)[j]? = some s := hj
    by_cases hv : j ∈ vs
    · have hl : j < ρ.sl.length := by
        have := (List.getElem?_eq_some_iff.mp h).1
        rwa [wipeS_length] at this
      rw [wipeS_in hv hl] at h; cases h; trivial
    · rw [wipeS_out hv] at h
      rw [wipe_out hv]
      exact r.sl j s h
  · obtain ⟨q1, e1⟩ := at_ hj
    obtain ⟨q2, e2⟩ := at_ hk
    exact r.inj j k x y p q1 q2 (e1.symm.trans h1) (e2.symm.trans h2)
  · obtain ⟨q1, e1⟩ := at_ hj
    exact r.hap q hq j x q1 (e1.symm.trans h1)
/-- out of a block -/
theorem Rel.backed {vs : List Nat} {τ : St} {ρ2 : Ev} (r : Rel W B F H σ ρ) (no : noOwn ρ vs = true) (sf : Same F F') (r2 : Rel W B F' H' τ ρ2) (ho : ∀ j, j ∉ vs → τ[j]? = σ[j]?) (hl : τ.length = σ.length) :
    Rel W B F' H' σ (ρ.back vs ρ2) := by
  have hlen : ρ2.sl.length = ρ.sl.length := by rw [← r2.len, ← r.len]; exact hl
  have get : ∀ j, (ρ.back vs ρ2).sl[j]? = if vs.contains j then ρ.sl[j]? else ρ2.sl[j]? := fun j => by
    have := resS_get vs 0 ρ.sl ρ2.sl j hlen
    rwa [Nat.zero_add] at this
  have at_ : ∀ {j : Nat} {d : D}, (ρ.back vs ρ2).sl[j]? = some (.o d) → j ∉ vs ∧ ρ2.sl[j]? = some (.o d) := fun {j d} h => by
    rw [get j] at h
    by_cases hj : j ∈ vs
    · rw [if_pos (by simpa using hj)] at h
      exact absurd h (noOwn_at no hj)
    · rw [if_neg (by simpa using hj)] at h
      exact ⟨hj, h⟩
  refine ⟨r2.ex, by show _ = (resS vs 0 ρ.sl ρ2.sl).length; rw [resS_length vs 0 ρ.sl ρ2.sl hlen]; exact r.len, fun j s hj => ?_, fun j k x y p hj hk h1 h2 => ?_, r2.well, r2.keep, r2.new, r2.f0, r2.ioH, r2.hid, fun q hq j x hj h1 => ?_, r2.hnd⟩
  · rw [get j] at hj
    by_cases hv : j ∈ vs
    · rw [if_pos (by simpa using hv)] at hj
      have q := r.sl j s hj
      cases s with
      | un => trivial
      | v d => obtain ⟨u, e, hd⟩ := q; exact ⟨u, e, hd.mono sf⟩
      | o d => exact absurd hj (noOwn_at no hv)
    · rw [if_neg (by simpa using hv)] at hj
      rw [← ho j hv]
      exact r2.sl j s hj
  · obtain ⟨v1, q1⟩ := at_ hj
    obtain ⟨v2, q2⟩ := at_ hk
    exact r2.inj j k x y p q1 q2 ((ho j v1).trans h1) ((ho k v2).trans h2)
  · obtain ⟨v1, q1⟩ := at_ hj
    exact r2.hap q hq j x q1 ((ho j v1).trans h1)
/-- a new object is hidden -/
def Bs.hide (B : Bs) (p : Addr) (d : D) : Bs := { B with hid := (p, d) :: B.hid }
theorem Rel.hide {p : Addr} {d : D} (r : Rel W B F H σ ρ) (n : New W B F H σ ρ p d) : Rel W (B.hide p d) F H σ ρ :=
  ⟨r.ex, r.len, r.sl, r.inj, r.well, r.keep, r.new, r.f0, r.ioH, fun q hq => by
    rcases List.mem_cons.mp hq with e | hq
    · subst e; exact ⟨n.fp, n.h0, n.pw, n.own⟩
    · exact r.hid q hq, fun q hq => by
    rcases List.mem_cons.mp hq with e | hq
    · subst e; exact n.ap
    · exact r.hap q hq, List.nodup_cons.mpr ⟨fun h => by
      obtain ⟨q, hq, e⟩ := List.mem_map.mp h
      exact n.nh q hq e, r.hnd⟩⟩
/-- it comes out again -/
theorem Rel.unhide {p : Addr} {d : D} (r : Rel W (B.hide p d) F H σ ρ) : Rel W B F H σ ρ ∧ New W B F H σ ρ p d := by
  obtain ⟨h1, h2, h3, h4⟩ := r.hid (p, d) List.mem_cons_self
  refine ⟨⟨r.ex, r.len, r.sl, r.inj, r.well, r.keep, r.new, r.f0, r.ioH, fun q hq => r.hid q (List.mem_cons_of_mem _ hq), fun q hq => r.hap q (List.mem_cons_of_mem _ hq), (List.nodup_cons.mp r.hnd).2⟩,
    h4, h1, h2, h3, r.hap (p, d) List.mem_cons_self, fun q hq e => ?_⟩
  exact (List.nodup_cons.mp r.hnd).1 (List.mem_map.mpr ⟨q, hq, e⟩)
/-- the hidden object changes -/
theorem Rel.hset {p : Addr} {d d' : D} {o : HO} (r : Rel W (B.hide p d) F H σ ρ) (own : OwnAt W F (upd H p o) p d') : Rel W (B.hide p d') F (upd H p o) σ ρ := by
  obtain ⟨h1, h2, h3, h4⟩ := r.hid (p, d) List.mem_cons_self
  have hq : ∀ q, q ≠ p → upd H p o q = H q := fun q h => upd_ne h
  refine ⟨fun b u e => ?_, r.len, fun j s hj => ?_, r.inj, ?_, fun a u e1 e2 e3 => ?_, r.new, r.f0, fun a ha => ?_, fun q hq' => ?_, fun q hq' => ?_, r.hnd⟩
  · have : b ≠ p := fun z => by subst z; rw [h1] at e; cases e
    rw [hq b this]; exact r.ex _ _ e
  · have q := r.sl j s hj
    cases s with
    | un => trivial
    | v x => exact q
    | o x =>
      obtain ⟨p2, e2, fp2, h02, hw2, own2⟩ := q
      have hne : p2 ≠ p := fun z => r.hap (p, d) List.mem_cons_self j x hj (by rw [e2, z])
      exact ⟨p2, e2, fp2, h02, hw2, own2.mono (Same.refl _) (hq p2 hne)⟩
  · refine r.well.mono (Same.refl _) fun q hp => ⟨r.well.fp hp, hq q fun z => h3 (by rw [← z]; exact hp)⟩
  · have : a ≠ p := fun z => by subst z; exact absurd (h2.symm.trans e1) (fun t => nomatch t)
    rw [hq a this]; exact r.keep a u e1 e2 e3
  · by_cases z : a = p
    · subst z; rw [upd_same]; exact fun t => nomatch t
    · rw [hq a z]; exact r.ioH a ha
  · rcases List.mem_cons.mp hq' with e | hm
    · subst e; exact ⟨h1, h2, h3, own⟩
    · obtain ⟨g1, g2, g3, g4⟩ := r.hid q (List.mem_cons_of_mem _ hm)
      have hne : q.1 ≠ p := fun z => (List.nodup_cons.mp r.hnd).1 (List.mem_map.mpr ⟨q, hm, z⟩)
      exact ⟨g1, g2, g3, g4.mono (Same.refl _) (hq q.1 hne)⟩
  · rcases List.mem_cons.mp hq' with e | hm
    · subst e; exact r.hap (p, d) List.mem_cons_self
    · exact r.hap q (List.mem_cons_of_mem _ hm)

theorem rn_lc {wi : TI} {tg : TG} {tt : TT} {te : TE} {s : DI} {g : DG} {t : DT} {e : DE} {is vs : List Nat} (ri : RI W B wi s) (rg : ∀ B', B'.io = B.io → RG W B' tg g is) (rt : ∀ B', B'.io = B.io → RT W B' tt t) (re : ∀ B', B'.io = B.io → RE W B' te e) (hs : ∀ i ∈ is, i ∈ vs) :
    RN W B (tLc wi tg tt te vs) (dLc s g t e vs) := by
  intro σ H F ρ Q R rl h k
  refine ri σ H F ρ _ _ rl h fun J H1 F1 ρ1 ds r1 s1 it h1 => ?_
  obtain ⟨no, h1⟩ := h1
  intro D hD
  have nD : New W B F1 (upd H1 D (.lst [])) σ ρ1 D (.lst []) := new_of r1 hD ⟨[], upd_same, rfl⟩
  have r1' : Rel W (B.hide D (.lst [])) F1 (upd H1 D (.lst [])) σ ρ1 := (r1.stp (Stp.lay (o := .lst []) r1.ex hD)).hide nD
  refine ⟨fun i m H => ∃ F2 ρ2 acc, Rel W (B.hide D (.lst acc)) F2 H σ ρ2 ∧ Same F1 F2 ∧ i ≤ ds.length ∧ m = ds.length - i ∧ noOwn ρ2 vs = true ∧ dLcL g t e vs (ds.drop i) ρ2 acc fun ρ2 acc => Q ρ2 (.lst acc),
    ⟨ds.length, F1, ρ1, [], r1', Same.refl _, Nat.zero_le _, rfl, no, h1⟩, ?_⟩
  rintro i m H2 ⟨F2, ρ2, acc, r2, s2, hi, rfl, no2, hq⟩
  obtain ⟨st, go⟩ := it F2 H2 s2 r2.ex
  by_cases hlt : i < ds.length
  · have hd : ds[i]? = some ds[i] := List.getElem?_eq_getElem hlt
    obtain ⟨g1, y1⟩ := go i _ hd
    rw [List.drop_eq_getElem_cons hlt] at hq
    refine .inr ⟨g1, fun H3 => ∃ F3 ρ3 acc, Rel W (B.hide D (.lst acc)) F3 H3 σ ρ3 ∧ Same F1 F3 ∧ noOwn ρ3 vs = true ∧ dLcL g t e vs (ds.drop (i + 1)) ρ3 acc fun ρ2 acc => Q ρ2 (.lst acc),
      fun H3 ⟨F3, ρ3, acc3, r3, s3, n3, q3⟩ => ⟨ds.length - (i + 1), by omega, F3, ρ3, acc3, r3, s3, hlt, rfl, n3, q3⟩, fun x H3 hy => ?_⟩
    obtain ⟨F3, st3, dx⟩ := y1 x H3 hy
    have r3 := r2.stp st3
    have r3w := r3.wiped vs
    have noBack : ∀ (ρx : Ev), ρx.sl.length = ρ2.sl.length → noOwn (ρ2.back vs ρx) vs = true := fun ρx hl => by
      refine List.all_eq_true.mpr fun j hj => ?_
      have := resS_get vs 0 ρ2.sl ρx.sl j hl
      rw [Nat.zero_add, if_pos (by simpa using hj)] at this
      have e2 : (ρ2.back vs ρx).sl[j]? = ρ2.sl[j]? := this
      rw [e2]
      exact List.all_eq_true.mp no2 j hj
    refine rg (B.hide D (.lst acc)) rfl (wipe σ vs) H3 F3 (ρ2.wipe vs) x _ _ _ r3w dx hq fun σ4 ρ4 r4 o4 l4 q4 => ?_
    have out4 : ∀ j, j ∉ vs → σ4[j]? = σ[j]? := fun j hj => (o4 j fun z => hj (hs j z)).trans (wipe_out hj)
    have len4 : σ4.length = σ.length := l4.trans (wipe_length _ _)
    have lenE : ∀ {F5 H5 ρ5} , Rel W (B.hide D (.lst acc)) F5 H5 σ4 ρ5 → ρ5.sl.length = ρ2.sl.length := fun {F5 H5 ρ5} r => by rw [← r.len, len4, r2.len]
    refine ⟨wipe_eq len4 out4, rt (B.hide D (.lst acc)) rfl σ4 H3 F3 ρ4 _ _ r4 q4 fun b H5 F5 ρ5 r5 s5 q5 => ?_⟩
    cases b with
    | false => exact iteF ⟨F5, ρ2.back vs ρ5, acc, r3.backed no2 s5 r5 out4 len4, (s2.trans st3.ff).trans s5, noBack ρ5 (lenE r5), q5⟩
    | true =>
      refine iteT (re (B.hide D (.lst acc)) rfl σ4 H5 F5 ρ5 _ _ r5 q5 fun y H6 F6 ρ6 dy r6 s6 d6 q6 => ?_)
      obtain ⟨_, _, _, ownD⟩ := r6.hid (D, .lst acc) List.mem_cons_self
      obtain ⟨xs, hxs, dxs⟩ := ownD
      refine ⟨xs, hxs, by rw [← dxs.length]; exact q6.1, F6, ρ2.back vs ρ6, acc ++ [dy], ?_, ((s2.trans st3.ff).trans s5).trans s6, noBack ρ6 (lenE r6), q6.2⟩
      exact (r3.backed no2 (s5.trans s6) r6 out4 len4).hset ⟨_, upd_same, dxs.append ⟨y, [], rfl, d6, rfl⟩⟩
  · have e : i = ds.length := by omega
    subst e
    rw [List.drop_length] at hq
    obtain ⟨r2', n2⟩ := r2.unhide
    exact .inl ⟨st, k D H2 F2 ρ2 _ r2' (s1.trans s2) n2 hq⟩
end
end DL

-- part DL4
set_option maxHeartbeats 4000000
namespace DL
open PySem L2

section
variable {W : Wd} {B : Bs} {F F' H H' : Hp} {σ : St} {ρ : Ev}

/-! ### built-in calls by values -/
theorem re_cb {r : List V → Hp → VK → Prop} {ta : TA} {a : DA} {g : List D → Ev → (Ev → D → Prop) → Prop} (ra : RA W B ta a)
    (hr : ∀ σ H F ρ vs ds Q (R : VK), Rel W B F H σ ρ → DenL W F ds vs → g ds ρ Q → (∀ v H' F' ρ' d, Rel W B F' H' σ ρ' → Same F F' → Den W F' d v → Q ρ' d → R v H') → r vs H R) :
    RE W B (tCB r ta) (fun ρ Q => a ρ fun ρ1 ds => g ds ρ1 Q) := by
  intro σ H F ρ Q R rl h k
  refine ra σ H F ρ _ _ rl h fun vs H1 F1 ρ1 ds r1 s1 d1 h1 => ?_
  exact hr σ H1 F1 ρ1 vs ds Q R r1 d1 h1 fun v H' F' ρ' d r' s' d' q => k v H' F' ρ' d r' (s1.trans s') d' q

theorem den1 {d : D} {vs : List V} (h : DenL W F [d] vs) : ∃ x, vs = [x] ∧ Den W F d x := by
  obtain ⟨x, r, e, hx, hr⟩ := h
  have hr : r = [] := hr
  subst hr
  exact ⟨x, e, hx⟩
theorem den2 {d e : D} {vs : List V} (h : DenL W F [d, e] vs) : ∃ x y, vs = [x, y] ∧ Den W F d x ∧ Den W F e y := by
  obtain ⟨x, r, e1, hx, hr⟩ := h
  obtain ⟨y, e2, hy⟩ := den1 hr
  subst e2
  exact ⟨x, y, e1, hx, hy⟩

def gLen : List D → Ev → (Ev → D → Prop) → Prop := fun ds ρ Q => match ds with
  | [.lst xs] => Q ρ (.int xs.length)
  | [.tup xs] => Q ρ (.int xs.length)
  | [.str x] => x.length ≤ sizeLine ∧ Q ρ (.int x.length)
  | _ => False
theorem re_len {ta : TA} {a : DA} (ra : RA W B ta a) : RE W B (tCB (fun xs H Q => ∃ x n, xs = [x] ∧ LenV W.K x H n ∧ Q (.int n) H) ta) (fun ρ Q => a ρ fun ρ1 ds => gLen ds ρ1 Q) :=
  re_cb ra fun σ H F ρ vs ds Q R r d h k => by
    unfold gLen at h
    split at h
    · obtain ⟨x, rfl, a, xs, rfl, hs, hd⟩ := den1 d
      exact ⟨_, _, rfl, .inl ⟨xs, same_sqL r.ex hs, rfl⟩, k _ H F ρ (.int _) r (Same.refl _) (by rw [← hd.length]; rfl) h⟩
    · obtain ⟨x, rfl, a, xs, rfl, hs, hd⟩ := den1 d
      exact ⟨_, _, rfl, .inr ⟨xs, same_sqT r.ex hs, rfl⟩, k _ H F ρ (.int _) r (Same.refl _) (by rw [← hd.length]; rfl) h⟩
    · rename_i z
      obtain ⟨x, rfl, hx⟩ := den1 d
      have hx : x = .str z := hx
      subst hx
      exact ⟨_, _, rfl, ⟨h.1, rfl⟩, k _ H F ρ (.int _) r (Same.refl _) rfl h.2⟩
    · exact h.elim
def gInt : List D → Ev → (Ev → D → Prop) → Prop := fun ds ρ Q => match ds with
  | [.int i] => Q ρ (.int i)
  | [.bl b] => Q ρ (.int (if b then 1 else 0))
  | _ => False
theorem re_int {ta : TA} {a : DA} (ra : RA W B ta a) : RE W B (tCB (fun xs H Q => (∃ i, xs = [.int i] ∧ Q (.int i) H) ∨ ∃ k, xs = [.bl k] ∧ Q (.int (if k then 1 else 0)) H) ta) (fun ρ Q => a ρ fun ρ1 ds => gInt ds ρ1 Q) :=
  re_cb ra fun σ H F ρ vs ds Q R r d h k => by
    unfold gInt at h
    split at h
    · obtain ⟨x, rfl, hx⟩ := den1 d
      have hx : x = .int _ := hx
      subst hx
      exact .inl ⟨_, rfl, k _ H F ρ (.int _) r (Same.refl _) rfl h⟩
    · obtain ⟨x, rfl, hx⟩ := den1 d
      have hx : x = .bl _ := hx
      subst hx
      exact .inr ⟨_, rfl, k _ H F ρ (.int _) r (Same.refl _) rfl h⟩
    · exact h.elim
def gAbs : List D → Ev → (Ev → D → Prop) → Prop := fun ds ρ Q => match ds with
  | [.int i] => Q ρ (.int (if i < 0 then -i else i))
  | _ => False
theorem re_abs {ta : TA} {a : DA} (ra : RA W B ta a) : RE W B (tCB (fun xs H Q => ∃ i, xs = [.int i] ∧ Q (.int (if i < 0 then -i else i)) H) ta) (fun ρ Q => a ρ fun ρ1 ds => gAbs ds ρ1 Q) :=
  re_cb ra fun σ H F ρ vs ds Q R r d h k => by
    unfold gAbs at h
    split at h
    · obtain ⟨x, rfl, hx⟩ := den1 d
      have hx : x = .int _ := hx
      subst hx
      exact ⟨_, rfl, k _ H F ρ (.int _) r (Same.refl _) rfl h⟩
    · exact h.elim
def gTupOf : List D → Ev → (Ev → D → Prop) → Prop := fun ds ρ Q => match ds with
  | [.lst xs] => Q ρ (.tup xs)
  | [.tup xs] => Q ρ (.tup xs)
  | _ => False
theorem re_tupOf {ta : TA} {a : DA} (ra : RA W B ta a) : RE W B (tCB (fun xs H Q => ∃ p ys, xs = [.ref p] ∧ ((SqL W.K H p ys ∧ ∀ l, H l = none → Q (.ref l) (upd H l (.tup ys))) ∨ (SqT W.K H p ys ∧ Q (.ref p) H))) ta) (fun ρ Q => a ρ fun ρ1 ds => gTupOf ds ρ1 Q) :=
  re_cb ra fun σ H F ρ vs ds Q R r d h k => by
    unfold gTupOf at h
    split at h
    · obtain ⟨x, rfl, a, xs, rfl, hs, hd⟩ := den1 d
      refine ⟨a, xs, rfl, .inl ⟨same_sqL r.ex hs, fun l hl => ?_⟩⟩
      have st := Stp.one (o := .tup xs) r.ex hl
      exact k _ _ _ ρ (.tup _) (r.stp st) st.ff ⟨l, xs, rfl, .inl (.inl upd_same), hd.mono st.ff⟩ h
    · obtain ⟨x, rfl, a, xs, rfl, hs, hd⟩ := den1 d
      exact ⟨a, xs, rfl, .inr ⟨same_sqT r.ex hs, k _ H F ρ (.tup _) r (Same.refl _) ⟨a, xs, rfl, hs, hd⟩ h⟩⟩
    · exact h.elim
def gLstOf : List D → Ev → (Ev → D → Prop) → Prop := fun ds ρ Q => match ds with
  | [.lst xs] => Q ρ (.lst xs)
  | [.tup xs] => Q ρ (.lst xs)
  | _ => False
theorem rn_lstOf {ta : TA} {a : DA} (ra : RA W B ta a) : RN W B (tCB (fun xs H Q => ∃ p ys, xs = [.ref p] ∧ (SqL W.K H p ys ∨ SqT W.K H p ys) ∧ ∀ l, H l = none → Q (.ref l) (upd H l (.lst ys))) ta) (fun ρ Q => a ρ fun ρ1 ds => gLstOf ds ρ1 Q) := by
  intro σ H F ρ Q R rl h k
  refine ra σ H F ρ _ _ rl h fun vs H1 F1 ρ1 ds r1 s1 d1 h1 => ?_
  unfold gLstOf at h1
  split at h1
  · obtain ⟨x, rfl, a, xs, rfl, hs, hd⟩ := den1 d1
    refine ⟨a, xs, rfl, .inl (same_sqL r1.ex hs), fun p hp => ?_⟩
    exact k p _ _ _ (.lst _) (r1.stp (Stp.lay (o := .lst xs) r1.ex hp)) s1 (new_of r1 hp ⟨xs, upd_same, hd⟩) h1
  · obtain ⟨x, rfl, a, xs, rfl, hs, hd⟩ := den1 d1
    refine ⟨a, xs, rfl, .inr (same_sqT r1.ex hs), fun p hp => ?_⟩
    exact k p _ _ _ (.lst _) (r1.stp (Stp.lay (o := .lst xs) r1.ex hp)) s1 (new_of r1 hp ⟨xs, upd_same, hd⟩) h1
  · exact h1.elim

/-! ### subscripts -/
def gIxL : D → D → Ev → (Ev → D → Prop) → Prop := fun x y ρ Q => match x, y with
  | .lst ds, .int i => match atI ds i with | some d => Q ρ d | none => False
  | _, _ => False
def gIxT : D → D → Ev → (Ev → D → Prop) → Prop := fun x y ρ Q => match x, y with
  | .tup ds, .int i => match atI ds i with | some d => Q ρ d | none => False
  | _, _ => False
theorem denL_at {ds : List D} {xs : List V} {i : Int} {d : D} (h : DenL W F ds xs) (e : atI ds i = some d) : ∃ x, atI xs i = some x ∧ Den W F d x := by
  unfold atI at e ⊢
  rw [← h.length]
  cases q : ixN ds.length i with
  | none => rw [q] at e; cases e
  | some j =>
    rw [q] at e
    exact h.get e
theorem re_ixL {ta tb : TE} {a b : DE} (ra : RE W B ta a) (rb : RE W B tb b) : RE W B (tOp (rIxL W.K) ta tb) (fun ρ Q => a ρ fun ρ1 x => b ρ1 fun ρ2 y => gIxL x y ρ2 Q) :=
  re_bin ra rb fun σ H F ρ x y dx dy Q R r d1 d2 h k => by
    unfold gIxL at h
    split at h
    · obtain ⟨p, xs, e, hs, hd⟩ := d1
      split at h
      · rename_i d ed
        obtain ⟨v, hv, dv⟩ := denL_at hd ed
        exact ⟨p, xs, _, v, e, d2, same_sqL r.ex hs, hv, k v H F ρ d r (Same.refl _) dv h⟩
      · exact h.elim
    · exact h.elim
theorem re_ixT {ta tb : TE} {a b : DE} (ra : RE W B ta a) (rb : RE W B tb b) : RE W B (tOp (rIxT W.K) ta tb) (fun ρ Q => a ρ fun ρ1 x => b ρ1 fun ρ2 y => gIxT x y ρ2 Q) :=
  re_bin ra rb fun σ H F ρ x y dx dy Q R r d1 d2 h k => by
    unfold gIxT at h
    split at h
    · obtain ⟨p, xs, e, hs, hd⟩ := d1
      split at h
      · rename_i d ed
        obtain ⟨v, hv, dv⟩ := denL_at hd ed
        exact ⟨p, xs, _, v, e, d2, same_sqT r.ex hs, hv, k v H F ρ d r (Same.refl _) dv h⟩
      · exact h.elim
    · exact h.elim
/-- a list or a tuple -/
def gIx : D → D → Ev → (Ev → D → Prop) → Prop := fun x y ρ Q => match x, y with
  | .lst ds, .int i => match atI ds i with | some d => Q ρ d | none => False
  | .tup ds, .int i => match atI ds i with | some d => Q ρ d | none => False
  | _, _ => False
theorem re_ix {ta tb : TE} {a b : DE} (ra : RE W B ta a) (rb : RE W B tb b) : RE W B (tOp (fun x y H Q => rIxL W.K x y H Q ∨ rIxT W.K x y H Q) ta tb) (fun ρ Q => a ρ fun ρ1 x => b ρ1 fun ρ2 y => gIx x y ρ2 Q) :=
  re_bin ra rb fun σ H F ρ x y dx dy Q R r d1 d2 h k => by
    unfold gIx at h
    split at h
    · obtain ⟨p, xs, e, hs, hd⟩ := d1
      split at h
      · rename_i d ed
        obtain ⟨v, hv, dv⟩ := denL_at hd ed
        exact .inl ⟨p, xs, _, v, e, d2, same_sqL r.ex hs, hv, k v H F ρ d r (Same.refl _) dv h⟩
      · exact h.elim
    · obtain ⟨p, xs, e, hs, hd⟩ := d1
      split at h
      · rename_i d ed
        obtain ⟨v, hv, dv⟩ := denL_at hd ed
        exact .inr ⟨p, xs, _, v, e, d2, same_sqT r.ex hs, hv, k v H F ρ d r (Same.refl _) dv h⟩
      · exact h.elim
    · exact h.elim

/-! ### data: == and != -/
mutual
def toP : D → Option PyData
  | .non => some .none
  | .bl b => some (.bool b)
  | .int i => some (.int i)
  | .str x => some (.str x)
  | .lst ds => (toPs ds).map .list
  | .tup ds => (toPs ds).map .tuple
  | _ => none
def toPs : List D → Option (List PyData)
  | [] => some []
  | d :: ds => match toP d, toPs ds with
    | some p, some ps => some (p :: ps)
    | _, _ => none
end
mutual
theorem dp_of (e : Same F H) : ∀ {d : D} {v : V} {p : PyData}, Den W F d v → toP d = some p → Dp W.K H v p
  | .non, _, _, h, t => by cases t; rw [show _ = V.non from h]; exact .non
  | .bl b, _, _, h, t => by cases t; rw [show _ = V.bl b from h]; exact .bl b
  | .int i, _, _, h, t => by cases t; rw [show _ = V.int i from h]; exact .int i
  | .str x, _, _, h, t => by cases t; rw [show _ = V.str x from h]; exact .str x
  | .lst ds, _, p, ⟨a, xs, ev, hs, hd⟩, t => by
    unfold toP at t
    cases q : toPs ds with
    | none => rw [q] at t; cases t
    | some ps =>
      rw [q] at t; cases t
      subst ev
      exact .lst (same_sqL e hs) (dps_of e hd q)
  | .tup ds, _, p, ⟨a, xs, ev, hs, hd⟩, t => by
    unfold toP at t
    cases q : toPs ds with
    | none => rw [q] at t; cases t
    | some ps =>
      rw [q] at t; cases t
      subst ev
      exact .tup (same_sqT e hs) (dps_of e hd q)
  | .obj _ _ _, _, _, _, t => by cases t
  | .dic _ _, _, _, _, t => by cases t
  | .opq _, _, _, _, t => by cases t
  | .well, _, _, _, t => by cases t
theorem dps_of (e : Same F H) : ∀ {ds : List D} {xs : List V} {ps : List PyData}, DenL W F ds xs → toPs ds = some ps → DpAll W.K H xs ps
  | [], _, _, h, t => by cases t; rw [show _ = [] from h]; exact .nil
  | d :: ds, _, ps, ⟨x, r, ev, h1, h2⟩, t => by
    unfold toPs at t
    subst ev
    cases q : toP d with
    | none => rw [q] at t; cases t
    | some p =>
      cases q2 : toPs ds with
      | none => rw [q, q2] at t; cases t
      | some rs =>
        rw [q, q2] at t; cases t
        exact .cons (dp_of e h1 q) (dps_of e h2 q2)
end
/-- == of data; none where they are none, or too deep -/
def eqD (x y : D) : Option Bool := match toP x, toP y with
  | some p, some q => bif SeqAt.shaped p && SeqAt.shaped q then some (PyData.eqv p q) else none
  | _, _ => none
def gEq : D → D → Ev → (Ev → D → Prop) → Prop := fun x y ρ Q => ∃ b, eqD x y = some b ∧ Q ρ (.bl b)
def gNe : D → D → Ev → (Ev → D → Prop) → Prop := fun x y ρ Q => ∃ b, eqD x y = some b ∧ Q ρ (.bl (!b))
theorem eqD_some {x y : D} {b : Bool} (h : eqD x y = some b) : ∃ p q, toP x = some p ∧ toP y = some q ∧ SeqAt.shaped p = true ∧ SeqAt.shaped q = true ∧ PyData.eqv p q = b := by
  unfold eqD at h
  split at h
  · rename_i p q hp hq
    cases hs : (SeqAt.shaped p && SeqAt.shaped q) with
    | false => rw [hs] at h; cases h
    | true =>
      rw [hs] at h
      rw [Bool.and_eq_true] at hs
      exact ⟨p, q, hp, hq, hs.1, hs.2, Option.some.inj h⟩
  · cases h
theorem re_eqD {ta tb : TE} {a b : DE} (ra : RE W B ta a) (rb : RE W B tb b) : RE W B (tOp (rEqD W.K) ta tb) (fun ρ Q => a ρ fun ρ1 x => b ρ1 fun ρ2 y => gEq x y ρ2 Q) :=
  re_bin ra rb fun σ H F ρ x y dx dy Q R r d1 d2 h k => by
    obtain ⟨c, ec, h⟩ := h
    obtain ⟨p, q, hp, hq, s1, s2, e⟩ := eqD_some ec
    exact ⟨p, q, dp_of r.ex d1 hp, dp_of r.ex d2 hq, s1, s2, k _ H F ρ (.bl c) r (Same.refl _) (by rw [e]; rfl) h⟩
theorem re_neD {ta tb : TE} {a b : DE} (ra : RE W B ta a) (rb : RE W B tb b) : RE W B (tOp (rNeD W.K) ta tb) (fun ρ Q => a ρ fun ρ1 x => b ρ1 fun ρ2 y => gNe x y ρ2 Q) :=
  re_bin ra rb fun σ H F ρ x y dx dy Q R r d1 d2 h k => by
    obtain ⟨c, ec, h⟩ := h
    obtain ⟨p, q, hp, hq, s1, s2, e⟩ := eqD_some ec
    exact ⟨p, q, dp_of r.ex d1 hp, dp_of r.ex d2 hq, s1, s2, k _ H F ρ (.bl (!c)) r (Same.refl _) (by rw [e]; rfl) h⟩
/-- is None -/
def isNonD : D → Bool
  | .non => true
  | .opq v => decide (v = .non)
  | _ => false
theorem isNon_den {d : D} {v : V} (h : Den W F d v) : decide (v = V.non) = isNonD d := by
  cases d with
  | non => rw [show v = V.non from h]; rfl
  | bl b => rw [show v = V.bl b from h]; rfl
  | int i => rw [show v = V.int i from h]; rfl
  | str x => rw [show v = V.str x from h]; rfl
  | lst ds => obtain ⟨a, xs, e, _⟩ := h; rw [e]; rfl
  | tup ds => obtain ⟨a, xs, e, _⟩ := h; rw [e]; rfl
  | obj c ns ds => obtain ⟨a, C, dx, gs, e, _⟩ := h; rw [e]; rfl
  | dic ks vs => obtain ⟨a, e, _⟩ := h; rw [e]; rfl
  | opq u => rw [show v = u from h]; rfl
  | well => obtain ⟨p, _, e⟩ := h; rw [e]; rfl
theorem re_isN {ta : TE} {a : DE} (ra : RE W B ta a) : RE W B (tIsN ta) (fun ρ Q => a ρ fun ρ1 x => Q ρ1 (.bl (isNonD x))) := by
  intro σ H F ρ Q R rl h k
  exact ra σ H F ρ _ _ rl h fun x H1 F1 ρ1 dx r1 s1 d1 h1 => k _ H1 F1 ρ1 (.bl (isNonD dx)) r1 s1 (by rw [isNon_den d1]; rfl) h1
theorem re_notN {ta : TE} {a : DE} (ra : RE W B ta a) : RE W B (tNotN ta) (fun ρ Q => a ρ fun ρ1 x => Q ρ1 (.bl (!isNonD x))) := by
  intro σ H F ρ Q R rl h k
  exact ra σ H F ρ _ _ rl h fun x H1 F1 ρ1 dx r1 s1 d1 h1 => k _ H1 F1 ρ1 (.bl (!isNonD dx)) r1 s1 (by rw [isNon_den d1]; rfl) h1

/-! ### isinstance -/
/-- k tells of trees what isinstance tells of the class u (none where it does not know) -/
def tyD (W : Wd) : D → Option Value
  | .non => some (.type "NoneType") | .bl _ => some (.type "bool") | .int _ => some (.type "int") | .str _ => some (.type "str") | .lst _ => some (.type "list") | .tup _ => some (.type "tuple") | .dic _ _ => some (.type "dict")
  | .obj c _ _ => (W.cls c).map .ref
  | .opq _ => none
  | .well => some (.type "list")
def KOk (W : Wd) (k : D → Option Bool) (u : Value) : Prop := ∀ d b, k d = some b → ∃ t, tyD W d = some t ∧ PySem.W.kitOne W.K t u = some b ∧ ∀ F H v, Same F H → Den W F d v → TyX W.K H v t
theorem tyx_lst {a : Addr} {xs : List V} (h : SqL W.K H a xs) : TyX W.K H (.ref a) (.type "list") := by
  rcases h with (h | ⟨o, h⟩) | ⟨o, its, n, h1, h2, _⟩
  · exact .base (.lst h)
  · exact .base (.frz h)
  · exact .kList h1 h2
theorem tyx_tup {a : Addr} {xs : List V} (h : SqT W.K H a xs) : TyX W.K H (.ref a) (.type "tuple") := by
  rcases h with (h | ⟨o, h⟩) | ⟨o, its, n, h1, h2, _⟩
  · exact .base (.tup h)
  · exact .fTuple h
  · exact .kTuple h1 h2
def tyName : D → Option String
  | .non => some "NoneType" | .bl _ => some "bool" | .int _ => some "int" | .str _ => some "str" | .lst _ => some "list" | .tup _ => some "tuple" | .dic _ _ => some "dict" | _ => none
theorem tyx_of (e : Same F H) {d : D} {v : V} {T : String} (h : Den W F d v) (t : tyName d = some T) : TyX W.K H v (.type T) := by
  cases d with
  | non => cases t; rw [show v = V.non from h]; exact .base .non
  | bl b => cases t; rw [show v = V.bl b from h]; exact .base (.bl b)
  | int i => cases t; rw [show v = V.int i from h]; exact .base (.int i)
  | str x => cases t; rw [show v = V.str x from h]; exact .base (.str x)
  | lst ds => cases t; obtain ⟨a, xs, ev, hs, _⟩ := h; rw [ev]; exact tyx_lst (same_sqL e hs)
  | tup ds => cases t; obtain ⟨a, xs, ev, hs, _⟩ := h; rw [ev]; exact tyx_tup (same_sqT e hs)
  | dic ks vs =>
    cases t
    obtain ⟨a, ev, h⟩ := h
    rw [ev]
    rcases h with ⟨kvs, h, _⟩ | ⟨kvs, h, _⟩
    · exact .base (.dK (e _ _ h))
    · exact .base (.dT (e _ _ h))
  | obj c ns ds => cases t
  | opq u => cases t
  | well => cases t
def gIsi (k : D → Option Bool) : List D → Ev → (Ev → D → Prop) → Prop := fun ds ρ Q => match ds with
  | [x, .opq _] => match k x with | some b => Q ρ (.bl b) | none => False
  | _ => False
/-- isinstance(x, C): the class's value is c -/
theorem re_isi {te : TE} {t : DE} {c : V} {u : Value} {k : D → Option Bool} (re : RE W B te t) (hc : ClsV c u) (hk : KOk W k u) :
    RE W B (tCB (rIsi W.K) (tCons te (tCons (tC c) tNil))) (fun ρ Q => t ρ fun ρ1 x => ∃ b, k x = some b ∧ Q ρ1 (.bl b)) := by
  intro σ H F ρ Q R rl h kk
  refine re σ H F ρ _ _ rl h fun x H1 F1 ρ1 dx r1 s1 d1 h1 => ?_
  obtain ⟨b, eb, h1⟩ := h1
  obtain ⟨ty, _, h3, h2⟩ := hk dx b eb
  exact ⟨x, c, ty, u, b, rfl, hc, h2 F1 H1 x r1.ex d1, h3, kk _ H1 F1 ρ1 (.bl b) r1 s1 rfl h1⟩
/-- isinstance(x, (C1, C2)) -/
theorem re_isi2 {te : TE} {t : DE} {c1 c2 : V} {u1 u2 : Value} {k1 k2 : D → Option Bool} (re : RE W B te t) (hc1 : ClsV c1 u1) (hc2 : ClsV c2 u2) (hk1 : KOk W k1 u1) (hk2 : KOk W k2 u2) :
    RE W B (tCB (rIsiT W.K) (tCons te (tCons (tTup (tCons (tC c1) (tCons (tC c2) tNil))) tNil))) (fun ρ Q => t ρ fun ρ1 x => ∃ b1 b2, k1 x = some b1 ∧ k2 x = some b2 ∧ Q ρ1 (.bl (b1 || b2))) := by
  intro σ H F ρ Q R rl h kk
  refine re σ H F ρ _ _ rl h fun x H1 F1 ρ1 dx r1 s1 d1 h1 => ?_
  obtain ⟨b1, b2, e1, e2, h1⟩ := h1
  · refine ⟨by show 2 ≤ sizeLine; decide, fun p hp => ?_⟩
    have st := Stp.one (o := .tup [c1, c2]) r1.ex hp
    obtain ⟨ty1, t1, g2, g1⟩ := hk1 dx b1 e1
    obtain ⟨ty2, t2, same, _⟩ := hk2 dx b2 e2
    have et : ty2 = ty1 := Option.some.inj (t2.symm.trans t1)
    rw [et] at same
    refine ⟨x, p, [c1, c2], ty1, [u1, u2], b1 || b2, rfl, upd_same, .cons hc1 (.cons hc2 .nil), g1 _ _ x st.fh (d1.mono st.ff), ?_, kk _ _ _ ρ1 (.bl (b1 || b2)) (r1.stp st) (s1.trans st.ff) rfl h1⟩
    refine kitAny_cons g2 (fun e => ?_) (fun e => by rw [e]; rfl)
    rw [e]
    refine kitAny_cons same (fun e2 => ?_) (fun e2 => by rw [e2]; rfl)
    rw [e2]
    exact kitAny_nil
end
end DL

-- part DL5
set_option maxHeartbeats 4000000
namespace DL
open PySem L2

/-- what a def does, over trees: its arguments, the draws so far, what is wanted of its value and of the draws -/
abbrev GF := List D → Nat → (D → Nat → Prop) → Prop

/-- the base at a def's entry -/
def bs0 (F H : Hp) : Bs := ⟨F, H, [], []⟩
/-- what is kept from H to H' by a call: all but the well and the objects in io -/
structure Kept (F H F' H' : Hp) (pw : Option Addr) (io : List Addr) : Prop where
  ff : Same F F'
  fh : Same F' H'
  hh : ∀ a o, H a = some o → pw ≠ some a → a ∉ io → H' a = some o
  new : ∀ a, H a ≠ none → F a = none → F' a = none

/-- the promise of a def that changes nothing but the well -/
def spD (K : PySem.W.Frag) (cls : Str → Option Addr) (G : GF) : Sp := fun vs H Q _ => ∃ (F : Hp) (ds : List D) (c : Nat) (pw : Option Addr) (QD : D → Nat → Prop), Same F H ∧ DenL ⟨K, cls, pw⟩ F ds vs ∧ WellOk ⟨K, cls, pw⟩ (bs0 F H) F H c ∧ G ds c QD ∧
  ∀ v H' F' d c', Kept F H F' H' pw [] → Den ⟨K, cls, pw⟩ F' d v → WellOk ⟨K, cls, pw⟩ (bs0 F H) F' H' c' → QD d c' → Q v H'

section
variable {W : Wd} {B : Bs} {F F' H H' : Hp} {σ : St} {ρ : Ev}
theorem WellOk.base {B B' : Bs} {c : Nat} (h : WellOk W B F H c) (hio : ∀ p, W.pw = some p → p ∉ B'.io) : WellOk W B' F H c := by
  unfold WellOk at h ⊢
  cases q : W.pw with
  | none => trivial
  | some p =>
    rw [q] at h
    obtain ⟨h1, h2, h3⟩ := h
    exact ⟨h1, hio p q, h3⟩
/-- the entry -/
def ent (n : Nat) (ds : List D) (c : Nat) : Ev := ⟨ds.map .v ++ List.replicate (n - ds.length) Sl.un, c⟩
theorem rel_start {N : List Str} {vs : List V} {ds : List D} {c : Nat} (ex : Same F H) (hd : DenL W F ds vs) (w : WellOk W (bs0 F H) F H c) (hn : ds.length ≤ N.length) :
    Rel W (bs0 F H) F H (start N vs) (ent N.length ds c) := by
  have hl := hd.length
  have get : ∀ (i : Nat) (s : Sl), (ent N.length ds c).sl[i]? = some s → (s = .un ∨ ∃ d v, s = .v d ∧ (start N vs)[i]? = some (some v) ∧ Den W F d v) := fun i s h => by
    unfold ent at h
    by_cases hi : i < ds.length
    · rw [List.getElem?_append_left (by rw [List.length_map]; exact hi), List.getElem?_map] at h
      have e : ds[i]? = some ds[i] := List.getElem?_eq_getElem hi
      rw [e] at h
      obtain ⟨v, hv, dv⟩ := hd.get e
      refine .inr ⟨_, v, (Option.some.inj h).symm, ?_, dv⟩
      unfold L2.start
      rw [List.getElem?_append_left (by rw [List.length_map, ← hl]; exact hi), List.getElem?_map, hv]
      rfl
    · rw [List.getElem?_append_right (by rw [List.length_map]; omega), List.getElem?_replicate] at h
      split at h
      · exact .inl (Option.some.inj h).symm
      · cases h
  refine ⟨ex, ?_, fun i s h => ?_, fun i j d e p h => ?_, w, fun a o h _ _ => h, fun a h1 h2 => h2, Same.refl _, (fun a ha => nomatch ha), (fun q hq => nomatch hq), (fun q hq => nomatch hq), List.nodup_nil⟩
  · show (start N vs).length = (ds.map Sl.v ++ List.replicate (N.length - ds.length) Sl.un).length
    unfold L2.start
    simp only [List.length_append, List.length_map, List.length_replicate]
    omega
  · rcases get i s h with e | ⟨d, v, e, hv, dv⟩
    · subst e; trivial
    · subst e; exact ⟨v, hv, dv⟩
  · rcases get i _ h with e | ⟨d, v, e, _⟩ <;> cases e

/-- a def's body keeps its promise -/
theorem body_of {K : PySem.W.Frag} {cls : Str → Option Addr} {G : GF} {N : List Str} {ts : TS} {T : DS} {vs : List V} {Q : VK} {E : XK} (rs : ∀ pw B, B.io = [] → RS ⟨K, cls, pw⟩ B ts T)
    (hG : ∀ ds c QD, G ds c QD → ds.length ≤ N.length ∧ T { nx := fun ρ => QD .non ρ.c, rt := fun ρ d => QD d ρ.c } (ent N.length ds c))
    (h : spD K cls G vs H Q E) : ts { nx := fun _ H' => Q .non H', rt := Q } (start N vs) H := by
  obtain ⟨F, ds, c, pw, QD, ex, hd, w, g, k⟩ := h
  obtain ⟨hn, ht⟩ := hG ds c QD g
  have kp : ∀ {F' H' σ' ρ'}, Rel ⟨K, cls, pw⟩ (bs0 F H) F' H' σ' ρ' → Kept F H F' H' pw [] := fun {F' H' σ' ρ'} r =>
    ⟨r.f0, r.ex, fun a o h1 h2 h3 => r.keep a o h1 h2 h3, fun a h1 h2 => r.new a h1 h2⟩
  refine rs pw (bs0 F H) rfl (start N vs) H F (ent N.length ds c) _ _ (rel_start ex hd w hn) ht ⟨fun σ' H' F' ρ' r' s' q => ?_, fun σ' H' F' ρ' r' s' q => q.elim, fun σ' H' F' ρ' r' s' q => q.elim, fun σ' H' F' ρ' d v r' s' dv q => ?_⟩
  · exact k .non H' F' .non ρ'.c (kp r') rfl r'.well q
  · exact k v H' F' d ρ'.c (kp r') dv r'.well q
/-- a def of the text keeps its promise, by its body's reading over trees -/
theorem len_of {K : PySem.W.Frag} {cls : Str → Option Addr} {G : GF} {n : Nat} (hG : ∀ ds c QD, G ds c QD → ds.length = n) {vs : List V} {Q : VK} {E : XK} (h : spD K cls G vs H Q E) : vs.length = n := by
  obtain ⟨F, ds, c, pw, QD, ex, hd, w, g, k⟩ := h
  rw [← hd.length]; exact hG ds c QD g

/-- behind a call -/
theorem Rel.called {c' : Nat} (r : Rel W B F H σ ρ) (k : Kept F H F' H' W.pw []) (w : WellOk W (bs0 F H) F' H' c') : Rel W B F' H' σ (ρ.cnt c') := by
  have wk : WellOk W B F' H' c' := w.base fun p hp => by
    have := r.well
    unfold WellOk at this
    rw [hp] at this
    exact this.2.1
  have hne : ∀ {p : Addr} {o : HO}, H p = some o → H p ≠ none := fun h q => by rw [h] at q; cases q
  have keepO : ∀ {p : Addr} {d : D}, OwnAt W F H p d → F p = none → W.pw ≠ some p → F' p = none ∧ OwnAt W F' H' p d := fun {p d} own fp hw => by
    obtain ⟨o, ho⟩ := own.ne
    exact ⟨k.new p (hne ho) fp, own.mono k.ff ((k.hh p o ho hw (fun z => nomatch z)).trans ho.symm)⟩
  refine ⟨k.fh, r.len, fun i s h => ?_, r.inj, wk, fun a o h1 h2 h3 => k.hh a o (r.keep a o h1 h2 h3) h2 (fun z => nomatch z), fun a h1 h2 => ?_, r.f0.trans k.ff, fun a ha => ?_, fun q hq => ?_, r.hap, r.hnd⟩
  · have q := r.sl i s h
    cases s with
    | un => trivial
    | v d => obtain ⟨u, e, hd⟩ := q; exact ⟨u, e, hd.mono k.ff⟩
    | o d =>
      obtain ⟨p, e, fp, h0, hw, own⟩ := q
      obtain ⟨f', own'⟩ := keepO own fp hw
      exact ⟨p, e, f', h0, hw, own'⟩
  · by_cases hq : H a = none
    · exact absurd (r.fresh0 hq) h1
    · exact k.new a hq (r.new a h1 h2)
  · cases q : H a with
    | none => exact absurd q (r.ioH a ha)
    | some o =>
      have hw : W.pw ≠ some a := fun e => by
        have w := r.well
        unfold WellOk at w
        rw [e] at w
        exact w.2.1 ha
      rw [k.hh a o q hw (fun z => nomatch z)]; exact fun z => nomatch z
  · obtain ⟨h1, h2, h3, h4⟩ := r.hid q hq
    obtain ⟨f', own'⟩ := keepO h4 h1 h3
    exact ⟨f', h2, h3, own'⟩
/-- from a body: what a callee is told -/
theorem Rel.spD {G : GF} {vs : List V} {ds : List D} {Q : Ev → D → Prop} {R : VK} {E : XK} (r : Rel W B F H σ ρ) (hd : DenL W F ds vs) (g : G ds ρ.c fun d c' => Q (ρ.cnt c') d)
    (k : ∀ v H' F' ρ' d, Rel W B F' H' σ ρ' → Same F F' → Den W F' d v → Q ρ' d → R v H') : DL.spD W.K W.cls G vs H R E :=
  ⟨F, ds, ρ.c, W.pw, _, r.ex, hd, r.well.base (fun p hp z => nomatch z), g, fun v H' F' d c' kp dv w q => k v H' F' _ d (r.called kp w) kp.ff dv q⟩

def dCall (G : GF) (a : DA) : DE := fun ρ Q => a ρ fun ρ1 ds => G ds ρ1.c fun d c' => Q (ρ1.cnt c') d
theorem re_call {G : GF} {ta : TA} {a : DA} {E : XK} (ra : RA W B ta a) : RE W B (tCall (spD W.K W.cls G) [] E ta) (dCall G a) := by
  intro σ H F ρ Q R rl h k
  refine ra σ H F ρ _ _ rl h fun vs H1 F1 ρ1 ds r1 s1 d1 h1 => ?_
  rw [List.append_nil]
  exact r1.spD d1 h1 fun v H' F' ρ' d r' s' dv q => k v H' F' ρ' d r' (s1.trans s') dv q
/-- o.m(..) -/
def dMeth (c m : Str) (G : GF) (t : DE) (a : DA) : DE := fun ρ Q => t ρ fun ρ1 x => match x with
  | .obj c' ns ds => c' = c ∧ m ∉ ns ∧ a ρ1 fun ρ2 es => G (.obj c' ns ds :: es) ρ2.c fun d c' => Q (ρ2.cnt c') d
  | _ => False
theorem lookup_none {gs : List (Str × V)} {m : Str} (h : m ∉ gs.map (·.1)) : gs.lookup m = none := by
  induction gs with
  | nil => rfl
  | cons g r ih =>
    obtain ⟨k, v⟩ := g
    rw [List.map_cons, List.mem_cons, not_or] at h
    have hb : (m == k) = false := beq_eq_false_iff_ne.mpr h.1
    rw [List.lookup_cons, hb]
    exact ih h.2
theorem re_meth {C : Addr} {c m : Str} {G : GF} {te : TE} {t : DE} {ta : TA} {a : DA} {E : XK} (hc : W.cls c = some C) (re : RE W B te t) (ra : RA W B ta a) : RE W B (tMeth C m (spD W.K W.cls G) [] E te ta) (dMeth c m G t a) := by
  intro σ H F ρ Q R rl h k
  refine re σ H F ρ _ _ rl h fun x H1 F1 ρ1 dx r1 s1 d1 h1 => ?_
  split at h1
  · rename_i c' ns ds
    obtain ⟨e, hm, h1⟩ := h1
    subst e
    have d1' := d1
    obtain ⟨p, C', dx, gs, ev, hf, hc', hn, hl⟩ := d1
    have : C' = C := Option.some.inj (hc'.symm.trans hc)
    subst this
    refine ⟨p, dx, gs, ev, r1.ex _ _ hf, lookup_none (by rw [hn]; exact hm), ?_⟩
    refine ra σ H1 F1 ρ1 _ _ r1 h1 fun vs H2 F2 ρ2 es r2 s2 d2 h2 => ?_
    rw [List.append_nil]
    exact r2.spD (.cons (d1'.mono s2) d2) h2 fun v H' F' ρ' d r' s' dv q => k v H' F' ρ' d r' ((s1.trans s2).trans s') dv q
  · exact h1.elim
/-! ### attributes -/
def fldD : List Str → List D → Str → Option D
  | n :: ns, d :: ds, f => bif n == f then some d else fldD ns ds f
  | _, _, _ => none
def dFld (t : DE) (f : Str) : DE := fun ρ Q => t ρ fun ρ1 x => match x with
  | .obj _ ns ds => match fldD ns ds f with | some d => Q ρ1 d | none => False
  | _ => False
theorem fld_lookup {f : Str} {d : D} : ∀ {gs : List (Str × V)} {ds : List D}, DenL W F ds (gs.map (·.2)) → fldD (gs.map (·.1)) ds f = some d → ∃ v, gs.lookup f = some v ∧ Den W F d v
  | [], [], _, e => by cases e
  | (n, v) :: gs, d0 :: ds, ⟨x, r, ev, h1, h2⟩, e => by
    cases ev
    have e : (bif n == f then some d0 else fldD (gs.map (·.1)) ds f) = some d := e
    cases hb : n == f with
    | true =>
      rw [hb] at e
      cases e
      have hb2 : (f == n) = true := by rw [beq_iff_eq] at hb ⊢; exact hb.symm
      exact ⟨v, by rw [List.lookup_cons, hb2], h1⟩
    | false =>
      rw [hb] at e
      have hb2 : (f == n) = false := by rw [beq_eq_false_iff_ne] at hb ⊢; exact hb.symm
      obtain ⟨v', hv, dv⟩ := fld_lookup h2 e
      exact ⟨v', by rw [List.lookup_cons, hb2]; exact hv, dv⟩
  | [], _ :: _, ⟨_, _, ev, _⟩, _ => by cases ev
  | _ :: _, [], h, _ => by cases h
/-- what of a class its attributes ask: NoAttr of the attribute for all classes that may stand here -/
theorem re_fld {te : TE} {t : DE} {f : Str} (re : RE W B te t) (hcls : ∀ c C, W.cls c = some C → Cls W.K C) (hno : ∀ c C, W.cls c = some C → NoAttr W.K C f) : RE W B (tFld W.K te f) (dFld t f) := by
  intro σ H F ρ Q R rl h k
  refine re σ H F ρ _ _ rl h fun x H1 F1 ρ1 dx r1 s1 d1 h1 => ?_
  split at h1
  · obtain ⟨p, C, dx, gs, ev, hf, hc, hn, hl⟩ := d1
    split at h1
    · rename_i d ed
      subst hn
      obtain ⟨v, hv, dv⟩ := fld_lookup hl ed
      exact ⟨p, C, dx, gs, v, ev, r1.ex _ _ hf, hcls _ _ hc, hno _ _ hc, hv, k v H1 F1 ρ1 d r1 s1 dv h1⟩
    · exact h1.elim
  · exact h1.elim

/-! ### a list of one's own changes -/
/-- the content of an own slot's object changes -/
theorem Rel.oset {i : Nat} {d d' : D} {p : Addr} {o : HO} (r : Rel W B F H σ ρ) (hs : ρ.sl[i]? = some (.o d)) (hp : σ[i]? = some (some (.ref p))) (own : OwnAt W F (upd H p o) p d') : Rel W B F (upd H p o) σ (ρ.set i (.o d')) := by
  obtain ⟨p', e, fp, h0, hw, ow⟩ := r.sl i _ hs
  rw [hp] at e
  cases e
  obtain ⟨o0, ho0⟩ := ow.ne
  have hi : i < ρ.sl.length := (List.getElem?_eq_some_iff.mp hs).1
  have hq : ∀ q, q ≠ p → upd H p o q = H q := fun q h => upd_ne h
  have at_ : ∀ {m : Nat} {z : D}, (ρ.set i (.o d')).sl[m]? = some (.o z) → (i = m ∧ z = d') ∨ (i ≠ m ∧ ρ.sl[m]? = some (.o z)) := fun {m z} t => by
    have t : (ρ.sl.set i (.o d'))[m]? = some (.o z) := t
    by_cases e : i = m
    · subst e
      rw [List.getElem?_set_self hi] at t
      cases t
      exact .inl ⟨rfl, rfl⟩
    · rw [List.getElem?_set_ne e] at t; exact .inr ⟨e, t⟩
  refine ⟨fun b u e => ?_, by show σ.length = (ρ.sl.set i _).length; rw [List.length_set]; exact r.len, fun j s hj => ?_, fun j k x y q hj hk h1 h2 => ?_, ?_, fun a u e1 e2 e3 => ?_, r.new, r.f0, fun a ha => ?_, fun q hq' => ?_, fun q hq' j x hj h1 => ?_, r.hnd⟩
  · have : b ≠ p := fun z => by subst z; rw [fp] at e; cases e
    rw [hq b this]; exact r.ex _ _ e
  · by_cases ei : i = j
    · subst ei
      have t : (ρ.sl.set i (.o d'))[i]? = some s := hj
      rw [List.getElem?_set_self hi] at t
      cases t
      exact ⟨p, hp, fp, h0, hw, own⟩
    · have t : (ρ.sl.set i (.o d'))[j]? = some s := hj
      rw [List.getElem?_set_ne ei] at t
      have q := r.sl j s t
      cases s with
      | un => trivial
      | v x => exact q
      | o x =>
        obtain ⟨p2, e2, fp2, h02, hw2, own2⟩ := q
        have hne : p2 ≠ p := fun z => ei (r.inj i j d x p hs t hp (by rw [e2, z]))
        exact ⟨p2, e2, fp2, h02, hw2, own2.mono (Same.refl _) (hq p2 hne)⟩
  · rcases at_ hj with ⟨e1, _⟩ | ⟨n1, q1⟩ <;> rcases at_ hk with ⟨e2, _⟩ | ⟨n2, q2⟩
    · exact e1.symm.trans e2
    · subst e1
      exact r.inj i k d y q hs q2 h1 h2
    · subst e2
      exact r.inj j i x d q q1 hs h1 h2
    · exact r.inj j k x y q q1 q2 h1 h2
  · refine r.well.mono (Same.refl _) fun q hp2 => ⟨r.well.fp hp2, hq q fun z => hw (by rw [← z]; exact hp2)⟩
  · have : a ≠ p := fun z => by
      subst z
      rcases h0 with h0 | h0
      · rw [h0] at e1; cases e1
      · exact e3 h0
    rw [hq a this]; exact r.keep a u e1 e2 e3
  · by_cases z : a = p
    · subst z; rw [upd_same]; exact fun t => nomatch t
    · rw [hq a z]; exact r.ioH a ha
  · obtain ⟨g1, g2, g3, g4⟩ := r.hid q hq'
    have hne : q.1 ≠ p := fun z => r.hap q hq' i d hs (by rw [z]; exact hp)
    exact ⟨g1, g2, g3, g4.mono (Same.refl _) (hq q.1 hne)⟩
  · rcases at_ hj with ⟨e1, _⟩ | ⟨n1, q1⟩
    · subst e1; exact r.hap q hq' i d hs h1
    · exact r.hap q hq' j x q1 h1
/-- the object at an own slot -/
def getO (ρ : Ev) (i : Nat) : Option D := match ρ.sl[i]? with | some (.o d) => some d | _ => none
theorem Rel.own {i : Nat} {d : D} (r : Rel W B F H σ ρ) (h : getO ρ i = some d) : ∃ p, ρ.sl[i]? = some (.o d) ∧ σ[i]? = some (some (.ref p)) ∧ OwnAt W F H p d := by
  unfold getO at h
  split at h
  · rename_i d' e
    cases h
    obtain ⟨p, e1, _, _, _, ow⟩ := r.sl i _ e
    exact ⟨p, e, e1, ow⟩
  · cases h
/-- x.append(e), x at slot i -/
def dApp (i : Nat) (t : DE) : DS := fun DD ρ => t ρ fun ρ1 d => match getO ρ1 i with
  | some (.lst ds) => ds.length < sizeLine ∧ DD.nx (ρ1.set i (.o (.lst (ds ++ [d]))))
  | _ => False
/-- the slot is of one's own ahead of the argument, too -/
theorem rs_app {i : Nat} {te : TE} {t : DE} (re : RE W B te t) (ho : ∀ ρ Q, t ρ Q → ∃ ds, getO ρ i = some (.lst ds)) : RS W B (tDrop (tBM W.K "list" rAppend (tVar i) (tCons te tNil))) (dApp i t) := by
  intro σ H F ρ D DD r h f
  obtain ⟨ds0, g0⟩ := ho ρ _ h
  obtain ⟨p0, e0, e1, xs0, hx0, _⟩ := r.own g0
  refine ⟨.ref p0, e1, .inl ⟨rfl, xs0, .inl (.inl hx0)⟩, ?_⟩
  refine re σ H F ρ _ _ r h fun y H1 F1 ρ1 dy r1 s1 d1 h1 => ?_
  split at h1
  · rename_i ds g1
    obtain ⟨p, e2, e3, xs, hx, hd⟩ := r1.own g1
    have ep : p0 = p := by rw [e1] at e3; cases e3; rfl
    subst ep
    refine ⟨p0, xs, y, rfl, rfl, hx, by rw [← hd.length]; exact h1.1, ?_⟩
    exact f.nx σ _ F1 _ (r1.oset (d' := .lst (ds ++ [dy])) e2 e3 ⟨_, upd_same, hd.append ⟨y, [], rfl, d1, rfl⟩⟩) s1 h1.2
  · exact h1.elim
end
end DL

-- part DX1
set_option maxHeartbeats 4000000
/-! super().__init__(..) in a def of an own class -/
namespace DL
open PySem PySem.Spec PyProof.Rows L2

abbrev envS (qual : Str) (scope : Scope) (L f : Addr) (cd : Value) (cc : Addr) : Env := PySem.W.envX qual scope L f cd [("__class__", cc)]
/-- the context of a def's body that closes over its class -/
def cxS (CX : CXT) (P : Program) (w : World) (K : PySem.W.Frag) (mg : Str → Option Value) (base : Heap) (N : List Str) (qual : Str) (scope : Scope) (f : Addr) (cd : Value) (cc : Addr) (A : Around) (outer : List Env) (s : Shared) (H : Hp) (E : XK) : Cx where
  prog := P
  w := w
  K := K
  mg := mg
  base := base
  A := A.deeper (envS qual scope s.heap.objs.size f cd cc)
  N := N
  s_0 := s
  H_0 := H
  env := envS qual scope s.heap.objs.size f cd cc
  outer := outer
  stack := envS qual scope s.heap.objs.size f cd cc :: outer
  ex := []
  calm := true
  fn := fun x => !(x == ("__class__" : Str))
  pn := []
  xe := fun e s' => wpAny (model P w) (A.deeper (envS qual scope s.heap.objs.size f cd cc)) (leaving (envS qual scope s.heap.objs.size f cd cc) e) (fun _ s'' => CX outer H s E e s'') (fun e' s'' => CX outer H s E e' s'') s'

structure FnScopeS (N P : List Str) (sc : Scope) : Prop where
  kind : sc.kind = .function
  co : sc.isCoroutine = false
  gen : sc.isGenerator = false
  nd : N.Nodup
  pre : N.take P.length = P
  par : ∀ x ∈ P, sc.names.lookup x = some .local
  nocell : ∀ y ∈ sc.names, y.2 ≠ .cell
  free : ∀ y ∈ sc.names, y.2 = .free → y.1 = ("__class__" : Str)

theorem lookup_nodup {α : Type} {x : Str} {u : α} : ∀ {l : List (Str × α)}, (l.map (·.1)).Nodup → (x, u) ∈ l → l.lookup x = some u
  | (k, v) :: r, nd, h => by
    rw [List.lookup_cons]
    rcases List.mem_cons.mp h with e | h'
    · cases e; simp
    · have hne : (x == k) = false := beq_eq_false_iff_ne.mpr fun e => by
        subst e
        exact (List.nodup_cons.mp nd).1 (List.mem_map.mpr ⟨_, h', rfl⟩)
      rw [hne]
      exact lookup_nodup (List.nodup_cons.mp nd).2 h'
theorem map_fst_zip_sub {α β : Type} : ∀ (xs : List α) (ys : List β), ((xs.zip ys).map Prod.fst).Sublist xs
  | [], _ => by simp
  | x :: xs, [] => by simp
  | x :: xs, y :: ys => by
    rw [List.zip_cons_cons, List.map_cons]
    exact (map_fst_zip_sub xs ys).cons_cons x
theorem lookup_rev_zip {x : Str} {u : Value} {ps : List Str} {us : List Value} {i : Nat} (nd : ps.Nodup) (h1 : ps[i]? = some x) (h2 : us[i]? = some u) : (ps.zip us).reverse.lookup x = some u := by
  refine lookup_nodup ?_ ?_
  · rw [List.map_reverse]
    refine (List.reverse_perm _).symm.nodup ?_
    rw [show (ps.zip us).map (·.1) = (ps.zip us).map Prod.fst from rfl]
    exact nd.sublist (map_fst_zip_sub _ _)
  · rw [List.mem_reverse]
    have : (ps.zip us)[i]? = some (x, u) := by rw [List.getElem?_zip_eq_some]; exact ⟨h1, h2⟩
    exact List.mem_of_getElem? this

theorem inv_startS {CX : CXT} {P : Program} {w : World} {K : PySem.W.Frag} {mg : Str → Option Value} {base : Heap} {N ps : List Str} {qual : Str} {scope : Scope} {f cc : Addr} {cd : Value} {A : Around} {outer : List Env} {s : Shared} {H : Hp} {E : XK} {us : List Value} {vs : List V} {h1 : Heap} {tk : Nat}
    {oc : Obj} {vc : Option Value} (S : FnScopeS N ps scope) (hd : A.handled = none) (e0 : Env0 P w K mg base A outer s H) (hl : vs.length = ps.length) (r : Vals vs us) (lc : K.lookup cc = some oc) (lv : oc.data = .cell vc)
    (hns : h1.Ns s.heap.objs.size (fun x => (ps.zip us).reverse.lookup x)) (hk : ∀ b o, s.heap.get? b = some o → h1.get? b = some o) :
    Inv (cxS CX P w K mg base N qual scope f cd cc A outer s H E) [] (start N vs) H { s with heap := h1, toks := tk } := by
  have hpl : ps.length ≤ N.length := by have := congrArg List.length S.pre; rw [List.length_take] at this; omega
  have ccb : base.get? cc = some oc := e0.mod.kin _ _ lc
  have cch : s.heap.get? cc = some oc := (e0.bs _ _ ccb).1
  have ccn : H cc = none := (e0.bs _ _ ccb).2
  have noA : ∀ b : Addr, b ∉ (cxS CX P w K mg base N qual scope f cd cc A outer s H E).ex := fun b z => absurd (show b ∈ ([] : List Addr) from z) (by simp)
  have look : ∀ {x : Str} {c : Addr}, (cxS CX P w K mg base N qual scope f cd cc A outer s H E).env.cells.lookup x = some c → x = ("__class__" : Str) ∧ c = cc := fun {x c} h => by
    have h : List.lookup x [(("__class__" : Str), cc)] = some c := h
    rw [List.lookup_cons] at h
    cases q : x == ("__class__" : Str) with
    | true => rw [q] at h; exact ⟨beq_iff_eq.mp q, (Option.some.inj h).symm⟩
    | false => rw [q] at h; cases h
  refine ⟨⟨e0.mod, S.kind, rfl, rfl, Nat.le_refl _, fun y z c q1 q2 => (look q1).1.trans (look q2).1.symm, fun y hy => ?_, fun y c q h => ?_, fun _ => hd, Around.frames_deeper e0.frames, .inr ⟨rfl, rfl⟩, fun b z => absurd z (noA b), e0.bs, e0.bsz, fun b _ _ => noA b, fun b z => absurd z (noA b), e0.funs, e0.frf⟩,
    rfl, e0.bare, Un.kept hk, ⟨_, hns, fun i y v q1 q2 q3 => ?_⟩, fun y c h => ?_, e0.hok.fresh (Nat.le_refl _), fun y c h => ?_, fun p hp => absurd (show p ∈ ([] : List (Addr × Obj)) from hp) (by simp), e0.hok.kept hk, ?_⟩
  · rcases hy with hy | hy
    · exact absurd rfl (S.nocell _ (PySem.mem_of_lookup (show scope.names.lookup y = some .cell from hy)))
    · have e := S.free _ (PySem.mem_of_lookup (show scope.names.lookup y = some .free from hy)) rfl
      have e : y = ("__class__" : Str) := e
      subst e
      exact ⟨cc, rfl⟩
  · have e := (look h).1
    subst e
    have q : (!(("__class__" : Str) == ("__class__" : Str))) = true := q
    simp at q
  · have hi : i < vs.length := by
      unfold L2.start at q2
      by_cases hi : i < vs.length
      · exact hi
      · rw [List.getElem?_append_right (by simpa using hi)] at q2
        rw [List.getElem?_replicate] at q2
        split at q2 <;> cases q2
    have ha : vs[i]? = some v := by
      unfold L2.start at q2
      rw [List.getElem?_append_left (by simpa using hi), List.getElem?_map] at q2
      cases e : vs[i]? with
      | none => rw [e] at q2; cases q2
      | some a => rw [e] at q2; cases q2; rfl
    obtain ⟨u, hu, rv⟩ := r.get ha
    have hp : ps[i]? = some y := by
      rw [← S.pre, List.getElem?_take_of_lt (by omega)]; exact q1
    have ndP : ps.Nodup := by rw [← S.pre]; exact S.nd.sublist (List.take_sublist _ _)
    exact ⟨u, rv, .inl ⟨S.par y (List.mem_of_getElem? hp), lookup_rev_zip ndP hp hu⟩⟩
  · obtain ⟨_, e⟩ := look h
    subst e
    exact ⟨vc, oc, hk _ _ cch, lv⟩
  · obtain ⟨_, e⟩ := look h
    subst e
    exact ccn
  · unfold L2.start
    show _ = N.length
    rw [List.length_append, List.length_map, List.length_replicate]
    omega

/-- a statement that stands at the def's own top -/
structure PST (X : Cx) (body : List Stmt) (st : Stmt) (t : TS) : Prop where
  run : ∀ (pins : List (Addr × Obj)) (s : Shared) (σ : L2.St) (H : Hp) (D : Ends), Inv X pins σ H s → t D σ H → PySem.wpAt (model X.prog X.w) X.A (.func body X.env) (exec st X.env) (SP X pins D) X.xe s

/-- THE RULE for a def that closes over its class -/
theorem fn_sup {CX : CXT} {P : Program} {w : World} {K : PySem.W.Frag} {mg : Str → Option Value} {base : Heap} {k : Nat} {f cc : Addr} {name qual : Str} {params : Arguments} {st0 : Stmt} {rest : List Stmt} {scope : Scope} {dV kV doc pm cdv ct oc : Value} {an od : Option Addr}
    {osl : Array (Option Value)} {N ps : List Str} {sp : Sp} {occ : Obj} {vc : Option Value} (lk : K.lookup f = some ⟨oc, od, .func (PySem.W.fnX name qual params (st0 :: rest) scope [("__class__", cc)] dV kV doc pm an cdv ct), osl⟩) (hcd : PySem.W.codeIn K cdv qual = true) (S : FnScopeS N ps scope)
    (lc : K.lookup cc = some occ) (lv : occ.data = .cell vc) (len : ∀ vs H Q E, sp vs H Q E → vs.length = ps.length)
    (hbody : ∀ (A : Around) (outer : List Env) (s : Shared) (H : Hp) (vs : List V) (Q : VK) (E : XK), Room k (A.deeper (envS qual scope s.heap.objs.size f cdv cc)) → sp vs H Q E →
      ∃ t u, PST (cxS CX P w K mg base N qual scope f cdv cc A outer s H E) (st0 :: rest) st0 t ∧ PSs (cxS CX P w K mg base N qual scope f cdv cc A outer s H E) rest u ∧ tSeq t u { nx := fun _ H' => Q .non H', rt := Q } (start N vs) H) :
    FnOk P w K mg base CX (k + 1) f (PySem.W.fnX name qual params (st0 :: rest) scope [("__class__", cc)] dV kV doc pm an cdv ct) ps sp := by
  refine ⟨len, fun A outer s H args us vs Q E hr e0 hb r hsp => ?_⟩
  have hl := len _ _ _ _ hsp
  have KX : K.In s.heap := e0.mod.kin.keeps fun b o e => (e0.bs b o e).1
  have lim : s.heap.NoLimit := e0.mod.nolimit.keeps fun b o e => (e0.bs b o e).1
  refine ks_codeAny_call_defAt (fd := PySem.W.fnX name qual params (st0 :: rest) scope [("__class__", cc)] dV kV doc pm an cdv ct) (body := st0 :: rest) (binds := ps.zip us) hr.depth (KX _ _ lk) rfl lim (PySem.W.codeRec_of KX hcd) rfl hb S.nocell
    (fun y hy => S.par y.1 (List.of_mem_zip hy).1) (fun h₁ hns hk₁ => ?_) S.co S.gen S.kind
  obtain ⟨t, u, ht, hu, hq⟩ := hbody A outer s H vs Q E (hr.deeper _) hsp
  have I : Inv (cxS CX P w K mg base N qual scope f cdv cc A outer s H E) [] (start N vs) H { s with heap := h₁, toks := s.toks + (ps.zip us).length } := inv_startS S hr.hd e0 hl r lc lv hns hk₁
  have fin : ∀ {σ' : L2.St} {H' : Hp} {v : V} {u : Value} {s' : Shared}, Inv (cxS CX P w K mg base N qual scope f cdv cc A outer s H E) [] σ' H' s' → RelV v u → Q v H' → CE outer P w H s Q u s' :=
    fun {σ' H' v u s'} J rv q => ⟨v, H', J.os, J.bare, J.base, J.hok, rv, q⟩
  have last : ∀ (fl : Flow) (s' : Shared), SP (cxS CX P w K mg base N qual scope f cdv cc A outer s H E) [] { nx := fun _ H' => Q .non H', rt := Q } fl s' → CR CX outer P w H s Q E (.ok (.ret (match fl with | .ret v => v | _ => .none))) s' := fun fl s' hs => by
    cases fl with
    | ret u =>
      obtain ⟨v, σ', H', J, rv, q⟩ := hs
      exact fin J rv q
    | next =>
      obtain ⟨σ', H', J, q⟩ := hs
      exact fin (v := V.non) (u := Value.none) J rfl q
    | brk =>
      obtain ⟨_, _, _, q⟩ := hs
      exact False.elim q
    | cont =>
      obtain ⟨_, _, _, q⟩ := hs
      exact False.elim q
  refine ks_wpAt_execs_cons (ks_wpAt_mono (ht.run [] _ (start N vs) H _ I hq) (fun fl s' hs => ?_) fun e s' hs => hs)
  cases fl with
  | next =>
    obtain ⟨σ', H', J, q⟩ := hs
    exact wpAt_of_wpAny (wpAny_mono (hu.run [] s' σ' H' _ J q) (fun fl s'' z => last fl s'' z) fun e s'' z => z)
  | ret u => exact last (.ret u) s' hs
  | brk => exact last .brk s' hs
  | cont => exact last .cont s' hs

/-- super().__init__(..): D is the def's class, f2 the def that is found above it -/
def tSup (K : PySem.W.Frag) (D f2 : Addr) (sp : Sp) (E : XK) (t : TA) : TS := fun DD σ H => ∃ x C dx fs, σ[0]? = some (some (.ref x)) ∧ H x = some (.ins C dx fs) ∧ PySem.W.mroIn K C (.ref D) = some true ∧
  PySem.W.ks_superIn K C D "__init__" = some (some (.ref f2)) ∧ t σ H fun vs H1 => sp (.ref x :: vs) H1 (fun _ H2 => DD.nx σ H2) E
section
variable {X : Cx} {pins : List (Addr × Obj)} {σ : L2.St} {H : Hp} {s : Shared}
theorem met_newI {g x : Addr} (I : Inv X pins σ H s) : Inv X ((s.heap.objs.size, PySem.W.methodObj (.ref g) (.ref x)) :: pins) σ H { s with heap := s.heap.push (PySem.W.methodObj (.ref g) (.ref x)), toks := s.toks + 1 } :=
  ClX.pin_new I (fun _ _ z => Heap.get?_push_of_some _ z) (Nat.le_refl _) (Heap.get?_push_size s.heap rfl) (fun v z => nomatch z)
theorem run_met {CX : CXT} {k : Nat} {q g x : Addr} {sp : Sp} {E : XK} {Q : VK} {us : List Value} {vs : List V} (F : FnR X.prog X.w X.K X.mg X.base CX k g sp) (hr : Room k X.A) (hx : Passes CX X E) (I : Inv X ((q, PySem.W.methodObj (.ref g) (.ref x)) :: pins) σ H s)
    (r : Vals vs us) (h : sp (.ref x :: vs) H Q E) : wpAny (model X.prog X.w) X.A (call (.ref q) us) (EP X pins σ Q) X.xe s := by
  have z : wpAny (model X.prog X.w) X.A (call (.ref q) us) (EP X ((q, PySem.W.methodObj (.ref g) (.ref x)) :: pins) σ Q) X.xe s :=
    wpAny_call (PySem.W.method_call (ClX.pin_at I) (run_fnR (us := .ref x :: us) (vs := .ref x :: vs) F hr hx I (.cons rfl r) h))
  exact thn z fun _ _ y => ClX.unpinE y
theorem callwith_met {pos : Pos} {e : Expr} {es : List Expr} {q g x : Addr} {Q : Value → Shared → Prop} {E : Value → Shared → Prop} {A : Around} (I : Inv X ((q, PySem.W.methodObj (.ref g) (.ref x)) :: pins) σ H s) (hb : X.base.get? q = none) (hf : PySem.W.fnIn X.K g = true)
    (h : wpAny (model X.prog X.w) A (spliced (backTo pos (starEach (e :: es) X.env))) (fun vs s₁ => PySem.W.MethP X.K q g (.ref x) s₁.heap ∧ wpAny (model X.prog X.w) A (call (.ref q) vs) Q E s₁) E s)
    (he : starEach (e :: es) X.env = (false, eval e X.env) :: starEach es X.env) (hpl : (backTo pos (starEach es X.env)).any (·.1) = false) :
    wpAny (model X.prog X.w) A (callWith pos (.ref q) [] (backTo pos (starEach (e :: es) X.env)) []) Q E s := by
  have hq := ClX.pin_at I
  have hL : q ≠ X.env.locals := (I.pin (q, PySem.W.methodObj (.ref g) (.ref x)) (List.mem_append_right _ List.mem_cons_self)).2.2.1
  exact PySem.W.callWith_M (K := X.K) (h₀ := X.base) (first := []) I.ok.mod.kin (news_at hL hb hq) List.mem_cons_self hf h he hpl
end
section
variable {X : Cx} {CX : CXT} {k : Nat} {f f2 cda cc D : Addr} {slf : Str} {fd : FuncData} {ar : Arg} {vs : Array Value} {file : Str} {tf : Tok} {oc ccl cl : Value} {od cdd cld : Option Addr} {osl ccs csl : Array (Option Value)} {cdD : ClassData}
  {sp : Sp} {E : XK} {e : Expr} {es : List Expr} {t : TA} {body : List Stmt} {p0 p1 apos cpos epos : Pos}
theorem ps_super (hN0 : X.N[0]? = some slf) (hks : X.env.kindOf "super" = some .globalImplicit) (hkc : X.env.kindOf "__class__" = some .free) (hka : X.env.kindOf slf = some .local)
    (hfu : X.env.func = some f) (lk : X.K.lookup f = some ⟨oc, od, .func fd, osl⟩) (hp : (fd.params.posonlyargs ++ fd.params.args).head? = some ar) (har : ar.arg = slf)
    (hco : X.env.code = .ref cda) (lc : X.K.lookup cda = some ⟨ccl, cdd, .fields vs, ccs⟩) (hvs : vs[2]? = some (.str file tf)) (hfile : ((X.prog.main.file : Str) == file) = true)
    (hcl : X.env.cells.lookup ("__class__" : Str) = some cc) (lcc : X.K.lookup cc = some ⟨cl, cld, .cell (some (.ref D)), csl⟩) (hD : PySem.W.clsIn X.K D = some cdD) (hms : X.mg "super" = none) (htop : (X.prog.main.scope.names.lookup ("super" : Str)).isSome = false)
    (hno : PySem.W.nsIn X.K cStatics "thirdparty.any" = some none) (F : FnR X.prog X.w X.K X.mg X.base CX k f2 sp) (hr : Room k X.A) (ht : PySem.W.typeIn X.K (.ref f2) = some (.type "function")) (hf : PySem.W.fnIn X.K f2 = true) (hx : Passes CX X E) (ha : PA X (e :: es) t)
    (hboot : bootBuiltins "super" = some (.type "super")) (he : starEach (e :: es) X.env = (false, eval e X.env) :: starEach es X.env := by rfl) (hpl : (backTo cpos (starEach es X.env)).any (·.1) = false := by rfl)
    (hi : interactive X.env = false := by rfl) (hsw : swapsWith (.Call (.Attribute (.Call (.Name "super" p0) [] [] p1) "__init__" apos) (e :: es) [] cpos) none epos.line X.env = pure false := by rfl)
    {pl : Sem Bool} (hev : eval (.Call (.Attribute (.Call (.Name "super" p0) [] [] p1) "__init__" apos) (e :: es) [] cpos) X.env = (do
      let ov ← attributeBase (.Call (.Name "super" p0) [] [] p1) "__init__" X.env (eval (.Call (.Name "super" p0) [] [] p1) X.env)
      standAt apos.atName
      let (f, first) ← holding [ov] (getMethod ov "__init__" pl)
      callWith cpos f first (backTo cpos (starEach (e :: es) X.env)) []) := by rfl) :
    PST X body (.Expr (.Call (.Attribute (.Call (.Name "super" p0) [] [] p1) "__init__" apos) (e :: es) [] cpos) epos) (tSup X.K D f2 sp E t) := by
  refine ⟨fun pins s σ H DD I h => ?_⟩
  obtain ⟨x, C, dx, fs, hσ, hH, hmro, hsup, hq⟩ := h
  obtain ⟨m, hn, hl⟩ := id I.loc
  obtain ⟨u, ru, lu⟩ := hl 0 slf (.ref x) hN0 hσ (.inl hka)
  obtain rfl : u = Value.ref x := ru
  have hm : m slf = some (.ref x) := by
    rcases lu with ⟨_, h⟩ | ⟨k, _⟩
    · exact h
    · rcases k with k | k <;> rw [hka] at k <;> cases k
  obtain ⟨mA, O, _⟩ := ins_get I.hok hH
  obtain ⟨oda, J, _⟩ := O.look
  obtain ⟨oD, hD1, hD2⟩ : ∃ oD, s.heap.get? D = some oD ∧ oD.data = .cls cdD := by
    have hD' := hD
    unfold PySem.W.clsIn at hD'
    split at hD'
    · rename_i c d cd' sl ho
      cases hD'
      exact ⟨_, I.kIn _ _ ho, rfl⟩
    · cases hD'
  refine ks_wpAt_Expr_any (ks_wpAt_MethodCall (pl := pl) ?_ hev) hi hsw
  subst har
  refine ks_wpAt_super_base hks hkc (by decide) hfu (I.kIn _ _ lk) rfl hp hco (I.kIn _ _ lc) rfl hvs hfile htop ?_
  obtain ⟨mb, hb1, hb2⟩ := I.mod.blt
  refine PySem.W.ks_loadName_global I.ok.kind hks (Calls.loadGlobal_builtin (by rw [I.ok.glob]; exact I.mod.glob.keeps I.bk) hms (by rw [I.ok.blt]; exact hb1.keeps I.bk) ((hb2 _ (by decide +kernel)).trans hboot) ⟨rfl, ?_⟩)
  refine wpAny_loadName_free I.ok.kind hkc hcl ⟨_, I.kIn _ _ lcc, rfl⟩ ?_
  refine wpAny_loadName_local I.ok.kind hka hn hm ?_
  have hD1' : s.heap.get? D = some oD := hD1
  refine ks_wpAny_isType_cls hD1' hD2 ⟨rfl, ?_⟩
  refine ks_wpAny_call_super hD1' hD2 J.at_ J.cls (fun c e => ?_) (PySem.W.looks_mroIn I.kIn hmro) (fun h' e1 k1 => ?_)
  · have := J.no
    unfold PySem.W.notCls at this
    rw [e] at this
    exact Bool.noConfusion this
  · have I1 : Inv X pins σ H { s with heap := h' } := I.kept (t' := s.toks) k1
    cases hc : PySem.W.clsIn X.K C with
    | none => unfold PySem.W.ks_superIn at hsup; rw [hc] at hsup; cases hsup
    | some cd =>
      unfold PySem.W.ks_superIn at hsup
      rw [hc] at hsup
      obtain ⟨of, hof, hofc⟩ : ∃ of, h'.get? f2 = some of ∧ of.cls = .type "function" := by
        have ht' : (X.K.lookup f2).map (·.cls) = some (.type "function") := ht
        cases z : X.K.lookup f2 with
        | none => rw [z] at ht'; cases ht'
        | some of => rw [z] at ht'; exact ⟨of, I1.kIn _ _ z, Option.some.inj ht'⟩
      refine ks_wpAny_getMethod_super e1 (PySem.W.looks_opaque I1.kIn hno) (l₀ := cd.mro) ?_ rfl I1.kIn hsup hof hofc (PySem.W.ks_ne I.kIn J hc) (by decide) ?_
      · exact fun A Q E s k q => wpAny_bind ((PySem.W.looks_clsIn I1.kIn hc) A _ E s k (wpAny_pure q))
      · have I2 := met_newI (g := f2) (x := x) I1
        have hb : X.base.get? h'.objs.size = none := by
          cases q : X.base.get? h'.objs.size with
          | none => rfl
          | some o => exact absurd (Heap.lt_size (I1.bs _ _ q).1) (Nat.lt_irrefl _)
        refine callwith_met I2 hb hf (thn (ha.run cpos _ _ σ H _ I2 hq) fun us s3 ⟨ws, H3, I3, r3, q3⟩ => ⟨⟨ClX.pin_at I3, I3.kIn⟩, ?_⟩) he hpl
        exact thn (run_met F hr hx I3 r3 q3) fun v s4 ⟨y, H4, I4, r4, q4⟩ => ⟨σ, H4, I4, q4⟩
end
end DL

-- part DL6
set_option maxHeartbeats 4000000
namespace DL
open PySem L2
/-! ### slices of lists -/
abbrev DO := Ev → (Ev → Option Int → Prop) → Prop
def RO (W : Wd) (B : Bs) (te : TO) (t : DO) : Prop := ∀ (σ : St) (H F : Hp) (ρ : Ev) (Q : Ev → Option Int → Prop) (R : Option Int → Hp → Prop), Rel W B F H σ ρ → t ρ Q →
  (∀ v H' F' ρ', Rel W B F' H' σ ρ' → Same F F' → Q ρ' v → R v H') → te σ H R
def cutD (xs : List D) (lo hi : Option Int) : List D := (xs.drop (HT.sIx xs.length 0 lo)).take (HT.sIx xs.length xs.length hi - HT.sIx xs.length 0 lo)
section
variable {W : Wd} {B : Bs} {F F' H H' : Hp} {σ : St} {ρ : Ev}
theorem ro_none : RO W B tNoPart (fun ρ Q => Q ρ none) := fun σ H F ρ Q R r h k => k none H F ρ r (Same.refl _) h
theorem ro_some {te : TE} {t : DE} (re : RE W B te t) : RO W B (tPart te) (fun ρ Q => t ρ fun ρ1 x => match x with | .int i => Q ρ1 (some i) | _ => False) := by
  intro σ H F ρ Q R rl h k
  refine re σ H F ρ _ _ rl h fun x H1 F1 ρ1 dx r1 s1 d1 h1 => ?_
  split at h1
  · rename_i i
    have e : x = .int i := d1
    exact ⟨i, e, k _ H1 F1 ρ1 r1 s1 h1⟩
  · exact h1.elim
theorem denL_cut {ds : List D} {xs : List V} {lo hi : Option Int} (h : DenL W F ds xs) : DenL W F (cutD ds lo hi) (cutV xs lo hi) := by
  unfold cutD cutV
  rw [h.length]
  exact (h.drop _).take _
theorem re_slL {te : TE} {tl th : TO} {t : DE} {a b : DO} (re : RE W B te t) (ra : RO W B tl a) (rb : RO W B th b) :
    RE W B (tSl (rSlL W.K) te tl th) (fun ρ Q => t ρ fun ρ1 x => a ρ1 fun ρ2 lo => b ρ2 fun ρ3 hi => match x with | .lst ds => Q ρ3 (.lst (cutD ds lo hi)) | _ => False) := by
  intro σ H F ρ Q R rl h k
  refine re σ H F ρ _ _ rl h fun x H1 F1 ρ1 dx r1 s1 d1 h1 => ?_
  refine ra σ H1 F1 ρ1 _ _ r1 h1 fun lo H2 F2 ρ2 r2 s2 h2 => ?_
  refine rb σ H2 F2 ρ2 _ _ r2 h2 fun hi H3 F3 ρ3 r3 s3 h3 => ?_
  split at h3
  · rename_i ds
    obtain ⟨a, xs, e, hs, hd⟩ := (d1.mono (s2.trans s3))
    refine ⟨a, xs, e, same_sqL r3.ex hs, fun p hp => ?_⟩
    have st := Stp.one (o := .lst (cutV xs lo hi)) r3.ex hp
    exact k _ _ _ ρ3 (.lst (cutD ds lo hi)) (r3.stp st) (((s1.trans s2).trans s3).trans st.ff) ⟨p, _, rfl, .inl (.inl upd_same), (denL_cut hd).mono st.ff⟩ h3
  · exact h3.elim
end
/-- [int(x) for x in ints] -/
theorem lc_ints {i : Nat} {e : DE} {K : Ev → List D → Prop} (he : ∀ ρ n Q, ρ.sl[i]? = some (.v (.int n)) → Q ρ (.int n) → e ρ Q) :
    ∀ (ns : List Int) (ρ : Ev) (acc : List D), i < ρ.sl.length → acc.length + ns.length ≤ sizeLine → (∀ ρ', ρ'.c = ρ.c → ρ'.sl.length = ρ.sl.length → K ρ' (acc ++ ns.map D.int)) → dLcL (dgName i) dYes e [i] (ns.map D.int) ρ acc K
  | [], ρ, acc, hi, hl, k => by
    show K ρ acc
    have := k ρ rfl rfl
    rw [List.map_nil, List.append_nil] at this
    exact this
  | n :: ns, ρ, acc, hi, hl, k => by
    show e ((ρ.wipe [i]).set i (.v (.int n))) _
    have hlen : ((ρ.wipe [i]).set i (.v (.int n))).sl.length = ρ.sl.length := by
      show ((wipeS ρ.sl [i]).set i _).length = _
      rw [List.length_set, wipeS_length]
    refine he _ n _ ?_ ⟨by rw [List.length_cons] at hl; omega, ?_⟩
    · show ((wipeS ρ.sl [i]).set i _)[i]? = _
      rw [List.getElem?_set_self (by rw [wipeS_length]; exact hi)]
    · have hb : (ρ.back [i] ((ρ.wipe [i]).set i (.v (.int n)))).sl.length = ρ.sl.length := resS_length [i] 0 ρ.sl _ hlen
      refine lc_ints he ns _ _ (by rw [hb]; exact hi) (by rw [List.length_append, List.length_cons] at *; simp only [List.length_nil] at *; omega) fun ρ' h1 h2 => ?_
      rw [List.append_assoc]
      exact k ρ' h1 (h2.trans hb)
end DL

-- part DX2
set_option maxHeartbeats 4000000
/-! type(x).__name__ of an instance of an own class -/
namespace DL
open PySem PySem.Spec PyProof.Rows L2
/-- what the written part tells of a class's name -/
structure CName (K : PySem.W.Frag) (C : Addr) (nm : Str) : Prop where
  at_ : ∃ o cd tk, K.lookup C = some o ∧ o.cls = .type "type" ∧ o.data = .cls cd ∧ o.slots[2]? = some (some (.str nm tk))
  found : PySem.W.findCls K (.ref C) (.type "type") "__name__" = some (.get (.builtin "getset_descriptor.__get__") (.builtin "type.__name__") (.ref C) (.type "type"))
  no : PySem.W.nsIn K cStatics "thirdparty.any" = some none
open PySem.W PySem.Calls Builtin Builtin.ObjectAttr Builtin.Getset_descriptor in
theorem cn_dga (C : Addr) (d tp : Value) : descrGetArgs ⟨[d, .ref C, tp], []⟩ = pure (d, some (.ref C), given tp) := by kernel_rfl
section
variable {prog : Program} {w : World} {A : Around} {E : Value → Shared → Prop} {s : Shared} {K : PySem.W.Frag} {C : Addr} {nm : Str}
open PySem.W PySem.Calls Builtin Builtin.ObjectAttr Builtin.Getset_descriptor in
theorem own_name {expr : Bool} {Q : Value → Shared → Prop} (X : K.In s.heap) (N : CName K C nm) (h : ∀ tk u, Q (.str nm tk) { s with toks := u }) : wpAny (model prog w) A (getAttr (.ref C) "__name__" expr) Q E s := by
  obtain ⟨o, cd, tk, lc, hc, hd, hs⟩ := N.at_
  have L0 : PySem.W.Looks (model prog w) s.heap (typeOf (.ref C)) (.type "type") := PySem.W.looks_typeIn X (by show (K.lookup C).map (·.cls) = _; rw [lc]; exact congrArg some hc)
  have hg : PySem.W.findIn K (.type "type") "__getattribute__" = some (some (.builtin "type.__getattribute__")) := PySem.W.type_tga
  refine PySem.W.cls_open X (PySem.W.looks_opaque X N.no) L0 hg (PySem.W.looks_hook X (r := none) (by rfl)) (by show PySem.W.subIn K _ _ = _; rfl) N.found ?_
  show wpAny _ _ (do ret (← holding [Value.builtin "type.__name__"] (call (.builtin "getset_descriptor.__get__") [.builtin "type.__name__", .ref C, .type "type"]))) _ _ _
  refine wpAny_bind (wpAny_holding (wpAny_call ?_))
  have hC : s.heap.get? C = some o := X _ _ lc
  obtain ⟨hh, g, dr, t, os⟩ := s
  dsimp only at L0 hC ⊢
  have L1 : PySem.W.Looks (model prog w) hh (isSubtype (.type "type") (.type "type")) true := PySem.W.Looks.of_pure (by rw [isSubtype_type]; kernel_rfl)
  refine codeAny_call_builtin KF.slot_gs.plain KF.entry_gs (KF.slot_gs.check _ _ _ _ _ _ _ _ PySem.W.ktyn_type (KF.args_gs _ _ _) ?_)
  unfold Builtin.«getset_descriptor.__get__» descrGet
  rw [cn_dga]
  refine wpAny_bind (wpAny_pure ?_)
  unfold descrGetter descrCheckInstance descrNameAndClass isInstance
  simp only [PySem.W.ktyn_owner]
  repeat lk
  refine ⟨Code.quiet_builtin _ (by decide +kernel), codeAny_builtin PySem.W.ktyn_entry ?_⟩
  unfold Builtin.«type.__name__»
  dsimp only
  unfold keptObject slotAt
  dsimp only
  refine wpAny_bind (wpAny_bind (wpAny_loadPart (o := o) hC ?_))
  rw [hs]
  refine wpAny_pure ?_
  show wpAny _ _ (ret (Value.str nm tk)) _ _ _
  refine wpAny_pure ?_
  show wpAny _ _ (ret (Value.str nm tk)) _ _ _
  refine wpAny_pure ?_
  exact handed_on rfl (h tk _)
end
/-- type(e).__name__ -/
def tTn (K : PySem.W.Frag) (ta : TE) : TE := fun σ H Q => ta σ H fun x H1 => ∃ p C dx fs nm, x = .ref p ∧ H1 p = some (.ins C dx fs) ∧ CName K C nm ∧ Q (.str nm) H1
section
variable {X : Cx} {o : Expr} {ta : TE} {p0 p1 p2 : Pos}
theorem pe_tname (ha : PE X o ta) (hg : Gl X "type") (hm : X.mg "type" = none) (na : starEach [o] X.env = (false, eval o X.env) :: starEach [] X.env := by rfl)
    (hb : attributeBase (.Call (.Name "type" p0) [o] [] p1) "__name__" X.env (eval (.Call (.Name "type" p0) [o] [] p1) X.env) = eval (.Call (.Name "type" p0) [o] [] p1) X.env := by rfl) :
    PE X (.Attribute (.Call (.Name "type" p0) [o] [] p1) "__name__" p2) (tTn X.K ta) := by
  refine ⟨fun pins s σ H Q I h => ?_⟩
  refine attr_of hb ?_
  refine Call_ (ld_blt (u := .type "type") I hg hm (by decide +kernel) (PyProof.Rows.callWith_type1 (one_arg ha I h (fun v s2 x H2 I2 r q => ?_) na) na))
  obtain ⟨p, C, dx, fs, nm, e, hp, hn, q⟩ := q
  subst e
  obtain rfl : v = Value.ref p := r
  obtain ⟨mA, O, _⟩ := ins_get I2.hok hp
  obtain ⟨oda, J, _⟩ := O.look
  refine PySem.W.kto_own J ?_
  exact own_name I2.kIn hn fun tk u => ⟨.str nm, H2, I2.tok u, ⟨_, rfl⟩, q⟩
end
end DL

-- part DL7
set_option maxHeartbeats 4000000
/-! what __init__ does: an object of one's own that the caller gave -/
namespace DL
open PySem L2
/-- class, arguments, draws; the attributes, draws -/
abbrev GI := Str → List D → Nat → (List Str → List D → Nat → Prop) → Prop
def spI (K : PySem.W.Frag) (cls : Str → Option Addr) (G : GI) : Sp := fun vs H Q _ => ∃ (F : Hp) (us : List V) (ds : List D) (c : Nat) (cn : Str) (C dx p : Addr) (pw : Option Addr) (QD : List Str → List D → Nat → Prop),
  vs = .ref p :: us ∧ Same F H ∧ F p = none ∧ pw ≠ some p ∧ H p = some (.ins C dx []) ∧ cls cn = some C ∧ DenL ⟨K, cls, pw⟩ F ds us ∧ WellOk ⟨K, cls, pw⟩ (bs0 F H) F H c ∧ G cn ds c QD ∧
  ∀ H' F' ns es c', Kept F H F' H' pw [p] → F' p = none → OwnAt ⟨K, cls, pw⟩ F' H' p (.obj cn ns es) → WellOk ⟨K, cls, pw⟩ (bs0 F H) F' H' c' → QD ns es c' → Q .non H'
def bsI (F H : Hp) (p : Addr) : Bs := ⟨F, H, [p], []⟩
def entI (n : Nat) (cn : Str) (ds : List D) (c : Nat) : Ev := ⟨Sl.o (.obj cn [] []) :: (ds.map .v ++ List.replicate (n - 1 - ds.length) Sl.un), c⟩
section
variable {W : Wd} {B : Bs} {F F' H H' : Hp} {σ : St} {ρ : Ev}
theorem WellOk.npw {c : Nat} {p : Addr} (h : WellOk W B F H c) (hp : p ∈ B.io) : W.pw ≠ some p := fun e => by
  unfold WellOk at h
  rw [e] at h
  exact h.2.1 hp
theorem rel_startI {N : List Str} {us : List V} {ds : List D} {c : Nat} {cn : Str} {C dx p : Addr} (ex : Same F H) (fp : F p = none) (hw : W.pw ≠ some p) (hp : H p = some (.ins C dx [])) (hc : W.cls cn = some C) (hd : DenL W F ds us) (w : WellOk W (bs0 F H) F H c) (hn : ds.length + 1 ≤ N.length) :
    Rel W (bsI F H p) F H (start N (.ref p :: us)) (entI N.length cn ds c) := by
  have hl := hd.length
  have own : OwnAt W F H p (.obj cn [] []) := ⟨C, dx, [], hp, hc, rfl, rfl⟩
  have get : ∀ (i : Nat) (s : Sl), (entI N.length cn ds c).sl[i]? = some s → (i = 0 ∧ s = .o (.obj cn [] [])) ∨ s = .un ∨ ∃ d v, s = .v d ∧ (start N (.ref p :: us))[i]? = some (some v) ∧ Den W F d v := fun i s h => by
    cases i with
    | zero => exact .inl ⟨rfl, (Option.some.inj h).symm⟩
    | succ i =>
      have h : (ds.map Sl.v ++ List.replicate (N.length - 1 - ds.length) Sl.un)[i]? = some s := h
      by_cases hi : i < ds.length
      · rw [List.getElem?_append_left (by rw [List.length_map]; exact hi), List.getElem?_map] at h
        have e : ds[i]? = some ds[i] := List.getElem?_eq_getElem hi
        rw [e] at h
        obtain ⟨v, hv, dv⟩ := hd.get e
        refine .inr (.inr ⟨_, v, (Option.some.inj h).symm, ?_, dv⟩)
        unfold L2.start
        rw [List.getElem?_append_left (by rw [List.length_map, List.length_cons, ← hl]; omega), List.getElem?_map, List.getElem?_cons_succ, hv]
        rfl
      · rw [List.getElem?_append_right (by rw [List.length_map]; omega), List.getElem?_replicate] at h
        split at h
        · exact .inr (.inl (Option.some.inj h).symm)
        · cases h
  have z0 : (start N (.ref p :: us))[0]? = some (some (.ref p)) := by
    unfold L2.start
    rw [List.getElem?_append_left (by rw [List.length_map, List.length_cons]; omega)]
    rfl
  refine ⟨ex, ?_, fun i s h => ?_, fun i j d e q h h' h1 h2 => ?_, ?_, fun a o h _ _ => h, fun a h1 h2 => h2, Same.refl _, (fun a ha => ?_), (fun q hq => nomatch hq), (fun q hq => nomatch hq), List.nodup_nil⟩
  · show (start N (.ref p :: us)).length = (Sl.o (.obj cn [] []) :: (ds.map Sl.v ++ List.replicate (N.length - 1 - ds.length) Sl.un)).length
    unfold L2.start
    simp only [List.length_append, List.length_map, List.length_replicate, List.length_cons]
    omega
  · rcases get i s h with ⟨e0, e⟩ | e | ⟨d, v, e, hv, dv⟩
    · subst e e0
      exact ⟨p, z0, fp, .inr (by show p ∈ [p]; simp), hw, own⟩
    · subst e; trivial
    · subst e; exact ⟨v, hv, dv⟩
  · rcases get i _ h with ⟨e0, e⟩ | e | ⟨d, v, e, _⟩
    · rcases get j _ h' with ⟨e1, e⟩ | e | ⟨d, v, e, _⟩
      · rw [e0, e1]
      · cases e
      · cases e
    · cases e
    · cases e
  · refine w.base fun q hq => ?_
    show q ∉ [p]
    rw [List.mem_singleton]
    intro z
    exact hw (by rw [hq, z])
  · have : a = p := List.mem_singleton.mp ha
    rw [this, hp]; exact fun z => nomatch z
/-- a statement that sets no slot -/
def RSI (W : Wd) (B : Bs) (ts : TS) (t : DS) : Prop := ∀ (σ : St) (H F : Hp) (ρ : Ev) (D : Ends) (DD : DEnds), Rel W B F H σ ρ → t DD ρ → (∀ H' F' ρ', Rel W B F' H' σ ρ' → Same F F' → DD.nx ρ' → D.nx σ H') → ts D σ H
theorem rsi_next : RSI W B tNext dNext := fun σ H F ρ D DD r h f => f H F ρ r (Same.refl _) h
theorem rsi_seq {t u : TS} {a b : DS} (ra : RSI W B t a) (rb : RSI W B u b) : RSI W B (tSeq t u) (dSeq a b) := fun σ H F ρ D DD r h f =>
  ra σ H F ρ _ { DD with nx := b DD } r h fun H1 F1 ρ1 r1 s1 h1 => rb σ H1 F1 ρ1 D DD r1 h1 fun H2 F2 ρ2 r2 s2 h2 => f H2 F2 ρ2 r2 (s1.trans s2) h2
/-- an __init__'s body keeps its promise -/
theorem bodyI_of {K : PySem.W.Frag} {cls : Str → Option Addr} {G : GI} {N : List Str} {ts : TS} {T : DS} {vs : List V} {Q : VK} {E : XK} (rs : ∀ pw B p, B.io = [p] → RSI ⟨K, cls, pw⟩ B ts T)
    (hG : ∀ cn ds c QD, G cn ds c QD → ds.length + 1 ≤ N.length ∧ T { nx := fun ρ => ∃ ns es, getO ρ 0 = some (.obj cn ns es) ∧ QD ns es ρ.c, rt := fun _ _ => False } (entI N.length cn ds c))
    (h : spI K cls G vs H Q E) : ts { nx := fun _ H' => Q .non H', rt := Q } (start N vs) H := by
  obtain ⟨F, us, ds, c, cn, C, dx, p, pw, QD, rfl, ex, fp, hw, hp, hc, hd, w, g, k⟩ := h
  obtain ⟨hn, ht⟩ := hG cn ds c QD g
  have r0 := rel_startI (W := ⟨K, cls, pw⟩) (N := N) ex fp hw hp hc hd w hn
  refine rs pw (bsI F H p) p rfl (start N (.ref p :: us)) H F (entI N.length cn ds c) _ _ r0 ht (fun H' F' ρ' r' s' ⟨ns, es, q1, q2⟩ => ?_)
  have z0 : (start N (.ref p :: us))[0]? = some (some (.ref p)) := by
    unfold L2.start
    rw [List.getElem?_append_left (by rw [List.length_map, List.length_cons]; omega)]
    rfl
  unfold getO at q1
  split at q1
  · rename_i d e
    cases q1
    obtain ⟨p', e1, fp', _, _, ow⟩ := r'.sl 0 _ e
    rw [z0] at e1
    cases e1
    exact k H' F' ns es ρ'.c ⟨r'.f0, r'.ex, fun a o h1 h2 h3 => r'.keep a o h1 h2 h3, fun a h1 h2 => r'.new a h1 h2⟩ fp' ow (r'.well.base fun p hp z => nomatch z) q2
  · cases q1
/-- behind an __init__ of the object at p, which is at slot i or new -/
theorem Rel.calledI {c' : Nat} {p : Addr} (r : Rel W B F H σ ρ) (hp : B.H0 p = none ∨ p ∈ B.io) (ap : ∀ (i : Nat) (e : D), ρ.sl[i]? = some (.o e) → σ[i]? ≠ some (some (.ref p))) (nh : ∀ q ∈ B.hid, q.1 ≠ p) (hne : H' p ≠ none)
    (k : Kept F H F' H' W.pw [p]) (w : WellOk W (bs0 F H) F' H' c') : Rel W B F' H' σ (ρ.cnt c') := by
  have wk : WellOk W B F' H' c' := w.base fun p hp => by
    have := r.well
    unfold WellOk at this
    rw [hp] at this
    exact this.2.1
  have hneH : ∀ {p : Addr} {o : HO}, H p = some o → H p ≠ none := fun h q => by rw [h] at q; cases q
  have keepO : ∀ {q : Addr} {d : D}, OwnAt W F H q d → F q = none → W.pw ≠ some q → q ≠ p → F' q = none ∧ OwnAt W F' H' q d := fun {q d} own fp hw hq => by
    obtain ⟨o, ho⟩ := own.ne
    exact ⟨k.new q (hneH ho) fp, own.mono k.ff ((k.hh q o ho hw (by rw [List.mem_singleton]; exact hq)).trans ho.symm)⟩
  refine ⟨k.fh, r.len, fun i s h => ?_, r.inj, wk, fun a o h1 h2 h3 => ?_, fun a h1 h2 => ?_, r.f0.trans k.ff, fun a ha => ?_, fun q hq => ?_, r.hap, r.hnd⟩
  · have q := r.sl i s h
    cases s with
    | un => trivial
    | v d => obtain ⟨u, e, hd⟩ := q; exact ⟨u, e, hd.mono k.ff⟩
    | o d =>
      obtain ⟨q, e, fp, h0, hw, own⟩ := q
      obtain ⟨f', own'⟩ := keepO own fp hw fun z => ap i d h (by rw [e, z])
      exact ⟨q, e, f', h0, hw, own'⟩
  · have ha : a ≠ p := fun z => by
      subst z
      rcases hp with hp | hp
      · rw [hp] at h1; cases h1
      · exact h3 hp
    exact k.hh a o (r.keep a o h1 h2 h3) h2 (by rw [List.mem_singleton]; exact ha)
  · by_cases hq : H a = none
    · exact absurd (r.fresh0 hq) h1
    · exact k.new a hq (r.new a h1 h2)
  · by_cases ha2 : a = p
    · rw [ha2]; exact hne
    · cases q : H a with
      | none => exact absurd q (r.ioH a ha)
      | some o =>
        have hw : W.pw ≠ some a := fun e => by
          have w := r.well
          unfold WellOk at w
          rw [e] at w
          exact w.2.1 ha
        rw [k.hh a o q hw (by rw [List.mem_singleton]; exact ha2)]; exact fun z => nomatch z
  · obtain ⟨h1, h2, h3, h4⟩ := r.hid q hq
    obtain ⟨f', own'⟩ := keepO h4 h1 h3 (nh q hq)
    exact ⟨f', h2, h3, own'⟩
/-! ### C(..): a new instance -/
def dMakeI (cn : Str) (G : GI) (a : DA) : DE := fun ρ Q => a ρ fun ρ1 ds => G cn ds ρ1.c fun ns es c' => Q (ρ1.cnt c') (.obj cn ns es)
theorem Rel.made {G : GI} {C x dx : Addr} {cn : Str} {us : List V} {ds : List D} {Q : Ev → D → Prop} {R : VK} {E : XK} (r : Rel W B F H σ ρ) (hc : W.cls cn = some C) (hd : DenL W F ds us) (g : G cn ds ρ.c fun ns es c' => Q (ρ.cnt c') (.obj cn ns es))
    (hx : H x = none) (hdx : H dx = none) (hne : dx ≠ x) (k : ∀ p H' F' ρ' d, Rel W B F' H' σ ρ' → Same F F' → New W B F' H' σ ρ' p d → Q ρ' d → R (.ref p) H') :
    spI W.K W.cls G (.ref x :: us) (upd (upd H dx (.own x)) x (.ins C dx [])) (fun v H2 => v = .non ∧ R (.ref x) H2) E := by
  have s1 : Stp F H F (upd H dx (.own x)) := Stp.lay r.ex hdx
  have hx2 : (upd H dx (.own x)) x = none := by rw [upd_ne hne.symm]; exact hx
  have s2 : Stp F (upd H dx (.own x)) F (upd (upd H dx (.own x)) x (.ins C dx [])) := Stp.lay s1.fh hx2
  have r2 := (r.stp s1).stp s2
  refine ⟨F, us, ds, ρ.c, cn, C, dx, x, W.pw, _, rfl, r2.ex, r.fF hx, r.npw hx, upd_same, hc, hd, r2.well.base (fun p hp z => nomatch z), g, fun H' F' ns es c' kp fx own w q => ⟨rfl, ?_⟩⟩
  have ap : ∀ (i : Nat) (e : D), ρ.sl[i]? = some (.o e) → σ[i]? ≠ some (some (.ref x)) := fun i e h z => by
    obtain ⟨p, e1, _, _, _, ow⟩ := r.sl i _ h
    rw [z] at e1; cases e1
    obtain ⟨o, ho⟩ := ow.ne
    rw [hx] at ho; cases ho
  have nh : ∀ q ∈ B.hid, q.1 ≠ x := fun q hq z => by
    obtain ⟨_, _, _, ow⟩ := r.hid q hq
    obtain ⟨o, ho⟩ := ow.ne
    rw [z, hx] at ho; cases ho
  obtain ⟨o', ho'⟩ := own.ne
  have r3 := r2.calledI (c' := c') (.inl (r.fresh0 hx)) ap nh (by rw [ho']; exact fun z => nomatch z) kp w
  exact k x H' F' _ (.obj cn ns es) r3 kp.ff ⟨own, fx, r.fresh0 hx, r.npw hx, ap, nh⟩ q
theorem rn_make {G : GI} {C : Addr} {cn : Str} {ta : TA} {a : DA} {E : XK} (hc : W.cls cn = some C) (ra : RA W B ta a) : RN W B (tMake C (spI W.K W.cls G) [] E ta) (dMakeI cn G a) := by
  intro σ H F ρ Q R rl h k
  refine ra σ H F ρ _ _ rl h fun vs H1 F1 ρ1 ds r1 s1 d1 h1 => ?_
  intro x dx hx hdx hne
  rw [List.append_nil]
  exact r1.made hc d1 h1 hx hdx hne fun p H' F' ρ' d r' s' n q => k p H' F' ρ' d r' (s1.trans s') n q
theorem rn_makeK0 {G : GI} {C : Addr} {cn : Str} {ta : TA} {a : DA} {E : XK} {m : Nat} {gV : List V → List V → List V} {pm : List D → List D} (hc : W.cls cn = some C) (ra : RA W B ta a)
    (hp : ∀ F x zs ds, DenL W F ds zs → ds.length = m → ∃ us, gV [x] zs = x :: us ∧ DenL W F (pm ds) us) : RN W B (tMakeK C 0 m (spI W.K W.cls G) gV E tNil ta) (fun ρ Q => a ρ fun ρ1 ds => ds.length = m ∧ G cn (pm ds) ρ1.c fun ns es c' => Q (ρ1.cnt c') (.obj cn ns es)) := by
  intro σ H F ρ Q R rl h k
  refine ra σ H F ρ _ _ rl h fun vs H1 F1 ρ1 ds r1 s1 d1 h1 => ?_
  refine ⟨rfl, by rw [← d1.length]; exact h1.1, fun x dx hx hdx hne => ?_⟩
  obtain ⟨us, e, hd⟩ := hp F1 (.ref x) vs ds d1 h1.1
  rw [e]
  exact r1.made hc hd h1.2 hx hdx hne fun p H' F' ρ' d r' s' n q => k p H' F' ρ' d r' (s1.trans s') n q
/-! ### in the body of an __init__ -/
/-- self.f = e -/
def dSetA (i : Nat) (f : Str) (t : DE) : DS := fun DD ρ => t ρ fun ρ1 d => match getO ρ1 i with
  | some (.obj c ns ds) => ns.contains f = false ∧ ns.length < 1000 ∧ DD.nx (ρ1.set i (.o (.obj c (ns ++ [f]) (ds ++ [d]))))
  | _ => False
theorem putF_new {f : Str} {v : V} : ∀ {gs : List (Str × V)}, (gs.map (·.1)).contains f = false → putF f v gs = gs ++ [(f, v)]
  | [], _ => rfl
  | (g, x) :: r, h => by
    rw [List.map_cons, List.contains_cons, Bool.or_eq_false_iff] at h
    have hne : ¬ g = f := fun z => by
      subst z
      rw [beq_self_eq_true] at h
      exact Bool.noConfusion h.1
    show (if g = f then (g, v) :: r else (g, x) :: putF f v r) = _
    rw [if_neg hne, putF_new h.2]; rfl
theorem rsi_setA {i : Nat} {f : Str} {te : TE} {t : DE} (re : RE W B te t) (hcls : ∀ c C, W.cls c = some C → Cls W.K C) (hno : ∀ c C, W.cls c = some C → NoAttr W.K C f) : RSI W B (sFld W.K (tVar i) te f) (dSetA i f t) := by
  intro σ H F ρ D DD rl h k
  refine re σ H F ρ _ _ rl h fun y H1 F1 ρ1 d r1 s1 d1 h1 => ?_
  split at h1
  · rename_i c ns ds g1
    obtain ⟨p, e2, e3, C, dx, gs, hx, hc, hn, hd⟩ := r1.own g1
    subst hn
    refine ⟨.ref p, e3, p, C, dx, gs, rfl, hx, hcls _ _ hc, hno _ _ hc, (by have := h1.2.1; rw [List.length_map] at this; exact this), ?_⟩
    rw [putF_new h1.1]
    exact k _ F1 _ (r1.oset (d' := .obj c (gs.map (·.1) ++ [f]) (ds ++ [d])) e2 e3 ⟨C, dx, _, upd_same, hc, by rw [List.map_append]; rfl, by rw [List.map_append]; exact hd.append ⟨y, [], rfl, d1, rfl⟩⟩) s1 h1.2.2
  · exact h1.elim
/-- self.f -/
def dFldO (i : Nat) (f : Str) : DE := fun ρ Q => match getO ρ i with
  | some (.obj _ ns ds) => match fldD ns ds f with | some d => Q ρ d | none => False
  | _ => False
theorem re_fldO {i : Nat} {f : Str} (hcls : ∀ c C, W.cls c = some C → Cls W.K C) (hno : ∀ c C, W.cls c = some C → NoAttr W.K C f) : RE W B (tFld W.K (tVar i) f) (dFldO i f) := by
  intro σ H F ρ Q R rl h k
  unfold dFldO at h
  split at h
  · rename_i c ns ds g1
    obtain ⟨p, e2, e3, C, dx, gs, hx, hc, hn, hd⟩ := rl.own g1
    split at h
    · rename_i d ed
      subst hn
      obtain ⟨v, hv, dv⟩ := fld_lookup hd ed
      exact ⟨.ref p, e3, p, C, dx, gs, v, rfl, hx, hcls _ _ hc, hno _ _ hc, hv, k v H F ρ d rl (Same.refl _) dv h⟩
    · exact h.elim
  · exact h.elim
/-- type(self).__name__ -/
def dTnO (nmOf : Str → Option Str) (i : Nat) : DE := fun ρ Q => match getO ρ i with
  | some (.obj c _ _) => match nmOf c with | some nm => Q ρ (.str nm) | none => False
  | _ => False
theorem re_tnO {i : Nat} {nmOf : Str → Option Str} (hn : ∀ c C nm, W.cls c = some C → nmOf c = some nm → CName W.K C nm) : RE W B (tTn W.K (tVar i)) (dTnO nmOf i) := by
  intro σ H F ρ Q R rl h k
  unfold dTnO at h
  split at h
  · rename_i c ns ds g1
    obtain ⟨p, e2, e3, C, dx, gs, hx, hc, _, hd⟩ := rl.own g1
    split at h
    · rename_i nm en
      exact ⟨.ref p, e3, p, C, dx, gs, nm, rfl, hx, hn _ _ _ hc en, k _ H F ρ (.str nm) rl (Same.refl _) rfl h⟩
    · exact h.elim
  · exact h.elim
def dLower (t : DE) : DE := fun ρ Q => t ρ fun ρ1 x => match x with | .str a => a.length ≤ 5592405 ∧ Q ρ1 (.str (Txt.lower a)) | _ => False
theorem re_lower {te : TE} {t : DE} (re : RE W B te t) : RE W B (tM0 (fun x xs H Q => ∃ a, x = .str a ∧ xs = [] ∧ a.length ≤ 5592405 ∧ Q (.str (Txt.lower a)) H) te) (dLower t) := by
  intro σ H F ρ Q R rl h k
  refine re σ H F ρ _ _ rl h fun x H1 F1 ρ1 dx r1 s1 d1 h1 => ?_
  split at h1
  · rename_i a
    have e : x = .str a := d1
    exact ⟨⟨a, e⟩, a, e, rfl, h1.1, k _ H1 F1 ρ1 (.str _) r1 s1 rfl h1.2⟩
  · exact h1.elim
/-- self.f, self.g = a tuple of two -/
def gFld (K : PySem.W.Frag) (ta : TE) (f : Str) : TG := fun v σ H Q => ta σ H fun x H1 => ∃ a C dx fs, x = .ref a ∧ H1 a = some (.ins C dx fs) ∧ Cls K C ∧ NoAttr K C f ∧ fs.length < 1000 ∧ Q σ (upd H1 a (.ins C dx (putF f v fs)))
theorem pg_fld {X : Cx} {o : Expr} {f : Str} {ta : TE} {pos : Pos} (ha : PE X o ta) : PG X (.Attribute o f pos) (gFld X.K ta f) := by
  refine ⟨fun pins s σ H v u Q I r h => ?_⟩
  rw [arm_assign_Attribute]
  refine wpAny_bind (wpAny_holding (thn (ha.run pins s σ H _ I h) fun ov s1 ⟨x, H1, I1, r1, a, C, dx, fs, ex, ea, c, n, l, q⟩ => ?_))
  subst ex
  obtain rfl : ov = Value.ref a := r1
  refine wpAny_bind (wpAny_standAt (wpAny_bind (wpAny_holding ?_)))
  exact setattr_ok I1 ea c n l r fun s3 I3 => wpAny_release ⟨σ, _, I3, q⟩
def dUnp2 (i : Nat) (f g : Str) (t : DE) : DS := fun DD ρ => t ρ fun ρ1 d => match d, getO ρ1 i with
  | .tup [x, y], some (.obj c ns ds) => ns.contains f = false ∧ (ns ++ [f]).contains g = false ∧ ns.length < 900 ∧ DD.nx ((ρ1.set i (.o (.obj c (ns ++ [f]) (ds ++ [x])))).set i (.o (.obj c (ns ++ [f] ++ [g]) (ds ++ [x] ++ [y]))))
  | _, _ => False
theorem getO_set {ρ : Ev} {i : Nat} {d : D} {s : Sl} (h : ρ.sl[i]? = some s) : (ρ.set i (.o d)).sl[i]? = some (.o d) := by
  have hi : i < ρ.sl.length := (List.getElem?_eq_some_iff.mp h).1
  show (ρ.sl.set i _)[i]? = _
  rw [List.getElem?_set_self hi]
theorem rsi_unp2 {i : Nat} {f g : Str} {te : TE} {t : DE} (re : RE W B te t) (hcls : ∀ c C, W.cls c = some C → Cls W.K C) (hnf : ∀ c C, W.cls c = some C → NoAttr W.K C f) (hng : ∀ c C, W.cls c = some C → NoAttr W.K C g) :
    RSI W B (tAsg te (gTup W.K 2 (gCons (gFld W.K (tVar i) f) (gCons (gFld W.K (tVar i) g) gNil)))) (dUnp2 i f g t) := by
  intro σ H F ρ D DD rl h k
  refine re σ H F ρ _ _ rl h fun y H1 F1 ρ1 d r1 s1 d1 h1 => ?_
  split at h1
  · rename_i x1 x2 c ns ds g1
    obtain ⟨a, xs, e, hs, hd1⟩ := d1
    obtain ⟨v1, v2, rfl, dv1, dv2⟩ := den2 hd1
    obtain ⟨p, e2, e3, C, dx, gs, hx, hc, hn, hd⟩ := r1.own g1
    subst hn
    obtain ⟨c1, c2, hl, hq⟩ := h1
    rw [List.length_map] at hl
    have own1 : OwnAt W F1 (upd H1 p (.ins C dx (gs ++ [(f, v1)]))) p (.obj c (gs.map (·.1) ++ [f]) (ds ++ [x1])) := ⟨C, dx, _, upd_same, hc, by rw [List.map_append]; rfl, by rw [List.map_append]; exact hd.append ⟨v1, [], rfl, dv1, rfl⟩⟩
    have r2 := r1.oset e2 e3 own1
    have own2 : OwnAt W F1 (upd (upd H1 p (.ins C dx (gs ++ [(f, v1)]))) p (.ins C dx (gs ++ [(f, v1)] ++ [(g, v2)]))) p (.obj c (gs.map (·.1) ++ [f] ++ [g]) (ds ++ [x1] ++ [x2])) := ⟨C, dx, _, upd_same, hc, by rw [List.map_append, List.map_append]; rfl, by
      rw [List.map_append, List.map_append]; exact (hd.append (DenL.cons dv1 DenL.nil)).append (DenL.cons dv2 DenL.nil)⟩
    have r3 := r2.oset (getO_set e2) e3 own2
    refine ⟨a, [v1, v2], e, same_sqT r1.ex hs, rfl, v1, [v2], rfl, .ref p, e3, p, C, dx, gs, rfl, hx, hcls _ _ hc, hnf _ _ hc, by omega, ?_⟩
    rw [putF_new c1]
    refine ⟨v2, [], rfl, .ref p, e3, p, C, dx, _, rfl, upd_same, hcls _ _ hc, hng _ _ hc, by rw [List.length_append, List.length_singleton]; omega, ?_⟩
    rw [putF_new (by rw [List.map_append]; exact c2)]
    exact ⟨rfl, k _ F1 _ r3 s1 hq⟩
  · exact h1.elim
/-- super().__init__(..): what stands above sets the attributes -/
def dSup (okc : Str → Bool) (G : GI) (a : DA) : DS := fun DD ρ => match getO ρ 0 with
  | some (.obj c0 _ _) => okc c0 = true ∧ a ρ fun ρ1 es => match getO ρ1 0 with
    | some (.obj c [] []) => G c es ρ1.c fun ns ds c' => DD.nx ((ρ1.set 0 (.o (.obj c ns ds))).cnt c')
    | _ => False
  | _ => False
theorem Rel.setO {i : Nat} {d d' : D} {p : Addr} (r : Rel W B F H σ ρ) (hs : ρ.sl[i]? = some (.o d)) (hp : σ[i]? = some (some (.ref p))) (own : OwnAt W F H p d') : Rel W B F H σ (ρ.set i (.o d')) := by
  obtain ⟨o, ho⟩ := own.ne
  have e : upd H p o = H := by
    funext b
    by_cases hb : b = p
    · subst hb; rw [upd_same, ho]
    · rw [upd_ne hb]
  have := r.oset (o := o) (d' := d') hs hp (by rw [e]; exact own)
  rw [e] at this
  exact this
/-- an own slot's object is changed by a call -/
theorem Rel.calledO {i c' : Nat} {d d' : D} {p : Addr} (r : Rel W B F H σ ρ) (hs : ρ.sl[i]? = some (.o d)) (hp : σ[i]? = some (some (.ref p))) (own : OwnAt W F' H' p d') (fp' : F' p = none)
    (k : Kept F H F' H' W.pw [p]) (w : WellOk W (bs0 F H) F' H' c') : Rel W B F' H' σ ((ρ.set i (.o d')).cnt c') := by
  have hi : i < ρ.sl.length := (List.getElem?_eq_some_iff.mp hs).1
  obtain ⟨p', e, fp, h0, hw, ow⟩ := r.sl i _ hs
  rw [hp] at e; cases e
  obtain ⟨o', ho'⟩ := own.ne
  -- the slot is emptied first
  have ru : Rel W B F H σ (ρ.set i .un) := by
    have at_ : ∀ {m : Nat} {z : D}, (ρ.set i .un).sl[m]? = some (.o z) → i ≠ m ∧ ρ.sl[m]? = some (.o z) := fun {m z} t => by
      have t : (ρ.sl.set i .un)[m]? = some (.o z) := t
      by_cases e : i = m
      · subst e
        rw [List.getElem?_set_self hi] at t; cases t
      · rw [List.getElem?_set_ne e] at t; exact ⟨e, t⟩
    refine ⟨r.ex, by show σ.length = (ρ.sl.set i _).length; rw [List.length_set]; exact r.len, fun j s hj => ?_, fun j k x y q hj hk h1 h2 => r.inj j k x y q (at_ hj).2 (at_ hk).2 h1 h2, r.well, r.keep, r.new, r.f0, r.ioH, r.hid, fun q hq j x hj h1 => r.hap q hq j x (at_ hj).2 h1, r.hnd⟩
    have t : (ρ.sl.set i .un)[j]? = some s := hj
    by_cases e : i = j
    · subst e
      rw [List.getElem?_set_self hi] at t; cases t; trivial
    · rw [List.getElem?_set_ne e] at t; exact r.sl j s t
  have ap : ∀ (j : Nat) (e : D), (ρ.set i .un).sl[j]? = some (.o e) → σ[j]? ≠ some (some (.ref p)) := fun j e h z => by
    have t : (ρ.sl.set i .un)[j]? = some (.o e) := h
    by_cases hij : i = j
    · subst hij
      rw [List.getElem?_set_self hi] at t; cases t
    · rw [List.getElem?_set_ne hij] at t
      exact hij (r.inj i j d e p hs t hp z)
  have nh : ∀ q ∈ B.hid, q.1 ≠ p := fun q hq z => r.hap q hq i d hs (by rw [z]; exact hp)
  have r3 := ru.calledI (c' := c') h0 ap nh (by rw [ho']; exact fun z => nomatch z) k w
  -- and filled again
  have e : ∀ j, ((ρ.set i (.o d')).cnt c').sl[j]? = if i = j then some (.o d') else ((ρ.set i .un).cnt c').sl[j]? := fun j => by
    show (ρ.sl.set i (.o d'))[j]? = if i = j then some (.o d') else (ρ.sl.set i .un)[j]?
    by_cases hij : i = j
    · subst hij; rw [if_pos rfl, List.getElem?_set_self hi]
    · rw [if_neg hij, List.getElem?_set_ne hij, List.getElem?_set_ne hij]
  refine ⟨r3.ex, by show σ.length = (ρ.sl.set i _).length; rw [List.length_set]; exact r.len, fun j s hj => ?_, fun j k x y q hj hk h1 h2 => ?_, r3.well, r3.keep, r3.new, r3.f0, r3.ioH, r3.hid, fun q hq j x hj h1 => ?_, r3.hnd⟩
  · rw [e] at hj
    by_cases hij : i = j
    · subst hij
      rw [if_pos rfl] at hj
      cases hj
      exact ⟨p, hp, fp', h0, hw, own⟩
    · rw [if_neg hij] at hj; exact r3.sl j s hj
  · rw [e] at hj hk
    by_cases h3 : i = j <;> by_cases h4 : i = k
    · rw [← h3, ← h4]
    · rw [if_neg h4] at hk
      subst h3
      rw [hp] at h1; cases h1
      exact absurd h2 (ap k y hk)
    · rw [if_neg h3] at hj
      subst h4
      rw [hp] at h2; cases h2
      exact absurd h1 (ap j x hj)
    · rw [if_neg h3] at hj
      rw [if_neg h4] at hk
      exact r3.inj j k x y q hj hk h1 h2
  · rw [e] at hj
    by_cases hij : i = j
    · subst hij
      rw [hp] at h1; cases h1
      exact nh q hq rfl
    · rw [if_neg hij] at hj; exact r3.hap q hq j x hj h1
theorem rsi_sup {G : GI} {sp : Sp} {Dc f2 : Addr} {ta : TA} {a : DA} {E : XK} {okc : Str → Bool} (hsp : ∀ vs H Q E, spI W.K W.cls G vs H Q E → sp vs H Q E) (ra : RA W B ta a)
    (hok : ∀ c C, W.cls c = some C → okc c = true → PySem.W.mroIn W.K C (.ref Dc) = some true ∧ PySem.W.ks_superIn W.K C Dc "__init__" = some (some (.ref f2))) : RSI W B (tSup W.K Dc f2 sp E ta) (dSup okc G a) := by
  intro σ H F ρ D DD rl h k
  unfold dSup at h
  split at h
  · rename_i c0 ns0 ds0 g0
    obtain ⟨p, e2, e3, C, dx, gs, hx, hc, hn, hd⟩ := rl.own g0
    obtain ⟨hc0, h⟩ := h
    obtain ⟨m1, m2⟩ := hok c0 C hc hc0
    refine ⟨p, C, dx, gs, e3, hx, m1, m2, ?_⟩
    refine ra σ H F ρ _ _ rl h fun vs H1 F1 ρ1 es r1 s1 d1 h1 => ?_
    split at h1
    · rename_i c g1
      obtain ⟨p1, e4, e5, C1, dx1, gs1, hx1, hc1, hn1, hd1⟩ := r1.own g1
      have ep : p = p1 := by rw [e3] at e5; cases e5; rfl
      subst ep
      have eg : gs1 = [] := List.map_eq_nil_iff.mp hn1
      subst eg
      obtain ⟨p2, e6, fp, h0, hw, _⟩ := r1.sl 0 _ e4
      rw [e5] at e6; cases e6
      refine hsp _ _ _ _ ⟨F1, vs, es, ρ1.c, c, C1, dx1, p, W.pw, _, rfl, r1.ex, fp, hw, hx1, hc1, d1, r1.well.base (fun p hp z => nomatch z), h1, fun H' F' ns ds c' kp fx own w q => ?_⟩
      exact k H' F' _ (r1.calledO e4 e5 own fx kp w) (s1.trans kp.ff) q
    · exact h1.elim
  · exact h.elim
/-- def __init__(self, *parts) -/
theorem star_of {K : PySem.W.Frag} {cls : Str → Option Addr} {G : GI} {vs : List V} {Q : VK} {E : XK} (h : spI K cls (fun cn ds c QD => ds.length ≤ sizeLine ∧ G cn [.tup ds] c QD) vs H Q E) :
    ∃ ws rest, vs = ws ++ rest ∧ ws.length = 1 ∧ rest.length ≤ sizeLine ∧ ∀ p, H p = none → spI K cls G (ws ++ [V.ref p]) (upd H p (.tup rest)) Q E := by
  obtain ⟨F, us, ds, c, cn, C, dx, p, pw, QD, rfl, ex, fp, hw, hp, hc, hd, w, ⟨hl, g⟩, k⟩ := h
  refine ⟨[.ref p], us, rfl, rfl, by rw [← hd.length]; exact hl, fun q hq => ?_⟩
  have st := Stp.one (o := .tup us) ex hq
  have hpq : p ≠ q := fun z => by rw [← z, hp] at hq; cases hq
  have w2 : WellOk ⟨K, cls, pw⟩ (bs0 (upd F q (.tup us)) (upd H q (.tup us))) (upd F q (.tup us)) (upd H q (.tup us)) c := (w.mono st.ff fun a ha => by
    have hna : a ≠ q := fun z => w.hp (p := a) ha (by rw [z]; exact hq)
    exact ⟨by rw [upd_ne hna]; exact w.fp ha, by rw [upd_ne hna]⟩).base fun p hp z => nomatch z
  refine ⟨upd F q (.tup us), [.ref q], [.tup ds], c, cn, C, dx, p, pw, QD, rfl, st.fh, by rw [upd_ne hpq]; exact fp, hw, by rw [upd_ne hpq]; exact hp, hc, .cons ⟨q, us, rfl, .inl (.inl upd_same), hd.mono st.ff⟩ rfl, w2, g, fun H' F' ns es c' kp fx own w' q' => ?_⟩
  refine k H' F' ns es c' ⟨st.ff.trans kp.ff, kp.fh, fun a o h1 h2 h3 => kp.hh a o (st.hh _ _ h1) h2 h3, fun a h1 h2 => kp.new a ?_ (st.new a h1 h2)⟩ fx own (w'.base fun p hp z => nomatch z) q'
  cases e : H a with
  | none => exact absurd e h1
  | some o => rw [st.hh _ _ e]; exact fun z => nomatch z
end
end DL

-- part DX3
set_option maxHeartbeats 4000000
/-! == and != by an own __eq__; bool by an own __bool__ -/
namespace DL
open PySem PySem.Spec PyProof.Rows L2
section
variable {M : Model} {prog : Program} {w : World} {A : Around} {E : Value → Shared → Prop} {s : Shared} {K : PySem.W.Frag} {x C f L : Addr} {ox : Obj} {od : Option Obj} {b tb : Value} {h₀ : Heap} {m : Str → Option Value}
open PySem.W in
theorem ifBound_objNe {args : List Value} {Q : Option Value → Shared → Prop} (X : K.In s.heap) (I : PySem.W.InstAt s.heap x ox C od) (hs : PySem.W.findIn K (.ref C) "__ne__" = some (some (.builtin "object.__ne__")))
    (h : wpAny M A (call (.builtin "object.__ne__") (.ref x :: args)) (fun v => Q (some v)) E s) : wpAny M A (callSpecialIfBound? (.ref x) "__ne__" args) Q E s := by
  simp only [callSpecialIfBound?, bindSpecialIfBound?]
  refine wpAny_holding (wpAny_bind (wpAny_bind (wpAny_bind (I.type.here ((PySem.W.looks_findIn X hs).here ?_)))))
  refine wpAny_bind (wpAny_askSetting (wpAny_ite ?_))
  have fin : wpAny M A (call (.builtin "object.__ne__") ([.ref x] ++ args) >>= fun v => pure (some v)) Q E s := wpAny_bind (wpAny_mono h (fun v s' h' => wpAny_pure h') fun _ _ h' => h')
  split
  · exact wpAny_bind (wpAny_of_eq (F.cmp_object.ne.bind _) (wpAny_pure (by exact fin)))
  · exact wpAny_tryCatch (wpAny_bind (wpAny_of_eq (F.cmp_object.ne.bind _) (wpAny_pure (by exact fin))))
theorem entry_objNe {Q : Fin → Shared → Prop} (X : K.In s.heap) (I : PySem.W.InstAt s.heap x ox C od) (hs : PySem.W.findIn K (.ref C) "__eq__" = some (some (.ref f))) (hf : PySem.W.isFn K (.ref f) = true) (hu : A.units < cLine)
    (hcall : wpAny (model prog w) A (call (.ref f) [.ref x, b]) (fun v s' => ∃ c, v = .bool c ∧ Q (.done (.ret (.bool (!c)))) s') E s) : wpAny (model prog w) A (Builtin.«object.__ne__» ⟨[.ref x, b], []⟩) Q E s := by
  obtain ⟨h, g, d, t, os⟩ := s
  unfold Builtin.«object.__ne__»
  repeat (first
    | with_reducible refine wpAny_cRoomFor hu ?_
    | (refine wpAny_bind (m := callSpecialIfBound? (.ref x) (Str.ofString "__eq__") [b])
        (PySem.W.ifBound_K X I hs hf (wpAny_mono hcall (fun r s' hr => by
          obtain ⟨b, rfl, hq⟩ := hr
          repeat (first | exact hq | exact wpAny_pure hq | exact wpAny_truthy_bool hq | (refine wpAny_bind (m := truthy (.bool _)) (wpAny_truthy_bool ?_)) | wp_step)) fun _ _ e => e)))
    | wp_step)
theorem ne_K {Q : Value → Shared → Prop} (hu : A.units + 1 < cLine) (X : K.In s.heap) (I : PySem.W.InstAt s.heap x ox C od) (hb : PySem.W.Looks (model prog w) s.heap (typeOf b) tb) (hn : PySem.W.notFirst K C tb = true)
    (hne : PySem.W.findIn K (.ref C) "__ne__" = some (some (.builtin "object.__ne__"))) (hm : PySem.W.mroIn K C (.type "object") = some true) (hs : PySem.W.findIn K (.ref C) "__eq__" = some (some (.ref f))) (hf : PySem.W.isFn K (.ref f) = true)
    (h : wpAny (model prog w) A.in1 (call (.ref f) [.ref x, b]) (fun v s' => ∃ c, v = .bool c ∧ Q (.bool (!c)) s') E s) : wpAny (model prog w) A (richCompare .NotEq (.ref x) b) Q E s := by
  have one : wpAny (model prog w) A (tryCompare (.ref x) "__ne__" b) (fun r s' => ∃ v, r = some v ∧ Q v s') E s := by
    unfold tryCompare
    refine wpAny_bind (ifBound_objNe X I hne (wpAny_call (codeAny_call_builtin F.cmp_object.ne.plain F.cmpEntry_ne (PySem.W.check_slot F.cmpKind_ne F.cmpSplit_ne (I.type.andThen (PySem.W.looks_mroIn X hm)) (F.cmpArgs_ne _ _)
      (entry_objNe X I hs hf hu (wpAny_mono h (fun v s' hv => ?_) fun _ _ e => e))))))
    obtain ⟨c, rfl, hq⟩ := hv
    first | exact ⟨c, rfl, wpAny_pure ⟨_, rfl, hq⟩⟩ | exact ⟨c, rfl, wpAny_pure (wpAny_pure ⟨_, rfl, hq⟩)⟩
  unfold richCompare
  simp only [oneThing_ref]
  refine wpAny_holding (wpAny_bind (wpAny_cRoomFor (Nat.lt_of_succ_lt hu) ?_))
  refine wpAny_bind (I.type.here (wpAny_bind (hb.here ?_)))
  rw [cmpInfo_NotEq]
  dsimp only
  split
  · rename_i q
    have e : PySem.W.subIn K tb (.ref C) = some false := by
      rcases Bool.or_eq_true_iff.mp hn with e | e
      · rw [beq_iff_eq.mp e] at q; simp at q
      · exact beq_iff_eq.mp e
    refine wpAny_bind ((PySem.W.looks_subIn X e).here ?_)
    simp only [Bool.false_eq_true, if_false]
    refine wpAny_bind (wpAny_mono one (fun r s' z => ?_) fun _ _ e => e)
    obtain ⟨v, rfl, hq⟩ := z
    exact wpAny_pure hq
  · refine wpAny_bind (wpAny_pure ?_)
    simp only [Bool.false_eq_true, if_false]
    refine wpAny_bind (wpAny_mono one (fun r s' z => ?_) fun _ _ e => e)
    obtain ⟨v, rfl, hq⟩ := z
    exact wpAny_pure hq
end
/-- x == y, x an instance of an own class whose __eq__ is at f -/
def rEqI (K : PySem.W.Frag) (f : Addr) (sp : Sp) (E : XK) : R2 := fun x y H Q => ∃ a C dx fs tb, x = .ref a ∧ H a = some (.ins C dx fs) ∧ TyX K H y tb ∧ PySem.W.notFirst K C tb = true ∧ PySem.W.findIn K (.ref C) "__eq__" = some (some (.ref f)) ∧ sp [x, y] H Q E
def rNeI (K : PySem.W.Frag) (f : Addr) (sp : Sp) (E : XK) : R2 := fun x y H Q => ∃ a C dx fs tb, x = .ref a ∧ H a = some (.ins C dx fs) ∧ TyX K H y tb ∧ PySem.W.notFirst K C tb = true ∧ PySem.W.findIn K (.ref C) "__eq__" = some (some (.ref f)) ∧
  PySem.W.findIn K (.ref C) "__ne__" = some (some (.builtin "object.__ne__")) ∧ PySem.W.mroIn K C (.type "object") = some true ∧ sp [x, y] H (fun v H' => ∃ b, v = .bl b ∧ Q (.bl (!b)) H') E
section
variable {X : Cx} {CX : CXT} {n : Nat} {f : Addr} {sp : Sp} {E : XK}
theorem op_eqI (hf : PySem.W.isFn X.K (.ref f) = true) (F : FnR X.prog X.w X.K X.mg X.base CX n f sp) (hr : Room n X.A) (hx : Passes CX X E) : OpR X (compareOp .Eq) (rEqI X.K f sp E) := by
  intro pins s σ H x y v u Q I rx ry h
  obtain ⟨a, C, dx, fs, tb, rfl, ha, ty, hn, hs, q⟩ := h
  cases (show v = Value.ref a from rx)
  obtain ⟨mA, O, _⟩ := ins_get I.hok ha
  obtain ⟨oda, J, _⟩ := O.look
  obtain ⟨P, kx, hP, _⟩ := kit_of I ry ty
  obtain ⟨m, hF⟩ := I.fr
  refine PySem.W.cmp_K (op := .Eq) (tb := tb) hr.units0 hF I.ok.mod.kin J (kx.ty _ _ I.kIn hP) hn hs hf ?_
  refine wpAny_mono (wpAny_call (run_fnR (us := [.ref a, u]) (vs := [.ref a, y]) F hr hx I (.cons rfl (.cons ry .nil)) q)) (fun w s' z => ?_) fun _ _ x => x
  obtain ⟨z', H', I', rz, qz⟩ := z
  exact SlX.cmpback rz ⟨z', H', I', rz, qz⟩
theorem op_neI (hf : PySem.W.isFn X.K (.ref f) = true) (F : FnR X.prog X.w X.K X.mg X.base CX n f sp) (hr : Room (n + 1) X.A) (hx : Passes CX X E) : OpR X (compareOp .NotEq) (rNeI X.K f sp E) := by
  intro pins s σ H x y v u Q I rx ry h
  obtain ⟨a, C, dx, fs, tb, rfl, ha, ty, hn, hs, hne, hm, q⟩ := h
  cases (show v = Value.ref a from rx)
  obtain ⟨mA, O, _⟩ := ins_get I.hok ha
  obtain ⟨oda, J, _⟩ := O.look
  obtain ⟨P, kx, hP, _⟩ := kit_of I ry ty
  refine ne_K (tb := tb) (by have := hr.un; omega) I.kIn J (kx.ty _ _ I.kIn hP) hn hne hm hs hf ?_
  refine wpAny_call (codeAny_mono (F X.A.in1 X.stack s H [.ref a, u] [.ref a, y] _ E hr.in1 I.env0.in1 (.cons rfl (.cons ry .nil)) q) fun r s' hq => ?_)
  cases r with
  | error e => exact hx pins σ _ _ e s' I hq
  | ok fl =>
    cases fl with
    | ret u' =>
      obtain ⟨v', H', I3, rv, c, ev, q3⟩ := I.after hq
      subst ev
      exact ⟨c, rv, .bl (!c), H', I3, rfl, q3⟩
    | next => exact False.elim hq
    | brk => exact False.elim hq
    | cont => exact False.elim hq
end
/-! ### bool(x) -/
theorem meets_boolI {prog : Program} {w : World} (x : Addr) : PySem.MeetsIn prog w (Builtin.«bool.__new__» ⟨[.type "bool", .ref x], []⟩) (fun A R s => wpAny (model prog w) A.in1 (truthy (.ref x)) (fun b s' => R (.ok (.ret (.bool b))) s') (fun e s' => R (.error e) s') s) := fun A R s hs => by
  obtain ⟨hp, g, d, tk, os⟩ := s
  have f1 := F.conv_sub_bool
  have hs' : wpAny (model prog w) A.in1 (truthy (.ref x)) (fun b s' => R (.ok (.ret (.bool b))) s') (fun e s' => R (.error e) s') ⟨hp, g, d, tk, os⟩ := hs
  unfold Builtin.«bool.__new__»
  repeat (any_goals (first | assumption | (with_reducible refine wpAny_mono hs' (fun b s2 h2 => ?_) fun _ _ z => z) | wp_step))
/-- bool(x), x an instance of an own class with its own __bool__ -/
def rBoolI (K : PySem.W.Frag) (G : Addr → Prop) (sp : Addr → Sp) (E : XK) : List V → Hp → VK → Prop := fun xs H Q => ∃ a C dx fs g, xs = [.ref a] ∧ H a = some (.ins C dx fs) ∧ PySem.W.findIn K (.ref C) "__bool__" = some (some (.ref g)) ∧ G g ∧ sp g [.ref a] H (fun v H' => ∃ b, v = .bl b ∧ Q (.bl b) H') E
section
variable {X : Cx} {CX : CXT} {n : Nat} {G : Addr → Prop} {sp : Addr → Sp} {E : XK}
theorem call_boolI (hf : ∀ g, G g → PySem.W.isFn X.K (.ref g) = true) (Fb : ∀ g, G g → FnR X.prog X.w X.K X.mg X.base CX n g (sp g)) (hr : Room (n + 2) X.A) (hx : Passes CX X E) : CallR X (.type "bool") (rBoolI X.K G sp E) := by
  intro pins s σ H xs us Q I r h
  obtain ⟨a, C, dx, fs, g, rfl, ha, hs, hg, q⟩ := h
  obtain rfl := Vals.ref1 r
  obtain ⟨mA, O, _⟩ := ins_get I.hok ha
  obtain ⟨oda, J, _⟩ := O.look
  obtain ⟨m, hF⟩ := I.fr
  refine callType_newIn F.called_bool F.newNe_bool (F.typeCall_bool_1 _) (F.newCall_bool_1 _) (fun obj => F.args_object_init_2 obj _) F.entry_bool_new (meets_boolI a) ?_
  show wpAny (model X.prog X.w) X.A.in1.in1 (truthy (.ref a)) _ _ s
  refine PySem.W.truthy_K hF I.ok.mod.kin J hs (hf g hg) ?_
  refine wpAny_call (codeAny_mono (Fb g hg X.A.in1.in1 X.stack s H [.ref a] [.ref a] _ E hr.in1.in1 I.env0.in1.in1 (.cons rfl .nil) q) fun r s' hq => ?_)
  cases r with
  | error e => exact hx pins σ _ _ e s' I hq
  | ok fl =>
    cases fl with
    | ret u' =>
      obtain ⟨v', H', I3, rv, c, ev, q3⟩ := I.after hq
      subst ev
      obtain rfl : u' = Value.bool c := rv
      exact ⟨rfl, .bl c, H', I3, rfl, q3⟩
    | next => exact False.elim hq
    | brk => exact False.elim hq
    | cont => exact False.elim hq
end
end DL

-- part DL8
set_option maxHeartbeats 4000000
/-! == and != and bool of instances, isinstance of an own class, over trees -/
namespace DL
open PySem L2
structure InsT (K : PySem.W.Frag) (cls : Str → Option Addr) : Prop where
  cl : ∀ c C, cls c = some C → Cls K C
  ha : ∀ c C, cls c = some C → PySem.W.findIn K (.ref C) "__class__" = some (some (.builtin "object.__class__"))
  hn : PySem.W.specialIn K (.builtin "object.__class__") "__get__" = some (some (.builtin "getset_descriptor.__get__"))
  ht : PySem.W.takesIn K (.builtin "object.__class__") = some true
  hm : ∀ c C, cls c = some C → PySem.W.mroIn K C (.type "object") = some true
section
variable {W : Wd} {B : Bs} {F F' H H' : Hp} {σ : St} {ρ : Ev}
theorem tyx_obj (T : InsT W.K W.cls) (e : Same F H) {c : Str} {ns : List Str} {ds : List D} {v : V} {t : Value} (h : Den W F (.obj c ns ds) v) (ht : tyD W (.obj c ns ds) = some t) : TyX W.K H v t := by
  obtain ⟨a, C, dx, gs, ev, hf, hc, hn, hd⟩ := h
  have ht : (W.cls c).map Value.ref = some t := ht
  rw [hc] at ht
  cases ht
  rw [ev]
  exact .base (.ins (e _ _ hf) (T.cl _ _ hc) (T.ha _ _ hc) T.hn T.ht (T.hm _ _ hc))
/-- isinstance(x, an own class): of instances and tuples -/
def isSubD (isSub : Str → Option Bool) : D → Option Bool
  | .obj c _ _ => isSub c
  | .tup _ => some false
  | _ => none
theorem kok_own (T : InsT W.K W.cls) {C0 : Addr} {isSub : Str → Option Bool} (h1 : ∀ c C b, W.cls c = some C → isSub c = some b → PySem.W.kitOne W.K (.ref C) (.ref C0) = some b) (hcl : ∀ c b, isSub c = some b → ∃ C, W.cls c = some C)
    (h2 : PySem.W.kitOne W.K (.type "tuple") (.ref C0) = some false) : KOk W (isSubD isSub) (.ref C0) := fun d b h => by
  cases d with
  | obj c ns ds =>
    obtain ⟨C, hC⟩ := hcl c b h
    exact ⟨.ref C, by show (W.cls c).map Value.ref = _; rw [hC]; rfl, h1 c C b hC h, fun F H v e dv => tyx_obj T e dv (by show (W.cls c).map Value.ref = _; rw [hC]; rfl)⟩
  | tup xs =>
    cases h
    exact ⟨_, rfl, h2, fun F H v e dv => tyx_of e dv rfl⟩
  | _ => cases h
def isOT : D → Bool
  | .obj _ _ _ => true
  | .tup _ => true
  | _ => false
/-- what the written part tells of comparisons -/
structure EqT (K : PySem.W.Frag) (cls : Str → Option Addr) (f : Addr) : Prop where
  ins : InsT K cls
  eq : ∀ c C, cls c = some C → PySem.W.findIn K (.ref C) "__eq__" = some (some (.ref f))
  ne : ∀ c C, cls c = some C → PySem.W.findIn K (.ref C) "__ne__" = some (some (.builtin "object.__ne__"))
  nf : ∀ c C c' C', cls c = some C → cls c' = some C' → PySem.W.notFirst K C (.ref C') = true
  nt : ∀ c C, cls c = some C → PySem.W.notFirst K C (.type "tuple") = true
theorem EqT.ty (T : EqT W.K W.cls f) (e : Same F H) {c : Str} {C : Addr} {d : D} {v : V} (hc : W.cls c = some C) (ho : isOT d = true) (h : Den W F d v) : ∃ t, TyX W.K H v t ∧ PySem.W.notFirst W.K C t = true := by
  cases d with
  | obj c' ns ds =>
    have h' := h
    obtain ⟨a, C', dx, gs, ev, hf, hc', hn, hd⟩ := h
    exact ⟨.ref C', tyx_obj T.ins e h' (by show (W.cls c').map Value.ref = _; rw [hc']; rfl), T.nf _ _ _ _ hc hc'⟩
  | tup xs => exact ⟨_, tyx_of e h rfl, T.nt _ _ hc⟩
  | _ => cases ho
def gEqO (G : GF) : D → D → Ev → (Ev → D → Prop) → Prop := fun x y ρ Q => match x with
  | .obj c ns ds => isOT y = true ∧ G [.obj c ns ds, y] ρ.c fun d c' => Q (ρ.cnt c') d
  | _ => False
def gNeO (G : GF) : D → D → Ev → (Ev → D → Prop) → Prop := fun x y ρ Q => match x with
  | .obj c ns ds => isOT y = true ∧ G [.obj c ns ds, y] ρ.c fun d c' => match d with | .bl b => Q (ρ.cnt c') (.bl (!b)) | _ => False
  | _ => False
theorem re_eqI {f : Addr} {G : GF} {ta tb : TE} {a b : DE} {E : XK} (T : EqT W.K W.cls f) (ra : RE W B ta a) (rb : RE W B tb b) : RE W B (tOp (rEqI W.K f (spD W.K W.cls G) E) ta tb) (fun ρ Q => a ρ fun ρ1 x => b ρ1 fun ρ2 y => gEqO G x y ρ2 Q) :=
  re_bin ra rb fun σ H F ρ x y dx dy Q R r d1 d2 h k => by
    unfold gEqO at h
    split at h
    · rename_i c ns ds
      obtain ⟨ho, h⟩ := h
      have d1' := d1
      obtain ⟨p, C, dxx, gs, ev, hf, hc, hn, hd⟩ := d1
      obtain ⟨t, ht, hnf⟩ := T.ty r.ex hc ho d2
      refine ⟨p, C, dxx, gs, t, ev, r.ex _ _ hf, ht, hnf, T.eq _ _ hc, ?_⟩
      exact r.spD (.cons d1' (.cons d2 DenL.nil)) h fun v H' F' ρ' d r' s' dv q => k v H' F' ρ' d r' s' dv q
    · exact h.elim
theorem re_neI {f : Addr} {G : GF} {ta tb : TE} {a b : DE} {E : XK} (T : EqT W.K W.cls f) (ra : RE W B ta a) (rb : RE W B tb b) : RE W B (tOp (rNeI W.K f (spD W.K W.cls G) E) ta tb) (fun ρ Q => a ρ fun ρ1 x => b ρ1 fun ρ2 y => gNeO G x y ρ2 Q) :=
  re_bin ra rb fun σ H F ρ x y dx dy Q R r d1 d2 h k => by
    unfold gNeO at h
    split at h
    · rename_i c ns ds
      obtain ⟨ho, h⟩ := h
      have d1' := d1
      obtain ⟨p, C, dxx, gs, ev, hf, hc, hn, hd⟩ := d1
      obtain ⟨t, ht, hnf⟩ := T.ty r.ex hc ho d2
      refine ⟨p, C, dxx, gs, t, ev, r.ex _ _ hf, ht, hnf, T.eq _ _ hc, T.ne _ _ hc, T.ins.hm _ _ hc, ?_⟩
      refine r.spD (Q := fun ρ' d => match d with | .bl b => Q ρ' (.bl (!b)) | _ => False) (.cons d1' (.cons d2 DenL.nil)) h fun v H' F' ρ' d r' s' dv q => ?_
      split at q
      · rename_i b
        have ev : v = .bl b := dv
        exact ⟨b, ev, k (.bl (!b)) H' F' ρ' (.bl (!b)) r' s' rfl q⟩
      · exact q.elim
    · exact h.elim
/-- bool(x) -/
def gBoolO (bOf : Str → Option Bool) : List D → Ev → (Ev → D → Prop) → Prop := fun ds ρ Q => match ds with
  | [.obj c _ _] => match bOf c with | some b => Q ρ (.bl b) | none => False
  | _ => False
def gB (b : Bool) : GF := fun ds c Q => ∃ x, ds = [x] ∧ Q (.bl b) c
theorem re_boolI {G : Addr → Prop} {bv : Addr → Bool} {bOf : Str → Option Bool} {ta : TA} {a : DA} {E : XK} (hb : ∀ c C b, W.cls c = some C → bOf c = some b → ∃ g, PySem.W.findIn W.K (.ref C) "__bool__" = some (some (.ref g)) ∧ G g ∧ bv g = b) (ra : RA W B ta a) :
    RE W B (tCB (rBoolI W.K G (fun g => spD W.K W.cls (gB (bv g))) E) ta) (fun ρ Q => a ρ fun ρ1 ds => gBoolO bOf ds ρ1 Q) :=
  re_cb ra fun σ H F ρ vs ds Q R r d h k => by
    unfold gBoolO at h
    split at h
    · rename_i c ns ds
      obtain ⟨x, rfl, d1⟩ := den1 d
      have d1' := d1
      split at h
      · rename_i b eb
        obtain ⟨p, C, dxx, gs, ev, hf, hc, hn, hd⟩ := d1
        obtain ⟨g, hg, gg, bg⟩ := hb c C b hc eb
        subst ev
        refine ⟨p, C, dxx, gs, g, rfl, r.ex _ _ hf, hg, gg, ?_⟩
        refine r.spD (G := gB (bv g)) (Q := fun ρ' d => d = .bl b ∧ Q ρ' (.bl b)) (.cons d1' DenL.nil) ⟨_, rfl, by rw [bg]; exact ⟨rfl, h⟩⟩ fun v H' F' ρ' d r' s' dv q => ?_
        obtain ⟨q1, q2⟩ := q
        subst q1
        have ev : v = .bl b := dv
        exact ⟨b, ev, k (.bl b) H' F' ρ' (.bl b) r' s' rfl q2⟩
      · exact h.elim
    · exact h.elim
/-- x, y, z = a, b, c -/
def dPar3 (i j l : Nat) (t : DA) : DS := fun DD ρ => t ρ fun ρ1 ds => match ds with | [x, y, z] => DD.nx (((ρ1.set i (.v x)).set j (.v y)).set l (.v z)) | _ => False
theorem rs_par3 {i j l : Nat} {ta : TA} {t : DA} (ra : RA W B ta t) : RS W B (tPar3 i j l ta) (dPar3 i j l t) := by
  intro σ H F ρ D DD rl h f
  refine ra σ H F ρ _ _ rl h fun vs H1 F1 ρ1 ds r1 s1 d1 h1 => ?_
  split at h1
  · rename_i x y z
    obtain ⟨u, r0, e0, du, hr⟩ := d1
    obtain ⟨v, w', e1, dv, dw⟩ := den2 hr
    subst e1 e0
    exact ⟨u, v, w', rfl, f.nx _ _ F1 _ (((r1.setv du).setv dv).setv dw) s1 h1⟩
  · exact h1.elim
end
end DL

-- part K60A
set_option maxHeartbeats 4000000
/-! k60: what all laws have: the well, the draw, one of some -/
namespace DL
open PySem PySem.Spec PyProof.Rows L2
def topS (i : Nat) : Stmt := PySem.Challenge.pw_alwaysso_k60_papers_on_questions_kept.main.body.getD i (.Pass ⟨0, 0, 0, 0⟩)
abbrev sWell : Stmt := topS 15
abbrev sDraw : Stmt := topS 16
abbrev sOne : Stmt := topS 17
theorem scW : FnScope ["script", "cell"] ["script"] (defScope sWell) := ⟨rfl, rfl, rfl, by decide +kernel, rfl, by decide +kernel, by decide +kernel⟩
theorem scD : FnScope ["well", "many", "rest", "turn", "cell", "blend"] ["well", "many"] (defScope sDraw) := ⟨rfl, rfl, rfl, by decide +kernel, rfl, by decide +kernel, by decide +kernel⟩
theorem scO : FnScope ["well", "some"] ["well", "some"] (defScope sOne) := ⟨rfl, rfl, rfl, by decide +kernel, rfl, by decide +kernel, by decide +kernel⟩
/-- what a draw gives: a number below m -/
def gDraw : GF := fun ds c Q => ∃ m : Int, ds = [.well, .int m] ∧ m < 1073741824 ∧ c < 1048576 ∧ ∀ k : Int, 0 ≤ k → (k < m ∨ (m < 2 ∧ k = 0)) → Q (.int k) (c + 1)
theorem depthAll_ints : ∀ ns : List Int, PyData.depthAll (ns.map PyData.int) = 0
  | [] => rfl
  | n :: ns => by
    show max (PyData.depth (.int n)) (PyData.depthAll (ns.map PyData.int)) = 0
    rw [depthAll_ints ns]; rfl
theorem canAll_ints : ∀ ns : List Int, PyData.canLayAll0 (ns.map PyData.int) = true
  | [] => rfl
  | n :: ns => by
    show (PyData.canLay0 (.int n) && PyData.canLayAll0 (ns.map PyData.int)) = true
    rw [canAll_ints ns]; rfl
theorem shaped_ints (ns : List Int) : SeqAt.shaped (.list (ns.map PyData.int)) = true := by
  unfold SeqAt.shaped
  rw [Bool.and_eq_true]
  refine ⟨canAll_ints ns, decide_eq_true ?_⟩
  show PyData.depthAll (ns.map PyData.int) + 1 ≤ 64
  rw [depthAll_ints ns]; decide
theorem dpall_ints {K : PySem.W.Frag} {H : Hp} : ∀ ns : List Int, DpAll K H (ns.map V.int) (ns.map PyData.int)
  | [] => .nil
  | n :: ns => .cons (.int n) (dpall_ints ns)
theorem seq_mid {a b : TS} {D : Ends} {σ : L2.St} {H : Hp} (M : L2.St → Hp → Prop) (ha : ∀ nx : L2.St → Hp → Prop, (∀ σ' H', M σ' H' → nx σ' H') → a { D with nx := nx } σ H) (hb : ∀ σ' H', M σ' H' → b D σ' H') : tSeq a b D σ H := ha (b D) hb
theorem gName_of {i : Nat} {v : V} {σ : L2.St} {H : Hp} {nx : L2.St → Hp → Prop} (h : nx (σ.set i (some v)) H) : gName i v σ H nx := h
theorem pow_pos' (a : Int) (n : Nat) (h : 0 ≤ a) : 0 ≤ a ^ n := Int.pow_nonneg h
section
variable {P : Program} {w : World} {K : PySem.W.Frag} {mg : Str → Option Value} {base : Heap} {cls : Str → Option Addr}
theorem ok_draw {f : Addr} {fd : FuncData} {k : Nat} (F : Fun K "_law_draw" "_law_draw" sDraw f fd) (m_int : mg "int" = none) (m_abs : mg "abs" = none) (m_len : mg "len" = none) : FnOk P w K mg base CX0 (k + 1) f fd ["well", "many"] (spD K cls gDraw) := by
  refine F.ok scD (fun vs H Q E h => len_of (n := 2) (fun ds c QD ⟨m, e, _⟩ => by rw [e]; rfl) h) (fun cdv A outer s H vs Q E hr h => ?_)
  obtain ⟨F0, ds, c, pw, QD, ex, hd, hw, ⟨m, rfl, hm, hc, hk⟩, q⟩ := h
  obtain ⟨v0, r0, rfl, dv0, v1, r1, rfl, dv1, er⟩ := hd
  subst er
  obtain ⟨p, hp, rfl⟩ := dv0
  have e1 : v1 = .int m := dv1
  subst e1
  have hp : pw = some p := hp
  subst hp
  have hu := hr.units
  refine ⟨_, (pss_cons (ps_if (pt_cmpR op_lt (pv 1) pe_int (nomark _)) (pss_one (ps_ret pe_int)) pss_nil)
    (pss_cons (ps_if (pt_cmpR op_gt (pe_ix ix_list (pv 0) pe_int (fun _ _ => rfl)) pe_int (nomark _)) (pss_cons (ps_set (i := 2) scD.nd rfl (.inl rfl) (pe_callTy call_int1 (by rfl) m_int (by decide +kernel) (pa_cons (pe_ix ix_list (pv 0) pe_int (fun _ _ => rfl)) pa_nil)))
    (pss_cons (ps_asg (pe_op op_fdiv (pv 2) (pv 1)) (pg_sub (pv 0) pe_int set_list))
    (pss_one (ps_ret (pe_op op_mod (pe_callTy call_int1 (by rfl) m_int (by decide +kernel) (pa_cons (pv 2) pa_nil)) (pv 1)))))) pss_nil)
    (pss_cons (ps_set (i := 3) scD.nd rfl (.inl rfl) (pe_ix ix_list (pv 0) pe_int (fun _ _ => rfl)))
    (pss_cons (ps_asg (pe_op op_add (pv 3) pe_int) (pg_sub (pv 0) pe_int set_list))
    (pss_cons (ps_set (i := 4) scD.nd rfl (.inl rfl) (pe_op op_add (pe_op op_mul pe_int (pv 3)) pe_int))
    (pss_cons (ps_if (pt_cmpR (op_neD hu) (pe_ix ix_list (pv 0) pe_int (fun _ _ => rfl)) (pe_lst pa_nil) (nomark _)) (pss_one (ps_set (i := 4) scD.nd rfl (.inl rfl) (pe_ix ix_list (pe_ix ix_list (pv 0) pe_int (fun _ _ => rfl)) (pe_op op_mod (pe_callTy call_int1 (by rfl) m_int (by decide +kernel) (pa_cons (pv 3) pa_nil)) (pe_callB call_len (by rfl) m_len PySem.boot_len (pa_cons (pe_ix ix_list (pv 0) pe_int (fun _ _ => rfl)) pa_nil))) (fun _ _ => rfl)))) pss_nil)
    (pss_cons (ps_if (PW.pt (pw_and (pt_cmpR op_lt (pv 3) (pe_callB call_len (by rfl) m_len PySem.boot_len (pa_cons (pe_ix ix_list (pv 0) pe_int (fun _ _ => rfl)) pa_nil)) (nomark _)) (pw_and1 (pt_cmpR op_ge (pe_callB call_abs (by rfl) m_abs (by decide +kernel) (pa_cons (pv 4) pa_nil)) (pe_op op_pow pe_int pe_int) (nomark _))))) (pss_cons (ps_set (i := 2) scD.nd rfl (.inl rfl) (pe_op op_add (pe_op op_mul pe_int (pe_op op_sub (pe_callB call_abs (by rfl) m_abs (by decide +kernel) (pa_cons (pv 4) pa_nil)) (pe_op op_pow pe_int pe_int))) (pe_callTy call_int1 (by rfl) m_int (by decide +kernel) (pa_cons (pe_cmpR op_lt (pv 4) pe_int (nomark _)) pa_nil))))
    (pss_cons (ps_asg (pe_op op_fdiv (pv 2) (pv 1)) (pg_sub (pv 0) pe_int set_list))
    (pss_one (ps_ret (pe_op op_mod (pe_callTy call_int1 (by rfl) m_int (by decide +kernel) (pa_cons (pv 2) pa_nil)) (pv 1)))))) pss_nil)
    (pss_cons (ps_set (i := 5) scD.nd rfl (.inl rfl) (pe_op op_mod (pe_callTy call_int1 (by rfl) m_int (by decide +kernel) (pa_cons (pe_op op_pow (pe_op op_add (pe_op op_add (pe_op op_mod (pe_callTy call_int1 (by rfl) m_int (by decide +kernel) (pa_cons (pv 4) pa_nil)) pe_int) (pe_op op_mul pe_int (pv 3))) pe_int) pe_int) pa_nil)) pe_int))
    (pss_cons (ps_set (i := 5) scD.nd rfl (.inl rfl) (pe_op op_mod (pe_callTy call_int1 (by rfl) m_int (by decide +kernel) (pa_cons (pe_op op_pow (pe_op op_add (pe_op op_add (pe_op op_mul (pv 5) (pe_op op_add (pe_op op_mul pe_int (pv 3)) pe_int)) (pe_op op_mul (pe_op op_mul pe_int (pv 3)) (pv 3))) pe_int) pe_int) pa_nil)) pe_int))
    (pss_one (ps_ret (pe_op op_mod (pe_callTy call_int1 (by rfl) m_int (by decide +kernel) (pa_cons (pe_op op_fdiv (pv 5) pe_int) pa_nil)) (pv 1))))))))))))), ?_⟩
  obtain ⟨fp, _, pc, ns, t, r, hH, hS, t0, tc, r0, hl⟩ := hw
  have fin : ∀ (H1 : Hp) (t' r' k : Int), H1 p = some (.lst [.ref pc, .int t', .int r']) → (∀ a o, H a = some o → a ≠ p → H1 a = some o) → 0 ≤ t' → t' ≤ (c : Int) + 1 → 0 ≤ r' → 0 ≤ k → (k < m ∨ (m < 2 ∧ k = 0)) → Q (.int k) H1 := by
    intro H1 t' r' k h1 h2 h3 h4 h5 h6 h7
    have sf : Same F0 H1 := fun b o e => by
      have : b ≠ p := fun z => by subst z; rw [fp] at e; cases e
      exact h2 b o (ex b o e) this
    refine q (.int k) H1 F0 (.int k) (c + 1) ⟨Same.refl _, sf, fun a o e1 e2 _ => ?_, fun a _ e => e⟩ rfl ?_ (hk k h6 h7)
    · have : a ≠ p := fun z => e2 (by rw [z])
      exact h2 a o e1 this
    · exact ⟨fp, (fun z => nomatch z), pc, ns, t', r', h1, hS, h3, by push_cast; omega, h5, hl⟩
  have sq : ∀ (H1 : Hp), (∀ a o, H a = some o → a ≠ p → H1 a = some o) → SqL K H1 pc (ns.map V.int) := fun H1 h => by
    refine same_sqL (F := F0) (fun b o e => ?_) hS
    have : b ≠ p := fun z => by subst z; rw [fp] at e; cases e
    exact h b o (ex b o e) this
  have sp : SqL K H p [.ref pc, .int t, .int r] := .inl (.inl hH)
  -- many < 2
  refine ⟨_, rfl, _, _, rfl, rfl, _, rfl, ite2 (fun h => ?_) (fun h => ?_)⟩
  · exact fin H t r 0 hH (fun _ _ e _ => e) t0 (by omega) r0 (by omega) (.inr ⟨of_decide_eq_true h, rfl⟩)
  have hm2 : 2 ≤ m := by have := of_decide_eq_false (Bool.eq_false_iff.mpr h); omega
  -- well[2] > 0
  refine ⟨_, rfl, p, _, 2, .int r, rfl, rfl, sp, rfl, _, _, rfl, rfl, _, rfl, ite2 (fun h2 => ?_) (fun h2 => ?_)⟩
  · refine ⟨_, rfl, p, _, 2, .int r, rfl, rfl, sp, rfl, .inl ⟨_, rfl, _, rfl, _, rfl, _, _, rfl, rfl, ⟨by omega, by omega⟩, _, rfl, p, _, _, 2, rfl, rfl, hH, rfl, ?_⟩⟩
    refine ⟨_, rfl, .inl ⟨_, rfl, _, rfl, _, _, rfl, rfl, (by show 0 < m; omega), ?_⟩⟩
    exact fin _ t (r / m) (r % m) upd_same (fun a o e h => (upd_ne h).trans e) t0 (by omega) (Int.ediv_nonneg r0 (by omega)) (Int.emod_nonneg _ (by omega)) (.inl (Int.emod_lt_of_pos _ (by omega)))
  -- turn = well[1]; well[1] = turn + 1; cell = ..
  refine ⟨_, rfl, p, _, 1, .int t, rfl, rfl, sp, rfl, _, rfl, _, _, rfl, rfl, _, rfl, p, _, _, 1, rfl, rfl, hH, rfl, ?_⟩
  have hH1 : (upd H p (.lst [.ref pc, .int (t + 1), .int r])) p = some (.lst [.ref pc, .int (t + 1), .int r]) := upd_same
  have hO1 : ∀ a o, H a = some o → a ≠ p → (upd H p (.lst [.ref pc, .int (t + 1), .int r])) a = some o := fun a o e h => (upd_ne h).trans e
  revert hH1 hO1
  show _ → _ → tSeq _ _ _ _ (upd H p (.lst [.ref pc, .int (t + 1), .int r]))
  generalize upd H p (.lst [.ref pc, .int (t + 1), .int r]) = H1
  intro hH1 hO1
  have sp1 : SqL K H1 p [.ref pc, .int (t + 1), .int r] := .inl (.inl hH1)
  have sq1 := sq H1 hO1
  have lt1 : t < 1048577 := by omega
  refine ⟨_, rfl, _, _, rfl, rfl, .inl (by omega), _, _, rfl, rfl, gName_of ?_⟩
  -- well[0] != []
  dsimp only
  refine seq_mid (fun σ' H' => ∃ (cell : Int) (z : Option V), σ' = [some (.ref p), some (.int m), z, some (.int t), some (.int cell), none] ∧ H' p = some (.lst [.ref pc, .int (t + 1), .int r]) ∧ ∀ a o, H a = some o → a ≠ p → H' a = some o) (fun nx hnx => ?_) ?_
  · refine ⟨_, rfl, p, _, 0, _, rfl, rfl, sp1, rfl, by decide, fun l hl => ?_⟩
    have nlp : p ≠ l := fun z => by rw [← z, hH1] at hl; cases hl
    have hO2 : ∀ a o, H a = some o → a ≠ p → (upd H1 l (.lst [])) a = some o := fun a o e h => by
      have : a ≠ l := fun z => by have := hO1 a o e h; rw [z, hl] at this; cases this
      rw [upd_ne this]; exact hO1 a o e h
    have hH2 : (upd H1 l (.lst [])) p = some (.lst [.ref pc, .int (t + 1), .int r]) := by rw [upd_ne nlp]; exact hH1
    have sp2 : SqL K (upd H1 l (.lst [])) p [.ref pc, .int (t + 1), .int r] := .inl (.inl hH2)
    have sq2 := sq _ hO2
    refine ⟨.list (ns.map PyData.int), .list [], .lst sq2 (dpall_ints ns), .lst (.inl (.inl upd_same)) .nil, shaped_ints ns, by decide, _, rfl, ite2 (fun h => ?_) (fun h => ?_)⟩
    · have hpos : 0 < ns.length := by
        cases ns with
        | nil => exact absurd h (by decide)
        | cons _ _ => exact Nat.succ_pos _
      have hlt : t % ((ns.map V.int).length : Int) < ((ns.map V.int).length : Int) := Int.emod_lt_of_pos _ (by rw [List.length_map]; omega)
      have hge : 0 ≤ t % ((ns.map V.int).length : Int) := Int.emod_nonneg _ (by rw [List.length_map]; omega)
      obtain ⟨j, hj⟩ : ∃ j : Nat, t % ((ns.map V.int).length : Int) = (j : Int) := ⟨_, (Int.toNat_of_nonneg hge).symm⟩
      have hjl : j < ns.length := by rw [hj, List.length_map] at hlt; omega
      have at_ : atI (ns.map V.int) (t % ((ns.map V.int).length : Int)) = some (.int ns[j]) := by
        rw [hj]
        exact atI_nat (by rw [List.getElem?_map, List.getElem?_eq_getElem hjl]; rfl)
      refine ⟨_, rfl, p, _, 0, _, rfl, rfl, sp2, rfl, _, rfl, .inl ⟨_, rfl, _, rfl, p, _, 0, _, rfl, rfl, sp2, rfl, _, _, rfl, .inl ⟨_, sq2, rfl⟩, _, _, rfl, rfl, (by rw [List.length_map]; omega), pc, _, _, _, rfl, rfl, sq2, at_, hnx _ _ ⟨_, _, rfl, hH2, hO2⟩⟩⟩
    · exact hnx _ _ ⟨_, _, rfl, hH2, hO2⟩
  rintro σ' H2 ⟨cell, z, rfl, hH2, hO2⟩
  have sp2 : SqL K H2 p [.ref pc, .int (t + 1), .int r] := .inl (.inl hH2)
  have sq2 := sq _ hO2
  -- turn < len(well[0]) and abs(cell) >= 10 ** 18
  refine seq_mid (fun σ' H' => H' = H2 ∧ ∃ (z : Option V), σ' = [some (.ref p), some (.int m), z, some (.int t), some (.int cell), none]) (fun nx hnx => ?_) ?_
  · have cl : (0 : Int) ≤ (if cell < 0 then -cell else cell) := by split <;> omega
    refine ⟨_, rfl, _, rfl, p, _, 0, _, rfl, rfl, sp2, rfl, _, _, rfl, .inl ⟨_, sq2, rfl⟩, _, _, rfl, rfl, _, rfl, ite2 (fun h => ?_) (fun h => hnx _ _ ⟨rfl, _, rfl⟩)⟩
    refine ⟨_, rfl, _, rfl, _, _, rfl, rfl, ⟨by decide, by decide, by decide⟩, _, _, rfl, rfl, _, rfl, ite2 (fun h2 => ?_) (fun h => hnx _ _ ⟨rfl, _, rfl⟩)⟩
    have h2 : (10 : Int) ^ (18 : Int).toNat ≤ (if cell < 0 then -cell else cell) := of_decide_eq_true h2
    have h3 : (0 : Int) ≤ 2 * ((if cell < 0 then -cell else cell) - (10 : Int) ^ (18 : Int).toNat) + (if decide (cell < 0) = true then 1 else 0) := by
      have : (0 : Int) ≤ (if decide (cell < 0) = true then 1 else 0) := by split <;> decide
      omega
    refine ⟨_, rfl, _, rfl, _, _, rfl, rfl, ⟨by decide, by decide, by decide⟩, _, _, rfl, rfl, _, _, rfl, rfl, .inl (by decide), _, rfl, _, _, rfl, rfl, .inr ⟨_, rfl, _, _, rfl, rfl, ?_⟩⟩
    refine ⟨_, rfl, _, rfl, _, _, rfl, rfl, ⟨by omega, by omega⟩, _, rfl, p, _, _, 2, rfl, rfl, hH2, rfl, ?_⟩
    refine ⟨_, rfl, .inl ⟨_, rfl, _, rfl, _, _, rfl, rfl, (by show 0 < m; omega), ?_⟩⟩
    exact fin _ (t + 1) _ _ upd_same (fun a o e h => (upd_ne h).trans (hO2 a o e h)) (by omega) (by omega) (Int.ediv_nonneg h3 (by omega)) (Int.emod_nonneg _ (by omega)) (.inl (Int.emod_lt_of_pos _ (by omega)))
  rintro σ' _ ⟨rfl, z, rfl⟩
  have b1 : 0 ≤ cell % 2147483549 := Int.emod_nonneg _ (by decide)
  have b2 : cell % 2147483549 < 2147483549 := Int.emod_lt_of_pos _ (by decide)
  have c1 : 0 ≤ (cell % 2147483549 + 45137 * t + 8609) ^ 5 := pow_pos' _ _ (by omega)
  have d1 : ∀ i : Int, 0 ≤ i % m := fun i => Int.emod_nonneg _ (by omega)
  have d2 : ∀ i : Int, i % m < m := fun i => Int.emod_lt_of_pos _ (by omega)
  -- blend = ..
  refine ⟨_, rfl, .inl ⟨_, rfl, _, _, rfl, rfl, (by show (0 : Int) < 2147483549; decide), _, rfl, _, _, rfl, rfl, .inl (by omega), _, _, rfl, rfl, _, _, rfl, rfl, _, _, rfl, rfl, ⟨by decide, by decide, (by show Int.natAbs (cell % 2147483549 + 45137 * t + 8609) < _; omega)⟩,
    .inl ⟨_, rfl, _, _, rfl, rfl, (by show (0 : Int) < 2147483587; decide), ?_⟩⟩⟩
  have e1 : 0 ≤ (cell % 2147483549 + 45137 * t + 8609) ^ (5 : Int).toNat % 2147483587 := Int.emod_nonneg _ (by decide)
  have e2 : (cell % 2147483549 + 45137 * t + 8609) ^ (5 : Int).toNat % 2147483587 < 2147483587 := Int.emod_lt_of_pos _ (by decide)
  obtain ⟨bl, hbl⟩ : ∃ bl, (cell % 2147483549 + 45137 * t + 8609) ^ (5 : Int).toNat % 2147483587 = bl := ⟨_, rfl⟩
  rw [hbl] at e1 e2
  have m1 : 0 ≤ bl * (2 * t + 5519) := Int.mul_nonneg e1 (by omega)
  have m2 : bl * (2 * t + 5519) ≤ 2147483587 * 2102673 := Int.mul_le_mul (by omega) (by omega) (by omega) (by omega)
  have m3 : 0 ≤ 57041 * t * t := Int.mul_nonneg (by omega) t0
  have m4 : 57041 * t * t ≤ 57041 * 1048577 * 1048577 := Int.mul_le_mul (by omega) (by omega) (by omega) (by omega)
  refine ⟨_, rfl, _, rfl, _, _, rfl, rfl, .inl (by omega), _, _, rfl, rfl, _, _, rfl, rfl, .inl (by omega), _, rfl, _, _, rfl, rfl, .inl (by omega), _, rfl, _, _, rfl, rfl, .inr (by omega), _, _, rfl, rfl, _, _, rfl, rfl, _, _, rfl, rfl,
    ⟨by decide, by decide, (by show Int.natAbs ((cell % 2147483549 + 45137 * t + 8609) ^ (5 : Int).toNat % 2147483587 * (2 * t + 5519) + 57041 * t * t + 45137) < _; rw [hbl]; omega)⟩, ?_⟩
  refine .inl ⟨_, rfl, _, _, rfl, rfl, (by show (0 : Int) < 2147483629; decide), _, rfl, _, _, rfl, rfl, ⟨by decide, by decide⟩, .inl ⟨_, rfl, _, rfl, _, _, rfl, rfl, (by show 0 < m; omega), ?_⟩⟩
  exact fin _ (t + 1) r _ hH2 hO2 (by omega) (by omega) r0 (d1 _) (.inl (d2 _))
end
end DL

-- part K60B
set_option maxHeartbeats 4000000
/-! k60: the well, one of some -/
namespace DL
open PySem PySem.Spec PyProof.Rows L2
theorem gIxL_of {ds : List D} {i : Int} {d : D} {ρ : Ev} {Q : Ev → D → Prop} (h : atI ds i = some d) (q : Q ρ d) : gIxL (.lst ds) (.int i) ρ Q := by
  unfold gIxL
  simp only [h]
  exact q
theorem RN.go {W : Wd} {B : Bs} {te : TE} {t : DE} {σ : L2.St} {H F : Hp} {ρ : Ev} {R : VK} (h : RN W B te t) (rl : Rel W B F H σ ρ) (Q : Ev → D → Prop) (k : ∀ p H' F' ρ' d, Rel W B F' H' σ ρ' → Same F F' → New W B F' H' σ ρ' p d → Q ρ' d → R (.ref p) H') (q : t ρ Q) : te σ H R := h σ H F ρ Q R rl q k
/-- one of some: whichever -/
def gOne : GF := fun ds c Q => ∃ xs : List D, ds = [.well, .lst xs] ∧ 0 < xs.length ∧ xs.length < 1073741824 ∧ c < 1048576 ∧ ∀ d ∈ xs, Q d (c + 1)
/-- the well of a script -/
def spWell (K : PySem.W.Frag) (cls : Str → Option Addr) : Sp := fun vs H Q _ => ∃ (F : Hp) (a : Addr) (ns : List Int), vs = [.ref a] ∧ Same F H ∧ SqL K F a (ns.map V.int) ∧ ns.length ≤ 1000 ∧
  ∀ (p pc : Addr) (H' F' : Hp) (ns' : List Int), Kept F H F' H' none [] → H p = none → F' p = none → ns'.length ≤ 60 → H' p = some (.lst [.ref pc, .int 0, .int 0]) → SqL K F' pc (ns'.map V.int) → Q (.ref p) H'
section
variable {P : Program} {w : World} {K : PySem.W.Frag} {mg : Str → Option Value} {base : Heap} {cls : Str → Option Addr}
theorem ok_one {f fd0 : Addr} {fd fdD : FuncData} {k : Nat} (F : Fun K "_law_one" "_law_one" sOne f fd) (FD : Fun K "_law_draw" "_law_draw" sDraw fd0 fdD) (bD : Binds K fdD ["well", "many"] []) (gD : mg "_law_draw" = some (.ref fd0)) (m_int : mg "int" = none) (m_abs : mg "abs" = none) (m_len : mg "len" = none) :
    FnOk P w K mg base CX0 (k + 2) f fd ["well", "some"] (spD K cls gOne) := by
  have GD : FnOk P w K mg base CX0 (k + 1) fd0 fdD ["well", "many"] (spD K cls gDraw) := ok_draw FD m_int m_abs m_len
  refine F.ok scO (fun vs H Q E h => len_of (n := 2) (fun ds c QD ⟨m, e, _⟩ => by rw [e]; rfl) h) (fun cdv A outer s H vs Q E hr h => ?_)
  refine ⟨_, (pss_one (ps_ret (pe_ix ix_list (pv 1) (pe_call GD hr (by rfl) gD FD.kp bD .nil pass0 (pa_cons (pv 0) (pa_cons (pe_callB call_len (by rfl) m_len PySem.boot_len (pa_cons (pv 1) pa_nil)) pa_nil))) (fun _ _ => rfl)))), body_of (fun pw B hio => (rs_ret (re_ixL (re_var (i := 1) hio) (re_call (E := E0) (ra_cons (re_var (i := 0) hio) (ra_cons (re_len (ra_cons (re_var (i := 1) hio) ra_nil)) ra_nil)))))) ?_ h⟩
  rintro ds c QD ⟨xs, rfl, h0, h1, h2, hq⟩
  refine ⟨Nat.le_refl 2, ?_⟩
  refine ⟨_, rfl, by omega, h2, fun k k0 hk => ?_⟩
  have hk' : k < (xs.length : Int) := by omega
  obtain ⟨j, rfl⟩ : ∃ j : Nat, k = (j : Int) := ⟨_, (Int.toNat_of_nonneg k0).symm⟩
  have hj : j < xs.length := by omega
  have e : atI xs (j : Int) = some xs[j] := atI_nat (List.getElem?_eq_getElem hj)
  exact gIxL_of e (hq _ (List.getElem_mem hj))
theorem ok_well {f : Addr} {fd : FuncData} {k : Nat} (F : Fun K "_law_well" "_law_well" sWell f fd) (m_int : mg "int" = none) : FnOk P w K mg base CX0 (k + 1) f fd ["script"] (spWell K cls) := by
  refine F.ok scW (fun vs H Q E ⟨F0, a, ns, e, _⟩ => by rw [e]; rfl) (fun cdv A outer s H vs Q E hr h => ?_)
  obtain ⟨F0, a, ns, rfl, ex, hS, hl, q⟩ := h
  have hio : (bs0 F0 H).io = [] := rfl
  refine ⟨_, pss_one (ps_ret (pe_lst (pa_cons (pe_lc rfl scW.nd (pi_seq (pe_slice sl_list (pv 0) po_none (po_some pe_int))) (own := [("cell", 1)]) (blkOk_by rfl) (fun _ _ _ _ _ => (pg_name (i := 1) scW.nd rfl (.inl rfl))) (fun _ _ _ _ _ => pts_nil) (fun _ _ _ _ _ => (pe_callTy call_int1 (by rfl) m_int (by decide +kernel) (pa_cons (pv 1) pa_nil)))) (pa_cons pe_int (pa_cons pe_int pa_nil))))), ?_⟩
  show tLst _ (start ["script", "cell"] [V.ref a]) H _
  refine RN.go (W := ⟨K, cls, none⟩) (B := bs0 F0 H) (F := F0) (ρ := ent 2 [.lst (ns.map D.int)] 0) (rn_lst (ra_cons (RN.re (rn_lc (is := [1]) (vs := [1]) (ri_seq (re_slL (re_var (i := 0) hio) ro_none (ro_some re_c))) (fun B hb => by have hio := hb.trans hio; exact (rg_name (i := 1))) (fun B hb => by have hio := hb.trans hio; exact rt_yes) (fun B hb => by have hio := hb.trans hio; exact (re_int (ra_cons (re_var (i := 1) hio) ra_nil))) (fun _ h => h))) (ra_cons re_c (ra_cons re_c ra_nil))))
    (rel_start (N := ["script", "cell"]) ex (.cons ⟨a, _, rfl, hS, denL_ints ns⟩ rfl) trivial (by show 1 ≤ 2; decide)) (fun ρ d => ∃ ns' : List Int, d = .lst [.lst (ns'.map D.int), .int 0, .int 0] ∧ ns'.length ≤ 60) (fun p H' F' ρ' d r sf n ⟨ns', e, hl'⟩ => ?_) ?_
  · subst e
    obtain ⟨xs, h1, x1, r1, e1, ⟨pc, ys, e2, hs2, hd2⟩, x2, r2, e3, e4, x3, r3, e5, e6, e7⟩ := n.own
    have e4 : x2 = .int 0 := e4
    have e6 : x3 = .int 0 := e6
    have e7 : r3 = [] := e7
    subst e1 e2 e3 e4 e5 e6 e7
    rw [denL_ints_inv hd2] at hs2
    exact q p pc H' F' ns' ⟨r.f0, r.ex, fun a o h1 h2 h3 => r.keep a o h1 h2 h3, fun a h1 h2 => r.new a h1 h2⟩ n.h0 n.fp hl' h1 hs2
  · have ec : cutD (ns.map D.int) none (some 60) = (ns.take 60).map D.int := by
      unfold cutD
      rw [show HT.sIx (ns.map D.int).length (ns.map D.int).length (some 60) = min 60 (ns.map D.int).length from HT.sIx_nat _ _ 60, HT.sIx_none]
      rw [List.drop_zero, Nat.sub_zero, ← List.map_take, List.length_map]
      congr 1
      rw [List.take_eq_take_iff]
      omega
    refine ⟨rfl, ?_⟩
    rw [ec]
    refine lc_ints (fun ρ n Q h q => ?_) (ns.take 60) _ [] (by show 1 < 2; decide) (by rw [List.length_take]; show 0 + _ ≤ sizeLine; rw [sizeLine_eq]; omega) fun ρ' _ _ => ?_
    · show dVar 1 ρ _
      unfold dVar
      rw [h]
      exact q
    · refine ⟨by show 3 ≤ sizeLine; decide, ns.take 60, rfl, by rw [List.length_take]; omega⟩
end
end DL

-- part K60C
set_option maxHeartbeats 4000000
/-! k60: kept -/
namespace DL
open PySem PySem.Spec PyProof.Rows L2
def gTupTh : D → Ev → (Ev → D → Prop) → Prop := fun x ρ Q => match x with
  | .lst xs => Q ρ (.tup xs)
  | .tup xs => Q ρ (.tup xs)
  | _ => False
theorem re_kTup {W : Wd} {B : Bs} {te : TE} {t : DE} (re : RE W B te t) : RE W B (tThen te (kTup W.K)) (fun ρ Q => t ρ fun ρ1 x => gTupTh x ρ1 Q) := by
  intro σ H F ρ Q R rl h k
  refine re σ H F ρ _ _ rl h fun x H1 F1 ρ1 dx r1 s1 d1 h1 => ?_
  unfold gTupTh at h1
  split at h1
  · obtain ⟨a, xs, rfl, hs, hd⟩ := d1
    refine .inl ⟨a, xs, rfl, same_sqL r1.ex hs, fun l hl => ?_⟩
    have st := Stp.one (o := .tup xs) r1.ex hl
    exact k _ _ _ ρ1 (.tup _) (r1.stp st) (s1.trans st.ff) ⟨l, xs, rfl, .inl (.inl upd_same), hd.mono st.ff⟩ h1
  · obtain ⟨a, xs, rfl, hs, hd⟩ := d1
    exact .inr ⟨a, xs, rfl, same_sqT r1.ex hs, k _ H1 F1 ρ1 (.tup _) r1 s1 ⟨a, xs, rfl, hs, hd⟩ h1⟩
  · exact h1.elim
def isLst : D → Option Bool
  | .non => some false | .bl _ => some false | .int _ => some false | .str _ => some false | .lst _ => some true | .tup _ => some false | .obj c _ _ => none | _ => none
def isTup : D → Option Bool
  | .non => some false | .bl _ => some false | .int _ => some false | .str _ => some false | .lst _ => some false | .tup _ => some true | .obj c _ _ => none | _ => none
theorem kok_lst {W : Wd} : KOk W isLst (.type "list") := fun d b h => by
  cases d <;> cases h <;> exact ⟨_, rfl, by kernel_rfl, fun F H v e dv => tyx_of e dv rfl⟩
theorem kok_tup {W : Wd} : KOk W isTup (.type "tuple") := fun d b h => by
  cases d <;> cases h <;> exact ⟨_, rfl, by kernel_rfl, fun F H v e dv => tyx_of e dv rfl⟩
mutual
def keptD : D → D
  | .lst xs => .tup (keptL xs)
  | .tup xs => .tup (keptL xs)
  | d => d
def keptL : List D → List D
  | [] => []
  | x :: xs => keptD x :: keptL xs
end
def okK : Nat → D → Bool
  | 0, _ => false
  | n + 1, .lst xs => xs.all (okK n) && decide (xs.length ≤ 1000)
  | n + 1, .tup xs => xs.all (okK n) && decide (xs.length ≤ 1000)
  | _ + 1, .non => true
  | _ + 1, .bl _ => true
  | _ + 1, .int _ => true
  | _ + 1, .str _ => true
  | _, _ => false
def gK (n : Nat) : GF := fun ds c Q => ∃ x, ds = [x] ∧ okK n x = true ∧ Q (keptD x) c
abbrev sKept : Stmt := topS 1
theorem scK : FnScope ["value", "one"] ["value"] (defScope sKept) := ⟨rfl, rfl, rfl, by decide +kernel, rfl, by decide +kernel, by decide +kernel⟩
theorem lc_kept {n i : Nat} {e : DE} {K : Ev → List D → Prop} (he : ∀ ρ d Q, ρ.sl[i]? = some (.v d) → okK n d = true → Q ρ (keptD d) → e ρ Q) :
    ∀ (ds : List D) (ρ : Ev) (acc : List D), i < ρ.sl.length → acc.length + ds.length ≤ sizeLine → ds.all (okK n) = true → (∀ ρ', ρ'.c = ρ.c → ρ'.sl.length = ρ.sl.length → K ρ' (acc ++ keptL ds)) → dLcL (dgName i) dYes e [i] ds ρ acc K
  | [], ρ, acc, hi, hl, ho, k => by
    show K ρ acc
    have := k ρ rfl rfl
    rw [show keptL [] = [] from by unfold keptL; rfl, List.append_nil] at this
    exact this
  | d :: ds, ρ, acc, hi, hl, ho, k => by
    show e ((ρ.wipe [i]).set i (.v d)) _
    have hlen : ((ρ.wipe [i]).set i (.v d)).sl.length = ρ.sl.length := by
      show ((wipeS ρ.sl [i]).set i _).length = _
      rw [List.length_set, wipeS_length]
    rw [List.all_cons, Bool.and_eq_true] at ho
    refine he _ d _ ?_ ho.1 ⟨by rw [List.length_cons] at hl; omega, ?_⟩
    · show ((wipeS ρ.sl [i]).set i _)[i]? = _
      rw [List.getElem?_set_self (by rw [wipeS_length]; exact hi)]
    · have hb : (ρ.back [i] ((ρ.wipe [i]).set i (.v d))).sl.length = ρ.sl.length := resS_length [i] 0 ρ.sl _ hlen
      refine lc_kept he ds _ _ (by rw [hb]; exact hi) (by rw [List.length_append, List.length_cons] at *; simp only [List.length_nil] at *; omega) ho.2 fun ρ' h1 h2 => ?_
      rw [List.append_assoc]
      have := k ρ' h1 (h2.trans hb)
      rw [show keptL (d :: ds) = keptD d :: keptL ds from by conv => lhs; unfold keptL] at this
      exact this
section
variable {P : Program} {w : World} {K : PySem.W.Frag} {mg : Str → Option Value} {base : Heap} {cls : Str → Option Addr}
theorem ok_kept {f : Addr} {fd : FuncData} (FK : Fun K "kept" "kept" sKept f fd) (bK : Binds K fd ["value"] []) (gK_ : mg "kept" = some (.ref f)) (m_isinstance : mg "isinstance" = none) (m_list : mg "list" = none) (m_tuple : mg "tuple" = none) :
    ∀ n, FnOk P w K mg base CX0 n f fd ["value"] (spD K cls (gK n))
  | 0 => ⟨fun vs H Q E h => len_of (n := 1) (fun ds c QD ⟨m, e, _⟩ => by rw [e]; rfl) h, fun _ _ _ _ _ _ _ _ _ _ _ _ _ ⟨_, _, _, _, _, _, _, _, ⟨_, _, z, _⟩, _⟩ => by cases z⟩
  | n + 1 => by
    have GK := ok_kept FK bK gK_ m_isinstance m_list m_tuple n
    refine FK.ok scK (fun vs H Q E h => len_of (n := 1) (fun ds c QD ⟨m, e, _⟩ => by rw [e]; rfl) h) (fun cdv A outer s H vs Q E hrk h => ?_)
    refine ⟨_, (pss_one (ps_ret (pe_ifExp (pt_val (pe_callB call_isiT (by rfl) m_isinstance (by decide +kernel) (pa_cons (pv 0) (pa_cons (pe_tup (pa_cons (pe_bltn (by rfl) m_list (by decide +kernel) (v := .ty "list") rfl) (pa_cons (pe_bltn (by rfl) m_tuple (by decide +kernel) (v := .ty "tuple") rfl) pa_nil))) pa_nil)))) (pe_tupleOf (by rfl) m_tuple (pe_lc rfl scK.nd (pi_seq (pv 0)) (own := [("one", 1)]) (blkOk_by rfl) (fun _ _ _ _ _ => (pg_name (i := 1) scK.nd rfl (.inl rfl))) (fun _ _ _ _ _ => pts_nil) (fun _ _ _ _ _ => (pe_call GK (by exact hrk) (by rfl) gK_ FK.kp bK .nil pass0 (pa_cons (pv 1) pa_nil))))) (pv 0)))), body_of (fun pw B hio => (rs_ret (re_if (rt_B (re_isi2 (re_val (i := 0)) (.ty "list") (.ty "tuple") (k1 := isLst) (k2 := isTup) kok_lst kok_tup)) (re_kTup (RN.re (rn_lc (is := [1]) (vs := [1]) (ri_seq (re_var (i := 0) hio)) (fun B hb => by have hio := hb.trans hio; exact (rg_name (i := 1))) (fun B hb => by have hio := hb.trans hio; exact rt_yes) (fun B hb => by have hio := hb.trans hio; exact (re_call (E := E0) (ra_cons (re_var (i := 1) hio) ra_nil))) (fun _ h => h)))) (re_var (i := 0) hio)))) ?_ h⟩
    rintro ds c QD ⟨x, rfl, ho, q⟩
    refine ⟨by show 1 ≤ 2; decide, ?_⟩
    have seq : ∀ xs : List D, (xs.all (okK n) && decide (xs.length ≤ 1000)) = true → ∀ (ρ : Ev), ρ.sl.length = 2 → ρ.c = c → QD (.tup (keptL xs)) c →
        dLcL (dgName 1) dYes (dCall (gK n) (dCons (dVar 1) dNil)) [1] xs ρ [] (fun ρ2 acc => QD (.tup acc) ρ2.c) := fun xs hx ρ hl hc hq => by
      rw [Bool.and_eq_true] at hx
      have hx2 := of_decide_eq_true hx.2
      refine lc_kept (fun ρ d Q h1 h2 h3 => ?_) xs ρ [] (by rw [hl]; decide) (by show 0 + _ ≤ sizeLine; rw [sizeLine_eq]; omega) hx.1 fun ρ' e1 _ => ?_
      · have : dVar 1 ρ (fun ρ1 x => gK n [x] ρ1.c fun d c' => Q (ρ1.cnt c') d) := by
          unfold dVar
          rw [h1]
          exact ⟨d, rfl, h2, h3⟩
        exact this
      · rw [e1, hc]; exact hq
    have ek : ∀ d : D, keptD d = match d with | .lst xs => .tup (keptL xs) | .tup xs => .tup (keptL xs) | d => d := fun d => by cases d <;> (conv => lhs; unfold keptD)
    rw [ek] at q
    cases x with
    | non => exact ⟨false, false, rfl, rfl, q⟩
    | bl b => exact ⟨false, false, rfl, rfl, q⟩
    | int i => exact ⟨false, false, rfl, rfl, q⟩
    | str z => exact ⟨false, false, rfl, rfl, q⟩
    | lst xs => exact ⟨true, false, rfl, rfl, rfl, seq xs ho _ rfl rfl q⟩
    | tup xs => exact ⟨false, true, rfl, rfl, rfl, seq xs ho _ rfl rfl q⟩
    | obj _ _ _ => cases ho
    | dic _ _ => cases ho
    | opq _ => cases ho
    | well => cases ho
end
end DL

-- part K60D
set_option maxHeartbeats 4000000
/-! k60: the papers are made -/
namespace DL
open PySem PySem.Spec PyProof.Rows L2
abbrev sPap : Stmt := inClass (topS 2) 0
theorem scP : FnScope ["self", "parts"] ([("self" : Str)] ++ [("parts" : Str)]) (defScope sPap) := ⟨rfl, rfl, rfl, by decide +kernel, rfl, by decide +kernel, by decide +kernel⟩
def gPap (nmOf : Str → Option Str) (n : Nat) : GI := fun cn ds c QD => ∃ xs nm, ds = [.tup xs] ∧ nmOf cn = some nm ∧ okK n (.tup xs) = true ∧ nm.length ≤ 5592405 ∧ QD ["word", "parts"] [.str (Txt.lower nm), .tup (keptL xs)] c
theorem dTnO_of {nmOf : Str → Option Str} {i : Nat} {c nm : Str} {ns : List Str} {ds : List D} {ρ : Ev} {Q : Ev → D → Prop} (h : getO ρ i = some (.obj c ns ds)) (e : nmOf c = some nm) (q : Q ρ (.str nm)) : dTnO nmOf i ρ Q := by
  unfold dTnO
  rw [h]
  simp only [e]
  exact q
theorem kept_tup (xs : List D) : keptD (.tup xs) = .tup (keptL xs) := by conv => lhs; unfold keptD
/-- a def with *parts -/
def spStar (K : PySem.W.Frag) (cls : Str → Option Addr) (G : GI) : Sp := fun vs H Q E => ∃ ws rest, vs = ws ++ rest ∧ ws.length = 1 ∧ rest.length ≤ sizeLine ∧ ∀ p, H p = none → spI K cls G (ws ++ [V.ref p]) (upd H p (.tup rest)) Q E
theorem lenI_of {K : PySem.W.Frag} {cls : Str → Option Addr} {G : GI} {n : Nat} {H : Hp} (hG : ∀ cn ds c QD, G cn ds c QD → ds.length = n) {vs : List V} {Q : VK} {E : XK} (h : spI K cls G vs H Q E) : vs.length = n + 1 := by
  obtain ⟨F, us, ds, c, cn, C, dx, p, pw, QD, rfl, ex, fp, hw, hp, hc, hd, w, g, k⟩ := h
  rw [List.length_cons, ← hd.length, hG _ _ _ _ g]
/-- what the written part tells of attributes -/
structure AttrT (K : PySem.W.Frag) (cls : Str → Option Addr) (fs : List Str) : Prop where
  cl : ∀ c C, cls c = some C → Cls K C
  no : ∀ f, f ∈ fs → ∀ c C, cls c = some C → NoAttr K C f
/-- a def that closes over its class D -/
structure SupD (P : Program) (K : PySem.W.Frag) (mg : Str → Option Value) (qual : Str) (st : Stmt) (f D : Addr) (fd : FuncData) : Prop where
  ex : ∃ (oc : Value) (od : Option Addr) (kV doc pm : Value) (an : Option Addr) (cda : Addr) (ct : Value) (osl : Array (Option Value)) (cc : Addr) (cl : Value) (cld : Option Addr) (csl : Array (Option Value)) (cdD : ClassData) (ccl : Value) (cdd : Option Addr) (vs : Array Value) (ccs : Array (Option Value)) (file : Str) (tf : Tok),
    fd = PySem.W.fnX "__init__" qual (defArgs st) (defBody st) (defScope st) [("__class__", cc)] .none kV doc pm an (.ref cda) ct ∧ K.lookup f = some ⟨oc, od, .func fd, osl⟩ ∧ PySem.W.codeIn K (.ref cda) qual = true ∧
    K.lookup cda = some ⟨ccl, cdd, .fields vs, ccs⟩ ∧ vs[2]? = some (.str file tf) ∧ ((P.main.file : Str) == file) = true ∧ K.lookup cc = some ⟨cl, cld, .cell (some (.ref D)), csl⟩ ∧ PySem.W.clsIn K D = some cdD
  ms : mg "super" = none
  top : (P.main.scope.names.lookup ("super" : Str)).isSome = false
  no : PySem.W.nsIn K cStatics "thirdparty.any" = some none
/-- above D stands fP -/
structure SupC (K : PySem.W.Frag) (cls : Str → Option Addr) (tag : Str) (D fP : Addr) : Prop where
  ty : PySem.W.typeIn K (.ref fP) = some (.type "function")
  fn : PySem.W.fnIn K fP = true
  cl : ∀ C, cls tag = some C → PySem.W.mroIn K C (.ref D) = some true ∧ PySem.W.ks_superIn K C D "__init__" = some (some (.ref fP))
section
variable {P : Program} {w : World} {K : PySem.W.Frag} {mg : Str → Option Value} {base : Heap}
theorem ok_pap {cls : Str → Option Addr} {nmOf : Str → Option Str} {f fk : Addr} {fd fdk : FuncData} {n : Nat} (F : Fun K "__init__" "Paper.__init__" sPap f fd) (GK : FnOk P w K mg base CX0 n fk fdk ["value"] (spD K cls (gK n))) (FK : Fun K "kept" "kept" sKept fk fdk) (bK : Binds K fdk ["value"] []) (gK_ : mg "kept" = some (.ref fk))
    (m_type : mg "type" = none) (hn : ∀ c C nm, cls c = some C → nmOf c = some nm → CName K C nm) (T : AttrT K cls ["word", "parts"]) : FnR P w K mg base CX0 (n + 1) f (spStar K cls (gPap nmOf n)) := by
  obtain ⟨oc, od, kV, doc, pm, an, cdv, ct, osl, rfl, lk, hcd⟩ := F.ex
  refine StX.fn_star (ps := ["self"]) (pv := "parts") lk hcd scP StX.cxUp_none (fun us rest hl => match us, hl with | [_], _ => by cases rest <;> rfl) (fun A outer s H vs Q E hr h => ?_)
  refine ⟨_, pss_cons (ps_fld (pv 0) (pe_lower (pe_tname (pv 0) (by rfl) m_type)) rfl) (pss_one (ps_fld (pv 0) (pe_call GK hr (by rfl) gK_ FK.kp bK .nil pass0 (pa_cons (pv 1) pa_nil)) rfl)), ?_⟩
  refine bodyI_of (G := gPap nmOf n) (fun pw B p hio => rsi_seq (rsi_setA (re_lower (re_tnO hn)) T.cl (T.no _ (by decide +kernel))) (rsi_setA (re_call (E := E0) (ra_cons (re_val (i := 1)) ra_nil)) T.cl (T.no _ (by decide +kernel)))) ?_ h
  rintro cn ds c QD ⟨xs, nm, rfl, hnm, ho, hl, q⟩
  refine ⟨by show 2 ≤ 2; decide, ?_⟩
  unfold dSeq dSetA dLower
  dsimp only
  refine dTnO_of (i := 0) (ρ := entI 2 cn [.tup xs] c) (ns := []) (ds := []) rfl hnm ?_
  refine ⟨hl, rfl, by show 0 < 1000; decide, .tup xs, rfl, ho, ?_⟩
  rw [kept_tup]
  exact ⟨by decide +kernel, by show 1 < 1000; decide, _, _, rfl, q⟩

abbrev sHolds : Stmt := inClass (topS 5) 0
theorem scHolds : FnScopeS ["self", "family"] ["self", "family"] (defScope sHolds) := ⟨rfl, rfl, rfl, by decide +kernel, rfl, by decide +kernel, by decide +kernel, by decide +kernel⟩
def gHolds (nmOf : Str → Option Str) (n : Nat) : GI := fun cn ds c QD => ∃ x nm, ds = [x] ∧ cn = "Holds" ∧ nmOf cn = some nm ∧ okK n (.tup [x]) = true ∧ nm.length ≤ 5592405 ∧ QD ["word", "parts", "family"] [.str (Txt.lower nm), .tup [keptD x], keptD x] c
theorem ok_Holds {f fP D : Addr} {fd : FuncData} {cls : Str → Option Addr} {nmOf : Str → Option Str} {n : Nat} (S : SupD P K mg "Holds.__init__" sHolds f D fd) (SC : SupC K cls "Holds" D fP) (T : AttrT K cls ["word", "parts", "family"])
    (FP : FnR P w K mg base CX0 (n + 1) fP (spStar K cls (gPap nmOf n))) : FnOk P w K mg base CX0 (n + 2) f fd ["self", "family"] (spI K cls (gHolds nmOf n)) := by
  obtain ⟨oc, od, kV, doc, pm, an, cda, ct, osl, cc, cl, cld, csl, cdD, ccl, cdd, vs, ccs, file, tf, rfl, lk, hcd, lcd, hvs, hfile, lcc, hD⟩ := S.ex
  refine fn_sup lk hcd scHolds lcc rfl (fun vs H Q E h => lenI_of (n := 1) (fun cn ds c QD ⟨x, nm, e, _⟩ => by rw [e]; rfl) h) (fun A outer s H vs Q E hr h => ?_)
  refine ⟨_, _, ps_super (sp := spStar K cls (gPap nmOf n)) (E := E0) rfl rfl rfl rfl rfl lk rfl rfl rfl lcd hvs hfile rfl lcc hD S.ms S.top S.no FP hr SC.ty SC.fn pass0 (pa_cons (pv 1) pa_nil) (by decide +kernel), pss_one (ps_fld (pv 0) (pe_ix ix_tup (pe_fld (pv 0) rfl) pe_int (fun _ _ => rfl)) rfl), ?_⟩
  refine bodyI_of (G := gHolds nmOf n) (fun pw B p hio => rsi_seq (rsi_sup (okc := fun c => c == ("Holds" : Str)) (fun vs H Q E h => star_of h) (ra_cons (re_val (i := 1)) ra_nil) (fun c C hc ho => SC.cl C (by rw [← beq_iff_eq.mp ho]; exact hc))) (rsi_setA (re_ixT (re_fldO T.cl (T.no _ (by decide +kernel))) re_c) T.cl (T.no _ (by decide +kernel)))) ?_ h
  rintro cn ds c QD ⟨x, nm, rfl, rfl, hn, ho, hl, q⟩
  refine ⟨by show 2 ≤ 2; decide, beq_self_eq_true _, ?_⟩
  refine ⟨by show 1 ≤ sizeLine; decide, [x], nm, rfl, hn, ho, hl, ?_⟩
  exact ⟨rfl, by show 2 < 1000; decide, _, _, rfl, q⟩

abbrev sBreaks : Stmt := inClass (topS 6) 0
theorem scBreaks : FnScopeS ["self", "pieces"] ["self", "pieces"] (defScope sBreaks) := ⟨rfl, rfl, rfl, by decide +kernel, rfl, by decide +kernel, by decide +kernel, by decide +kernel⟩
def gBreaks (nmOf : Str → Option Str) (n : Nat) : GI := fun cn ds c QD => ∃ x nm, ds = [x] ∧ cn = "Breaks" ∧ nmOf cn = some nm ∧ okK n (.tup [x]) = true ∧ nm.length ≤ 5592405 ∧ QD ["word", "parts", "pieces"] [.str (Txt.lower nm), .tup [keptD x], keptD x] c
theorem ok_Breaks {f fP D : Addr} {fd : FuncData} {cls : Str → Option Addr} {nmOf : Str → Option Str} {n : Nat} (S : SupD P K mg "Breaks.__init__" sBreaks f D fd) (SC : SupC K cls "Breaks" D fP) (T : AttrT K cls ["word", "parts", "pieces"])
    (FP : FnR P w K mg base CX0 (n + 1) fP (spStar K cls (gPap nmOf n))) : FnOk P w K mg base CX0 (n + 2) f fd ["self", "pieces"] (spI K cls (gBreaks nmOf n)) := by
  obtain ⟨oc, od, kV, doc, pm, an, cda, ct, osl, cc, cl, cld, csl, cdD, ccl, cdd, vs, ccs, file, tf, rfl, lk, hcd, lcd, hvs, hfile, lcc, hD⟩ := S.ex
  refine fn_sup lk hcd scBreaks lcc rfl (fun vs H Q E h => lenI_of (n := 1) (fun cn ds c QD ⟨x, nm, e, _⟩ => by rw [e]; rfl) h) (fun A outer s H vs Q E hr h => ?_)
  refine ⟨_, _, ps_super (sp := spStar K cls (gPap nmOf n)) (E := E0) rfl rfl rfl rfl rfl lk rfl rfl rfl lcd hvs hfile rfl lcc hD S.ms S.top S.no FP hr SC.ty SC.fn pass0 (pa_cons (pv 1) pa_nil) (by decide +kernel), pss_one (ps_fld (pv 0) (pe_ix ix_tup (pe_fld (pv 0) rfl) pe_int (fun _ _ => rfl)) rfl), ?_⟩
  refine bodyI_of (G := gBreaks nmOf n) (fun pw B p hio => rsi_seq (rsi_sup (okc := fun c => c == ("Breaks" : Str)) (fun vs H Q E h => star_of h) (ra_cons (re_val (i := 1)) ra_nil) (fun c C hc ho => SC.cl C (by rw [← beq_iff_eq.mp ho]; exact hc))) (rsi_setA (re_ixT (re_fldO T.cl (T.no _ (by decide +kernel))) re_c) T.cl (T.no _ (by decide +kernel)))) ?_ h
  rintro cn ds c QD ⟨x, nm, rfl, rfl, hn, ho, hl, q⟩
  refine ⟨by show 2 ≤ 2; decide, beq_self_eq_true _, ?_⟩
  refine ⟨by show 1 ≤ sizeLine; decide, [x], nm, rfl, hn, ho, hl, ?_⟩
  exact ⟨rfl, by show 2 < 1000; decide, _, _, rfl, q⟩

abbrev sChecked : Stmt := inClass (topS 12) 0
theorem scChecked : FnScopeS ["self", "family"] ["self", "family"] (defScope sChecked) := ⟨rfl, rfl, rfl, by decide +kernel, rfl, by decide +kernel, by decide +kernel, by decide +kernel⟩
def gChecked (nmOf : Str → Option Str) (n : Nat) : GI := fun cn ds c QD => ∃ x nm, ds = [x] ∧ cn = "Checked" ∧ nmOf cn = some nm ∧ okK n (.tup [x]) = true ∧ nm.length ≤ 5592405 ∧ QD ["word", "parts", "family"] [.str (Txt.lower nm), .tup [keptD x], keptD x] c
theorem ok_Checked {f fP D : Addr} {fd : FuncData} {cls : Str → Option Addr} {nmOf : Str → Option Str} {n : Nat} (S : SupD P K mg "Checked.__init__" sChecked f D fd) (SC : SupC K cls "Checked" D fP) (T : AttrT K cls ["word", "parts", "family"])
    (FP : FnR P w K mg base CX0 (n + 1) fP (spStar K cls (gPap nmOf n))) : FnOk P w K mg base CX0 (n + 2) f fd ["self", "family"] (spI K cls (gChecked nmOf n)) := by
  obtain ⟨oc, od, kV, doc, pm, an, cda, ct, osl, cc, cl, cld, csl, cdD, ccl, cdd, vs, ccs, file, tf, rfl, lk, hcd, lcd, hvs, hfile, lcc, hD⟩ := S.ex
  refine fn_sup lk hcd scChecked lcc rfl (fun vs H Q E h => lenI_of (n := 1) (fun cn ds c QD ⟨x, nm, e, _⟩ => by rw [e]; rfl) h) (fun A outer s H vs Q E hr h => ?_)
  refine ⟨_, _, ps_super (sp := spStar K cls (gPap nmOf n)) (E := E0) rfl rfl rfl rfl rfl lk rfl rfl rfl lcd hvs hfile rfl lcc hD S.ms S.top S.no FP hr SC.ty SC.fn pass0 (pa_cons (pv 1) pa_nil) (by decide +kernel), pss_one (ps_fld (pv 0) (pe_ix ix_tup (pe_fld (pv 0) rfl) pe_int (fun _ _ => rfl)) rfl), ?_⟩
  refine bodyI_of (G := gChecked nmOf n) (fun pw B p hio => rsi_seq (rsi_sup (okc := fun c => c == ("Checked" : Str)) (fun vs H Q E h => star_of h) (ra_cons (re_val (i := 1)) ra_nil) (fun c C hc ho => SC.cl C (by rw [← beq_iff_eq.mp ho]; exact hc))) (rsi_setA (re_ixT (re_fldO T.cl (T.no _ (by decide +kernel))) re_c) T.cl (T.no _ (by decide +kernel)))) ?_ h
  rintro cn ds c QD ⟨x, nm, rfl, rfl, hn, ho, hl, q⟩
  refine ⟨by show 2 ≤ 2; decide, beq_self_eq_true _, ?_⟩
  refine ⟨by show 1 ≤ sizeLine; decide, [x], nm, rfl, hn, ho, hl, ?_⟩
  exact ⟨rfl, by show 2 < 1000; decide, _, _, rfl, q⟩

abbrev sGuards : Stmt := inClass (topS 8) 0
theorem scGuards : FnScopeS ["self", "least", "greatest"] ["self", "least", "greatest"] (defScope sGuards) := ⟨rfl, rfl, rfl, by decide +kernel, rfl, by decide +kernel, by decide +kernel, by decide +kernel⟩
def gGuards (nmOf : Str → Option Str) (n : Nat) : GI := fun cn ds c QD => ∃ x y nm, ds = [x, y] ∧ cn = "Guards" ∧ nmOf cn = some nm ∧ okK n (.tup [x, y]) = true ∧ nm.length ≤ 5592405 ∧ QD ["word", "parts", "least", "greatest"] [.str (Txt.lower nm), .tup [keptD x, keptD y], keptD x, keptD y] c
theorem ok_Guards {f fP D : Addr} {fd : FuncData} {cls : Str → Option Addr} {nmOf : Str → Option Str} {n : Nat} (S : SupD P K mg "Guards.__init__" sGuards f D fd) (SC : SupC K cls "Guards" D fP) (T : AttrT K cls ["word", "parts", "least", "greatest"])
    (FP : FnR P w K mg base CX0 (n + 1) fP (spStar K cls (gPap nmOf n))) : FnOk P w K mg base CX0 (n + 2) f fd ["self", "least", "greatest"] (spI K cls (gGuards nmOf n)) := by
  obtain ⟨oc, od, kV, doc, pm, an, cda, ct, osl, cc, cl, cld, csl, cdD, ccl, cdd, vs, ccs, file, tf, rfl, lk, hcd, lcd, hvs, hfile, lcc, hD⟩ := S.ex
  refine fn_sup lk hcd scGuards lcc rfl (fun vs H Q E h => lenI_of (n := 2) (fun cn ds c QD ⟨x, y, nm, e, _⟩ => by rw [e]; rfl) h) (fun A outer s H vs Q E hr h => ?_)
  refine ⟨_, _, ps_super (sp := spStar K cls (gPap nmOf n)) (E := E0) rfl rfl rfl rfl rfl lk rfl rfl rfl lcd hvs hfile rfl lcc hD S.ms S.top S.no FP hr SC.ty SC.fn pass0 (pa_cons (pv 1) (pa_cons (pv 2) pa_nil)) (by decide +kernel),
    pss_one (ps_asg (pe_fld (pv 0) rfl) (pg_tup rfl (pgs_cons (pg_fld (pv 0)) (pgs_cons (pg_fld (pv 0)) pgs_nil)))), ?_⟩
  refine bodyI_of (G := gGuards nmOf n) (fun pw B p hio => rsi_seq (rsi_sup (okc := fun c => c == ("Guards" : Str)) (fun vs H Q E h => star_of h) (ra_cons (re_val (i := 1)) (ra_cons (re_val (i := 2)) ra_nil)) (fun c C hc ho => SC.cl C (by rw [← beq_iff_eq.mp ho]; exact hc))) (rsi_unp2 (re_fldO T.cl (T.no _ (by decide +kernel))) T.cl (T.no _ (by decide +kernel)) (T.no _ (by decide +kernel)))) ?_ h
  rintro cn ds c QD ⟨x, y, nm, rfl, rfl, hn, ho, hl, q⟩
  refine ⟨by show 3 ≤ 3; decide, beq_self_eq_true _, ?_⟩
  refine ⟨by show 2 ≤ sizeLine; decide, [x, y], nm, rfl, hn, ho, hl, ?_⟩
  exact ⟨by decide +kernel, by decide +kernel, by show 2 < 900; decide, _, _, rfl, q⟩

abbrev sSoonest : Stmt := inClass (topS 10) 0
theorem scSoonest : FnScopeS ["self", "pieces", "layers"] ["self", "pieces", "layers"] (defScope sSoonest) := ⟨rfl, rfl, rfl, by decide +kernel, rfl, by decide +kernel, by decide +kernel, by decide +kernel⟩
def gSoonest (nmOf : Str → Option Str) (n : Nat) : GI := fun cn ds c QD => ∃ x y nm, ds = [x, y] ∧ cn = "Soonest" ∧ nmOf cn = some nm ∧ okK n (.tup [x, y]) = true ∧ nm.length ≤ 5592405 ∧ QD ["word", "parts", "pieces", "layers"] [.str (Txt.lower nm), .tup [keptD x, keptD y], keptD x, keptD y] c
theorem ok_Soonest {f fP D : Addr} {fd : FuncData} {cls : Str → Option Addr} {nmOf : Str → Option Str} {n : Nat} (S : SupD P K mg "Soonest.__init__" sSoonest f D fd) (SC : SupC K cls "Soonest" D fP) (T : AttrT K cls ["word", "parts", "pieces", "layers"])
    (FP : FnR P w K mg base CX0 (n + 1) fP (spStar K cls (gPap nmOf n))) : FnOk P w K mg base CX0 (n + 2) f fd ["self", "pieces", "layers"] (spI K cls (gSoonest nmOf n)) := by
  obtain ⟨oc, od, kV, doc, pm, an, cda, ct, osl, cc, cl, cld, csl, cdD, ccl, cdd, vs, ccs, file, tf, rfl, lk, hcd, lcd, hvs, hfile, lcc, hD⟩ := S.ex
  refine fn_sup lk hcd scSoonest lcc rfl (fun vs H Q E h => lenI_of (n := 2) (fun cn ds c QD ⟨x, y, nm, e, _⟩ => by rw [e]; rfl) h) (fun A outer s H vs Q E hr h => ?_)
  refine ⟨_, _, ps_super (sp := spStar K cls (gPap nmOf n)) (E := E0) rfl rfl rfl rfl rfl lk rfl rfl rfl lcd hvs hfile rfl lcc hD S.ms S.top S.no FP hr SC.ty SC.fn pass0 (pa_cons (pv 1) (pa_cons (pv 2) pa_nil)) (by decide +kernel),
    pss_one (ps_asg (pe_fld (pv 0) rfl) (pg_tup rfl (pgs_cons (pg_fld (pv 0)) (pgs_cons (pg_fld (pv 0)) pgs_nil)))), ?_⟩
  refine bodyI_of (G := gSoonest nmOf n) (fun pw B p hio => rsi_seq (rsi_sup (okc := fun c => c == ("Soonest" : Str)) (fun vs H Q E h => star_of h) (ra_cons (re_val (i := 1)) (ra_cons (re_val (i := 2)) ra_nil)) (fun c C hc ho => SC.cl C (by rw [← beq_iff_eq.mp ho]; exact hc))) (rsi_unp2 (re_fldO T.cl (T.no _ (by decide +kernel))) T.cl (T.no _ (by decide +kernel)) (T.no _ (by decide +kernel)))) ?_ h
  rintro cn ds c QD ⟨x, y, nm, rfl, rfl, hn, ho, hl, q⟩
  refine ⟨by show 3 ≤ 3; decide, beq_self_eq_true _, ?_⟩
  refine ⟨by show 2 ≤ sizeLine; decide, [x, y], nm, rfl, hn, ho, hl, ?_⟩
  exact ⟨by decide +kernel, by decide +kernel, by show 2 < 900; decide, _, _, rfl, q⟩

abbrev sBroken : Stmt := inClass (topS 13) 0
theorem scBroken : FnScopeS ["self", "family", "rows"] ["self", "family", "rows"] (defScope sBroken) := ⟨rfl, rfl, rfl, by decide +kernel, rfl, by decide +kernel, by decide +kernel, by decide +kernel⟩
def gBroken (nmOf : Str → Option Str) (n : Nat) : GI := fun cn ds c QD => ∃ x y nm, ds = [x, y] ∧ cn = "Broken" ∧ nmOf cn = some nm ∧ okK n (.tup [x, y]) = true ∧ nm.length ≤ 5592405 ∧ QD ["word", "parts", "family", "rows"] [.str (Txt.lower nm), .tup [keptD x, keptD y], keptD x, keptD y] c
theorem ok_Broken {f fP D : Addr} {fd : FuncData} {cls : Str → Option Addr} {nmOf : Str → Option Str} {n : Nat} (S : SupD P K mg "Broken.__init__" sBroken f D fd) (SC : SupC K cls "Broken" D fP) (T : AttrT K cls ["word", "parts", "family", "rows"])
    (FP : FnR P w K mg base CX0 (n + 1) fP (spStar K cls (gPap nmOf n))) : FnOk P w K mg base CX0 (n + 2) f fd ["self", "family", "rows"] (spI K cls (gBroken nmOf n)) := by
  obtain ⟨oc, od, kV, doc, pm, an, cda, ct, osl, cc, cl, cld, csl, cdD, ccl, cdd, vs, ccs, file, tf, rfl, lk, hcd, lcd, hvs, hfile, lcc, hD⟩ := S.ex
  refine fn_sup lk hcd scBroken lcc rfl (fun vs H Q E h => lenI_of (n := 2) (fun cn ds c QD ⟨x, y, nm, e, _⟩ => by rw [e]; rfl) h) (fun A outer s H vs Q E hr h => ?_)
  refine ⟨_, _, ps_super (sp := spStar K cls (gPap nmOf n)) (E := E0) rfl rfl rfl rfl rfl lk rfl rfl rfl lcd hvs hfile rfl lcc hD S.ms S.top S.no FP hr SC.ty SC.fn pass0 (pa_cons (pv 1) (pa_cons (pv 2) pa_nil)) (by decide +kernel),
    pss_one (ps_asg (pe_fld (pv 0) rfl) (pg_tup rfl (pgs_cons (pg_fld (pv 0)) (pgs_cons (pg_fld (pv 0)) pgs_nil)))), ?_⟩
  refine bodyI_of (G := gBroken nmOf n) (fun pw B p hio => rsi_seq (rsi_sup (okc := fun c => c == ("Broken" : Str)) (fun vs H Q E h => star_of h) (ra_cons (re_val (i := 1)) (ra_cons (re_val (i := 2)) ra_nil)) (fun c C hc ho => SC.cl C (by rw [← beq_iff_eq.mp ho]; exact hc))) (rsi_unp2 (re_fldO T.cl (T.no _ (by decide +kernel))) T.cl (T.no _ (by decide +kernel)) (T.no _ (by decide +kernel)))) ?_ h
  rintro cn ds c QD ⟨x, y, nm, rfl, rfl, hn, ho, hl, q⟩
  refine ⟨by show 3 ≤ 3; decide, beq_self_eq_true _, ?_⟩
  refine ⟨by show 2 ≤ sizeLine; decide, [x, y], nm, rfl, hn, ho, hl, ?_⟩
  exact ⟨by decide +kernel, by decide +kernel, by show 2 < 900; decide, _, _, rfl, q⟩

end
end DL

-- part K60E
set_option maxHeartbeats 4000000
/-! k60: == and bool of papers -/
namespace DL
open PySem PySem.Spec PyProof.Rows L2
abbrev sEq : Stmt := inClass (topS 2) 2
abbrev sBoolP : Stmt := inClass (topS 2) 1
abbrev sBoolD : Stmt := inClass (topS 3) 0
theorem scE : FnScope ["self", "other"] ["self", "other"] (defScope sEq) := ⟨rfl, rfl, rfl, by decide +kernel, rfl, by decide +kernel, by decide +kernel⟩
theorem scBP : FnScope ["self"] ["self"] (defScope sBoolP) := ⟨rfl, rfl, rfl, by decide +kernel, rfl, by decide +kernel, by decide +kernel⟩
theorem scBD : FnScope ["self"] ["self"] (defScope sBoolD) := ⟨rfl, rfl, rfl, by decide +kernel, rfl, by decide +kernel, by decide +kernel⟩
/-- papers alike -/
def eqP (isP : Str → Option Bool) : D → D → Option Bool
  | .obj _ (n1 :: n2 :: _) (a :: b :: _), .obj c' (m1 :: m2 :: _) (a' :: b' :: _) => bif n1 == ("word" : Str) && n2 == ("parts" : Str) && m1 == ("word" : Str) && m2 == ("parts" : Str) && (isP c' == some true) then (match eqD a a' with | some false => some false | some true => eqD b b' | none => none) else none
  | .obj _ _ _, .tup _ => some false
  | _, _ => none
def gEqP (isP : Str → Option Bool) : GF := fun ds c Q => ∃ x y b, ds = [x, y] ∧ eqP isP x y = some b ∧ Q (.bl b) c
section
variable {P : Program} {w : World} {K : PySem.W.Frag} {mg : Str → Option Value} {base : Heap} {cls : Str → Option Addr}
theorem ok_boolP {f : Addr} {fd : FuncData} {k : Nat} (F : Fun K "__bool__" "Paper.__bool__" sBoolP f fd) : FnOk P w K mg base CX0 (k + 1) f fd ["self"] (spD K cls (gB true)) := by
  refine F.ok scBP (fun vs H Q E h => len_of (n := 1) (fun ds c QD ⟨x, e, _⟩ => by rw [e]; rfl) h) (fun cdv A outer s H vs Q E hr h => ?_)
  refine ⟨_, pss_one (ps_ret pe_bl), body_of (fun pw B hio => rs_ret re_c) ?_ h⟩
  rintro ds c QD ⟨x, rfl, q⟩
  exact ⟨by show 1 ≤ 1; decide, q⟩
theorem ok_boolD {f : Addr} {fd : FuncData} {k : Nat} (F : Fun K "__bool__" "Denial.__bool__" sBoolD f fd) : FnOk P w K mg base CX0 (k + 1) f fd ["self"] (spD K cls (gB false)) := by
  refine F.ok scBD (fun vs H Q E h => len_of (n := 1) (fun ds c QD ⟨x, e, _⟩ => by rw [e]; rfl) h) (fun cdv A outer s H vs Q E hr h => ?_)
  refine ⟨_, pss_one (ps_ret pe_bl), body_of (fun pw B hio => rs_ret re_c) ?_ h⟩
  rintro ds c QD ⟨x, rfl, q⟩
  exact ⟨by show 1 ≤ 1; decide, q⟩
theorem ok_eq {f CP : Addr} {fd : FuncData} {k : Nat} {isP : Str → Option Bool} (F : Fun K "__eq__" "Paper.__eq__" sEq f fd) (m_isinstance : mg "isinstance" = none) (gPaper : mg "Paper" = some (.ref CP)) (kP : ∀ {pw}, KOk ⟨K, cls, pw⟩ (isSubD isP) (.ref CP)) (T : AttrT K cls ["word", "parts"]) :
    FnOk P w K mg base CX0 (k + 1) f fd ["self", "other"] (spD K cls (gEqP isP)) := by
  refine F.ok scE (fun vs H Q E h => len_of (n := 2) (fun ds c QD ⟨x, y, b, e, _⟩ => by rw [e]; rfl) h) (fun cdv A outer s H vs Q E hr h => ?_)
  have hu := hr.units
  refine ⟨_, (pss_one (ps_ret (pe_and (pe_callB call_isi (by rfl) m_isinstance (by decide +kernel) (pa_cons (pv 1) (pa_cons (pe_glob (by rfl) gPaper (v := .ref CP) rfl) pa_nil))) (pe_and (pe_cmpR (op_eqD hu) (pe_fld (pv 0) rfl) (pe_fld (pv 1) rfl) (nomark _)) (pe_one (pe_cmpR (op_eqD hu) (pe_fld (pv 0) rfl) (pe_fld (pv 1) rfl) (nomark _))))))), body_of (fun pw B hio => (rs_ret (re_andV (re_isi (re_var (i := 1) hio) (.own CP) (k := isSubD isP) kP) (re_andV (re_eqD (re_fld (re_var (i := 0) hio) T.cl (T.no _ (by decide +kernel))) (re_fld (re_var (i := 1) hio) T.cl (T.no _ (by decide +kernel)))) (re_eqD (re_fld (re_var (i := 0) hio) T.cl (T.no _ (by decide +kernel))) (re_fld (re_var (i := 1) hio) T.cl (T.no _ (by decide +kernel)))))))) ?_ h⟩
  rintro ds c QD ⟨x, y, b, rfl, he, q⟩
  refine ⟨by show 2 ≤ 2; decide, ?_⟩
  unfold eqP at he
  split at he
  · rename_i c1 n1 n2 nr a1 b1 dr c2 m1 m2 mr a2 b2 er
    cases hc : (n1 == ("word" : Str) && n2 == ("parts" : Str) && m1 == ("word" : Str) && m2 == ("parts" : Str) && (isP c2 == some true)) with
    | false => rw [hc] at he; cases he
    | true =>
      rw [hc] at he
      simp only [Bool.and_eq_true, beq_iff_eq] at hc
      obtain ⟨⟨⟨⟨rfl, rfl⟩, rfl⟩, rfl⟩, h5⟩ := hc
      refine ⟨true, h5, ?_⟩
      cases e1 : eqD a1 a2 with
      | none => rw [e1] at he; cases he
      | some v =>
        rw [e1] at he
        cases v with
        | false =>
          cases he
          exact ⟨false, e1, q⟩
        | true => exact ⟨true, e1, b, he, q⟩
  · rename_i c1 ns ds xs
    cases he
    exact ⟨false, rfl, q⟩
  · cases he
end
end DL

-- part K60L
set_option maxHeartbeats 4000000
/-! k60: the plain law: what the trees are, told by evaluation -/
namespace DL
open PySem PySem.Spec PyProof.Rows L2
def nmOf (c : Str) : Option Str := bif [("Holds" : Str), "Breaks", "Guards", "Checked", "Broken", "Soonest"].contains c then some c else none
def isP (c : Str) : Option Bool := bif [("Holds" : Str), "Breaks", "Guards", "Checked", "Broken", "Soonest"].contains c then some true else none
def isD (c : Str) : Option Bool := bif [("Breaks" : Str), "Broken", "Soonest"].contains c then some true else bif [("Holds" : Str), "Guards", "Checked"].contains c then some false else none
def bOf (c : Str) : Option Bool := (isD c).map (!·)
def six : List D := [.int 1, .str "a", .non, .tup [.int 2, .int 3], .int (-4), .tup [.str "x", .tup [.int 5]]]
example : keptD (.lst [.int 1]) = .tup [.int 1] := rfl
def mk1 (n p : Str) (x : D) : D := .obj n ["word", "parts", p] [.str (Txt.lower n), .tup [keptD x], keptD x]
def mk2 (n p q : Str) (x y : D) : D := .obj n ["word", "parts", p, q] [.str (Txt.lower n), .tup [keptD x, keptD y], keptD x, keptD y]
abbrev X1 (d0 d1 d2 : D) : D := .lst [d0, .lst [d1]]
abbrev X2 (d0 d1 d2 : D) : D := .lst [.lst [d0], d2]
abbrev P1 (d0 d1 d2 : D) : D := mk1 "Holds" "family" (.lst [d0, .lst [d1]])
abbrev P2 (d0 d1 d2 : D) : D := mk1 "Breaks" "pieces" (.lst [.lst [d0], d2])
abbrev P3 (d0 d1 d2 : D) : D := mk2 "Guards" "least" "greatest" d0 (.lst [d1])
abbrev P4 (d0 d1 d2 : D) : D := mk1 "Checked" "family" d2
abbrev P5 (d0 d1 d2 : D) : D := mk2 "Broken" "family" "rows" d1 (.lst [d0])
abbrev P6 (d0 d1 d2 : D) : D := mk2 "Soonest" "pieces" "layers" d2 (.lst [.lst [d1]])
abbrev A1 (d0 d1 d2 : D) : D := mk1 "Holds" "family" (.tup [d0, .tup [d1]])
abbrev A2 (d0 d1 d2 : D) : D := mk1 "Breaks" "pieces" (.tup [.tup [d0], d2])
abbrev A3 (d0 d1 d2 : D) : D := mk2 "Guards" "least" "greatest" d0 (.tup [d1])
abbrev A4 (d0 d1 d2 : D) : D := mk1 "Checked" "family" d2
abbrev A5 (d0 d1 d2 : D) : D := mk2 "Broken" "family" "rows" d1 (.tup [d0])
abbrev A6 (d0 d1 d2 : D) : D := mk2 "Soonest" "pieces" "layers" d2 (.tup [.tup [d1]])
theorem ok1 : ∀ d0 ∈ six, ∀ d1 ∈ six, okK 8 (.tup [.lst [d0, .lst [d1]]]) = true := by decide +kernel
theorem ok2 : ∀ d0 ∈ six, ∀ d2 ∈ six, okK 8 (.tup [.lst [.lst [d0], d2]]) = true := by decide +kernel
theorem ok3 : ∀ d0 ∈ six, ∀ d1 ∈ six, okK 8 (.tup [d0, .lst [d1]]) = true := by decide +kernel
theorem ok4 : ∀ d2 ∈ six, okK 8 (.tup [d2]) = true := by decide +kernel
theorem ok6 : ∀ d2 ∈ six, ∀ d1 ∈ six, okK 8 (.tup [d2, .lst [.lst [d1]]]) = true := by decide +kernel
theorem oa1 : ∀ d0 ∈ six, ∀ d1 ∈ six, okK 8 (.tup [.tup [d0, .tup [d1]]]) = true := by decide +kernel
theorem oa2 : ∀ d0 ∈ six, ∀ d2 ∈ six, okK 8 (.tup [.tup [.tup [d0], d2]]) = true := by decide +kernel
theorem oa3 : ∀ d0 ∈ six, ∀ d1 ∈ six, okK 8 (.tup [d0, .tup [d1]]) = true := by decide +kernel
theorem oa6 : ∀ d2 ∈ six, ∀ d1 ∈ six, okK 8 (.tup [d2, .tup [.tup [d1]]]) = true := by decide +kernel
theorem ob2 : ∀ d0 ∈ six, ∀ d1 ∈ six, okK 8 (.tup [d0, d1]) = true := by decide +kernel
theorem ob3 : ∀ d2 ∈ six, okK 8 (.tup [.tup [d2]]) = true := by decide +kernel
theorem e5 : ∀ d0 ∈ six, ∀ d1 ∈ six, ∀ d2 ∈ six, eqD (.lst [keptD (.lst [d0, .lst [d1]]), keptD (.lst [.lst [d0], d2]), keptD d0, keptD (.lst [d1]), keptD d2, keptD d1, keptD (.lst [d0]), keptD d2, keptD (.lst [.lst [d1]])])
  (.lst [.tup [d0, .tup [d1]], .tup [.tup [d0], d2], d0, .tup [d1], d2, d1, .tup [d0], d2, .tup [.tup [d1]]]) = some true := by decide +kernel
theorem e7a : eqD (.lst [.str (Txt.lower "Holds"), .str (Txt.lower "Breaks"), .str (Txt.lower "Guards"), .str (Txt.lower "Checked"), .str (Txt.lower "Broken"), .str (Txt.lower "Soonest")]) (.lst [.str "holds", .str "breaks", .str "guards", .str "checked", .str "broken", .str "soonest"]) = some true := by decide +kernel
theorem e7b : eqD (.lst [.bl true, .bl false, .bl true, .bl true, .bl false, .bl false]) (.lst [.bl true, .bl false, .bl true, .bl true, .bl false, .bl false]) = some true := by decide +kernel
theorem e8a : eqD (.lst [.bl false, .bl true, .bl false, .bl false, .bl true, .bl true]) (.lst [.bl false, .bl true, .bl false, .bl false, .bl true, .bl true]) = some true := by decide +kernel
theorem e0 : eqD (.lst []) (.lst []) = some true := by decide +kernel
theorem e9a : ∀ d0 ∈ six, ∀ d1 ∈ six, eqD (.tup [keptD d0, keptD (.lst [d1])]) (.tup [d0, .tup [d1]]) = some true := by decide +kernel
theorem e9c : ∀ d2 ∈ six, ∀ d1 ∈ six, eqD (.tup [keptD d2, keptD (.lst [.lst [d1]])]) (.tup [d2, .tup [.tup [d1]]]) = some true := by decide +kernel
theorem ea1 : ∀ d0 ∈ six, ∀ d1 ∈ six, eqP isP (mk1 "Holds" "family" (.lst [d0, .lst [d1]])) (mk1 "Holds" "family" (.tup [d0, .tup [d1]])) = some true := by decide +kernel
theorem ea2 : ∀ d0 ∈ six, ∀ d2 ∈ six, eqP isP (mk1 "Breaks" "pieces" (.lst [.lst [d0], d2])) (mk1 "Breaks" "pieces" (.tup [.tup [d0], d2])) = some true := by decide +kernel
theorem ea3 : ∀ d0 ∈ six, ∀ d1 ∈ six, eqP isP (mk2 "Guards" "least" "greatest" d0 (.lst [d1])) (mk2 "Guards" "least" "greatest" d0 (.tup [d1])) = some true := by decide +kernel
theorem ea4 : ∀ d2 ∈ six, eqP isP (mk1 "Checked" "family" d2) (mk1 "Checked" "family" d2) = some true := by decide +kernel
theorem ea5 : ∀ d1 ∈ six, ∀ d0 ∈ six, eqP isP (mk2 "Broken" "family" "rows" d1 (.lst [d0])) (mk2 "Broken" "family" "rows" d1 (.tup [d0])) = some true := by decide +kernel
theorem ea6 : ∀ d2 ∈ six, ∀ d1 ∈ six, eqP isP (mk2 "Soonest" "pieces" "layers" d2 (.lst [.lst [d1]])) (mk2 "Soonest" "pieces" "layers" d2 (.tup [.tup [d1]])) = some true := by decide +kernel
theorem eb1 : ∀ d0 ∈ six, eqP isP (mk1 "Holds" "family" d0) (mk1 "Checked" "family" d0) = some false := by decide +kernel
theorem eb2 : ∀ d0 ∈ six, ∀ d1 ∈ six, eqP isP (mk2 "Guards" "least" "greatest" d0 d1) (mk2 "Broken" "family" "rows" d0 d1) = some false := by decide +kernel
theorem eb3 : ∀ d2 ∈ six, eqP isP (mk1 "Breaks" "pieces" d2) (mk1 "Breaks" "pieces" (.tup [d2])) = some false := by decide +kernel
theorem nmHolds : nmOf "Holds" = some "Holds" := by decide +kernel
theorem lenHolds : (("Holds" : Str)).length ≤ 5592405 := by decide +kernel
theorem isPHolds : isP "Holds" = some true := by decide +kernel
theorem isDHolds : isD "Holds" = some false := by decide +kernel
theorem nmBreaks : nmOf "Breaks" = some "Breaks" := by decide +kernel
theorem lenBreaks : (("Breaks" : Str)).length ≤ 5592405 := by decide +kernel
theorem isPBreaks : isP "Breaks" = some true := by decide +kernel
theorem isDBreaks : isD "Breaks" = some true := by decide +kernel
theorem nmGuards : nmOf "Guards" = some "Guards" := by decide +kernel
theorem lenGuards : (("Guards" : Str)).length ≤ 5592405 := by decide +kernel
theorem isPGuards : isP "Guards" = some true := by decide +kernel
theorem isDGuards : isD "Guards" = some false := by decide +kernel
theorem nmChecked : nmOf "Checked" = some "Checked" := by decide +kernel
theorem lenChecked : (("Checked" : Str)).length ≤ 5592405 := by decide +kernel
theorem isPChecked : isP "Checked" = some true := by decide +kernel
theorem isDChecked : isD "Checked" = some false := by decide +kernel
theorem nmBroken : nmOf "Broken" = some "Broken" := by decide +kernel
theorem lenBroken : (("Broken" : Str)).length ≤ 5592405 := by decide +kernel
theorem isPBroken : isP "Broken" = some true := by decide +kernel
theorem isDBroken : isD "Broken" = some true := by decide +kernel
theorem nmSoonest : nmOf "Soonest" = some "Soonest" := by decide +kernel
theorem lenSoonest : (("Soonest" : Str)).length ≤ 5592405 := by decide +kernel
theorem isPSoonest : isP "Soonest" = some true := by decide +kernel
theorem isDSoonest : isD "Soonest" = some true := by decide +kernel
end DL

-- part K60F
set_option maxHeartbeats 40000000
/-! k60: the law's walk -/
namespace DL
open PySem PySem.Spec PyProof.Rows L2
abbrev sLaw : Stmt := topS 18
theorem scL : FnScope ["script", "well", "turn", "odd", "one", "two", "three", "four", "five", "six", "told", "some", "alike", "lap", "paper", "other"] ["script"] (defScope sLaw) := ⟨rfl, rfl, rfl, by decide +kernel, rfl, by decide +kernel, by decide +kernel⟩
theorem kw1 : ∀ {W : Wd} (F : Hp) (x : V) (zs : List V) (ds : List D), DenL W F ds zs → ds.length = 1 → ∃ us, (fun us ws => us ++ ws : List V → List V → List V) [x] zs = x :: us ∧ DenL W F (id ds) us := fun F x zs ds h _ => ⟨zs, rfl, h⟩
theorem kw2 : ∀ {W : Wd} (F : Hp) (x : V) (zs : List V) (ds : List D), DenL W F ds zs → ds.length = 2 → ∃ us, (fun us ws => us ++ ws.reverse : List V → List V → List V) [x] zs = x :: us ∧ DenL W F (List.reverse ds) us := fun F x zs ds h hl => by
  match ds, hl with
  | [a, b], _ =>
    obtain ⟨u, v, rfl, h1, h2⟩ := den2 h
    exact ⟨[v, u], rfl, .cons h2 (.cons h1 DenL.nil)⟩
theorem pe_fldK {X : Cx} {K : PySem.W.Frag} {e : Expr} {f : Str} {pos : Pos} {ta : TE} (hK : X.K = K) (he : PE X e ta) (hb : attributeBase e f X.env (eval e X.env) = eval e X.env) : PE X (.Attribute e f pos) (tFld K ta f) := by
  subst hK
  exact pe_fld he hb
theorem pg_tupK {X : Cx} {K : PySem.W.Frag} {pos : Pos} {es : List Expr} {k : Nat} {t : TGs} {n : Nat} (hK : X.K = K) (hc : X.calm = true) (h : PGs X es t)
    (hn : (assignEach es X.env).length = n := by rfl) (hst : (assignEach es X.env).findIdx? (·.1) = none := by rfl) : PG X (.Tuple es k pos) (gTup K n t) := by
  subst hK
  exact pg_tup hc h hn hst
/-- all that the law's walk asks -/
structure LawT (P : Program) (w : World) (K : PySem.W.Frag) (mg : Str → Option Value) (base : Heap) (cls : Str → Option Addr) where
  fW : Addr
  fdW : FuncData
  FW : Fun K "_law_well" "_law_well" sWell fW fdW
  GW : FnOk P w K mg base CX0 1 fW fdW ["script"] (spWell K cls)
  gW : mg "_law_well" = some (.ref fW)
  bW : Binds K fdW ["script"] []
  fO : Addr
  fdO : FuncData
  FO : Fun K "_law_one" "_law_one" sOne fO fdO
  GO : FnOk P w K mg base CX0 2 fO fdO ["well", "some"] (spD K cls gOne)
  gO : mg "_law_one" = some (.ref fO)
  bO : Binds K fdO ["well", "some"] []
  CHolds : Addr
  fHolds : Addr
  fdHolds : FuncData
  MHolds : Mk K CHolds fHolds
  GHolds : FnOk P w K mg base CX0 10 fHolds fdHolds ["self", "family"] (spI K cls (gHolds nmOf 8))
  gHolds : mg "Holds" = some (.ref CHolds)
  bHolds : Binds K fdHolds ["self", "family"] []
  kHolds : KBn K fdHolds ["self", "family"] 1 ["family"] (fun us ws => us ++ ws) (fun us ws => us ++ ws)
  cHolds : cls "Holds" = some CHolds
  CBreaks : Addr
  fBreaks : Addr
  fdBreaks : FuncData
  MBreaks : Mk K CBreaks fBreaks
  GBreaks : FnOk P w K mg base CX0 10 fBreaks fdBreaks ["self", "pieces"] (spI K cls (gBreaks nmOf 8))
  gBreaks : mg "Breaks" = some (.ref CBreaks)
  bBreaks : Binds K fdBreaks ["self", "pieces"] []
  kBreaks : KBn K fdBreaks ["self", "pieces"] 1 ["pieces"] (fun us ws => us ++ ws) (fun us ws => us ++ ws)
  cBreaks : cls "Breaks" = some CBreaks
  CGuards : Addr
  fGuards : Addr
  fdGuards : FuncData
  MGuards : Mk K CGuards fGuards
  GGuards : FnOk P w K mg base CX0 10 fGuards fdGuards ["self", "least", "greatest"] (spI K cls (gGuards nmOf 8))
  gGuards : mg "Guards" = some (.ref CGuards)
  bGuards : Binds K fdGuards ["self", "least", "greatest"] []
  kGuards : KBn K fdGuards ["self", "least", "greatest"] 1 ["greatest", "least"] (fun us ws => us ++ ws.reverse) (fun us ws => us ++ ws.reverse)
  cGuards : cls "Guards" = some CGuards
  CSoonest : Addr
  fSoonest : Addr
  fdSoonest : FuncData
  MSoonest : Mk K CSoonest fSoonest
  GSoonest : FnOk P w K mg base CX0 10 fSoonest fdSoonest ["self", "pieces", "layers"] (spI K cls (gSoonest nmOf 8))
  gSoonest : mg "Soonest" = some (.ref CSoonest)
  bSoonest : Binds K fdSoonest ["self", "pieces", "layers"] []
  kSoonest : KBn K fdSoonest ["self", "pieces", "layers"] 1 ["layers", "pieces"] (fun us ws => us ++ ws.reverse) (fun us ws => us ++ ws.reverse)
  cSoonest : cls "Soonest" = some CSoonest
  CChecked : Addr
  fChecked : Addr
  fdChecked : FuncData
  MChecked : Mk K CChecked fChecked
  GChecked : FnOk P w K mg base CX0 10 fChecked fdChecked ["self", "family"] (spI K cls (gChecked nmOf 8))
  gChecked : mg "Checked" = some (.ref CChecked)
  bChecked : Binds K fdChecked ["self", "family"] []
  kChecked : KBn K fdChecked ["self", "family"] 1 ["family"] (fun us ws => us ++ ws) (fun us ws => us ++ ws)
  cChecked : cls "Checked" = some CChecked
  CBroken : Addr
  fBroken : Addr
  fdBroken : FuncData
  MBroken : Mk K CBroken fBroken
  GBroken : FnOk P w K mg base CX0 10 fBroken fdBroken ["self", "family", "rows"] (spI K cls (gBroken nmOf 8))
  gBroken : mg "Broken" = some (.ref CBroken)
  bBroken : Binds K fdBroken ["self", "family", "rows"] []
  kBroken : KBn K fdBroken ["self", "family", "rows"] 1 ["rows", "family"] (fun us ws => us ++ ws.reverse) (fun us ws => us ++ ws.reverse)
  cBroken : cls "Broken" = some CBroken
  CP : Addr
  CD : Addr
  gPaper : mg "Paper" = some (.ref CP)
  gDenial : mg "Denial" = some (.ref CD)
  kP : ∀ {pw}, KOk ⟨K, cls, pw⟩ (isSubD isP) (.ref CP)
  kD : ∀ {pw}, KOk ⟨K, cls, pw⟩ (isSubD isD) (.ref CD)
  T : AttrT K cls ["word", "parts", "family", "pieces", "least", "greatest", "rows", "layers"]
  fe : Addr
  ef : PySem.W.isFn K (.ref fe) = true
  Fe : FnR P w K mg base CX0 1 fe (spD K cls (gEqP isP))
  ET : EqT K cls fe
  Gb : Addr → Prop
  bv : Addr → Bool
  bf : ∀ g, Gb g → PySem.W.isFn K (.ref g) = true
  Fb : ∀ g, Gb g → FnR P w K mg base CX0 1 g (spD K cls (gB (bv g)))
  hb : ∀ c C b, cls c = some C → bOf c = some b → ∃ g, PySem.W.findIn K (.ref C) "__bool__" = some (some (.ref g)) ∧ Gb g ∧ bv g = b
  m_isinstance : mg "isinstance" = none
  m_bool : mg "bool" = none
  m_range : mg "range" = none
  m_zip : mg "zip" = none
def spLaw (K : PySem.W.Frag) : Sp := fun vs H Q _ => ∃ (a : Addr) (ns : List Int), vs = [.ref a] ∧ SqL K H a (ns.map V.int) ∧ ns.length ≤ 63 ∧ ∀ H', Q (.bl true) H'
theorem lz {a b : Nat} (h : Nat.ble a b = true) : a ≤ b := Nat.le_of_ble_eq_true h
theorem lz' {a b : Nat} (h : Nat.ble (a + 1) b = true) : a < b := Nat.le_of_ble_eq_true h
theorem dseq_mid {a b : DS} {DD : DEnds} {ρ : Ev} (M : Ev → Prop) (ha : ∀ nx : Ev → Prop, (∀ ρ', M ρ' → nx ρ') → a { DD with nx := nx } ρ) (hb : ∀ ρ', M ρ' → b DD ρ') : dSeq a b DD ρ := ha (b DD) hb
theorem dfor_M {s : DI} {g : DG} {b : DS} {DD : DEnds} {ρ : Ev} (M : Nat → Ev → Prop) (ds : List D) (h : s ρ fun ρ1 es => es = ds ∧ M 0 ρ1) (step : ∀ i d ρ, ds[i]? = some d → M i ρ → ∀ nx : Ev → Prop, (∀ ρ', M (i + 1) ρ' → nx ρ') → g d ρ fun ρ1 => b { nx := nx, ct := nx, bk := DD.nx, rt := DD.rt } ρ1) (fin : ∀ ρ, M ds.length ρ → DD.nx ρ)
    (mono : ∀ Q Q' : Ev → List D → Prop, (∀ ρ ds, Q ρ ds → Q' ρ ds) → s ρ Q → s ρ Q') : dFor s g b DD ρ := by
  have key : ∀ (i : Nat) (ρ : Ev), i ≤ ds.length → M i ρ → dForL g b (ds.drop i) DD ρ := by
    intro i
    generalize hk : ds.length - i = k
    induction k generalizing i with
    | zero =>
      intro ρ hi m
      have e : i = ds.length := by omega
      subst e
      rw [List.drop_length]
      exact fin ρ m
    | succ k ih =>
      intro ρ hi m
      have hlt : i < ds.length := by omega
      rw [List.drop_eq_getElem_cons hlt]
      exact step i _ ρ (List.getElem?_eq_getElem hlt) m _ fun ρ' m' => ih (i + 1) (by omega) ρ' (by omega) m'
  exact mono _ _ (fun ρ1 es ⟨e, m⟩ => by subst e; exact key 0 ρ1 (Nat.zero_le _) m) h
theorem rel_well {K : PySem.W.Frag} {cls : Str → Option Addr} {p pc : Addr} {F H : Hp} {σ : L2.St} {ns : List Int} {n : Nat} (hl : σ.length = n + 2) (h1 : σ[1]? = some (some (.ref p))) (sf : Same F H) (fp : F p = none) (hn : ns.length ≤ 60) (hp : H p = some (.lst [.ref pc, .int 0, .int 0])) (hs : SqL K F pc (ns.map V.int)) :
    Rel ⟨K, cls, some p⟩ (bs0 F H) F H σ ⟨.un :: .v .well :: List.replicate n .un, 0⟩ := by
  have get : ∀ (i : Nat) (s : Sl), (Sl.un :: Sl.v .well :: List.replicate n Sl.un)[i]? = some s → s = .un ∨ (i = 1 ∧ s = .v .well) := fun i s h => by
    match i with
    | 0 => exact .inl (Option.some.inj h).symm
    | 1 => exact .inr ⟨rfl, (Option.some.inj h).symm⟩
    | i + 2 =>
      have h : (List.replicate n Sl.un)[i]? = some s := h
      rw [List.getElem?_replicate] at h
      split at h
      · exact .inl (Option.some.inj h).symm
      · cases h
  refine ⟨sf, by show σ.length = (Sl.un :: Sl.v .well :: List.replicate n Sl.un).length; rw [hl]; simp, fun i s h => ?_, fun i j d e q h => ?_, ?_, fun a o h _ _ => h, fun a _ h2 => h2, Same.refl _, (fun a ha => nomatch ha), (fun q hq => nomatch hq), (fun q hq => nomatch hq), List.nodup_nil⟩
  · rcases get i s h with e | ⟨e1, e2⟩
    · subst e; trivial
    · subst e1 e2; exact ⟨.ref p, h1, p, rfl, rfl⟩
  · rcases get i _ h with e | ⟨_, e⟩ <;> cases e
  · exact ⟨fp, (fun z => nomatch z), pc, ns, 0, 0, hp, hs, Int.le_refl _, Int.le_refl _, Int.le_refl _, hn⟩
theorem well_go {W : Wd} {B : Bs} {ts : TS} {T : DS} {D : Ends} {DD : DEnds} {σ : L2.St} {H F : Hp} {ρ : Ev} (h : RS W B ts T) (r : Rel W B F H σ ρ) (f : Fits W B F D DD) (q : T DD ρ) : ts D σ H := h σ H F ρ D DD r q f
section
variable {P : Program} {w : World} {K : PySem.W.Frag} {mg : Str → Option Value} {base : Heap} {cls : Str → Option Addr}
theorem ok_law {f : Addr} {fd : FuncData} (F : Fun K "law" "law" sLaw f fd) (L : LawT P w K mg base cls) : FnOk P w K mg base CX0 20 f fd ["script"] (spLaw K) := by
  have m_range := L.m_range
  have m_zip := L.m_zip
  refine F.ok scL (fun vs H Q E h => ?_) (fun cdv A outer s H vs Q E hr h => ?_)
  · obtain ⟨a, ns, rfl, _⟩ := h
    rfl
  obtain ⟨a, ns, rfl, hS, hl, q⟩ := h
  have hu := hr.units
  refine ⟨_, pss_cons (ps_set (i := 1) scL.nd rfl (.inr rfl) (pe_call L.GW (by exact hr.mono (by decide)) (by rfl) L.gW L.FW.kp L.bW .nil pass0 (pa_cons (pv 0) pa_nil)))
    (pss_cons (ps_for PassesOwn.never rfl (pi_range1 (by rfl) m_range (pa_cons pe_int pa_nil)) (pg_name (i := 2) scL.nd rfl (.inl rfl)) (pss_cons (ps_setLc (i := 3) rfl scL.nd rfl rfl rfl (pi_range1 (by rfl) m_range (pa_cons pe_int pa_nil)) (own := [("lap", 13)]) (blkOk_by rfl) (fun _ _ _ _ _ => (pg_name (i := 13) scL.nd rfl (.inl rfl))) (fun _ _ _ _ _ => pts_nil) (fun _ _ _ _ _ => (pe_call L.GO (by exact hr.mono (by decide)) (by rfl) L.gO L.FO.kp L.bO .nil pass0 (pa_cons (pv 1) (pa_cons (pe_lst (pa_cons pe_int (pa_cons pe_str (pa_cons pe_non (pa_cons (pe_tup (pa_cons pe_int (pa_cons pe_int pa_nil))) (pa_cons (pe_op op_sub pe_int pe_int) (pa_cons (pe_tup (pa_cons pe_str (pa_cons (pe_tup (pa_cons pe_int pa_nil)) pa_nil))) pa_nil))))))) pa_nil)))))
    (pss_cons (ps_par3 (i := 4) (j := 5) (l := 6) rfl scL.nd rfl rfl rfl (by decide) (by decide) (by decide) rfl rfl rfl (pa_cons (pe_makeK0 L.MHolds L.GHolds (by exact hr.mono (by decide)) (by rfl) L.gHolds L.kHolds pass0 (pk_cons (pe_lst (pa_cons (pe_ix ix_list (pv 3) pe_int (fun _ _ => rfl)) (pa_cons (pe_lst (pa_cons (pe_ix ix_list (pv 3) pe_int (fun _ _ => rfl)) pa_nil)) pa_nil))) pk_nil)) (pa_cons (pe_makeK0 L.MBreaks L.GBreaks (by exact hr.mono (by decide)) (by rfl) L.gBreaks L.kBreaks pass0 (pk_cons (pe_lst (pa_cons (pe_lst (pa_cons (pe_ix ix_list (pv 3) pe_int (fun _ _ => rfl)) pa_nil)) (pa_cons (pe_ix ix_list (pv 3) pe_int (fun _ _ => rfl)) pa_nil))) pk_nil)) (pa_cons (pe_makeK0 L.MGuards L.GGuards (by exact hr.mono (by decide)) (by rfl) L.gGuards L.kGuards pass0 (pk_cons (pe_lst (pa_cons (pe_ix ix_list (pv 3) pe_int (fun _ _ => rfl)) pa_nil)) (pk_cons (pe_ix ix_list (pv 3) pe_int (fun _ _ => rfl)) pk_nil))) pa_nil))) rfl)
    (pss_cons (ps_par3 (i := 7) (j := 8) (l := 9) rfl scL.nd rfl rfl rfl (by decide) (by decide) (by decide) rfl rfl rfl (pa_cons (pe_makeK0 L.MChecked L.GChecked (by exact hr.mono (by decide)) (by rfl) L.gChecked L.kChecked pass0 (pk_cons (pe_ix ix_list (pv 3) pe_int (fun _ _ => rfl)) pk_nil)) (pa_cons (pe_makeK0 L.MBroken L.GBroken (by exact hr.mono (by decide)) (by rfl) L.gBroken L.kBroken pass0 (pk_cons (pe_lst (pa_cons (pe_ix ix_list (pv 3) pe_int (fun _ _ => rfl)) pa_nil)) (pk_cons (pe_ix ix_list (pv 3) pe_int (fun _ _ => rfl)) pk_nil))) (pa_cons (pe_makeK0 L.MSoonest L.GSoonest (by exact hr.mono (by decide)) (by rfl) L.gSoonest L.kSoonest pass0 (pk_cons (pe_lst (pa_cons (pe_lst (pa_cons (pe_ix ix_list (pv 3) pe_int (fun _ _ => rfl)) pa_nil)) pa_nil)) (pk_cons (pe_ix ix_list (pv 3) pe_int (fun _ _ => rfl)) pk_nil))) pa_nil))) rfl)
    (pss_cons (ps_set (i := 10) scL.nd rfl (.inl rfl) (pe_lst (pa_cons (pe_fldK (K := K) rfl (pv 4) rfl) (pa_cons (pe_fldK (K := K) rfl (pv 5) rfl) (pa_cons (pe_fldK (K := K) rfl (pv 6) rfl) (pa_cons (pe_fldK (K := K) rfl (pv 6) rfl) (pa_cons (pe_fldK (K := K) rfl (pv 7) rfl) (pa_cons (pe_fldK (K := K) rfl (pv 8) rfl) (pa_cons (pe_fldK (K := K) rfl (pv 8) rfl) (pa_cons (pe_fldK (K := K) rfl (pv 9) rfl) (pa_cons (pe_fldK (K := K) rfl (pv 9) rfl) pa_nil)))))))))))
    (pss_cons (ps_if (pt_cmpR (op_neD hu) (pv 10) (pe_lst (pa_cons (pe_tup (pa_cons (pe_ix ix_list (pv 3) pe_int (fun _ _ => rfl)) (pa_cons (pe_tup (pa_cons (pe_ix ix_list (pv 3) pe_int (fun _ _ => rfl)) pa_nil)) pa_nil))) (pa_cons (pe_tup (pa_cons (pe_tup (pa_cons (pe_ix ix_list (pv 3) pe_int (fun _ _ => rfl)) pa_nil)) (pa_cons (pe_ix ix_list (pv 3) pe_int (fun _ _ => rfl)) pa_nil))) (pa_cons (pe_ix ix_list (pv 3) pe_int (fun _ _ => rfl)) (pa_cons (pe_tup (pa_cons (pe_ix ix_list (pv 3) pe_int (fun _ _ => rfl)) pa_nil)) (pa_cons (pe_ix ix_list (pv 3) pe_int (fun _ _ => rfl)) (pa_cons (pe_ix ix_list (pv 3) pe_int (fun _ _ => rfl)) (pa_cons (pe_tup (pa_cons (pe_ix ix_list (pv 3) pe_int (fun _ _ => rfl)) pa_nil)) (pa_cons (pe_ix ix_list (pv 3) pe_int (fun _ _ => rfl)) (pa_cons (pe_tup (pa_cons (pe_tup (pa_cons (pe_ix ix_list (pv 3) pe_int (fun _ _ => rfl)) pa_nil)) pa_nil)) pa_nil)))))))))) (nomark _)) (pss_one (ps_ret pe_bl)) pss_nil)
    (pss_cons (ps_set (i := 11) scL.nd rfl (.inl rfl) (pe_lst (pa_cons (pv 4) (pa_cons (pv 5) (pa_cons (pv 6) (pa_cons (pv 7) (pa_cons (pv 8) (pa_cons (pv 9) pa_nil))))))))
    (pss_cons (ps_if (PW.pt (pw_or (pt_cmpR (op_neD hu) (pe_lc rfl scL.nd (pi_seq (pv 11)) (own := [("paper", 14)]) (blkOk_by rfl) (fun _ _ _ _ _ => (pg_name (i := 14) scL.nd rfl (.inl rfl))) (fun _ _ _ _ _ => pts_nil) (fun _ _ _ _ _ => (pe_fldK (K := K) rfl (pv 14) rfl))) (pe_lst (pa_cons pe_str (pa_cons pe_str (pa_cons pe_str (pa_cons pe_str (pa_cons pe_str (pa_cons pe_str pa_nil))))))) (nomark _)) (pw_or1 (pt_cmpR (op_neD hu) (pe_lc rfl scL.nd (pi_seq (pv 11)) (own := [("paper", 14)]) (blkOk_by rfl) (fun _ _ _ _ _ => (pg_name (i := 14) scL.nd rfl (.inl rfl))) (fun _ _ _ _ _ => pts_nil) (fun _ _ _ _ _ => (pe_callTy (r := rBoolI K L.Gb (fun g => spD K cls (gB (L.bv g))) E0) (call_boolI L.bf L.Fb (by exact hr.mono (by decide)) pass0) (by rfl) L.m_bool (by decide +kernel) (pa_cons (pv 14) pa_nil)))) (pe_lst (pa_cons pe_bl (pa_cons pe_bl (pa_cons pe_bl (pa_cons pe_bl (pa_cons pe_bl (pa_cons pe_bl pa_nil))))))) (nomark _))))) (pss_one (ps_ret pe_bl)) pss_nil)
    (pss_cons (ps_if (PW.pt (pw_or (pt_cmpR (op_neD hu) (pe_lc rfl scL.nd (pi_seq (pv 11)) (own := [("paper", 14)]) (blkOk_by rfl) (fun _ _ _ _ _ => (pg_name (i := 14) scL.nd rfl (.inl rfl))) (fun _ _ _ _ _ => pts_nil) (fun _ _ _ _ _ => (pe_callB (r := rIsi K) call_isi (by rfl) L.m_isinstance (by decide +kernel) (pa_cons (pv 14) (pa_cons (pe_glob (by rfl) L.gDenial (v := .ref L.CD) rfl) pa_nil))))) (pe_lst (pa_cons pe_bl (pa_cons pe_bl (pa_cons pe_bl (pa_cons pe_bl (pa_cons pe_bl (pa_cons pe_bl pa_nil))))))) (nomark _)) (pw_or1 (pt_cmpR (op_neD hu) (pe_lc rfl scL.nd (pi_seq (pv 11)) (own := [("paper", 14)]) (blkOk_by rfl) (fun _ _ _ _ _ => (pg_name (i := 14) scL.nd rfl (.inl rfl))) (fun _ _ _ _ _ => (pts_one (pt_not (pt_val (pe_callB (r := rIsi K) call_isi (by rfl) L.m_isinstance (by decide +kernel) (pa_cons (pv 14) (pa_cons (pe_glob (by rfl) L.gPaper (v := .ref L.CP) rfl) pa_nil))))))) (fun _ _ _ _ _ => (pv 14))) (pe_lst pa_nil) (nomark _))))) (pss_one (ps_ret pe_bl)) pss_nil)
    (pss_cons (ps_if (PW.pt (pw_or (pt_cmpR (op_neD hu) (pe_fldK (K := K) rfl (pv 6) rfl) (pe_tup (pa_cons (pe_ix ix_list (pv 3) pe_int (fun _ _ => rfl)) (pa_cons (pe_tup (pa_cons (pe_ix ix_list (pv 3) pe_int (fun _ _ => rfl)) pa_nil)) pa_nil))) (nomark _)) (pw_or (pt_cmpR (op_neD hu) (pe_fldK (K := K) rfl (pv 8) rfl) (pe_tup (pa_cons (pe_ix ix_list (pv 3) pe_int (fun _ _ => rfl)) (pa_cons (pe_tup (pa_cons (pe_ix ix_list (pv 3) pe_int (fun _ _ => rfl)) pa_nil)) pa_nil))) (nomark _)) (pw_or1 (pt_cmpR (op_neD hu) (pe_fldK (K := K) rfl (pv 9) rfl) (pe_tup (pa_cons (pe_ix ix_list (pv 3) pe_int (fun _ _ => rfl)) (pa_cons (pe_tup (pa_cons (pe_tup (pa_cons (pe_ix ix_list (pv 3) pe_int (fun _ _ => rfl)) pa_nil)) pa_nil)) pa_nil))) (nomark _)))))) (pss_one (ps_ret pe_bl)) pss_nil)
    (pss_cons (ps_set (i := 12) scL.nd rfl (.inl rfl) (pe_lst (pa_cons (pe_make L.MHolds L.GHolds (by exact hr.mono (by decide)) (by rfl) L.gHolds L.bHolds .nil pass0 (pa_cons (pe_tup (pa_cons (pe_ix ix_list (pv 3) pe_int (fun _ _ => rfl)) (pa_cons (pe_tup (pa_cons (pe_ix ix_list (pv 3) pe_int (fun _ _ => rfl)) pa_nil)) pa_nil))) pa_nil)) (pa_cons (pe_make L.MBreaks L.GBreaks (by exact hr.mono (by decide)) (by rfl) L.gBreaks L.bBreaks .nil pass0 (pa_cons (pe_tup (pa_cons (pe_tup (pa_cons (pe_ix ix_list (pv 3) pe_int (fun _ _ => rfl)) pa_nil)) (pa_cons (pe_ix ix_list (pv 3) pe_int (fun _ _ => rfl)) pa_nil))) pa_nil)) (pa_cons (pe_make L.MGuards L.GGuards (by exact hr.mono (by decide)) (by rfl) L.gGuards L.bGuards .nil pass0 (pa_cons (pe_ix ix_list (pv 3) pe_int (fun _ _ => rfl)) (pa_cons (pe_tup (pa_cons (pe_ix ix_list (pv 3) pe_int (fun _ _ => rfl)) pa_nil)) pa_nil))) (pa_cons (pe_make L.MChecked L.GChecked (by exact hr.mono (by decide)) (by rfl) L.gChecked L.bChecked .nil pass0 (pa_cons (pe_ix ix_list (pv 3) pe_int (fun _ _ => rfl)) pa_nil)) (pa_cons (pe_make L.MBroken L.GBroken (by exact hr.mono (by decide)) (by rfl) L.gBroken L.bBroken .nil pass0 (pa_cons (pe_ix ix_list (pv 3) pe_int (fun _ _ => rfl)) (pa_cons (pe_tup (pa_cons (pe_ix ix_list (pv 3) pe_int (fun _ _ => rfl)) pa_nil)) pa_nil))) (pa_cons (pe_make L.MSoonest L.GSoonest (by exact hr.mono (by decide)) (by rfl) L.gSoonest L.bSoonest .nil pass0 (pa_cons (pe_ix ix_list (pv 3) pe_int (fun _ _ => rfl)) (pa_cons (pe_tup (pa_cons (pe_tup (pa_cons (pe_ix ix_list (pv 3) pe_int (fun _ _ => rfl)) pa_nil)) pa_nil)) pa_nil))) pa_nil))))))))
    (pss_cons (ps_if (pt_cmpR (op_neD hu) (pe_lc rfl scL.nd (pi_zip (by rfl) m_zip (pa_cons (pv 11) (pa_cons (pv 12) pa_nil))) (own := [("paper", 14), ("other", 15)]) (blkOk_by rfl) (fun _ _ _ _ _ => (pg_tupK (K := K) (n := 2) rfl rfl (pgs_cons (pg_name (i := 14) scL.nd rfl (.inl rfl)) (pgs_cons (pg_name (i := 15) scL.nd rfl (.inl rfl)) pgs_nil)))) (fun _ _ _ _ _ => (pts_one (PW.pt (pw_or (pt_not (pt_cmpR (r := rEqI K L.fe (spD K cls (gEqP isP)) E0) (op_eqI (E := E0) L.ef L.Fe (by exact hr.mono (by decide)) pass0) (pv 14) (pv 15) (nomark _))) (pw_or1 (pt_cmpR (r := rNeI K L.fe (spD K cls (gEqP isP)) E0) (op_neI (E := E0) L.ef L.Fe (by exact hr.mono (by decide)) pass0) (pv 14) (pv 15) (nomark _))))))) (fun _ _ _ _ _ => (pv 14))) (pe_lst pa_nil) (nomark _)) (pss_one (ps_ret pe_bl)) pss_nil)
    (pss_one (ps_if (PW.pt (pw_or (pt_cmpR (r := rEqI K L.fe (spD K cls (gEqP isP)) E0) (op_eqI (E := E0) L.ef L.Fe (by exact hr.mono (by decide)) pass0) (pe_make L.MHolds L.GHolds (by exact hr.mono (by decide)) (by rfl) L.gHolds L.bHolds .nil pass0 (pa_cons (pe_ix ix_list (pv 3) pe_int (fun _ _ => rfl)) pa_nil)) (pe_make L.MChecked L.GChecked (by exact hr.mono (by decide)) (by rfl) L.gChecked L.bChecked .nil pass0 (pa_cons (pe_ix ix_list (pv 3) pe_int (fun _ _ => rfl)) pa_nil)) (nomark _)) (pw_or (pt_cmpR (r := rEqI K L.fe (spD K cls (gEqP isP)) E0) (op_eqI (E := E0) L.ef L.Fe (by exact hr.mono (by decide)) pass0) (pe_make L.MGuards L.GGuards (by exact hr.mono (by decide)) (by rfl) L.gGuards L.bGuards .nil pass0 (pa_cons (pe_ix ix_list (pv 3) pe_int (fun _ _ => rfl)) (pa_cons (pe_ix ix_list (pv 3) pe_int (fun _ _ => rfl)) pa_nil))) (pe_make L.MBroken L.GBroken (by exact hr.mono (by decide)) (by rfl) L.gBroken L.bBroken .nil pass0 (pa_cons (pe_ix ix_list (pv 3) pe_int (fun _ _ => rfl)) (pa_cons (pe_ix ix_list (pv 3) pe_int (fun _ _ => rfl)) pa_nil))) (nomark _)) (pw_or (pt_cmpR (r := rEqI K L.fe (spD K cls (gEqP isP)) E0) (op_eqI (E := E0) L.ef L.Fe (by exact hr.mono (by decide)) pass0) (pe_make L.MBreaks L.GBreaks (by exact hr.mono (by decide)) (by rfl) L.gBreaks L.bBreaks .nil pass0 (pa_cons (pe_ix ix_list (pv 3) pe_int (fun _ _ => rfl)) pa_nil)) (pe_make L.MBreaks L.GBreaks (by exact hr.mono (by decide)) (by rfl) L.gBreaks L.bBreaks .nil pass0 (pa_cons (pe_tup (pa_cons (pe_ix ix_list (pv 3) pe_int (fun _ _ => rfl)) pa_nil)) pa_nil)) (nomark _)) (pw_or1 (pt_cmpR (r := rEqI K L.fe (spD K cls (gEqP isP)) E0) (op_eqI (E := E0) L.ef L.Fe (by exact hr.mono (by decide)) pass0) (pv 4) (pe_fldK (K := K) rfl (pv 4) rfl) (nomark _))))))) (pss_one (ps_ret pe_bl)) pss_nil))))))))))))))
    (pss_one (ps_ret pe_bl))), ?_⟩
  refine seq_mid (fun σ' H' => ∃ (p pc : Addr) (F' : Hp) (ns' : List Int), σ' = (start ["script", "well", "turn", "odd", "one", "two", "three", "four", "five", "six", "told", "some", "alike", "lap", "paper", "other"] [V.ref a]).set 1 (some (.ref p)) ∧ Same F' H' ∧ F' p = none ∧ ns'.length ≤ 60 ∧ H' p = some (.lst [.ref pc, .int 0, .int 0]) ∧ SqL K F' pc (ns'.map V.int)) (fun nx hnx => ?_) ?_
  · refine ⟨.ref a, rfl, fun b => if b = a then H b else none, a, ns, rfl, ?_, ?_, by omega, fun p pc H' F' ns' k hp fp' hl' hp' hs' => ?_⟩
    · intro b o e
      have e : (if b = a then H b else none) = some o := e
      by_cases hb : b = a
      · rw [if_pos hb] at e; exact e
      · rw [if_neg hb] at e; cases e
    · have ea : (fun b => if b = a then H b else none : Hp) a = H a := if_pos rfl
      rcases hS with (hS | ⟨o, hS⟩) | hS
      · exact .inl (.inl (ea.trans hS))
      · exact .inl (.inr ⟨o, ea.trans hS⟩)
      · exact .inr hS
    · exact hnx _ _ ⟨p, pc, F', ns', rfl, k.fh, fp', hl', hp', hs'⟩
  rintro σ' H' ⟨p, pc, F', ns', rfl, sf, fp, hl', hp, hs⟩
  have hio : (bs0 F' H').io = [] := rfl
  refine well_go (ts := tSeq (tFor _ _ _) (tRet _)) (W := ⟨K, cls, some p⟩) (B := bs0 F' H') (F := F') (ρ := ⟨[.un, .v .well, .un, .un, .un, .un, .un, .un, .un, .un, .un, .un, .un, .un, .un, .un], 0⟩) (DD := { nx := fun _ => False, rt := fun _ d => d = .bl true })
    (rs_seq (rs_for (ri_rng1 (ra_cons re_c ra_nil)) (rg_name (i := 2)) (rs_seq (rs_asg (RN.re (rn_lc (is := [13]) (vs := [13]) (ri_rng1 (ra_cons re_c ra_nil)) (fun B hb => by have hio := hb.trans hio; exact (rg_name (i := 13))) (fun B hb => by have hio := hb.trans hio; exact rt_yes) (fun B hb => by have hio := hb.trans hio; exact (re_call (G := gOne) (E := E0) (ra_cons (re_var (i := 1) hio) (ra_cons (re_lst (ra_cons re_c (ra_cons re_c (ra_cons re_c (ra_cons (re_tup (ra_cons re_c (ra_cons re_c ra_nil))) (ra_cons (re_I0 re_c re_c) (ra_cons (re_tup (ra_cons re_c (ra_cons (re_tup (ra_cons re_c ra_nil)) ra_nil))) ra_nil))))))) ra_nil)))) (fun _ h => h))) (rg_name (i := 3)))
    (rs_seq (rs_par3 (i := 4) (j := 5) (l := 6) (ra_cons (RN.re (rn_makeK0 (E := E0) (cn := "Holds") (pm := id) L.cHolds (ra_cons (re_lst (ra_cons (re_ixL (re_var (i := 3) hio) re_c) (ra_cons (re_lst (ra_cons (re_ixL (re_var (i := 3) hio) re_c) ra_nil)) ra_nil))) ra_nil) kw1)) (ra_cons (RN.re (rn_makeK0 (E := E0) (cn := "Breaks") (pm := id) L.cBreaks (ra_cons (re_lst (ra_cons (re_lst (ra_cons (re_ixL (re_var (i := 3) hio) re_c) ra_nil)) (ra_cons (re_ixL (re_var (i := 3) hio) re_c) ra_nil))) ra_nil) kw1)) (ra_cons (RN.re (rn_makeK0 (E := E0) (cn := "Guards") (pm := List.reverse) L.cGuards (ra_cons (re_lst (ra_cons (re_ixL (re_var (i := 3) hio) re_c) ra_nil)) (ra_cons (re_ixL (re_var (i := 3) hio) re_c) ra_nil)) kw2)) ra_nil))))
    (rs_seq (rs_par3 (i := 7) (j := 8) (l := 9) (ra_cons (RN.re (rn_makeK0 (E := E0) (cn := "Checked") (pm := id) L.cChecked (ra_cons (re_ixL (re_var (i := 3) hio) re_c) ra_nil) kw1)) (ra_cons (RN.re (rn_makeK0 (E := E0) (cn := "Broken") (pm := List.reverse) L.cBroken (ra_cons (re_lst (ra_cons (re_ixL (re_var (i := 3) hio) re_c) ra_nil)) (ra_cons (re_ixL (re_var (i := 3) hio) re_c) ra_nil)) kw2)) (ra_cons (RN.re (rn_makeK0 (E := E0) (cn := "Soonest") (pm := List.reverse) L.cSoonest (ra_cons (re_lst (ra_cons (re_lst (ra_cons (re_ixL (re_var (i := 3) hio) re_c) ra_nil)) ra_nil)) (ra_cons (re_ixL (re_var (i := 3) hio) re_c) ra_nil)) kw2)) ra_nil))))
    (rs_seq (rs_asg (re_lst (ra_cons (re_fld (re_var (i := 4) hio) L.T.cl (L.T.no _ (by decide +kernel))) (ra_cons (re_fld (re_var (i := 5) hio) L.T.cl (L.T.no _ (by decide +kernel))) (ra_cons (re_fld (re_var (i := 6) hio) L.T.cl (L.T.no _ (by decide +kernel))) (ra_cons (re_fld (re_var (i := 6) hio) L.T.cl (L.T.no _ (by decide +kernel))) (ra_cons (re_fld (re_var (i := 7) hio) L.T.cl (L.T.no _ (by decide +kernel))) (ra_cons (re_fld (re_var (i := 8) hio) L.T.cl (L.T.no _ (by decide +kernel))) (ra_cons (re_fld (re_var (i := 8) hio) L.T.cl (L.T.no _ (by decide +kernel))) (ra_cons (re_fld (re_var (i := 9) hio) L.T.cl (L.T.no _ (by decide +kernel))) (ra_cons (re_fld (re_var (i := 9) hio) L.T.cl (L.T.no _ (by decide +kernel))) ra_nil)))))))))) (rg_name (i := 10)))
    (rs_seq (rs_if (rt_test (re_neD (re_var (i := 10) hio) (re_lst (ra_cons (re_tup (ra_cons (re_ixL (re_var (i := 3) hio) re_c) (ra_cons (re_tup (ra_cons (re_ixL (re_var (i := 3) hio) re_c) ra_nil)) ra_nil))) (ra_cons (re_tup (ra_cons (re_tup (ra_cons (re_ixL (re_var (i := 3) hio) re_c) ra_nil)) (ra_cons (re_ixL (re_var (i := 3) hio) re_c) ra_nil))) (ra_cons (re_ixL (re_var (i := 3) hio) re_c) (ra_cons (re_tup (ra_cons (re_ixL (re_var (i := 3) hio) re_c) ra_nil)) (ra_cons (re_ixL (re_var (i := 3) hio) re_c) (ra_cons (re_ixL (re_var (i := 3) hio) re_c) (ra_cons (re_tup (ra_cons (re_ixL (re_var (i := 3) hio) re_c) ra_nil)) (ra_cons (re_ixL (re_var (i := 3) hio) re_c) (ra_cons (re_tup (ra_cons (re_tup (ra_cons (re_ixL (re_var (i := 3) hio) re_c) ra_nil)) ra_nil)) ra_nil)))))))))))) (rs_ret re_c) rs_next)
    (rs_seq (rs_asg (re_lst (ra_cons (re_var (i := 4) hio) (ra_cons (re_var (i := 5) hio) (ra_cons (re_var (i := 6) hio) (ra_cons (re_var (i := 7) hio) (ra_cons (re_var (i := 8) hio) (ra_cons (re_var (i := 9) hio) ra_nil))))))) (rg_name (i := 11)))
    (rs_seq (rs_if (rt_or (rt_test (re_neD (RN.re (rn_lc (is := [14]) (vs := [14]) (ri_seq (re_var (i := 11) hio)) (fun B hb => by have hio := hb.trans hio; exact (rg_name (i := 14))) (fun B hb => by have hio := hb.trans hio; exact rt_yes) (fun B hb => by have hio := hb.trans hio; exact (re_fld (re_var (i := 14) hio) L.T.cl (L.T.no _ (by decide +kernel)))) (fun _ h => h))) (re_lst (ra_cons re_c (ra_cons re_c (ra_cons re_c (ra_cons re_c (ra_cons re_c (ra_cons re_c ra_nil))))))))) (rt_test (re_neD (RN.re (rn_lc (is := [14]) (vs := [14]) (ri_seq (re_var (i := 11) hio)) (fun B hb => by have hio := hb.trans hio; exact (rg_name (i := 14))) (fun B hb => by have hio := hb.trans hio; exact rt_yes) (fun B hb => by have hio := hb.trans hio; exact (re_boolI (E := E0) L.hb (ra_cons (re_var (i := 14) hio) ra_nil))) (fun _ h => h))) (re_lst (ra_cons re_c (ra_cons re_c (ra_cons re_c (ra_cons re_c (ra_cons re_c (ra_cons re_c ra_nil)))))))))) (rs_ret re_c) rs_next)
    (rs_seq (rs_if (rt_or (rt_test (re_neD (RN.re (rn_lc (is := [14]) (vs := [14]) (ri_seq (re_var (i := 11) hio)) (fun B hb => by have hio := hb.trans hio; exact (rg_name (i := 14))) (fun B hb => by have hio := hb.trans hio; exact rt_yes) (fun B hb => by have hio := hb.trans hio; exact (re_isi (re_var (i := 14) hio) (.own L.CD) (k := isSubD isD) L.kD)) (fun _ h => h))) (re_lst (ra_cons re_c (ra_cons re_c (ra_cons re_c (ra_cons re_c (ra_cons re_c (ra_cons re_c ra_nil))))))))) (rt_test (re_neD (RN.re (rn_lc (is := [14]) (vs := [14]) (ri_seq (re_var (i := 11) hio)) (fun B hb => by have hio := hb.trans hio; exact (rg_name (i := 14))) (fun B hb => by have hio := hb.trans hio; exact (rt_not (rt_B (re_isi (re_var (i := 14) hio) (.own L.CP) (k := isSubD isP) L.kP)))) (fun B hb => by have hio := hb.trans hio; exact (re_var (i := 14) hio)) (fun _ h => h))) (re_lst ra_nil)))) (rs_ret re_c) rs_next)
    (rs_seq (rs_if (rt_or (rt_test (re_neD (re_fld (re_var (i := 6) hio) L.T.cl (L.T.no _ (by decide +kernel))) (re_tup (ra_cons (re_ixL (re_var (i := 3) hio) re_c) (ra_cons (re_tup (ra_cons (re_ixL (re_var (i := 3) hio) re_c) ra_nil)) ra_nil))))) (rt_or (rt_test (re_neD (re_fld (re_var (i := 8) hio) L.T.cl (L.T.no _ (by decide +kernel))) (re_tup (ra_cons (re_ixL (re_var (i := 3) hio) re_c) (ra_cons (re_tup (ra_cons (re_ixL (re_var (i := 3) hio) re_c) ra_nil)) ra_nil))))) (rt_test (re_neD (re_fld (re_var (i := 9) hio) L.T.cl (L.T.no _ (by decide +kernel))) (re_tup (ra_cons (re_ixL (re_var (i := 3) hio) re_c) (ra_cons (re_tup (ra_cons (re_tup (ra_cons (re_ixL (re_var (i := 3) hio) re_c) ra_nil)) ra_nil)) ra_nil))))))) (rs_ret re_c) rs_next)
    (rs_seq (rs_asg (re_lst (ra_cons (RN.re (rn_make (E := E0) (cn := "Holds") L.cHolds (ra_cons (re_tup (ra_cons (re_ixL (re_var (i := 3) hio) re_c) (ra_cons (re_tup (ra_cons (re_ixL (re_var (i := 3) hio) re_c) ra_nil)) ra_nil))) ra_nil))) (ra_cons (RN.re (rn_make (E := E0) (cn := "Breaks") L.cBreaks (ra_cons (re_tup (ra_cons (re_tup (ra_cons (re_ixL (re_var (i := 3) hio) re_c) ra_nil)) (ra_cons (re_ixL (re_var (i := 3) hio) re_c) ra_nil))) ra_nil))) (ra_cons (RN.re (rn_make (E := E0) (cn := "Guards") L.cGuards (ra_cons (re_ixL (re_var (i := 3) hio) re_c) (ra_cons (re_tup (ra_cons (re_ixL (re_var (i := 3) hio) re_c) ra_nil)) ra_nil)))) (ra_cons (RN.re (rn_make (E := E0) (cn := "Checked") L.cChecked (ra_cons (re_ixL (re_var (i := 3) hio) re_c) ra_nil))) (ra_cons (RN.re (rn_make (E := E0) (cn := "Broken") L.cBroken (ra_cons (re_ixL (re_var (i := 3) hio) re_c) (ra_cons (re_tup (ra_cons (re_ixL (re_var (i := 3) hio) re_c) ra_nil)) ra_nil)))) (ra_cons (RN.re (rn_make (E := E0) (cn := "Soonest") L.cSoonest (ra_cons (re_ixL (re_var (i := 3) hio) re_c) (ra_cons (re_tup (ra_cons (re_tup (ra_cons (re_ixL (re_var (i := 3) hio) re_c) ra_nil)) ra_nil)) ra_nil)))) ra_nil))))))) (rg_name (i := 12)))
    (rs_seq (rs_if (rt_test (re_neD (RN.re (rn_lc (is := [14, 15]) (vs := [14, 15]) (ri_zip (ra_cons (re_var (i := 11) hio) (ra_cons (re_var (i := 12) hio) ra_nil))) (fun B hb => by have hio := hb.trans hio; exact (rg_tup (rgs_cons (rg_name (i := 14)) (rgs_cons (rg_name (i := 15)) rgs_nil)))) (fun B hb => by have hio := hb.trans hio; exact (rt_or (rt_not (rt_test (re_eqI (E := E0) L.ET (re_var (i := 14) hio) (re_var (i := 15) hio)))) (rt_test (re_neI (E := E0) L.ET (re_var (i := 14) hio) (re_var (i := 15) hio))))) (fun B hb => by have hio := hb.trans hio; exact (re_var (i := 14) hio)) (fun _ h => h))) (re_lst ra_nil))) (rs_ret re_c) rs_next)
    (rs_if (rt_or (rt_test (re_eqI (E := E0) L.ET (RN.re (rn_make (E := E0) (cn := "Holds") L.cHolds (ra_cons (re_ixL (re_var (i := 3) hio) re_c) ra_nil))) (RN.re (rn_make (E := E0) (cn := "Checked") L.cChecked (ra_cons (re_ixL (re_var (i := 3) hio) re_c) ra_nil))))) (rt_or (rt_test (re_eqI (E := E0) L.ET (RN.re (rn_make (E := E0) (cn := "Guards") L.cGuards (ra_cons (re_ixL (re_var (i := 3) hio) re_c) (ra_cons (re_ixL (re_var (i := 3) hio) re_c) ra_nil)))) (RN.re (rn_make (E := E0) (cn := "Broken") L.cBroken (ra_cons (re_ixL (re_var (i := 3) hio) re_c) (ra_cons (re_ixL (re_var (i := 3) hio) re_c) ra_nil)))))) (rt_or (rt_test (re_eqI (E := E0) L.ET (RN.re (rn_make (E := E0) (cn := "Breaks") L.cBreaks (ra_cons (re_ixL (re_var (i := 3) hio) re_c) ra_nil))) (RN.re (rn_make (E := E0) (cn := "Breaks") L.cBreaks (ra_cons (re_tup (ra_cons (re_ixL (re_var (i := 3) hio) re_c) ra_nil)) ra_nil))))) (rt_test (re_eqI (E := E0) L.ET (re_var (i := 4) hio) (re_fld (re_var (i := 4) hio) L.T.cl (L.T.no _ (by decide +kernel)))))))) (rs_ret re_c) rs_next)))))))))))))
    (rs_ret re_c)) ?_ ?_ ?_
  · exact rel_well (n := 14) rfl rfl sf fp hl' hp hs
  · exact ⟨fun _ _ _ _ _ _ z => z.elim, fun _ _ _ _ _ _ z => z.elim, fun _ _ _ _ _ _ z => z.elim, fun σ2 H2 F2 ρ2 d v r s2 dv e => by
      have e : d = .bl true := e
      subst e
      have ev : v = .bl true := dv
      subst ev
      exact q H2⟩
  refine dfor_M (fun i ρ => ∃ x2 x3 x4 x5 x6 x7 x8 x9 x10 x11 x12 : Sl, ρ = ⟨[.un, .v .well, x2, x3, x4, x5, x6, x7, x8, x9, x10, x11, x12, .un, .un, .un], 3 * i⟩) [.int 0, .int 1, .int 2] ?_ ?_ ?_ ?_
  · exact ⟨by decide, rfl, _, _, _, _, _, _, _, _, _, _, _, rfl⟩
  · rintro i d _ hi ⟨x2, x3, x4, x5, x6, x7, x8, x9, x10, x11, x12, rfl⟩ nx hnx
    have hi3 : i < 3 := (List.getElem?_eq_some_iff.mp hi).1
    have hc : 3 * i < 1048570 := by omega
    refine dseq_mid (fun ρ => ∃ d0 d1 d2 : D, d0 ∈ six ∧ d1 ∈ six ∧ d2 ∈ six ∧ ρ = ⟨[.un, .v .well, .v d, .v (.lst [d0, d1, d2]), x4, x5, x6, x7, x8, x9, x10, x11, x12, .un, .un, .un], 3 * i + 3⟩) (fun nx hnx => ?_) ?_
    · refine ⟨by decide, rfl, ?_⟩
      refine ⟨lz rfl, lz rfl, lz rfl, lz rfl, _, rfl, lz' rfl, lz' rfl, by show 3 * i < _; omega, fun d0 h0 => ⟨lz' rfl, ?_⟩⟩
      refine ⟨lz rfl, lz rfl, lz rfl, lz rfl, _, rfl, lz' rfl, lz' rfl, by show 3 * i + 1 < _; omega, fun d1 h1 => ⟨lz' rfl, ?_⟩⟩
      refine ⟨lz rfl, lz rfl, lz rfl, lz rfl, _, rfl, lz' rfl, lz' rfl, by show 3 * i + 2 < _; omega, fun d2 h2 => ⟨lz' rfl, ?_⟩⟩
      exact hnx _ ⟨d0, d1, d2, h0, h1, h2, rfl⟩
    rintro _ ⟨d0, d1, d2, h0, h1, h2, rfl⟩
    refine dseq_mid (fun ρ => ρ = ⟨[.un, .v .well, .v d, .v (.lst [d0, d1, d2]), .v (P1 d0 d1 d2), .v (P2 d0 d1 d2), .v (P3 d0 d1 d2), x7, x8, x9, x10, x11, x12, .un, .un, .un], 3 * i + 3⟩) (fun nx hnx => ?_) ?_
    · exact ⟨lz rfl, lz rfl, rfl, _, "Holds", rfl, rfl, nmHolds, ok1 d0 h0 d1 h1, lenHolds, lz rfl, lz rfl, rfl, _, "Breaks", rfl, rfl, nmBreaks, ok2 d0 h0 d2 h2, lenBreaks, lz rfl, rfl, _, _, "Guards", rfl, rfl, nmGuards, ok3 d0 h0 d1 h1, lenGuards, hnx _ rfl⟩
    rintro _ rfl
    refine dseq_mid (fun ρ => ρ = ⟨[.un, .v .well, .v d, .v (.lst [d0, d1, d2]), .v (P1 d0 d1 d2), .v (P2 d0 d1 d2), .v (P3 d0 d1 d2), .v (P4 d0 d1 d2), .v (P5 d0 d1 d2), .v (P6 d0 d1 d2), x10, x11, x12, .un, .un, .un], 3 * i + 3⟩) (fun nx hnx => ?_) ?_
    · exact ⟨rfl, _, "Checked", rfl, rfl, nmChecked, ok4 d2 h2, lenChecked, lz rfl, rfl, _, _, "Broken", rfl, rfl, nmBroken, ok3 d1 h1 d0 h0, lenBroken, lz rfl, lz rfl, rfl, _, _, "Soonest", rfl, rfl, nmSoonest, ok6 d2 h2 d1 h1, lenSoonest, hnx _ rfl⟩
    rintro _ rfl
    refine dseq_mid (fun ρ => ρ = ⟨[.un, .v .well, .v d, .v (.lst [d0, d1, d2]), .v (P1 d0 d1 d2), .v (P2 d0 d1 d2), .v (P3 d0 d1 d2), .v (P4 d0 d1 d2), .v (P5 d0 d1 d2), .v (P6 d0 d1 d2), .v (.lst [keptD (.lst [d0, .lst [d1]]), keptD (.lst [.lst [d0], d2]), keptD d0, keptD (.lst [d1]), keptD d2, keptD d1, keptD (.lst [d0]), keptD d2, keptD (.lst [.lst [d1]])]), x11, x12, .un, .un, .un], 3 * i + 3⟩) (fun nx hnx => ?_) ?_
    · exact ⟨lz rfl, hnx _ rfl⟩
    rintro _ rfl
    refine dseq_mid (fun ρ => ρ = ⟨[.un, .v .well, .v d, .v (.lst [d0, d1, d2]), .v (P1 d0 d1 d2), .v (P2 d0 d1 d2), .v (P3 d0 d1 d2), .v (P4 d0 d1 d2), .v (P5 d0 d1 d2), .v (P6 d0 d1 d2), .v (.lst [keptD (.lst [d0, .lst [d1]]), keptD (.lst [.lst [d0], d2]), keptD d0, keptD (.lst [d1]), keptD d2, keptD d1, keptD (.lst [d0]), keptD d2, keptD (.lst [.lst [d1]])]), x11, x12, .un, .un, .un], 3 * i + 3⟩) (fun nx hnx => ?_) ?_
    · exact ⟨lz rfl, lz rfl, lz rfl, lz rfl, lz rfl, lz rfl, lz rfl, lz rfl, lz rfl, true, e5 d0 h0 d1 h1 d2 h2, hnx _ rfl⟩
    rintro _ rfl
    refine dseq_mid (fun ρ => ρ = ⟨[.un, .v .well, .v d, .v (.lst [d0, d1, d2]), .v (P1 d0 d1 d2), .v (P2 d0 d1 d2), .v (P3 d0 d1 d2), .v (P4 d0 d1 d2), .v (P5 d0 d1 d2), .v (P6 d0 d1 d2), .v (.lst [keptD (.lst [d0, .lst [d1]]), keptD (.lst [.lst [d0], d2]), keptD d0, keptD (.lst [d1]), keptD d2, keptD d1, keptD (.lst [d0]), keptD d2, keptD (.lst [.lst [d1]])]), .v (.lst [P1 d0 d1 d2, P2 d0 d1 d2, P3 d0 d1 d2, P4 d0 d1 d2, P5 d0 d1 d2, P6 d0 d1 d2]), x12, .un, .un, .un], 3 * i + 3⟩) (fun nx hnx => ?_) ?_
    · exact ⟨lz rfl, hnx _ rfl⟩
    rintro _ rfl
    refine dseq_mid (fun ρ => ρ = ⟨[.un, .v .well, .v d, .v (.lst [d0, d1, d2]), .v (P1 d0 d1 d2), .v (P2 d0 d1 d2), .v (P3 d0 d1 d2), .v (P4 d0 d1 d2), .v (P5 d0 d1 d2), .v (P6 d0 d1 d2), .v (.lst [keptD (.lst [d0, .lst [d1]]), keptD (.lst [.lst [d0], d2]), keptD d0, keptD (.lst [d1]), keptD d2, keptD d1, keptD (.lst [d0]), keptD d2, keptD (.lst [.lst [d1]])]), .v (.lst [P1 d0 d1 d2, P2 d0 d1 d2, P3 d0 d1 d2, P4 d0 d1 d2, P5 d0 d1 d2, P6 d0 d1 d2]), x12, .un, .un, .un], 3 * i + 3⟩) (fun nx hnx => ?_) ?_
    · exact ⟨rfl, lz' rfl, show dLcL _ _ _ _ _ (⟨[.un, .v .well, .v d, .v (.lst [d0, d1, d2]), .v (P1 d0 d1 d2), .v (P2 d0 d1 d2), .v (P3 d0 d1 d2), .v (P4 d0 d1 d2), .v (P5 d0 d1 d2), .v (P6 d0 d1 d2), .v (.lst [keptD (.lst [d0, .lst [d1]]), keptD (.lst [.lst [d0], d2]), keptD d0, keptD (.lst [d1]), keptD d2, keptD d1, keptD (.lst [d0]), keptD d2, keptD (.lst [.lst [d1]])]), .v (.lst [P1 d0 d1 d2, P2 d0 d1 d2, P3 d0 d1 d2, P4 d0 d1 d2, P5 d0 d1 d2, P6 d0 d1 d2]), x12, .un, .un, .un], 3 * i + 3⟩ : Ev) _ _ from ⟨lz' rfl, show dLcL _ _ _ _ _ (⟨[.un, .v .well, .v d, .v (.lst [d0, d1, d2]), .v (P1 d0 d1 d2), .v (P2 d0 d1 d2), .v (P3 d0 d1 d2), .v (P4 d0 d1 d2), .v (P5 d0 d1 d2), .v (P6 d0 d1 d2), .v (.lst [keptD (.lst [d0, .lst [d1]]), keptD (.lst [.lst [d0], d2]), keptD d0, keptD (.lst [d1]), keptD d2, keptD d1, keptD (.lst [d0]), keptD d2, keptD (.lst [.lst [d1]])]), .v (.lst [P1 d0 d1 d2, P2 d0 d1 d2, P3 d0 d1 d2, P4 d0 d1 d2, P5 d0 d1 d2, P6 d0 d1 d2]), x12, .un, .un, .un], 3 * i + 3⟩ : Ev) _ _ from ⟨lz' rfl, show dLcL _ _ _ _ _ (⟨[.un, .v .well, .v d, .v (.lst [d0, d1, d2]), .v (P1 d0 d1 d2), .v (P2 d0 d1 d2), .v (P3 d0 d1 d2), .v (P4 d0 d1 d2), .v (P5 d0 d1 d2), .v (P6 d0 d1 d2), .v (.lst [keptD (.lst [d0, .lst [d1]]), keptD (.lst [.lst [d0], d2]), keptD d0, keptD (.lst [d1]), keptD d2, keptD d1, keptD (.lst [d0]), keptD d2, keptD (.lst [.lst [d1]])]), .v (.lst [P1 d0 d1 d2, P2 d0 d1 d2, P3 d0 d1 d2, P4 d0 d1 d2, P5 d0 d1 d2, P6 d0 d1 d2]), x12, .un, .un, .un], 3 * i + 3⟩ : Ev) _ _ from ⟨lz' rfl, show dLcL _ _ _ _ _ (⟨[.un, .v .well, .v d, .v (.lst [d0, d1, d2]), .v (P1 d0 d1 d2), .v (P2 d0 d1 d2), .v (P3 d0 d1 d2), .v (P4 d0 d1 d2), .v (P5 d0 d1 d2), .v (P6 d0 d1 d2), .v (.lst [keptD (.lst [d0, .lst [d1]]), keptD (.lst [.lst [d0], d2]), keptD d0, keptD (.lst [d1]), keptD d2, keptD d1, keptD (.lst [d0]), keptD d2, keptD (.lst [.lst [d1]])]), .v (.lst [P1 d0 d1 d2, P2 d0 d1 d2, P3 d0 d1 d2, P4 d0 d1 d2, P5 d0 d1 d2, P6 d0 d1 d2]), x12, .un, .un, .un], 3 * i + 3⟩ : Ev) _ _ from ⟨lz' rfl, show dLcL _ _ _ _ _ (⟨[.un, .v .well, .v d, .v (.lst [d0, d1, d2]), .v (P1 d0 d1 d2), .v (P2 d0 d1 d2), .v (P3 d0 d1 d2), .v (P4 d0 d1 d2), .v (P5 d0 d1 d2), .v (P6 d0 d1 d2), .v (.lst [keptD (.lst [d0, .lst [d1]]), keptD (.lst [.lst [d0], d2]), keptD d0, keptD (.lst [d1]), keptD d2, keptD d1, keptD (.lst [d0]), keptD d2, keptD (.lst [.lst [d1]])]), .v (.lst [P1 d0 d1 d2, P2 d0 d1 d2, P3 d0 d1 d2, P4 d0 d1 d2, P5 d0 d1 d2, P6 d0 d1 d2]), x12, .un, .un, .un], 3 * i + 3⟩ : Ev) _ _ from ⟨lz' rfl, show dLcL _ _ _ _ _ (⟨[.un, .v .well, .v d, .v (.lst [d0, d1, d2]), .v (P1 d0 d1 d2), .v (P2 d0 d1 d2), .v (P3 d0 d1 d2), .v (P4 d0 d1 d2), .v (P5 d0 d1 d2), .v (P6 d0 d1 d2), .v (.lst [keptD (.lst [d0, .lst [d1]]), keptD (.lst [.lst [d0], d2]), keptD d0, keptD (.lst [d1]), keptD d2, keptD d1, keptD (.lst [d0]), keptD d2, keptD (.lst [.lst [d1]])]), .v (.lst [P1 d0 d1 d2, P2 d0 d1 d2, P3 d0 d1 d2, P4 d0 d1 d2, P5 d0 d1 d2, P6 d0 d1 d2]), x12, .un, .un, .un], 3 * i + 3⟩ : Ev) _ _ from ⟨lz rfl, true, e7a, rfl, lz' rfl, show dLcL _ _ _ _ _ (⟨[.un, .v .well, .v d, .v (.lst [d0, d1, d2]), .v (P1 d0 d1 d2), .v (P2 d0 d1 d2), .v (P3 d0 d1 d2), .v (P4 d0 d1 d2), .v (P5 d0 d1 d2), .v (P6 d0 d1 d2), .v (.lst [keptD (.lst [d0, .lst [d1]]), keptD (.lst [.lst [d0], d2]), keptD d0, keptD (.lst [d1]), keptD d2, keptD d1, keptD (.lst [d0]), keptD d2, keptD (.lst [.lst [d1]])]), .v (.lst [P1 d0 d1 d2, P2 d0 d1 d2, P3 d0 d1 d2, P4 d0 d1 d2, P5 d0 d1 d2, P6 d0 d1 d2]), x12, .un, .un, .un], 3 * i + 3⟩ : Ev) _ _ from ⟨lz' rfl, show dLcL _ _ _ _ _ (⟨[.un, .v .well, .v d, .v (.lst [d0, d1, d2]), .v (P1 d0 d1 d2), .v (P2 d0 d1 d2), .v (P3 d0 d1 d2), .v (P4 d0 d1 d2), .v (P5 d0 d1 d2), .v (P6 d0 d1 d2), .v (.lst [keptD (.lst [d0, .lst [d1]]), keptD (.lst [.lst [d0], d2]), keptD d0, keptD (.lst [d1]), keptD d2, keptD d1, keptD (.lst [d0]), keptD d2, keptD (.lst [.lst [d1]])]), .v (.lst [P1 d0 d1 d2, P2 d0 d1 d2, P3 d0 d1 d2, P4 d0 d1 d2, P5 d0 d1 d2, P6 d0 d1 d2]), x12, .un, .un, .un], 3 * i + 3⟩ : Ev) _ _ from ⟨lz' rfl, show dLcL _ _ _ _ _ (⟨[.un, .v .well, .v d, .v (.lst [d0, d1, d2]), .v (P1 d0 d1 d2), .v (P2 d0 d1 d2), .v (P3 d0 d1 d2), .v (P4 d0 d1 d2), .v (P5 d0 d1 d2), .v (P6 d0 d1 d2), .v (.lst [keptD (.lst [d0, .lst [d1]]), keptD (.lst [.lst [d0], d2]), keptD d0, keptD (.lst [d1]), keptD d2, keptD d1, keptD (.lst [d0]), keptD d2, keptD (.lst [.lst [d1]])]), .v (.lst [P1 d0 d1 d2, P2 d0 d1 d2, P3 d0 d1 d2, P4 d0 d1 d2, P5 d0 d1 d2, P6 d0 d1 d2]), x12, .un, .un, .un], 3 * i + 3⟩ : Ev) _ _ from ⟨lz' rfl, show dLcL _ _ _ _ _ (⟨[.un, .v .well, .v d, .v (.lst [d0, d1, d2]), .v (P1 d0 d1 d2), .v (P2 d0 d1 d2), .v (P3 d0 d1 d2), .v (P4 d0 d1 d2), .v (P5 d0 d1 d2), .v (P6 d0 d1 d2), .v (.lst [keptD (.lst [d0, .lst [d1]]), keptD (.lst [.lst [d0], d2]), keptD d0, keptD (.lst [d1]), keptD d2, keptD d1, keptD (.lst [d0]), keptD d2, keptD (.lst [.lst [d1]])]), .v (.lst [P1 d0 d1 d2, P2 d0 d1 d2, P3 d0 d1 d2, P4 d0 d1 d2, P5 d0 d1 d2, P6 d0 d1 d2]), x12, .un, .un, .un], 3 * i + 3⟩ : Ev) _ _ from ⟨lz' rfl, show dLcL _ _ _ _ _ (⟨[.un, .v .well, .v d, .v (.lst [d0, d1, d2]), .v (P1 d0 d1 d2), .v (P2 d0 d1 d2), .v (P3 d0 d1 d2), .v (P4 d0 d1 d2), .v (P5 d0 d1 d2), .v (P6 d0 d1 d2), .v (.lst [keptD (.lst [d0, .lst [d1]]), keptD (.lst [.lst [d0], d2]), keptD d0, keptD (.lst [d1]), keptD d2, keptD d1, keptD (.lst [d0]), keptD d2, keptD (.lst [.lst [d1]])]), .v (.lst [P1 d0 d1 d2, P2 d0 d1 d2, P3 d0 d1 d2, P4 d0 d1 d2, P5 d0 d1 d2, P6 d0 d1 d2]), x12, .un, .un, .un], 3 * i + 3⟩ : Ev) _ _ from ⟨lz' rfl, show dLcL _ _ _ _ _ (⟨[.un, .v .well, .v d, .v (.lst [d0, d1, d2]), .v (P1 d0 d1 d2), .v (P2 d0 d1 d2), .v (P3 d0 d1 d2), .v (P4 d0 d1 d2), .v (P5 d0 d1 d2), .v (P6 d0 d1 d2), .v (.lst [keptD (.lst [d0, .lst [d1]]), keptD (.lst [.lst [d0], d2]), keptD d0, keptD (.lst [d1]), keptD d2, keptD d1, keptD (.lst [d0]), keptD d2, keptD (.lst [.lst [d1]])]), .v (.lst [P1 d0 d1 d2, P2 d0 d1 d2, P3 d0 d1 d2, P4 d0 d1 d2, P5 d0 d1 d2, P6 d0 d1 d2]), x12, .un, .un, .un], 3 * i + 3⟩ : Ev) _ _ from ⟨lz rfl, true, e7b, hnx _ rfl⟩⟩⟩⟩⟩⟩⟩⟩⟩⟩⟩⟩⟩
    rintro _ rfl
    refine dseq_mid (fun ρ => ρ = ⟨[.un, .v .well, .v d, .v (.lst [d0, d1, d2]), .v (P1 d0 d1 d2), .v (P2 d0 d1 d2), .v (P3 d0 d1 d2), .v (P4 d0 d1 d2), .v (P5 d0 d1 d2), .v (P6 d0 d1 d2), .v (.lst [keptD (.lst [d0, .lst [d1]]), keptD (.lst [.lst [d0], d2]), keptD d0, keptD (.lst [d1]), keptD d2, keptD d1, keptD (.lst [d0]), keptD d2, keptD (.lst [.lst [d1]])]), .v (.lst [P1 d0 d1 d2, P2 d0 d1 d2, P3 d0 d1 d2, P4 d0 d1 d2, P5 d0 d1 d2, P6 d0 d1 d2]), x12, .un, .un, .un], 3 * i + 3⟩) (fun nx hnx => ?_) ?_
    · exact ⟨rfl, false, isDHolds, lz' rfl, show dLcL _ _ _ _ _ (⟨[.un, .v .well, .v d, .v (.lst [d0, d1, d2]), .v (P1 d0 d1 d2), .v (P2 d0 d1 d2), .v (P3 d0 d1 d2), .v (P4 d0 d1 d2), .v (P5 d0 d1 d2), .v (P6 d0 d1 d2), .v (.lst [keptD (.lst [d0, .lst [d1]]), keptD (.lst [.lst [d0], d2]), keptD d0, keptD (.lst [d1]), keptD d2, keptD d1, keptD (.lst [d0]), keptD d2, keptD (.lst [.lst [d1]])]), .v (.lst [P1 d0 d1 d2, P2 d0 d1 d2, P3 d0 d1 d2, P4 d0 d1 d2, P5 d0 d1 d2, P6 d0 d1 d2]), x12, .un, .un, .un], 3 * i + 3⟩ : Ev) _ _ from ⟨true, isDBreaks, lz' rfl, show dLcL _ _ _ _ _ (⟨[.un, .v .well, .v d, .v (.lst [d0, d1, d2]), .v (P1 d0 d1 d2), .v (P2 d0 d1 d2), .v (P3 d0 d1 d2), .v (P4 d0 d1 d2), .v (P5 d0 d1 d2), .v (P6 d0 d1 d2), .v (.lst [keptD (.lst [d0, .lst [d1]]), keptD (.lst [.lst [d0], d2]), keptD d0, keptD (.lst [d1]), keptD d2, keptD d1, keptD (.lst [d0]), keptD d2, keptD (.lst [.lst [d1]])]), .v (.lst [P1 d0 d1 d2, P2 d0 d1 d2, P3 d0 d1 d2, P4 d0 d1 d2, P5 d0 d1 d2, P6 d0 d1 d2]), x12, .un, .un, .un], 3 * i + 3⟩ : Ev) _ _ from ⟨false, isDGuards, lz' rfl, show dLcL _ _ _ _ _ (⟨[.un, .v .well, .v d, .v (.lst [d0, d1, d2]), .v (P1 d0 d1 d2), .v (P2 d0 d1 d2), .v (P3 d0 d1 d2), .v (P4 d0 d1 d2), .v (P5 d0 d1 d2), .v (P6 d0 d1 d2), .v (.lst [keptD (.lst [d0, .lst [d1]]), keptD (.lst [.lst [d0], d2]), keptD d0, keptD (.lst [d1]), keptD d2, keptD d1, keptD (.lst [d0]), keptD d2, keptD (.lst [.lst [d1]])]), .v (.lst [P1 d0 d1 d2, P2 d0 d1 d2, P3 d0 d1 d2, P4 d0 d1 d2, P5 d0 d1 d2, P6 d0 d1 d2]), x12, .un, .un, .un], 3 * i + 3⟩ : Ev) _ _ from ⟨false, isDChecked, lz' rfl, show dLcL _ _ _ _ _ (⟨[.un, .v .well, .v d, .v (.lst [d0, d1, d2]), .v (P1 d0 d1 d2), .v (P2 d0 d1 d2), .v (P3 d0 d1 d2), .v (P4 d0 d1 d2), .v (P5 d0 d1 d2), .v (P6 d0 d1 d2), .v (.lst [keptD (.lst [d0, .lst [d1]]), keptD (.lst [.lst [d0], d2]), keptD d0, keptD (.lst [d1]), keptD d2, keptD d1, keptD (.lst [d0]), keptD d2, keptD (.lst [.lst [d1]])]), .v (.lst [P1 d0 d1 d2, P2 d0 d1 d2, P3 d0 d1 d2, P4 d0 d1 d2, P5 d0 d1 d2, P6 d0 d1 d2]), x12, .un, .un, .un], 3 * i + 3⟩ : Ev) _ _ from ⟨true, isDBroken, lz' rfl, show dLcL _ _ _ _ _ (⟨[.un, .v .well, .v d, .v (.lst [d0, d1, d2]), .v (P1 d0 d1 d2), .v (P2 d0 d1 d2), .v (P3 d0 d1 d2), .v (P4 d0 d1 d2), .v (P5 d0 d1 d2), .v (P6 d0 d1 d2), .v (.lst [keptD (.lst [d0, .lst [d1]]), keptD (.lst [.lst [d0], d2]), keptD d0, keptD (.lst [d1]), keptD d2, keptD d1, keptD (.lst [d0]), keptD d2, keptD (.lst [.lst [d1]])]), .v (.lst [P1 d0 d1 d2, P2 d0 d1 d2, P3 d0 d1 d2, P4 d0 d1 d2, P5 d0 d1 d2, P6 d0 d1 d2]), x12, .un, .un, .un], 3 * i + 3⟩ : Ev) _ _ from ⟨true, isDSoonest, lz' rfl, show dLcL _ _ _ _ _ (⟨[.un, .v .well, .v d, .v (.lst [d0, d1, d2]), .v (P1 d0 d1 d2), .v (P2 d0 d1 d2), .v (P3 d0 d1 d2), .v (P4 d0 d1 d2), .v (P5 d0 d1 d2), .v (P6 d0 d1 d2), .v (.lst [keptD (.lst [d0, .lst [d1]]), keptD (.lst [.lst [d0], d2]), keptD d0, keptD (.lst [d1]), keptD d2, keptD d1, keptD (.lst [d0]), keptD d2, keptD (.lst [.lst [d1]])]), .v (.lst [P1 d0 d1 d2, P2 d0 d1 d2, P3 d0 d1 d2, P4 d0 d1 d2, P5 d0 d1 d2, P6 d0 d1 d2]), x12, .un, .un, .un], 3 * i + 3⟩ : Ev) _ _ from ⟨lz rfl, true, e8a, rfl, true, isPHolds, show dLcL _ _ _ _ _ (⟨[.un, .v .well, .v d, .v (.lst [d0, d1, d2]), .v (P1 d0 d1 d2), .v (P2 d0 d1 d2), .v (P3 d0 d1 d2), .v (P4 d0 d1 d2), .v (P5 d0 d1 d2), .v (P6 d0 d1 d2), .v (.lst [keptD (.lst [d0, .lst [d1]]), keptD (.lst [.lst [d0], d2]), keptD d0, keptD (.lst [d1]), keptD d2, keptD d1, keptD (.lst [d0]), keptD d2, keptD (.lst [.lst [d1]])]), .v (.lst [P1 d0 d1 d2, P2 d0 d1 d2, P3 d0 d1 d2, P4 d0 d1 d2, P5 d0 d1 d2, P6 d0 d1 d2]), x12, .un, .un, .un], 3 * i + 3⟩ : Ev) _ _ from ⟨true, isPBreaks, show dLcL _ _ _ _ _ (⟨[.un, .v .well, .v d, .v (.lst [d0, d1, d2]), .v (P1 d0 d1 d2), .v (P2 d0 d1 d2), .v (P3 d0 d1 d2), .v (P4 d0 d1 d2), .v (P5 d0 d1 d2), .v (P6 d0 d1 d2), .v (.lst [keptD (.lst [d0, .lst [d1]]), keptD (.lst [.lst [d0], d2]), keptD d0, keptD (.lst [d1]), keptD d2, keptD d1, keptD (.lst [d0]), keptD d2, keptD (.lst [.lst [d1]])]), .v (.lst [P1 d0 d1 d2, P2 d0 d1 d2, P3 d0 d1 d2, P4 d0 d1 d2, P5 d0 d1 d2, P6 d0 d1 d2]), x12, .un, .un, .un], 3 * i + 3⟩ : Ev) _ _ from ⟨true, isPGuards, show dLcL _ _ _ _ _ (⟨[.un, .v .well, .v d, .v (.lst [d0, d1, d2]), .v (P1 d0 d1 d2), .v (P2 d0 d1 d2), .v (P3 d0 d1 d2), .v (P4 d0 d1 d2), .v (P5 d0 d1 d2), .v (P6 d0 d1 d2), .v (.lst [keptD (.lst [d0, .lst [d1]]), keptD (.lst [.lst [d0], d2]), keptD d0, keptD (.lst [d1]), keptD d2, keptD d1, keptD (.lst [d0]), keptD d2, keptD (.lst [.lst [d1]])]), .v (.lst [P1 d0 d1 d2, P2 d0 d1 d2, P3 d0 d1 d2, P4 d0 d1 d2, P5 d0 d1 d2, P6 d0 d1 d2]), x12, .un, .un, .un], 3 * i + 3⟩ : Ev) _ _ from ⟨true, isPChecked, show dLcL _ _ _ _ _ (⟨[.un, .v .well, .v d, .v (.lst [d0, d1, d2]), .v (P1 d0 d1 d2), .v (P2 d0 d1 d2), .v (P3 d0 d1 d2), .v (P4 d0 d1 d2), .v (P5 d0 d1 d2), .v (P6 d0 d1 d2), .v (.lst [keptD (.lst [d0, .lst [d1]]), keptD (.lst [.lst [d0], d2]), keptD d0, keptD (.lst [d1]), keptD d2, keptD d1, keptD (.lst [d0]), keptD d2, keptD (.lst [.lst [d1]])]), .v (.lst [P1 d0 d1 d2, P2 d0 d1 d2, P3 d0 d1 d2, P4 d0 d1 d2, P5 d0 d1 d2, P6 d0 d1 d2]), x12, .un, .un, .un], 3 * i + 3⟩ : Ev) _ _ from ⟨true, isPBroken, show dLcL _ _ _ _ _ (⟨[.un, .v .well, .v d, .v (.lst [d0, d1, d2]), .v (P1 d0 d1 d2), .v (P2 d0 d1 d2), .v (P3 d0 d1 d2), .v (P4 d0 d1 d2), .v (P5 d0 d1 d2), .v (P6 d0 d1 d2), .v (.lst [keptD (.lst [d0, .lst [d1]]), keptD (.lst [.lst [d0], d2]), keptD d0, keptD (.lst [d1]), keptD d2, keptD d1, keptD (.lst [d0]), keptD d2, keptD (.lst [.lst [d1]])]), .v (.lst [P1 d0 d1 d2, P2 d0 d1 d2, P3 d0 d1 d2, P4 d0 d1 d2, P5 d0 d1 d2, P6 d0 d1 d2]), x12, .un, .un, .un], 3 * i + 3⟩ : Ev) _ _ from ⟨true, isPSoonest, show dLcL _ _ _ _ _ (⟨[.un, .v .well, .v d, .v (.lst [d0, d1, d2]), .v (P1 d0 d1 d2), .v (P2 d0 d1 d2), .v (P3 d0 d1 d2), .v (P4 d0 d1 d2), .v (P5 d0 d1 d2), .v (P6 d0 d1 d2), .v (.lst [keptD (.lst [d0, .lst [d1]]), keptD (.lst [.lst [d0], d2]), keptD d0, keptD (.lst [d1]), keptD d2, keptD d1, keptD (.lst [d0]), keptD d2, keptD (.lst [.lst [d1]])]), .v (.lst [P1 d0 d1 d2, P2 d0 d1 d2, P3 d0 d1 d2, P4 d0 d1 d2, P5 d0 d1 d2, P6 d0 d1 d2]), x12, .un, .un, .un], 3 * i + 3⟩ : Ev) _ _ from ⟨lz rfl, true, e0, hnx _ rfl⟩⟩⟩⟩⟩⟩⟩⟩⟩⟩⟩⟩⟩
    rintro _ rfl
    refine dseq_mid (fun ρ => ρ = ⟨[.un, .v .well, .v d, .v (.lst [d0, d1, d2]), .v (P1 d0 d1 d2), .v (P2 d0 d1 d2), .v (P3 d0 d1 d2), .v (P4 d0 d1 d2), .v (P5 d0 d1 d2), .v (P6 d0 d1 d2), .v (.lst [keptD (.lst [d0, .lst [d1]]), keptD (.lst [.lst [d0], d2]), keptD d0, keptD (.lst [d1]), keptD d2, keptD d1, keptD (.lst [d0]), keptD d2, keptD (.lst [.lst [d1]])]), .v (.lst [P1 d0 d1 d2, P2 d0 d1 d2, P3 d0 d1 d2, P4 d0 d1 d2, P5 d0 d1 d2, P6 d0 d1 d2]), x12, .un, .un, .un], 3 * i + 3⟩) (fun nx hnx => ?_) ?_
    · exact ⟨lz rfl, lz rfl, true, e9a d0 h0 d1 h1, lz rfl, lz rfl, true, e9a d1 h1 d0 h0, lz rfl, lz rfl, lz rfl, true, e9c d2 h2 d1 h1, hnx _ rfl⟩
    rintro _ rfl
    refine dseq_mid (fun ρ => ρ = ⟨[.un, .v .well, .v d, .v (.lst [d0, d1, d2]), .v (P1 d0 d1 d2), .v (P2 d0 d1 d2), .v (P3 d0 d1 d2), .v (P4 d0 d1 d2), .v (P5 d0 d1 d2), .v (P6 d0 d1 d2), .v (.lst [keptD (.lst [d0, .lst [d1]]), keptD (.lst [.lst [d0], d2]), keptD d0, keptD (.lst [d1]), keptD d2, keptD d1, keptD (.lst [d0]), keptD d2, keptD (.lst [.lst [d1]])]), .v (.lst [P1 d0 d1 d2, P2 d0 d1 d2, P3 d0 d1 d2, P4 d0 d1 d2, P5 d0 d1 d2, P6 d0 d1 d2]), .v (.lst [A1 d0 d1 d2, A2 d0 d1 d2, A3 d0 d1 d2, A4 d0 d1 d2, A5 d0 d1 d2, A6 d0 d1 d2]), .un, .un, .un], 3 * i + 3⟩) (fun nx hnx => ?_) ?_
    · exact ⟨lz rfl, lz rfl, _, "Holds", rfl, rfl, nmHolds, oa1 d0 h0 d1 h1, lenHolds, lz rfl, lz rfl, _, "Breaks", rfl, rfl, nmBreaks, oa2 d0 h0 d2 h2, lenBreaks, lz rfl, _, _, "Guards", rfl, rfl, nmGuards, oa3 d0 h0 d1 h1, lenGuards, _, "Checked", rfl, rfl, nmChecked, ok4 d2 h2, lenChecked, lz rfl, _, _, "Broken", rfl, rfl, nmBroken, oa3 d1 h1 d0 h0, lenBroken, lz rfl, lz rfl, _, _, "Soonest", rfl, rfl, nmSoonest, oa6 d2 h2 d1 h1, lenSoonest, lz rfl, hnx _ rfl⟩
    rintro _ rfl
    refine dseq_mid (fun ρ => ρ = ⟨[.un, .v .well, .v d, .v (.lst [d0, d1, d2]), .v (P1 d0 d1 d2), .v (P2 d0 d1 d2), .v (P3 d0 d1 d2), .v (P4 d0 d1 d2), .v (P5 d0 d1 d2), .v (P6 d0 d1 d2), .v (.lst [keptD (.lst [d0, .lst [d1]]), keptD (.lst [.lst [d0], d2]), keptD d0, keptD (.lst [d1]), keptD d2, keptD d1, keptD (.lst [d0]), keptD d2, keptD (.lst [.lst [d1]])]), .v (.lst [P1 d0 d1 d2, P2 d0 d1 d2, P3 d0 d1 d2, P4 d0 d1 d2, P5 d0 d1 d2, P6 d0 d1 d2]), .v (.lst [A1 d0 d1 d2, A2 d0 d1 d2, A3 d0 d1 d2, A4 d0 d1 d2, A5 d0 d1 d2, A6 d0 d1 d2]), .un, .un, .un], 3 * i + 3⟩) (fun nx hnx => ?_) ?_
    · exact ⟨rfl, rfl, rfl, _, _, true, rfl, ea1 d0 h0 d1 h1, rfl, _, _, true, rfl, ea1 d0 h0 d1 h1, show dLcL _ _ _ _ _ (⟨[.un, .v .well, .v d, .v (.lst [d0, d1, d2]), .v (P1 d0 d1 d2), .v (P2 d0 d1 d2), .v (P3 d0 d1 d2), .v (P4 d0 d1 d2), .v (P5 d0 d1 d2), .v (P6 d0 d1 d2), .v (.lst [keptD (.lst [d0, .lst [d1]]), keptD (.lst [.lst [d0], d2]), keptD d0, keptD (.lst [d1]), keptD d2, keptD d1, keptD (.lst [d0]), keptD d2, keptD (.lst [.lst [d1]])]), .v (.lst [P1 d0 d1 d2, P2 d0 d1 d2, P3 d0 d1 d2, P4 d0 d1 d2, P5 d0 d1 d2, P6 d0 d1 d2]), .v (.lst [A1 d0 d1 d2, A2 d0 d1 d2, A3 d0 d1 d2, A4 d0 d1 d2, A5 d0 d1 d2, A6 d0 d1 d2]), .un, .un, .un], 3 * i + 3⟩ : Ev) _ _ from ⟨rfl, rfl, _, _, true, rfl, ea2 d0 h0 d2 h2, rfl, _, _, true, rfl, ea2 d0 h0 d2 h2, show dLcL _ _ _ _ _ (⟨[.un, .v .well, .v d, .v (.lst [d0, d1, d2]), .v (P1 d0 d1 d2), .v (P2 d0 d1 d2), .v (P3 d0 d1 d2), .v (P4 d0 d1 d2), .v (P5 d0 d1 d2), .v (P6 d0 d1 d2), .v (.lst [keptD (.lst [d0, .lst [d1]]), keptD (.lst [.lst [d0], d2]), keptD d0, keptD (.lst [d1]), keptD d2, keptD d1, keptD (.lst [d0]), keptD d2, keptD (.lst [.lst [d1]])]), .v (.lst [P1 d0 d1 d2, P2 d0 d1 d2, P3 d0 d1 d2, P4 d0 d1 d2, P5 d0 d1 d2, P6 d0 d1 d2]), .v (.lst [A1 d0 d1 d2, A2 d0 d1 d2, A3 d0 d1 d2, A4 d0 d1 d2, A5 d0 d1 d2, A6 d0 d1 d2]), .un, .un, .un], 3 * i + 3⟩ : Ev) _ _ from ⟨rfl, rfl, _, _, true, rfl, ea3 d0 h0 d1 h1, rfl, _, _, true, rfl, ea3 d0 h0 d1 h1, show dLcL _ _ _ _ _ (⟨[.un, .v .well, .v d, .v (.lst [d0, d1, d2]), .v (P1 d0 d1 d2), .v (P2 d0 d1 d2), .v (P3 d0 d1 d2), .v (P4 d0 d1 d2), .v (P5 d0 d1 d2), .v (P6 d0 d1 d2), .v (.lst [keptD (.lst [d0, .lst [d1]]), keptD (.lst [.lst [d0], d2]), keptD d0, keptD (.lst [d1]), keptD d2, keptD d1, keptD (.lst [d0]), keptD d2, keptD (.lst [.lst [d1]])]), .v (.lst [P1 d0 d1 d2, P2 d0 d1 d2, P3 d0 d1 d2, P4 d0 d1 d2, P5 d0 d1 d2, P6 d0 d1 d2]), .v (.lst [A1 d0 d1 d2, A2 d0 d1 d2, A3 d0 d1 d2, A4 d0 d1 d2, A5 d0 d1 d2, A6 d0 d1 d2]), .un, .un, .un], 3 * i + 3⟩ : Ev) _ _ from ⟨rfl, rfl, _, _, true, rfl, ea4 d2 h2, rfl, _, _, true, rfl, ea4 d2 h2, show dLcL _ _ _ _ _ (⟨[.un, .v .well, .v d, .v (.lst [d0, d1, d2]), .v (P1 d0 d1 d2), .v (P2 d0 d1 d2), .v (P3 d0 d1 d2), .v (P4 d0 d1 d2), .v (P5 d0 d1 d2), .v (P6 d0 d1 d2), .v (.lst [keptD (.lst [d0, .lst [d1]]), keptD (.lst [.lst [d0], d2]), keptD d0, keptD (.lst [d1]), keptD d2, keptD d1, keptD (.lst [d0]), keptD d2, keptD (.lst [.lst [d1]])]), .v (.lst [P1 d0 d1 d2, P2 d0 d1 d2, P3 d0 d1 d2, P4 d0 d1 d2, P5 d0 d1 d2, P6 d0 d1 d2]), .v (.lst [A1 d0 d1 d2, A2 d0 d1 d2, A3 d0 d1 d2, A4 d0 d1 d2, A5 d0 d1 d2, A6 d0 d1 d2]), .un, .un, .un], 3 * i + 3⟩ : Ev) _ _ from ⟨rfl, rfl, _, _, true, rfl, ea5 d1 h1 d0 h0, rfl, _, _, true, rfl, ea5 d1 h1 d0 h0, show dLcL _ _ _ _ _ (⟨[.un, .v .well, .v d, .v (.lst [d0, d1, d2]), .v (P1 d0 d1 d2), .v (P2 d0 d1 d2), .v (P3 d0 d1 d2), .v (P4 d0 d1 d2), .v (P5 d0 d1 d2), .v (P6 d0 d1 d2), .v (.lst [keptD (.lst [d0, .lst [d1]]), keptD (.lst [.lst [d0], d2]), keptD d0, keptD (.lst [d1]), keptD d2, keptD d1, keptD (.lst [d0]), keptD d2, keptD (.lst [.lst [d1]])]), .v (.lst [P1 d0 d1 d2, P2 d0 d1 d2, P3 d0 d1 d2, P4 d0 d1 d2, P5 d0 d1 d2, P6 d0 d1 d2]), .v (.lst [A1 d0 d1 d2, A2 d0 d1 d2, A3 d0 d1 d2, A4 d0 d1 d2, A5 d0 d1 d2, A6 d0 d1 d2]), .un, .un, .un], 3 * i + 3⟩ : Ev) _ _ from ⟨rfl, rfl, _, _, true, rfl, ea6 d2 h2 d1 h1, rfl, _, _, true, rfl, ea6 d2 h2 d1 h1, show dLcL _ _ _ _ _ (⟨[.un, .v .well, .v d, .v (.lst [d0, d1, d2]), .v (P1 d0 d1 d2), .v (P2 d0 d1 d2), .v (P3 d0 d1 d2), .v (P4 d0 d1 d2), .v (P5 d0 d1 d2), .v (P6 d0 d1 d2), .v (.lst [keptD (.lst [d0, .lst [d1]]), keptD (.lst [.lst [d0], d2]), keptD d0, keptD (.lst [d1]), keptD d2, keptD d1, keptD (.lst [d0]), keptD d2, keptD (.lst [.lst [d1]])]), .v (.lst [P1 d0 d1 d2, P2 d0 d1 d2, P3 d0 d1 d2, P4 d0 d1 d2, P5 d0 d1 d2, P6 d0 d1 d2]), .v (.lst [A1 d0 d1 d2, A2 d0 d1 d2, A3 d0 d1 d2, A4 d0 d1 d2, A5 d0 d1 d2, A6 d0 d1 d2]), .un, .un, .un], 3 * i + 3⟩ : Ev) _ _ from ⟨lz rfl, true, e0, hnx _ rfl⟩⟩⟩⟩⟩⟩⟩
    rintro _ rfl
    exact ⟨_, "Holds", rfl, rfl, nmHolds, ok4 d0 h0, lenHolds, _, "Checked", rfl, rfl, nmChecked, ok4 d0 h0, lenChecked, rfl, _, _, false, rfl, eb1 d0 h0, _, _, "Guards", rfl, rfl, nmGuards, ob2 d0 h0 d1 h1, lenGuards, _, _, "Broken", rfl, rfl, nmBroken, ob2 d0 h0 d1 h1, lenBroken, rfl, _, _, false, rfl, eb2 d0 h0 d1 h1, _, "Breaks", rfl, rfl, nmBreaks, ok4 d2 h2, lenBreaks, lz rfl, _, "Breaks", rfl, rfl, nmBreaks, ob3 d2 h2, lenBreaks, rfl, _, _, false, rfl, eb3 d2 h2, rfl, _, _, false, rfl, rfl, hnx _ ⟨_, _, _, _, _, _, _, _, _, _, _, rfl⟩⟩
  · rintro _ ⟨x2, x3, x4, x5, x6, x7, x8, x9, x10, x11, x12, rfl⟩
    exact rfl
  · exact fun Q Q' h q => ⟨q.1, h _ _ q.2⟩
end
end DL

-- part K60G
set_option maxHeartbeats 4000000
/-! k60: what the top has written -/
namespace DL
open PySem PySem.Spec PyProof.Rows L2
/-- one class of the text -/
structure ClsF (K : PySem.W.Frag) (C : Addr) (nm : Str) (fP fE fB CP CD : Addr) (den : Bool) (Cs : List Addr) : Prop where
  pg : PySem.W.plainGet K C Str.empty = true
  hd : PySem.W.hasDictIn K C = true
  po : PySem.W.plainOver K C = true
  sa : PySem.W.findIn K (.ref C) "__setattr__" = some (some (.builtin "object.__setattr__"))
  ha : PySem.W.findIn K (.ref C) "__class__" = some (some (.builtin "object.__class__"))
  hm : PySem.W.mroIn K C (.type "object") = some true
  nn : ∀ f ∈ ([("word" : Str), "parts", "family", "pieces", "least", "greatest", "rows", "layers"] : List Str), PySem.W.findIn K (.ref C) f = some none
  at_ : ∃ o cd tk, K.lookup C = some o ∧ o.cls = .type "type" ∧ o.data = .cls cd ∧ o.slots[2]? = some (some (.str nm tk))
  fo : PySem.W.findCls K (.ref C) (.type "type") "__name__" = some (.get (.builtin "getset_descriptor.__get__") (.builtin "type.__name__") (.ref C) (.type "type"))
  eq : PySem.W.findIn K (.ref C) "__eq__" = some (some (.ref fE))
  ne : PySem.W.findIn K (.ref C) "__ne__" = some (some (.builtin "object.__ne__"))
  bo : PySem.W.findIn K (.ref C) "__bool__" = some (some (.ref fB))
  nt : PySem.W.notFirst K C (.type "tuple") = true
  nf : ∀ C2 ∈ Cs, PySem.W.notFirst K C (.ref C2) = true
  kP : PySem.W.kitOne K (.ref C) (.ref CP) = some true
  kD : PySem.W.kitOne K (.ref C) (.ref CD) = some den
  sm : PySem.W.mroIn K C (.ref C) = some true
  si : PySem.W.ks_superIn K C C "__init__" = some (some (.ref fP))
theorem ClsF.cl {K : PySem.W.Frag} {C : Addr} {nm : Str} {fP fE fB CP CD : Addr} {den : Bool} {Cs : List Addr} (B : ClsF K C nm fP fE fB CP CD den Cs) : Cls K C := ⟨B.pg, B.hd, B.po, B.sa⟩
theorem ClsF.no {K : PySem.W.Frag} {C : Addr} {nm : Str} {fP fE fB CP CD : Addr} {den : Bool} {Cs : List Addr} (B : ClsF K C nm fP fE fB CP CD den Cs) (f : Str) (hf : f ∈ ([("word" : Str), "parts", "family", "pieces", "least", "greatest", "rows", "layers"] : List Str)) : NoAttr K C f := B.nn f hf
section
variable {C0 C1 C2 C3 C4 C5 : Addr}
abbrev tab6 (C0 C1 C2 C3 C4 C5 : Addr) : List (Str × Addr) := [("Holds", C0), ("Breaks", C1), ("Guards", C2), ("Checked", C3), ("Broken", C4), ("Soonest", C5)]
theorem cls_all {p : Str → Addr → Prop} (h0 : p "Holds" C0) (h1 : p "Breaks" C1) (h2 : p "Guards" C2) (h3 : p "Checked" C3) (h4 : p "Broken" C4) (h5 : p "Soonest" C5) {c : Str} {C : Addr} (h : List.lookup c (tab6 C0 C1 C2 C3 C4 C5) = some C) : p c C := by
  have m := PySem.mem_of_lookup h
  simp only [tab6, List.mem_cons, Prod.mk.injEq, List.not_mem_nil, or_false] at m
  rcases m with ⟨rfl, rfl⟩ | ⟨rfl, rfl⟩ | ⟨rfl, rfl⟩ | ⟨rfl, rfl⟩ | ⟨rfl, rfl⟩ | ⟨rfl, rfl⟩ <;> assumption
theorem mem_cls {c : Str} {C : Addr} (h : List.lookup c (tab6 C0 C1 C2 C3 C4 C5) = some C) : C ∈ [C0, C1, C2, C3, C4, C5] := cls_all (p := fun _ C => C ∈ [C0, C1, C2, C3, C4, C5]) (by simp) (by simp) (by simp) (by simp) (by simp) (by simp) h
theorem nmOf_eq {c nm : Str} (h : nmOf c = some nm) : c = nm := by
  unfold nmOf at h
  cases e : [("Holds" : Str), "Breaks", "Guards", "Checked", "Broken", "Soonest"].contains c with
  | false => rw [e] at h; cases h
  | true => rw [e] at h; exact Option.some.inj h
theorem isP_eq {c : Str} {b : Bool} (h : isP c = some b) : b = true := by
  unfold isP at h
  cases e : [("Holds" : Str), "Breaks", "Guards", "Checked", "Broken", "Soonest"].contains c with
  | false => rw [e] at h; cases h
  | true => rw [e] at h; exact (Option.some.inj h).symm
theorem in_cls {c : Str} (h : c ∈ [("Holds" : Str), "Breaks", "Guards", "Checked", "Broken", "Soonest"]) : ∃ C, List.lookup c (tab6 C0 C1 C2 C3 C4 C5) = some C := by
  simp only [List.mem_cons, List.not_mem_nil, or_false] at h
  rcases h with rfl | rfl | rfl | rfl | rfl | rfl <;> exact ⟨_, rfl⟩
theorem isP_cls {c : Str} {b : Bool} (h : isP c = some b) : ∃ C, List.lookup c (tab6 C0 C1 C2 C3 C4 C5) = some C := by
  unfold isP at h
  cases e : [("Holds" : Str), "Breaks", "Guards", "Checked", "Broken", "Soonest"].contains c with
  | false => rw [e] at h; cases h
  | true => exact in_cls (List.contains_iff_mem.mp e)
theorem isD_cls {c : Str} {b : Bool} (h : isD c = some b) : ∃ C, List.lookup c (tab6 C0 C1 C2 C3 C4 C5) = some C := by
  unfold isD at h
  cases e : [("Breaks" : Str), "Broken", "Soonest"].contains c with
  | true =>
    have m := List.contains_iff_mem.mp e
    refine in_cls ?_
    simp only [List.mem_cons, List.not_mem_nil, or_false] at m ⊢
    rcases m with h | h | h <;> simp [h]
  | false =>
    rw [e] at h
    cases e2 : [("Holds" : Str), "Guards", "Checked"].contains c with
    | false => rw [e2] at h; cases h
    | true =>
      have m := List.contains_iff_mem.mp e2
      refine in_cls ?_
      simp only [List.mem_cons, List.not_mem_nil, or_false] at m ⊢
      rcases m with h | h | h <;> simp [h]
end
theorem all_mk {P : Program} {w : World} {K : PySem.W.Frag} {h : Heap} {mg : Str → Option Value} {fa : Addr} (X : K.In h) (G : h.Ns mainGlobals mg) (hfa : mg "law" = some (.ref fa))
    {CP CD : Addr}
    {fkept : Addr} {odkept ankept : Option Addr} {slkept : Array (Option Value)} {ockept kVkept dckept pmkept cdkept ctkept : Value}
    {fP : Addr} {odP anP : Option Addr} {slP : Array (Option Value)} {ocP kVP dcP pmP cdP ctP : Value}
    {fbP : Addr} {odbP anbP : Option Addr} {slbP : Array (Option Value)} {ocbP kVbP dcbP pmbP cdbP ctbP : Value}
    {fE : Addr} {odE anE : Option Addr} {slE : Array (Option Value)} {ocE kVE dcE pmE cdE ctE : Value}
    {fbD : Addr} {odbD anbD : Option Addr} {slbD : Array (Option Value)} {ocbD kVbD dcbD pmbD cdbD ctbD : Value}
    {fW : Addr} {odW anW : Option Addr} {slW : Array (Option Value)} {ocW kVW dcW pmW cdW ctW : Value}
    {fDr : Addr} {odDr anDr : Option Addr} {slDr : Array (Option Value)} {ocDr kVDr dcDr pmDr cdDr ctDr : Value}
    {fO : Addr} {odO anO : Option Addr} {slO : Array (Option Value)} {ocO kVO dcO pmO cdO ctO : Value}
    {fL : Addr} {odL anL : Option Addr} {slL : Array (Option Value)} {ocL kVL dcL pmL cdL ctL : Value}
    {CHolds fHolds ccHolds cdaHolds : Addr} {odHolds anHolds cldHolds cddHolds : Option Addr} {slHolds cslHolds ccsHolds : Array (Option Value)} {ocHolds kVHolds dcHolds pmHolds ctHolds clHolds cclHolds : Value} {vsHolds : Array Value} {fileHolds : Str} {tfHolds : Tok} {cdDHolds : ClassData}
    {CBreaks fBreaks ccBreaks cdaBreaks : Addr} {odBreaks anBreaks cldBreaks cddBreaks : Option Addr} {slBreaks cslBreaks ccsBreaks : Array (Option Value)} {ocBreaks kVBreaks dcBreaks pmBreaks ctBreaks clBreaks cclBreaks : Value} {vsBreaks : Array Value} {fileBreaks : Str} {tfBreaks : Tok} {cdDBreaks : ClassData}
    {CGuards fGuards ccGuards cdaGuards : Addr} {odGuards anGuards cldGuards cddGuards : Option Addr} {slGuards cslGuards ccsGuards : Array (Option Value)} {ocGuards kVGuards dcGuards pmGuards ctGuards clGuards cclGuards : Value} {vsGuards : Array Value} {fileGuards : Str} {tfGuards : Tok} {cdDGuards : ClassData}
    {CChecked fChecked ccChecked cdaChecked : Addr} {odChecked anChecked cldChecked cddChecked : Option Addr} {slChecked cslChecked ccsChecked : Array (Option Value)} {ocChecked kVChecked dcChecked pmChecked ctChecked clChecked cclChecked : Value} {vsChecked : Array Value} {fileChecked : Str} {tfChecked : Tok} {cdDChecked : ClassData}
    {CBroken fBroken ccBroken cdaBroken : Addr} {odBroken anBroken cldBroken cddBroken : Option Addr} {slBroken cslBroken ccsBroken : Array (Option Value)} {ocBroken kVBroken dcBroken pmBroken ctBroken clBroken cclBroken : Value} {vsBroken : Array Value} {fileBroken : Str} {tfBroken : Tok} {cdDBroken : ClassData}
    {CSoonest fSoonest ccSoonest cdaSoonest : Addr} {odSoonest anSoonest cldSoonest cddSoonest : Option Addr} {slSoonest cslSoonest ccsSoonest : Array (Option Value)} {ocSoonest kVSoonest dcSoonest pmSoonest ctSoonest clSoonest cclSoonest : Value} {vsSoonest : Array Value} {fileSoonest : Str} {tfSoonest : Tok} {cdDSoonest : ClassData}
    (aCP : PySem.W.nsIn K mainGlobals "Paper" = some (some (.ref CP)))
    (aCD : PySem.W.nsIn K mainGlobals "Denial" = some (some (.ref CD)))
    (akept : PySem.W.nsIn K mainGlobals "kept" = some (some (.ref fkept)))
    (lkept : K.lookup fkept = some ⟨ockept, odkept, .func (PySem.W.fnOf "kept" "kept" (defArgs sKept) (defBody sKept) (defScope sKept) .none kVkept dckept pmkept ankept cdkept ctkept), slkept⟩)
    (ckept : PySem.W.codeIn K cdkept "kept" = true)
    (kkept : PySem.W.keepIn K (.ref fkept) = true)
    (aP : PySem.W.findIn K (.ref CP) "__init__" = some (some (.ref fP)))
    (lP : K.lookup fP = some ⟨ocP, odP, .func (PySem.W.fnOf "__init__" "Paper.__init__" (defArgs sPap) (defBody sPap) (defScope sPap) .none kVP dcP pmP anP cdP ctP), slP⟩)
    (cP : PySem.W.codeIn K cdP "Paper.__init__" = true)
    (kP : PySem.W.keepIn K (.ref fP) = true)
    (abP : PySem.W.findIn K (.ref CP) "__bool__" = some (some (.ref fbP)))
    (lbP : K.lookup fbP = some ⟨ocbP, odbP, .func (PySem.W.fnOf "__bool__" "Paper.__bool__" (defArgs sBoolP) (defBody sBoolP) (defScope sBoolP) .none kVbP dcbP pmbP anbP cdbP ctbP), slbP⟩)
    (cbP : PySem.W.codeIn K cdbP "Paper.__bool__" = true)
    (kbP : PySem.W.keepIn K (.ref fbP) = true)
    (aE : PySem.W.findIn K (.ref CP) "__eq__" = some (some (.ref fE)))
    (lE : K.lookup fE = some ⟨ocE, odE, .func (PySem.W.fnOf "__eq__" "Paper.__eq__" (defArgs sEq) (defBody sEq) (defScope sEq) .none kVE dcE pmE anE cdE ctE), slE⟩)
    (cE : PySem.W.codeIn K cdE "Paper.__eq__" = true)
    (kE : PySem.W.keepIn K (.ref fE) = true)
    (abD : PySem.W.findIn K (.ref CD) "__bool__" = some (some (.ref fbD)))
    (lbD : K.lookup fbD = some ⟨ocbD, odbD, .func (PySem.W.fnOf "__bool__" "Denial.__bool__" (defArgs sBoolD) (defBody sBoolD) (defScope sBoolD) .none kVbD dcbD pmbD anbD cdbD ctbD), slbD⟩)
    (cbD : PySem.W.codeIn K cdbD "Denial.__bool__" = true)
    (kbD : PySem.W.keepIn K (.ref fbD) = true)
    (aW : PySem.W.nsIn K mainGlobals "_law_well" = some (some (.ref fW)))
    (lW : K.lookup fW = some ⟨ocW, odW, .func (PySem.W.fnOf "_law_well" "_law_well" (defArgs sWell) (defBody sWell) (defScope sWell) .none kVW dcW pmW anW cdW ctW), slW⟩)
    (cW : PySem.W.codeIn K cdW "_law_well" = true)
    (kW : PySem.W.keepIn K (.ref fW) = true)
    (aDr : PySem.W.nsIn K mainGlobals "_law_draw" = some (some (.ref fDr)))
    (lDr : K.lookup fDr = some ⟨ocDr, odDr, .func (PySem.W.fnOf "_law_draw" "_law_draw" (defArgs sDraw) (defBody sDraw) (defScope sDraw) .none kVDr dcDr pmDr anDr cdDr ctDr), slDr⟩)
    (cDr : PySem.W.codeIn K cdDr "_law_draw" = true)
    (kDr : PySem.W.keepIn K (.ref fDr) = true)
    (aO : PySem.W.nsIn K mainGlobals "_law_one" = some (some (.ref fO)))
    (lO : K.lookup fO = some ⟨ocO, odO, .func (PySem.W.fnOf "_law_one" "_law_one" (defArgs sOne) (defBody sOne) (defScope sOne) .none kVO dcO pmO anO cdO ctO), slO⟩)
    (cO : PySem.W.codeIn K cdO "_law_one" = true)
    (kO : PySem.W.keepIn K (.ref fO) = true)
    (aL : PySem.W.nsIn K mainGlobals "law" = some (some (.ref fL)))
    (lL : K.lookup fL = some ⟨ocL, odL, .func (PySem.W.fnOf "law" "law" (defArgs sLaw) (defBody sLaw) (defScope sLaw) .none kVL dcL pmL anL cdL ctL), slL⟩)
    (cL : PySem.W.codeIn K cdL "law" = true)
    (kL : PySem.W.keepIn K (.ref fL) = true)
    (aHolds : PySem.W.nsIn K mainGlobals "Holds" = some (some (.ref CHolds)))
    (iHolds : PySem.W.findIn K (.ref CHolds) "__init__" = some (some (.ref fHolds)))
    (nHolds : PySem.W.isFn K (.ref fHolds) = true)
    (mHolds : PySem.W.makesIn K CHolds = true)
    (pHolds : PySem.W.keepIn K (.ref CHolds) = true)
    (lHolds : K.lookup fHolds = some ⟨ocHolds, odHolds, .func (PySem.W.fnX "__init__" "Holds.__init__" (defArgs sHolds) (defBody sHolds) (defScope sHolds) [("__class__", ccHolds)] .none kVHolds dcHolds pmHolds anHolds (.ref cdaHolds) ctHolds), slHolds⟩)
    (coHolds : PySem.W.codeIn K (.ref cdaHolds) "Holds.__init__" = true)
    (lkHolds : K.lookup cdaHolds = some ⟨cclHolds, cddHolds, .fields vsHolds, ccsHolds⟩)
    (vHolds : vsHolds[2]? = some (.str fileHolds tfHolds))
    (fiHolds : ((P.main.file : Str) == fileHolds) = true)
    (cc_Holds : K.lookup ccHolds = some ⟨clHolds, cldHolds, .cell (some (.ref CHolds)), cslHolds⟩)
    (dHolds : PySem.W.clsIn K CHolds = some cdDHolds)
    (BHolds : ClsF K CHolds "Holds" fP fE fbP CP CD false [CHolds, CBreaks, CGuards, CChecked, CBroken, CSoonest])
    (aBreaks : PySem.W.nsIn K mainGlobals "Breaks" = some (some (.ref CBreaks)))
    (iBreaks : PySem.W.findIn K (.ref CBreaks) "__init__" = some (some (.ref fBreaks)))
    (nBreaks : PySem.W.isFn K (.ref fBreaks) = true)
    (mBreaks : PySem.W.makesIn K CBreaks = true)
    (pBreaks : PySem.W.keepIn K (.ref CBreaks) = true)
    (lBreaks : K.lookup fBreaks = some ⟨ocBreaks, odBreaks, .func (PySem.W.fnX "__init__" "Breaks.__init__" (defArgs sBreaks) (defBody sBreaks) (defScope sBreaks) [("__class__", ccBreaks)] .none kVBreaks dcBreaks pmBreaks anBreaks (.ref cdaBreaks) ctBreaks), slBreaks⟩)
    (coBreaks : PySem.W.codeIn K (.ref cdaBreaks) "Breaks.__init__" = true)
    (lkBreaks : K.lookup cdaBreaks = some ⟨cclBreaks, cddBreaks, .fields vsBreaks, ccsBreaks⟩)
    (vBreaks : vsBreaks[2]? = some (.str fileBreaks tfBreaks))
    (fiBreaks : ((P.main.file : Str) == fileBreaks) = true)
    (cc_Breaks : K.lookup ccBreaks = some ⟨clBreaks, cldBreaks, .cell (some (.ref CBreaks)), cslBreaks⟩)
    (dBreaks : PySem.W.clsIn K CBreaks = some cdDBreaks)
    (BBreaks : ClsF K CBreaks "Breaks" fP fE fbD CP CD true [CHolds, CBreaks, CGuards, CChecked, CBroken, CSoonest])
    (aGuards : PySem.W.nsIn K mainGlobals "Guards" = some (some (.ref CGuards)))
    (iGuards : PySem.W.findIn K (.ref CGuards) "__init__" = some (some (.ref fGuards)))
    (nGuards : PySem.W.isFn K (.ref fGuards) = true)
    (mGuards : PySem.W.makesIn K CGuards = true)
    (pGuards : PySem.W.keepIn K (.ref CGuards) = true)
    (lGuards : K.lookup fGuards = some ⟨ocGuards, odGuards, .func (PySem.W.fnX "__init__" "Guards.__init__" (defArgs sGuards) (defBody sGuards) (defScope sGuards) [("__class__", ccGuards)] .none kVGuards dcGuards pmGuards anGuards (.ref cdaGuards) ctGuards), slGuards⟩)
    (coGuards : PySem.W.codeIn K (.ref cdaGuards) "Guards.__init__" = true)
    (lkGuards : K.lookup cdaGuards = some ⟨cclGuards, cddGuards, .fields vsGuards, ccsGuards⟩)
    (vGuards : vsGuards[2]? = some (.str fileGuards tfGuards))
    (fiGuards : ((P.main.file : Str) == fileGuards) = true)
    (cc_Guards : K.lookup ccGuards = some ⟨clGuards, cldGuards, .cell (some (.ref CGuards)), cslGuards⟩)
    (dGuards : PySem.W.clsIn K CGuards = some cdDGuards)
    (BGuards : ClsF K CGuards "Guards" fP fE fbP CP CD false [CHolds, CBreaks, CGuards, CChecked, CBroken, CSoonest])
    (aChecked : PySem.W.nsIn K mainGlobals "Checked" = some (some (.ref CChecked)))
    (iChecked : PySem.W.findIn K (.ref CChecked) "__init__" = some (some (.ref fChecked)))
    (nChecked : PySem.W.isFn K (.ref fChecked) = true)
    (mChecked : PySem.W.makesIn K CChecked = true)
    (pChecked : PySem.W.keepIn K (.ref CChecked) = true)
    (lChecked : K.lookup fChecked = some ⟨ocChecked, odChecked, .func (PySem.W.fnX "__init__" "Checked.__init__" (defArgs sChecked) (defBody sChecked) (defScope sChecked) [("__class__", ccChecked)] .none kVChecked dcChecked pmChecked anChecked (.ref cdaChecked) ctChecked), slChecked⟩)
    (coChecked : PySem.W.codeIn K (.ref cdaChecked) "Checked.__init__" = true)
    (lkChecked : K.lookup cdaChecked = some ⟨cclChecked, cddChecked, .fields vsChecked, ccsChecked⟩)
    (vChecked : vsChecked[2]? = some (.str fileChecked tfChecked))
    (fiChecked : ((P.main.file : Str) == fileChecked) = true)
    (cc_Checked : K.lookup ccChecked = some ⟨clChecked, cldChecked, .cell (some (.ref CChecked)), cslChecked⟩)
    (dChecked : PySem.W.clsIn K CChecked = some cdDChecked)
    (BChecked : ClsF K CChecked "Checked" fP fE fbP CP CD false [CHolds, CBreaks, CGuards, CChecked, CBroken, CSoonest])
    (aBroken : PySem.W.nsIn K mainGlobals "Broken" = some (some (.ref CBroken)))
    (iBroken : PySem.W.findIn K (.ref CBroken) "__init__" = some (some (.ref fBroken)))
    (nBroken : PySem.W.isFn K (.ref fBroken) = true)
    (mBroken : PySem.W.makesIn K CBroken = true)
    (pBroken : PySem.W.keepIn K (.ref CBroken) = true)
    (lBroken : K.lookup fBroken = some ⟨ocBroken, odBroken, .func (PySem.W.fnX "__init__" "Broken.__init__" (defArgs sBroken) (defBody sBroken) (defScope sBroken) [("__class__", ccBroken)] .none kVBroken dcBroken pmBroken anBroken (.ref cdaBroken) ctBroken), slBroken⟩)
    (coBroken : PySem.W.codeIn K (.ref cdaBroken) "Broken.__init__" = true)
    (lkBroken : K.lookup cdaBroken = some ⟨cclBroken, cddBroken, .fields vsBroken, ccsBroken⟩)
    (vBroken : vsBroken[2]? = some (.str fileBroken tfBroken))
    (fiBroken : ((P.main.file : Str) == fileBroken) = true)
    (cc_Broken : K.lookup ccBroken = some ⟨clBroken, cldBroken, .cell (some (.ref CBroken)), cslBroken⟩)
    (dBroken : PySem.W.clsIn K CBroken = some cdDBroken)
    (BBroken : ClsF K CBroken "Broken" fP fE fbD CP CD true [CHolds, CBreaks, CGuards, CChecked, CBroken, CSoonest])
    (aSoonest : PySem.W.nsIn K mainGlobals "Soonest" = some (some (.ref CSoonest)))
    (iSoonest : PySem.W.findIn K (.ref CSoonest) "__init__" = some (some (.ref fSoonest)))
    (nSoonest : PySem.W.isFn K (.ref fSoonest) = true)
    (mSoonest : PySem.W.makesIn K CSoonest = true)
    (pSoonest : PySem.W.keepIn K (.ref CSoonest) = true)
    (lSoonest : K.lookup fSoonest = some ⟨ocSoonest, odSoonest, .func (PySem.W.fnX "__init__" "Soonest.__init__" (defArgs sSoonest) (defBody sSoonest) (defScope sSoonest) [("__class__", ccSoonest)] .none kVSoonest dcSoonest pmSoonest anSoonest (.ref cdaSoonest) ctSoonest), slSoonest⟩)
    (coSoonest : PySem.W.codeIn K (.ref cdaSoonest) "Soonest.__init__" = true)
    (lkSoonest : K.lookup cdaSoonest = some ⟨cclSoonest, cddSoonest, .fields vsSoonest, ccsSoonest⟩)
    (vSoonest : vsSoonest[2]? = some (.str fileSoonest tfSoonest))
    (fiSoonest : ((P.main.file : Str) == fileSoonest) = true)
    (cc_Soonest : K.lookup ccSoonest = some ⟨clSoonest, cldSoonest, .cell (some (.ref CSoonest)), cslSoonest⟩)
    (dSoonest : PySem.W.clsIn K CSoonest = some cdDSoonest)
    (BSoonest : ClsF K CSoonest "Soonest" fP fE fbD CP CD true [CHolds, CBreaks, CGuards, CChecked, CBroken, CSoonest])
    (nfE : PySem.W.isFn K (.ref fE) = true)
    (nfP : PySem.W.isFn K (.ref fbP) = true)
    (nfD : PySem.W.isFn K (.ref fbD) = true)
    (ne_ : fbD ≠ fbP)
    (tP : PySem.W.typeIn K (.ref fP) = some (.type "function"))
    (fP_ : PySem.W.fnIn K fP = true)
    (oc : PySem.W.specialIn K (.builtin "object.__class__") "__get__" = some (some (.builtin "getset_descriptor.__get__")))
    (ot : PySem.W.takesIn K (.builtin "object.__class__") = some true)
    (tuP : PySem.W.kitOne K (.type "tuple") (.ref CP) = some false)
    (tuD : PySem.W.kitOne K (.type "tuple") (.ref CD) = some false)
    (no : PySem.W.nsIn K cStatics "thirdparty.any" = some none)
    (top : (P.main.scope.names.lookup ("super" : Str)).isSome = false)
    (z_int : PySem.W.nsIn K mainGlobals "int" = some none)
    (z_abs : PySem.W.nsIn K mainGlobals "abs" = some none)
    (z_len : PySem.W.nsIn K mainGlobals "len" = some none)
    (z_isinstance : PySem.W.nsIn K mainGlobals "isinstance" = some none)
    (z_list : PySem.W.nsIn K mainGlobals "list" = some none)
    (z_tuple : PySem.W.nsIn K mainGlobals "tuple" = some none)
    (z_type : PySem.W.nsIn K mainGlobals "type" = some none)
    (z_bool : PySem.W.nsIn K mainGlobals "bool" = some none)
    (z_range : PySem.W.nsIn K mainGlobals "range" = some none)
    (z_zip : PySem.W.nsIn K mainGlobals "zip" = some none)
    (z_super : PySem.W.nsIn K mainGlobals "super" = some none) :
    ∃ fd : FuncData, (∀ (s : Shared) (v : Value), BindsTo s fd ⟨[v], []⟩ [("script", v)]) ∧ ∀ base : Heap, K.In base → base.Ns mainGlobals mg → FnOk P w K mg base CX0 20 fa fd ["script"] (spLaw K) := by
  have e := hfa.symm.trans (PySem.W.mg_of X G aL)
  cases e
  have Fkept := fun_mk (st := sKept) lkept ckept kkept
  have FP := fun_mk (st := sPap) lP cP kP
  have FbP := fun_mk (st := sBoolP) lbP cbP kbP
  have FE := fun_mk (st := sEq) lE cE kE
  have FbD := fun_mk (st := sBoolD) lbD cbD kbD
  have FW := fun_mk (st := sWell) lW cW kW
  have FDr := fun_mk (st := sDraw) lDr cDr kDr
  have FO := fun_mk (st := sOne) lO cO kO
  have FL := fun_mk (st := sLaw) lL cL kL
  have bkept := Fkept.binds (ps := ["value"]) fun _ _ _ _ _ _ us hl => match us, hl with | [_], _ => rfl
  have bbP := FbP.binds (ps := ["self"]) fun _ _ _ _ _ _ us hl => match us, hl with | [_], _ => rfl
  have bE := FE.binds (ps := ["self", "other"]) fun _ _ _ _ _ _ us hl => match us, hl with | [_, _], _ => rfl
  have bbD := FbD.binds (ps := ["self"]) fun _ _ _ _ _ _ us hl => match us, hl with | [_], _ => rfl
  have bW := FW.binds (ps := ["script"]) fun _ _ _ _ _ _ us hl => match us, hl with | [_], _ => rfl
  have bDr := FDr.binds (ps := ["well", "many"]) fun _ _ _ _ _ _ us hl => match us, hl with | [_, _], _ => rfl
  have bO := FO.binds (ps := ["well", "some"]) fun _ _ _ _ _ _ us hl => match us, hl with | [_, _], _ => rfl
  refine ⟨PySem.W.fnOf "law" "law" (defArgs sLaw) (defBody sLaw) (defScope sLaw) .none kVL dcL pmL anL cdL ctL, fun s v => .of_eq rfl, fun base _ _ => ?_⟩
  have m_int := PySem.W.mg_none_of X G z_int
  have m_abs := PySem.W.mg_none_of X G z_abs
  have m_len := PySem.W.mg_none_of X G z_len
  have m_isinstance := PySem.W.mg_none_of X G z_isinstance
  have m_list := PySem.W.mg_none_of X G z_list
  have m_tuple := PySem.W.mg_none_of X G z_tuple
  have m_type := PySem.W.mg_none_of X G z_type
  have m_bool := PySem.W.mg_none_of X G z_bool
  have m_range := PySem.W.mg_none_of X G z_range
  have m_zip := PySem.W.mg_none_of X G z_zip
  have m_super := PySem.W.mg_none_of X G z_super
  let cls : Str → Option Addr := fun c => List.lookup c ([("Holds", CHolds), ("Breaks", CBreaks), ("Guards", CGuards), ("Checked", CChecked), ("Broken", CBroken), ("Soonest", CSoonest)] : List (Str × Addr))
  have all : ∀ (p : Str → Addr → Prop), p "Holds" CHolds → p "Breaks" CBreaks → p "Guards" CGuards → p "Checked" CChecked → p "Broken" CBroken → p "Soonest" CSoonest → ∀ c C, cls c = some C → p c C := fun p h0 h1 h2 h3 h4 h5 c C h => cls_all h0 h1 h2 h3 h4 h5 h
  have T : AttrT K cls ["word", "parts", "family", "pieces", "least", "greatest", "rows", "layers"] := ⟨fun c C h => all (fun c C => Cls K C) (BHolds.cl) (BBreaks.cl) (BGuards.cl) (BChecked.cl) (BBroken.cl) (BSoonest.cl) c C h, fun f hf => fun c C h => all (fun c C => NoAttr K C f) (BHolds.no f hf) (BBreaks.no f hf) (BGuards.no f hf) (BChecked.no f hf) (BBroken.no f hf) (BSoonest.no f hf) c C h⟩
  have T2 : ∀ fs : List Str, (∀ f ∈ fs, f ∈ ([("word" : Str), "parts", "family", "pieces", "least", "greatest", "rows", "layers"] : List Str)) → AttrT K cls fs := fun fs h => ⟨T.cl, fun f hf => T.no f (h f hf)⟩
  have I : InsT K cls := ⟨T.cl, fun c C h => all (fun c C => PySem.W.findIn K (.ref C) "__class__" = some (some (.builtin "object.__class__"))) (BHolds.ha) (BBreaks.ha) (BGuards.ha) (BChecked.ha) (BBroken.ha) (BSoonest.ha) c C h, oc, ot, fun c C h => all (fun c C => PySem.W.mroIn K C (.type "object") = some true) (BHolds.hm) (BBreaks.hm) (BGuards.hm) (BChecked.hm) (BBroken.hm) (BSoonest.hm) c C h⟩
  have ET : EqT K cls fE := ⟨I, fun c C h => all (fun c C => PySem.W.findIn K (.ref C) "__eq__" = some (some (.ref fE))) (BHolds.eq) (BBreaks.eq) (BGuards.eq) (BChecked.eq) (BBroken.eq) (BSoonest.eq) c C h, fun c C h => all (fun c C => PySem.W.findIn K (.ref C) "__ne__" = some (some (.builtin "object.__ne__"))) (BHolds.ne) (BBreaks.ne) (BGuards.ne) (BChecked.ne) (BBroken.ne) (BSoonest.ne) c C h,
    fun c C c2 C2 h h2 => all (fun c C => PySem.W.notFirst K C (.ref C2) = true) (BHolds.nf C2 (mem_cls h2)) (BBreaks.nf C2 (mem_cls h2)) (BGuards.nf C2 (mem_cls h2)) (BChecked.nf C2 (mem_cls h2)) (BBroken.nf C2 (mem_cls h2)) (BSoonest.nf C2 (mem_cls h2)) c C h, fun c C h => all (fun c C => PySem.W.notFirst K C (.type "tuple") = true) (BHolds.nt) (BBreaks.nt) (BGuards.nt) (BChecked.nt) (BBroken.nt) (BSoonest.nt) c C h⟩
  have hn : ∀ c C nm, cls c = some C → nmOf c = some nm → CName K C nm := fun c C nm h hnm => by
    have e : c = nm := nmOf_eq hnm
    subst e
    exact (all (fun c C => CName K C c) (CName.mk BHolds.at_ BHolds.fo no) (CName.mk BBreaks.at_ BBreaks.fo no) (CName.mk BGuards.at_ BGuards.fo no) (CName.mk BChecked.at_ BChecked.fo no) (CName.mk BBroken.at_ BBroken.fo no) (CName.mk BSoonest.at_ BSoonest.fo no) c C h)
  have GK : FnOk P w K mg base CX0 8 fkept _ ["value"] (spD K cls (gK 8)) := ok_kept Fkept bkept (PySem.W.mg_of X G akept) m_isinstance m_list m_tuple 8
  have FPr : FnR P w K mg base CX0 9 fP (spStar K cls (gPap nmOf 8)) := ok_pap FP GK Fkept bkept (PySem.W.mg_of X G akept) m_type hn (T2 _ (by decide +kernel))
  have SHolds : SupD P K mg "Holds.__init__" sHolds fHolds CHolds (PySem.W.fnX "__init__" "Holds.__init__" (defArgs sHolds) (defBody sHolds) (defScope sHolds) [("__class__", ccHolds)] .none kVHolds dcHolds pmHolds anHolds (.ref cdaHolds) ctHolds) :=
    ⟨⟨_, _, _, _, _, _, _, _, _, _, _, _, _, _, _, _, _, _, _, _, rfl, lHolds, coHolds, lkHolds, vHolds, fiHolds, cc_Holds, dHolds⟩, m_super, top, no⟩
  have UHolds : SupC K cls "Holds" CHolds fP := ⟨tP, fP_, fun C h => by
    have e : some CHolds = some C := (show cls "Holds" = some CHolds from by rfl).symm.trans h
    cases e
    exact ⟨BHolds.sm, BHolds.si⟩⟩
  have GHolds := ok_Holds (w := w) (base := base) (nmOf := nmOf) (n := 8) SHolds UHolds (T2 _ (by decide +kernel)) FPr
  have SBreaks : SupD P K mg "Breaks.__init__" sBreaks fBreaks CBreaks (PySem.W.fnX "__init__" "Breaks.__init__" (defArgs sBreaks) (defBody sBreaks) (defScope sBreaks) [("__class__", ccBreaks)] .none kVBreaks dcBreaks pmBreaks anBreaks (.ref cdaBreaks) ctBreaks) :=
    ⟨⟨_, _, _, _, _, _, _, _, _, _, _, _, _, _, _, _, _, _, _, _, rfl, lBreaks, coBreaks, lkBreaks, vBreaks, fiBreaks, cc_Breaks, dBreaks⟩, m_super, top, no⟩
  have UBreaks : SupC K cls "Breaks" CBreaks fP := ⟨tP, fP_, fun C h => by
    have e : some CBreaks = some C := (show cls "Breaks" = some CBreaks from by rfl).symm.trans h
    cases e
    exact ⟨BBreaks.sm, BBreaks.si⟩⟩
  have GBreaks := ok_Breaks (w := w) (base := base) (nmOf := nmOf) (n := 8) SBreaks UBreaks (T2 _ (by decide +kernel)) FPr
  have SGuards : SupD P K mg "Guards.__init__" sGuards fGuards CGuards (PySem.W.fnX "__init__" "Guards.__init__" (defArgs sGuards) (defBody sGuards) (defScope sGuards) [("__class__", ccGuards)] .none kVGuards dcGuards pmGuards anGuards (.ref cdaGuards) ctGuards) :=
    ⟨⟨_, _, _, _, _, _, _, _, _, _, _, _, _, _, _, _, _, _, _, _, rfl, lGuards, coGuards, lkGuards, vGuards, fiGuards, cc_Guards, dGuards⟩, m_super, top, no⟩
  have UGuards : SupC K cls "Guards" CGuards fP := ⟨tP, fP_, fun C h => by
    have e : some CGuards = some C := (show cls "Guards" = some CGuards from by rfl).symm.trans h
    cases e
    exact ⟨BGuards.sm, BGuards.si⟩⟩
  have GGuards := ok_Guards (w := w) (base := base) (nmOf := nmOf) (n := 8) SGuards UGuards (T2 _ (by decide +kernel)) FPr
  have SChecked : SupD P K mg "Checked.__init__" sChecked fChecked CChecked (PySem.W.fnX "__init__" "Checked.__init__" (defArgs sChecked) (defBody sChecked) (defScope sChecked) [("__class__", ccChecked)] .none kVChecked dcChecked pmChecked anChecked (.ref cdaChecked) ctChecked) :=
    ⟨⟨_, _, _, _, _, _, _, _, _, _, _, _, _, _, _, _, _, _, _, _, rfl, lChecked, coChecked, lkChecked, vChecked, fiChecked, cc_Checked, dChecked⟩, m_super, top, no⟩
  have UChecked : SupC K cls "Checked" CChecked fP := ⟨tP, fP_, fun C h => by
    have e : some CChecked = some C := (show cls "Checked" = some CChecked from by rfl).symm.trans h
    cases e
    exact ⟨BChecked.sm, BChecked.si⟩⟩
  have GChecked := ok_Checked (w := w) (base := base) (nmOf := nmOf) (n := 8) SChecked UChecked (T2 _ (by decide +kernel)) FPr
  have SBroken : SupD P K mg "Broken.__init__" sBroken fBroken CBroken (PySem.W.fnX "__init__" "Broken.__init__" (defArgs sBroken) (defBody sBroken) (defScope sBroken) [("__class__", ccBroken)] .none kVBroken dcBroken pmBroken anBroken (.ref cdaBroken) ctBroken) :=
    ⟨⟨_, _, _, _, _, _, _, _, _, _, _, _, _, _, _, _, _, _, _, _, rfl, lBroken, coBroken, lkBroken, vBroken, fiBroken, cc_Broken, dBroken⟩, m_super, top, no⟩
  have UBroken : SupC K cls "Broken" CBroken fP := ⟨tP, fP_, fun C h => by
    have e : some CBroken = some C := (show cls "Broken" = some CBroken from by rfl).symm.trans h
    cases e
    exact ⟨BBroken.sm, BBroken.si⟩⟩
  have GBroken := ok_Broken (w := w) (base := base) (nmOf := nmOf) (n := 8) SBroken UBroken (T2 _ (by decide +kernel)) FPr
  have SSoonest : SupD P K mg "Soonest.__init__" sSoonest fSoonest CSoonest (PySem.W.fnX "__init__" "Soonest.__init__" (defArgs sSoonest) (defBody sSoonest) (defScope sSoonest) [("__class__", ccSoonest)] .none kVSoonest dcSoonest pmSoonest anSoonest (.ref cdaSoonest) ctSoonest) :=
    ⟨⟨_, _, _, _, _, _, _, _, _, _, _, _, _, _, _, _, _, _, _, _, rfl, lSoonest, coSoonest, lkSoonest, vSoonest, fiSoonest, cc_Soonest, dSoonest⟩, m_super, top, no⟩
  have USoonest : SupC K cls "Soonest" CSoonest fP := ⟨tP, fP_, fun C h => by
    have e : some CSoonest = some C := (show cls "Soonest" = some CSoonest from by rfl).symm.trans h
    cases e
    exact ⟨BSoonest.sm, BSoonest.si⟩⟩
  have GSoonest := ok_Soonest (w := w) (base := base) (nmOf := nmOf) (n := 8) SSoonest USoonest (T2 _ (by decide +kernel)) FPr
  refine ok_law FL (cls := cls) {
    fW := fW
    fdW := _
    FW := FW
    GW := ok_well FW m_int
    gW := PySem.W.mg_of X G aW
    bW := bW
    fO := fO
    fdO := _
    FO := FO
    GO := ok_one FO FDr bDr (PySem.W.mg_of X G aDr) m_int m_abs m_len
    gO := PySem.W.mg_of X G aO
    bO := bO
    CHolds := CHolds
    fHolds := fHolds
    fdHolds := _
    MHolds := ⟨mHolds, iHolds, nHolds, pHolds⟩
    GHolds := GHolds
    gHolds := PySem.W.mg_of X G aHolds
    bHolds := Binds.all fun us hl => match us, hl with | [_, _], _ => rfl
    kHolds := ⟨fun s us ws _ l1 l2 => match us, ws, l1, l2 with | [_], [_], _, _ => .of_eq rfl, fun r1 r2 => r1.append r2⟩
    cHolds := rfl
    CBreaks := CBreaks
    fBreaks := fBreaks
    fdBreaks := _
    MBreaks := ⟨mBreaks, iBreaks, nBreaks, pBreaks⟩
    GBreaks := GBreaks
    gBreaks := PySem.W.mg_of X G aBreaks
    bBreaks := Binds.all fun us hl => match us, hl with | [_, _], _ => rfl
    kBreaks := ⟨fun s us ws _ l1 l2 => match us, ws, l1, l2 with | [_], [_], _, _ => .of_eq rfl, fun r1 r2 => r1.append r2⟩
    cBreaks := rfl
    CGuards := CGuards
    fGuards := fGuards
    fdGuards := _
    MGuards := ⟨mGuards, iGuards, nGuards, pGuards⟩
    GGuards := GGuards
    gGuards := PySem.W.mg_of X G aGuards
    bGuards := Binds.all fun us hl => match us, hl with | [_, _, _], _ => rfl
    kGuards := ⟨fun s us ws _ l1 l2 => match us, ws, l1, l2 with | [_], [_, _], _, _ => .of_eq rfl, fun r1 r2 => r1.append r2.reverse⟩
    cGuards := rfl
    CChecked := CChecked
    fChecked := fChecked
    fdChecked := _
    MChecked := ⟨mChecked, iChecked, nChecked, pChecked⟩
    GChecked := GChecked
    gChecked := PySem.W.mg_of X G aChecked
    bChecked := Binds.all fun us hl => match us, hl with | [_, _], _ => rfl
    kChecked := ⟨fun s us ws _ l1 l2 => match us, ws, l1, l2 with | [_], [_], _, _ => .of_eq rfl, fun r1 r2 => r1.append r2⟩
    cChecked := rfl
    CBroken := CBroken
    fBroken := fBroken
    fdBroken := _
    MBroken := ⟨mBroken, iBroken, nBroken, pBroken⟩
    GBroken := GBroken
    gBroken := PySem.W.mg_of X G aBroken
    bBroken := Binds.all fun us hl => match us, hl with | [_, _, _], _ => rfl
    kBroken := ⟨fun s us ws _ l1 l2 => match us, ws, l1, l2 with | [_], [_, _], _, _ => .of_eq rfl, fun r1 r2 => r1.append r2.reverse⟩
    cBroken := rfl
    CSoonest := CSoonest
    fSoonest := fSoonest
    fdSoonest := _
    MSoonest := ⟨mSoonest, iSoonest, nSoonest, pSoonest⟩
    GSoonest := GSoonest
    gSoonest := PySem.W.mg_of X G aSoonest
    bSoonest := Binds.all fun us hl => match us, hl with | [_, _, _], _ => rfl
    kSoonest := ⟨fun s us ws _ l1 l2 => match us, ws, l1, l2 with | [_], [_, _], _, _ => .of_eq rfl, fun r1 r2 => r1.append r2.reverse⟩
    cSoonest := rfl
    CP := CP
    CD := CD
    gPaper := PySem.W.mg_of X G aCP
    gDenial := PySem.W.mg_of X G aCD
    kP := fun {pw} => kok_own (W := ⟨K, cls, pw⟩) I (fun c C b h hb => by
      have e : b = true := isP_eq hb
      subst e
      exact all (fun c C => PySem.W.kitOne K (.ref C) (.ref CP) = some true) BHolds.kP BBreaks.kP BGuards.kP BChecked.kP BBroken.kP BSoonest.kP c C h) (fun c b hb => isP_cls hb) tuP
    kD := fun {pw} => kok_own (W := ⟨K, cls, pw⟩) I (fun c C b h hb => all (fun c C => ∀ b, isD c = some b → PySem.W.kitOne K (.ref C) (.ref CD) = some b) (fun b hb => by rw [isDHolds] at hb; cases hb; exact BHolds.kD) (fun b hb => by rw [isDBreaks] at hb; cases hb; exact BBreaks.kD) (fun b hb => by rw [isDGuards] at hb; cases hb; exact BGuards.kD) (fun b hb => by rw [isDChecked] at hb; cases hb; exact BChecked.kD) (fun b hb => by rw [isDBroken] at hb; cases hb; exact BBroken.kD) (fun b hb => by rw [isDSoonest] at hb; cases hb; exact BSoonest.kD) c C h b hb) (fun c b hb => isD_cls hb) tuD
    T := T
    fe := fE
    ef := nfE
    Fe := ((ok_eq (k := 0) FE m_isinstance (PySem.W.mg_of X G aCP) (fun {pw} => kok_own (W := ⟨K, cls, pw⟩) I (fun c C b h hb => by
      have e : b = true := isP_eq hb
      subst e
      exact all (fun c C => PySem.W.kitOne K (.ref C) (.ref CP) = some true) BHolds.kP BBreaks.kP BGuards.kP BChecked.kP BBroken.kP BSoonest.kP c C h) (fun c b hb => isP_cls hb) tuP) (T2 _ (by decide +kernel))).raw bE .nil).imp fun vs H Q E h => by rw [List.append_nil]; exact h
    ET := ET
    Gb := fun g => g = fbP ∨ g = fbD
    bv := fun g => decide (g = fbP)
    bf := fun g h => h.elim (fun e => by rw [e]; exact nfP) (fun e => by rw [e]; exact nfD)
    Fb := fun g h => h.elim (fun e => by
      subst e
      rw [decide_eq_true rfl]
      exact ((ok_boolP (k := 0) FbP).raw bbP .nil).imp fun vs H Q E h => by rw [List.append_nil]; exact h) (fun e => by
      subst e
      rw [decide_eq_false ne_]
      exact ((ok_boolD (k := 0) FbD).raw bbD .nil).imp fun vs H Q E h => by rw [List.append_nil]; exact h)
    hb := fun c C b h hb => all (fun c C => ∀ b, bOf c = some b → ∃ g, PySem.W.findIn K (.ref C) "__bool__" = some (some (.ref g)) ∧ (g = fbP ∨ g = fbD) ∧ decide (g = fbP) = b)
      (fun b hb => by unfold bOf at hb; rw [isDHolds] at hb; cases hb; exact ⟨_, BHolds.bo, .inl rfl, decide_eq_true rfl⟩) (fun b hb => by unfold bOf at hb; rw [isDBreaks] at hb; cases hb; exact ⟨_, BBreaks.bo, .inr rfl, decide_eq_false ne_⟩) (fun b hb => by unfold bOf at hb; rw [isDGuards] at hb; cases hb; exact ⟨_, BGuards.bo, .inl rfl, decide_eq_true rfl⟩) (fun b hb => by unfold bOf at hb; rw [isDChecked] at hb; cases hb; exact ⟨_, BChecked.bo, .inl rfl, decide_eq_true rfl⟩) (fun b hb => by unfold bOf at hb; rw [isDBroken] at hb; cases hb; exact ⟨_, BBroken.bo, .inr rfl, decide_eq_false ne_⟩) (fun b hb => by unfold bOf at hb; rw [isDSoonest] at hb; cases hb; exact ⟨_, BSoonest.bo, .inr rfl, decide_eq_false ne_⟩) c C h b hb
    m_isinstance := m_isinstance
    m_bool := m_bool
    m_range := m_range
    m_zip := m_zip }
end DL

-- part K60Z
open PySem PySem.W PyProof.Rows
set_option maxHeartbeats 0
theorem PySem.Challenge.cw_alwaysso_k60_papers_on_questions_kept_holds : PySem.Challenge.rw_alwaysso_k60_papers_on_questions_kept.Holds := by
  w_on; o_law; k_head; (case hw => w_witness2)
  k_fill
  refine L2.walk_of (l := PySem.Challenge.rw_alwaysso_k60_papers_on_questions_kept) (n := 63) (k := 20) (x := "script") (CX := fun _ => L2.CX0) (sp := fun w => DL.spLaw _) rfl (by decide) rfl ⟨rfl, by decide, by decide⟩ (fun w h Y => PySem.W.kIn_of Y) ?F (fun _ _ a ns hl _ hS => ⟨a, ns, rfl, hS, hl, fun _ => rfl⟩) (fun _ _ _ _ _ h => h)
  case F =>
    intro w mg fa h KX G hmg
    refine' DL.all_mk KX G hmg ?aCP ?aCD ?akept ?lkept ?ckept ?kkept ?aP ?lP ?cP ?kP ?abP ?lbP ?cbP ?kbP ?aE ?lE ?cE ?kE ?abD ?lbD ?cbD ?kbD ?aW ?lW ?cW ?kW ?aDr ?lDr ?cDr ?kDr ?aO ?lO ?cO ?kO ?aL ?lL ?cL ?kL ?aHolds ?iHolds ?nHolds ?mHolds ?pHolds ?lHolds ?coHolds ?lkHolds ?vHolds ?fiHolds ?cc_Holds ?dHolds ?BHolds ?aBreaks ?iBreaks ?nBreaks ?mBreaks ?pBreaks ?lBreaks ?coBreaks ?lkBreaks ?vBreaks ?fiBreaks ?cc_Breaks ?dBreaks ?BBreaks ?aGuards ?iGuards ?nGuards ?mGuards ?pGuards ?lGuards ?coGuards ?lkGuards ?vGuards ?fiGuards ?cc_Guards ?dGuards ?BGuards ?aChecked ?iChecked ?nChecked ?mChecked ?pChecked ?lChecked ?coChecked ?lkChecked ?vChecked ?fiChecked ?cc_Checked ?dChecked ?BChecked ?aBroken ?iBroken ?nBroken ?mBroken ?pBroken ?lBroken ?coBroken ?lkBroken ?vBroken ?fiBroken ?cc_Broken ?dBroken ?BBroken ?aSoonest ?iSoonest ?nSoonest ?mSoonest ?pSoonest ?lSoonest ?coSoonest ?lkSoonest ?vSoonest ?fiSoonest ?cc_Soonest ?dSoonest ?BSoonest ?nfE ?nfP ?nfD ?ne_ ?tP ?fP_ ?oc ?ot ?tuP ?tuD ?no ?top ?z_int ?z_abs ?z_len ?z_isinstance ?z_list ?z_tuple ?z_type ?z_bool ?z_range ?z_zip ?z_super
    (case aCP => k_is)
    (case aCD => k_is)
    (case akept => k_is)
    (case lkept => k_is)
    (case ckept => k_is)
    (case kkept => k_is)
    (case aP => k_is)
    (case lP => k_is)
    (case cP => k_is)
    (case kP => k_is)
    (case abP => k_is)
    (case lbP => k_is)
    (case cbP => k_is)
    (case kbP => k_is)
    (case aE => k_is)
    (case lE => k_is)
    (case cE => k_is)
    (case kE => k_is)
    (case abD => k_is)
    (case lbD => k_is)
    (case cbD => k_is)
    (case kbD => k_is)
    (case aW => k_is)
    (case lW => k_is)
    (case cW => k_is)
    (case kW => k_is)
    (case aDr => k_is)
    (case lDr => k_is)
    (case cDr => k_is)
    (case kDr => k_is)
    (case aO => k_is)
    (case lO => k_is)
    (case cO => k_is)
    (case kO => k_is)
    (case aL => k_is)
    (case lL => k_is)
    (case cL => k_is)
    (case kL => k_is)
    (case aHolds => k_is)
    (case iHolds => k_is)
    (case nHolds => k_is)
    (case mHolds => k_is)
    (case pHolds => k_is)
    (case lHolds => k_is)
    (case coHolds => k_is)
    (case lkHolds => k_is)
    (case vHolds => rfl)
    (case fiHolds => decide +kernel)
    (case cc_Holds => k_is)
    (case dHolds => k_is)
    (case aBreaks => k_is)
    (case iBreaks => k_is)
    (case nBreaks => k_is)
    (case mBreaks => k_is)
    (case pBreaks => k_is)
    (case lBreaks => k_is)
    (case coBreaks => k_is)
    (case lkBreaks => k_is)
    (case vBreaks => rfl)
    (case fiBreaks => decide +kernel)
    (case cc_Breaks => k_is)
    (case dBreaks => k_is)
    (case aGuards => k_is)
    (case iGuards => k_is)
    (case nGuards => k_is)
    (case mGuards => k_is)
    (case pGuards => k_is)
    (case lGuards => k_is)
    (case coGuards => k_is)
    (case lkGuards => k_is)
    (case vGuards => rfl)
    (case fiGuards => decide +kernel)
    (case cc_Guards => k_is)
    (case dGuards => k_is)
    (case aChecked => k_is)
    (case iChecked => k_is)
    (case nChecked => k_is)
    (case mChecked => k_is)
    (case pChecked => k_is)
    (case lChecked => k_is)
    (case coChecked => k_is)
    (case lkChecked => k_is)
    (case vChecked => rfl)
    (case fiChecked => decide +kernel)
    (case cc_Checked => k_is)
    (case dChecked => k_is)
    (case aBroken => k_is)
    (case iBroken => k_is)
    (case nBroken => k_is)
    (case mBroken => k_is)
    (case pBroken => k_is)
    (case lBroken => k_is)
    (case coBroken => k_is)
    (case lkBroken => k_is)
    (case vBroken => rfl)
    (case fiBroken => decide +kernel)
    (case cc_Broken => k_is)
    (case dBroken => k_is)
    (case aSoonest => k_is)
    (case iSoonest => k_is)
    (case nSoonest => k_is)
    (case mSoonest => k_is)
    (case pSoonest => k_is)
    (case lSoonest => k_is)
    (case coSoonest => k_is)
    (case lkSoonest => k_is)
    (case vSoonest => rfl)
    (case fiSoonest => decide +kernel)
    (case cc_Soonest => k_is)
    (case dSoonest => k_is)
    (case nfE => k_is)
    (case nfP => k_is)
    (case nfD => k_is)
    (case ne_ => decide)
    (case tP => k_is)
    (case fP_ => k_is)
    (case oc => k_is)
    (case ot => k_is)
    (case tuP => kit_is)
    (case tuD => kit_is)
    (case no => k_is)
    (case top => decide +kernel)
    (case z_int => k_is)
    (case z_abs => k_is)
    (case z_len => k_is)
    (case z_isinstance => k_is)
    (case z_list => k_is)
    (case z_tuple => k_is)
    (case z_type => k_is)
    (case z_bool => k_is)
    (case z_range => k_is)
    (case z_zip => k_is)
    (case z_super => k_is)
    (case BHolds => exact ⟨by k_is, by k_is, by k_is, by k_is, by k_is, by k_is, fun f hf => by (simp only [List.mem_cons, List.not_mem_nil, or_false] at hf; rcases hf with rfl | rfl | rfl | rfl | rfl | rfl | rfl | rfl <;> k_is), ⟨_, _, _, by k_is, rfl, rfl, rfl⟩, by k_is, by k_is, by k_is, by k_is, by k_is, fun C2 hC => by (simp only [List.mem_cons, List.not_mem_nil, or_false] at hC; rcases hC with rfl | rfl | rfl | rfl | rfl | rfl <;> k_is), by kit_is, by kit_is, by k_is, by ks_is⟩)
    (case BBreaks => exact ⟨by k_is, by k_is, by k_is, by k_is, by k_is, by k_is, fun f hf => by (simp only [List.mem_cons, List.not_mem_nil, or_false] at hf; rcases hf with rfl | rfl | rfl | rfl | rfl | rfl | rfl | rfl <;> k_is), ⟨_, _, _, by k_is, rfl, rfl, rfl⟩, by k_is, by k_is, by k_is, by k_is, by k_is, fun C2 hC => by (simp only [List.mem_cons, List.not_mem_nil, or_false] at hC; rcases hC with rfl | rfl | rfl | rfl | rfl | rfl <;> k_is), by kit_is, by kit_is, by k_is, by ks_is⟩)
    (case BGuards => exact ⟨by k_is, by k_is, by k_is, by k_is, by k_is, by k_is, fun f hf => by (simp only [List.mem_cons, List.not_mem_nil, or_false] at hf; rcases hf with rfl | rfl | rfl | rfl | rfl | rfl | rfl | rfl <;> k_is), ⟨_, _, _, by k_is, rfl, rfl, rfl⟩, by k_is, by k_is, by k_is, by k_is, by k_is, fun C2 hC => by (simp only [List.mem_cons, List.not_mem_nil, or_false] at hC; rcases hC with rfl | rfl | rfl | rfl | rfl | rfl <;> k_is), by kit_is, by kit_is, by k_is, by ks_is⟩)
    (case BChecked => exact ⟨by k_is, by k_is, by k_is, by k_is, by k_is, by k_is, fun f hf => by (simp only [List.mem_cons, List.not_mem_nil, or_false] at hf; rcases hf with rfl | rfl | rfl | rfl | rfl | rfl | rfl | rfl <;> k_is), ⟨_, _, _, by k_is, rfl, rfl, rfl⟩, by k_is, by k_is, by k_is, by k_is, by k_is, fun C2 hC => by (simp only [List.mem_cons, List.not_mem_nil, or_false] at hC; rcases hC with rfl | rfl | rfl | rfl | rfl | rfl <;> k_is), by kit_is, by kit_is, by k_is, by ks_is⟩)
    (case BBroken => exact ⟨by k_is, by k_is, by k_is, by k_is, by k_is, by k_is, fun f hf => by (simp only [List.mem_cons, List.not_mem_nil, or_false] at hf; rcases hf with rfl | rfl | rfl | rfl | rfl | rfl | rfl | rfl <;> k_is), ⟨_, _, _, by k_is, rfl, rfl, rfl⟩, by k_is, by k_is, by k_is, by k_is, by k_is, fun C2 hC => by (simp only [List.mem_cons, List.not_mem_nil, or_false] at hC; rcases hC with rfl | rfl | rfl | rfl | rfl | rfl <;> k_is), by kit_is, by kit_is, by k_is, by ks_is⟩)
    (case BSoonest => exact ⟨by k_is, by k_is, by k_is, by k_is, by k_is, by k_is, fun f hf => by (simp only [List.mem_cons, List.not_mem_nil, or_false] at hf; rcases hf with rfl | rfl | rfl | rfl | rfl | rfl | rfl | rfl <;> k_is), ⟨_, _, _, by k_is, rfl, rfl, rfl⟩, by k_is, by k_is, by k_is, by k_is, by k_is, fun C2 hC => by (simp only [List.mem_cons, List.not_mem_nil, or_false] at hC; rcases hC with rfl | rfl | rfl | rfl | rfl | rfl <;> k_is), by kit_is, by kit_is, by k_is, by ks_is⟩)

