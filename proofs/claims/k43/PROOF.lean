import PyProof.Rows.All
import Wide.All
import OpenK.AllK
import Wide.FinOn
import HandS.ForMost
import HandS.Wide
import HandS.Defaults
import HandS.EndBits
import PySem.Challenge.RW_trueshop_k43_equations_kept_and_contradi
set_option Elab.async false
set_option linter.all false
set_option maxRecDepth 100000
set_option maxHeartbeats 4000000
namespace L2.PL
open PySem PySem.Spec PyProof.Rows
/-! ### pure data, the law's stream, what a step of the plain reading gives -/
inductive D where
  | non | bl (b : Bool) | int (i : Int) | str (x : Str) | stm | tup (ds : List D) | lst (ds : List D)
structure Stm where
  cells : List Int
  place : Int
  rest : Int
  mixed : Int
inductive Res (α : Type) where
  | ok (a : α) (S : Stm)
  | ex (x : D) (S : Stm)
  | bad
/-- a choice that nothing computes -/
noncomputable def iteC {α : Type} (P : Prop) (a b : α) : α := @ite α P (Classical.propDecidable P) a b
theorem iteC_pos {α : Type} {P : Prop} {a b : α} (h : P) : iteC P a b = a := by unfold iteC; rw [if_pos h]
theorem iteC_neg {α : Type} {P : Prop} {a b : α} (h : ¬ P) : iteC P a b = b := by unfold iteC; rw [if_neg h]
def Res.bind {α β : Type} (r : Res α) (k : α → Stm → Res β) : Res β :=
  match r with
  | .ok a S => k a S
  | .ex x S => .ex x S
  | .bad => .bad
@[simp] theorem Res.bind_ok {α β : Type} (a : α) (S : Stm) (k : α → Stm → Res β) : (Res.ok a S).bind k = k a S := rfl
@[simp] theorem Res.bind_ex {α β : Type} (x : D) (S : Stm) (k : α → Stm → Res β) : (Res.ex x S : Res α).bind k = .ex x S := rfl
@[simp] theorem Res.bind_bad {α β : Type} (k : α → Stm → Res β) : (Res.bad : Res α).bind k = .bad := rfl
inductive Sl where
  | no | pv (d : D) | ow (ds : List D)
abbrev EF := List Sl → Stm → Res D
abbrev TF := List Sl → Stm → Res Bool
abbrev AF := List Sl → Stm → Res (List D)
inductive Out where
  | nx (ρ : List Sl) | bk (ρ : List Sl) | ct (ρ : List Sl) | rt (d : D)
abbrev SF := List Sl → Stm → Res Out
/-! ### how data stand in the abstract heap -/
mutual
inductive Rep (K : PySem.W.Frag) (sa : Option Addr) (G : Hp) : V → D → Prop
  | non : Rep K sa G .non .non
  | bl (b : Bool) : Rep K sa G (.bl b) (.bl b)
  | int (i : Int) : Rep K sa G (.int i) (.int i)
  | str (x : Str) : Rep K sa G (.str x) (.str x)
  | stm {a : Addr} : sa = some a → Rep K sa G (.ref a) .stm
  | tup {a : Addr} {vs : List V} {ds : List D} : SqT K G a vs → Reps K sa G vs ds → Rep K sa G (.ref a) (.tup ds)
  | lst {a : Addr} {vs : List V} {ds : List D} : G a = some (.lst vs) → Reps K sa G vs ds → Rep K sa G (.ref a) (.lst ds)
inductive Reps (K : PySem.W.Frag) (sa : Option Addr) (G : Hp) : List V → List D → Prop
  | nil : Reps K sa G [] []
  | cons {v : V} {d : D} {vs : List V} {ds : List D} : Rep K sa G v d → Reps K sa G vs ds → Reps K sa G (v :: vs) (d :: ds)
end
theorem Same.seqT {K : PySem.W.Frag} {H H' : Hp} {a : Addr} {xs : List V} (e : Same H H') (h : SqT K H a xs) : SqT K H' a xs := by
  rcases h with (h | ⟨o, h⟩) | h
  · exact .inl (.inl (e _ _ h))
  · exact .inl (.inr ⟨o, e _ _ h⟩)
  · exact .inr h
section
variable {K : PySem.W.Frag} {sa : Option Addr} {G G' : Hp}
mutual
theorem Rep.mono (e : Same G G') : ∀ {v : V} {d : D}, Rep K sa G v d → Rep K sa G' v d
  | _, _, .non => .non
  | _, _, .bl b => .bl b
  | _, _, .int i => .int i
  | _, _, .str x => .str x
  | _, _, .stm h => .stm h
  | _, _, .tup h r => .tup (Same.seqT e h) (Reps.mono e r)
  | _, _, .lst h r => .lst (e _ _ h) (Reps.mono e r)
theorem Reps.mono (e : Same G G') : ∀ {vs : List V} {ds : List D}, Reps K sa G vs ds → Reps K sa G' vs ds
  | _, _, .nil => .nil
  | _, _, .cons r t => .cons (Rep.mono e r) (Reps.mono e t)
end
theorem Reps.length : ∀ {vs : List V} {ds : List D}, Reps K sa G vs ds → vs.length = ds.length
  | _, _, .nil => rfl
  | _, _, .cons _ t => by simp only [List.length_cons, Reps.length t]
theorem Reps.append : ∀ {vs us : List V} {ds es : List D}, Reps K sa G vs ds → Reps K sa G us es → Reps K sa G (vs ++ us) (ds ++ es)
  | _, _, _, _, .nil, s => s
  | _, _, _, _, .cons r t, s => .cons r (Reps.append t s)
theorem Reps.get : ∀ {vs : List V} {ds : List D} {i : Nat} {d : D}, Reps K sa G vs ds → ds[i]? = some d → ∃ v, vs[i]? = some v ∧ Rep K sa G v d
  | _, _, _, _, .nil, e => by simp at e
  | _, _, 0, _, .cons r _, e => by simp at e; subst e; exact ⟨_, rfl, r⟩
  | _, _, i + 1, _, .cons _ t, e => by
    obtain ⟨v, h1, h2⟩ := Reps.get (i := i) t (by simpa using e)
    exact ⟨v, by simpa using h1, h2⟩
theorem Reps.getv : ∀ {vs : List V} {ds : List D} {i : Nat} {v : V}, Reps K sa G vs ds → vs[i]? = some v → ∃ d, ds[i]? = some d ∧ Rep K sa G v d
  | _, _, _, _, .nil, e => by simp at e
  | _, _, 0, _, .cons r _, e => by simp at e; subst e; exact ⟨_, rfl, r⟩
  | _, _, i + 1, _, .cons _ t, e => by
    obtain ⟨d, h1, h2⟩ := Reps.getv (i := i) t (by simpa using e)
    exact ⟨d, by simpa using h1, h2⟩
theorem Reps.set {v : V} {d : D} (r : Rep K sa G v d) : ∀ {vs : List V} {ds : List D} (i : Nat), Reps K sa G vs ds → Reps K sa G (vs.set i v) (ds.set i d)
  | _, _, _, .nil => .nil
  | _, _, 0, .cons _ t => .cons r t
  | _, _, i + 1, .cons q t => .cons q (Reps.set r i t)
theorem Reps.take : ∀ {vs : List V} {ds : List D} (n : Nat), Reps K sa G vs ds → Reps K sa G (vs.take n) (ds.take n)
  | _, _, 0, _ => .nil
  | _, _, _ + 1, .nil => .nil
  | _, _, n + 1, .cons r t => .cons r (Reps.take n t)
theorem Reps.drop : ∀ {vs : List V} {ds : List D} (n : Nat), Reps K sa G vs ds → Reps K sa G (vs.drop n) (ds.drop n)
  | _, _, 0, r => r
  | _, _, _ + 1, .nil => .nil
  | _, _, n + 1, .cons _ t => Reps.drop n t
theorem Reps.snoc {vs : List V} {ds : List D} {v : V} {d : D} (r : Reps K sa G vs ds) (q : Rep K sa G v d) : Reps K sa G (vs ++ [v]) (ds ++ [d]) := r.append (.cons q .nil)
theorem Reps.ints : ∀ (ns : List Int), Reps K sa G (ns.map V.int) (ns.map D.int)
  | [] => .nil
  | n :: ns => .cons (.int n) (Reps.ints ns)
end
/-- the context: the stream's address (if st), the abstract heaps at the def's entry, what is wanted of an exception -/
structure CB where
  sa : Option Addr
  G0 : Hp
  H0 : Hp
structure C extends CB where
  xk : D → Stm → Hp → Hp → Prop
instance : Coe C CB := ⟨C.toCB⟩
abbrev C.nox (c : C) : C := ⟨c.toCB, fun _ _ _ _ => False⟩
/-- the stream's dict -/
def stmKvs (ca : Addr) (S : Stm) : List (Key × V) :=
  [(.inr "cells", .ref ca), (.inr "at", .int S.place), (.inr "rest", .int S.rest), (.inr "mixed", .int S.mixed)]
structure Wd (K : PySem.W.Frag) (c : CB) (G H : Hp) (S : Stm) : Prop where
  sub : Same G H
  stm : ∀ a, c.sa = some a → G a = none ∧ ∃ ca, G ca = some (.lst (S.cells.map V.int)) ∧ H a = some (.dK (stmKvs ca S))
structure Ext (c : CB) (G H G' H' : Hp) : Prop where
  g : Same G G'
  h : ∀ a o, H a = some o → c.sa ≠ some a → H' a = some o
  d : ∀ a, H a ≠ none → H' a ≠ none
  f : ∀ a, G a = none → H a ≠ none → G' a = none
theorem Ext.refl (c : CB) (G H : Hp) : Ext c G H G H := ⟨fun _ _ h => h, fun _ _ h _ => h, fun _ h => h, fun _ h _ => h⟩
theorem Ext.trans {c : CB} {G H G1 H1 G2 H2 : Hp} (a : Ext c G H G1 H1) (b : Ext c G1 H1 G2 H2) : Ext c G H G2 H2 :=
  ⟨fun x o h => b.g x o (a.g x o h), fun x o h n => b.h x o (a.h x o h n) n, fun x h => b.d x (a.d x h), fun x h n => b.f x (a.f x h n) (a.d x n)⟩
/-- the context's own two words alone matter -/
theorem Ext.cast {c c' : CB} {G H G1 H1 : Hp} (h1 : c'.sa = c.sa) (e : Ext c G H G1 H1) : Ext c' G H G1 H1 :=
  ⟨e.g, fun a o h n => e.h a o h (by rw [h1] at n; exact n), e.d, e.f⟩
theorem Wd.cast {K : PySem.W.Frag} {c c' : CB} {G H : Hp} {S : Stm} (h1 : c'.sa = c.sa) (e : Wd K c G H S) : Wd K c' G H S :=
  ⟨e.sub, fun a h => e.stm a (h1 ▸ h)⟩
inductive SlR (K : PySem.W.Frag) (c : CB) (G H : Hp) : Option V → Sl → Prop
  | no (x : Option V) : SlR K c G H x .no
  | pv {v : V} {d : D} : Rep K c.sa G v d → SlR K c G H (some v) (.pv d)
  | ow {a : Addr} {vs : List V} {ds : List D} : H a = some (.lst vs) → G a = none → c.H0 a = none → c.sa ≠ some a → Reps K c.sa G vs ds → SlR K c G H (some (.ref a)) (.ow ds)
structure Stt (K : PySem.W.Frag) (c : CB) (σ : St) (ρ : List Sl) (G H : Hp) (S : Stm) : Prop where
  wd : Wd K c G H S
  ex : Ext c c.G0 c.H0 G H
  len : σ.length = ρ.length
  sl : ∀ (i : Nat) (x : Option V) (y : Sl), σ[i]? = some x → ρ[i]? = some y → SlR K c G H x y
  dj : ∀ (i j : Nat) (a : Addr) (ds es : List D), i ≠ j → ρ[i]? = some (.ow ds) → ρ[j]? = some (.ow es) → σ[i]? = some (some (.ref a)) → σ[j]? ≠ some (some (.ref a))
section
variable {K : PySem.W.Frag} {c : CB} {σ : St} {ρ : List Sl} {G H G' H' : Hp} {S S' : Stm}
theorem SlR.ext {x : Option V} {y : Sl} (h : SlR K c G H x y) (e : Ext c G H G' H') : SlR K c G' H' x y := by
  cases h with
  | no x => exact .no x
  | pv r => exact .pv (r.mono e.g)
  | ow h1 h2 h3 h4 h5 => exact .ow (e.h _ _ h1 h4) (e.f _ h2 (by rw [h1]; simp)) h3 h4 (h5.mono e.g)
theorem Stt.step (s : Stt K c σ ρ G H S) (e : Ext c G H G' H') (w : Wd K c G' H' S') : Stt K c σ ρ G' H' S' :=
  ⟨w, s.ex.trans e, s.len, fun i x y h1 h2 => (s.sl i x y h1 h2).ext e, s.dj⟩
end
/-! ### readings -/
def PostE (K : PySem.W.Frag) (c : C) (G H : Hp) (Q : VK) : Res D → Prop
  | .ok d S' => ∀ v G' H', Ext c G H G' H' → Wd K c G' H' S' → Rep K c.sa G' v d → Q v H'
  | .ex x S' => ∀ G' H', Ext c G H G' H' → Wd K c G' H' S' → c.xk x S' G' H'
  | .bad => False
def PostT (K : PySem.W.Frag) (c : C) (G H : Hp) (Q : Bool → Hp → Prop) : Res Bool → Prop
  | .ok b S' => ∀ G' H', Ext c G H G' H' → Wd K c G' H' S' → Q b H'
  | .ex x S' => ∀ G' H', Ext c G H G' H' → Wd K c G' H' S' → c.xk x S' G' H'
  | .bad => False
def PostA (K : PySem.W.Frag) (c : C) (G H : Hp) (Q : List V → Hp → Prop) : Res (List D) → Prop
  | .ok ds S' => ∀ vs G' H', Ext c G H G' H' → Wd K c G' H' S' → Reps K c.sa G' vs ds → Q vs H'
  | .ex x S' => ∀ G' H', Ext c G H G' H' → Wd K c G' H' S' → c.xk x S' G' H'
  | .bad => False
/-- a new list, not yet frozen -/
def PostF (K : PySem.W.Frag) (c : C) (G H : Hp) (Q : VK) : Res (List D) → Prop
  | .ok ds S' => ∀ a vs G' H', Ext c G H G' H' → Wd K c G' H' S' → H a = none → G' a = none → H' a = some (.lst vs) → Reps K c.sa G' vs ds → Q (.ref a) H'
  | .ex x S' => ∀ G' H', Ext c G H G' H' → Wd K c G' H' S' → c.xk x S' G' H'
  | .bad => False
def tE (K : PySem.W.Frag) (c : C) (f : EF) : TE := fun σ H Q => ∃ G ρ S, Stt K c σ ρ G H S ∧ PostE K c G H Q (f ρ S)
def tT (K : PySem.W.Frag) (c : C) (f : TF) : TT := fun σ H Q => ∃ G ρ S, Stt K c σ ρ G H S ∧ PostT K c G H Q (f ρ S)
def tA (K : PySem.W.Frag) (c : C) (f : AF) : TA := fun σ H Q => ∃ G ρ S, Stt K c σ ρ G H S ∧ PostA K c G H Q (f ρ S)
def tF (K : PySem.W.Frag) (c : C) (f : AF) : TE := fun σ H Q => ∃ G ρ S, Stt K c σ ρ G H S ∧ PostF K c G H Q (f ρ S)
def PostS (K : PySem.W.Frag) (c : C) (G : Hp) (D : Ends) : Res Out → Prop
  | .ok (.nx ρ') S' => ∀ σ' G' H', Same G G' → Stt K c σ' ρ' G' H' S' → D.nx σ' H'
  | .ok (.bk ρ') S' => ∀ σ' G' H', Same G G' → Stt K c σ' ρ' G' H' S' → D.bk σ' H'
  | .ok (.ct ρ') S' => ∀ σ' G' H', Same G G' → Stt K c σ' ρ' G' H' S' → D.ct σ' H'
  | .ok (.rt d) S' => ∀ v G' H', Same G G' → Ext c c.G0 c.H0 G' H' → Wd K c G' H' S' → Rep K c.sa G' v d → D.rt v H'
  | .ex x S' => ∀ G' H', Same G G' → Ext c c.G0 c.H0 G' H' → Wd K c G' H' S' → c.xk x S' G' H'
  | .bad => False
def tS (K : PySem.W.Frag) (c : C) (f : SF) : TS := fun D σ H => ∃ G ρ S, Stt K c σ ρ G H S ∧ PostS K c G D (f ρ S)
end L2.PL
namespace L2.PL
open PySem PySem.Spec PyProof.Rows
section
variable {K : PySem.W.Frag} {c : C} {σ : St} {ρ : List Sl} {G H G' H' : Hp} {S S' : Stm}
theorem PostE.ext {Q : VK} {r : Res D} {G1 H1 : Hp} (p : PostE K c G H Q r) (e : Ext c G H G1 H1) : PostE K c G1 H1 Q r := by
  cases r with
  | ok d S' => exact fun v G2 H2 e2 w2 r2 => p v G2 H2 (e.trans e2) w2 r2
  | ex d S' => exact fun G2 H2 e2 w2 => p G2 H2 (e.trans e2) w2
  | bad => exact p
theorem PostT.ext {Q : Bool → Hp → Prop} {r : Res Bool} {G1 H1 : Hp} (p : PostT K c G H Q r) (e : Ext c G H G1 H1) : PostT K c G1 H1 Q r := by
  cases r with
  | ok d S' => exact fun G2 H2 e2 w2 => p G2 H2 (e.trans e2) w2
  | ex d S' => exact fun G2 H2 e2 w2 => p G2 H2 (e.trans e2) w2
  | bad => exact p
theorem PostA.ext {Q : List V → Hp → Prop} {r : Res (List D)} {G1 H1 : Hp} (p : PostA K c G H Q r) (e : Ext c G H G1 H1) : PostA K c G1 H1 Q r := by
  cases r with
  | ok d S' => exact fun v G2 H2 e2 w2 r2 => p v G2 H2 (e.trans e2) w2 r2
  | ex d S' => exact fun G2 H2 e2 w2 => p G2 H2 (e.trans e2) w2
  | bad => exact p
theorem PostF.ext {Q : VK} {r : Res (List D)} {G1 H1 : Hp} (p : PostF K c G H Q r) (e : Ext c G H G1 H1) : PostF K c G1 H1 Q r := by
  cases r with
  | ok d S' => exact fun a v G2 H2 e2 w2 n g h r2 => p a v G2 H2 (e.trans e2) w2 (by
      cases q : H a with
      | none => rfl
      | some o => exact absurd n (e.d a (by rw [q]; simp))) g h r2
  | ex d S' => exact fun G2 H2 e2 w2 => p G2 H2 (e.trans e2) w2
  | bad => exact p
/-- any reading of this kind: what stands behind it, and how it moves on -/
structure Pst (K : PySem.W.Frag) (c : C) {β : Type} (P : Hp → Hp → Res β → Prop) : Prop where
  ext : ∀ {G H G1 H1 : Hp} {r : Res β}, P G H r → Ext c G H G1 H1 → P G1 H1 r
  ex : ∀ {G H : Hp} {x : D} {S' : Stm}, P G H (.ex x S') → ∀ G' H', Ext c G H G' H' → Wd K c G' H' S' → c.xk x S' G' H'
  bad : ∀ {G H : Hp}, ¬ P G H .bad
theorem pstE {Q : VK} : Pst K c (fun G H => PostE K c G H Q) := ⟨fun p e => p.ext e, fun p => p, fun p => p⟩
theorem pstT {Q : Bool → Hp → Prop} : Pst K c (fun G H => PostT K c G H Q) := ⟨fun p e => p.ext e, fun p => p, fun p => p⟩
theorem pstA {Q : List V → Hp → Prop} : Pst K c (fun G H => PostA K c G H Q) := ⟨fun p e => p.ext e, fun p => p, fun p => p⟩
theorem pstF {Q : VK} : Pst K c (fun G H => PostF K c G H Q) := ⟨fun p e => p.ext e, fun p => p, fun p => p⟩
variable {β : Type} {P : Hp → Hp → Res β → Prop}
/-- first an expression -/
theorem goE {f : EF} {k : D → Stm → Res β} {R : VK} (hP : Pst K c P) (st : Stt K c σ ρ G H S) (p : P G H ((f ρ S).bind k))
    (hk : ∀ x S1 v G1 H1, f ρ S = .ok x S1 → Ext c G H G1 H1 → Stt K c σ ρ G1 H1 S1 → Rep K c.sa G1 v x → P G1 H1 (k x S1) → R v H1) : tE K c f σ H R := by
  refine ⟨G, ρ, S, st, ?_⟩
  cases e : f ρ S with
  | ok x S1 =>
    rw [e] at p
    exact fun v G1 H1 e1 w1 r1 => hk x S1 v G1 H1 e e1 (st.step e1 w1) r1 (hP.ext (r := k x S1) p e1)
  | ex x S1 => rw [e] at p; exact hP.ex p
  | bad => rw [e] at p; exact (hP.bad p).elim
theorem goT {f : TF} {k : Bool → Stm → Res β} {R : Bool → Hp → Prop} (hP : Pst K c P) (st : Stt K c σ ρ G H S) (p : P G H ((f ρ S).bind k))
    (hk : ∀ x S1 G1 H1, f ρ S = .ok x S1 → Ext c G H G1 H1 → Stt K c σ ρ G1 H1 S1 → P G1 H1 (k x S1) → R x H1) : tT K c f σ H R := by
  refine ⟨G, ρ, S, st, ?_⟩
  cases e : f ρ S with
  | ok x S1 =>
    rw [e] at p
    exact fun G1 H1 e1 w1 => hk x S1 G1 H1 e e1 (st.step e1 w1) (hP.ext (r := k x S1) p e1)
  | ex x S1 => rw [e] at p; exact hP.ex p
  | bad => rw [e] at p; exact (hP.bad p).elim
theorem goA {f : AF} {k : List D → Stm → Res β} {R : List V → Hp → Prop} (hP : Pst K c P) (st : Stt K c σ ρ G H S) (p : P G H ((f ρ S).bind k))
    (hk : ∀ x S1 v G1 H1, f ρ S = .ok x S1 → Ext c G H G1 H1 → Stt K c σ ρ G1 H1 S1 → Reps K c.sa G1 v x → P G1 H1 (k x S1) → R v H1) : tA K c f σ H R := by
  refine ⟨G, ρ, S, st, ?_⟩
  cases e : f ρ S with
  | ok x S1 =>
    rw [e] at p
    exact fun v G1 H1 e1 w1 r1 => hk x S1 v G1 H1 e e1 (st.step e1 w1) r1 (hP.ext (r := k x S1) p e1)
  | ex x S1 => rw [e] at p; exact hP.ex p
  | bad => rw [e] at p; exact (hP.bad p).elim
end
section
variable {K : PySem.W.Frag} {c : CB} {σ : St} {ρ : List Sl} {G H G' H' : Hp} {S S' : Stm}
/-- a fresh tracked object laid and frozen at once -/
theorem Wd.froze {a : Addr} {o : HO} (w : Wd K c G H S) (n : H a = none) : Wd K c (upd G a o) (upd H a o) S := by
  refine ⟨fun b u h => ?_, fun b hb => ?_⟩
  · by_cases e : b = a
    · subst e; rw [upd_same] at h ⊢; exact h
    · rw [upd_ne e] at h ⊢; exact w.sub b u h
  · obtain ⟨g, ca, h1, h2⟩ := w.stm b hb
    have nb : b ≠ a := ne_of_none h2 n
    have nc : ca ≠ a := ne_of_none (w.sub _ _ h1) n
    exact ⟨by rw [upd_ne nb]; exact g, ca, by rw [upd_ne nc]; exact h1, by rw [upd_ne nb]; exact h2⟩
theorem Wd.nn (w : Wd K c G H S) {a : Addr} (n : H a = none) : G a = none := by
  cases q : G a with
  | none => rfl
  | some o => rw [w.sub a o q] at n; cases n
theorem Wd.nost (w : Wd K c G H S) {a : Addr} (n : H a = none) : c.sa ≠ some a := fun e => by
  obtain ⟨_, _, _, h⟩ := w.stm a e
  rw [n] at h; cases h
theorem same_upd {a : Addr} {o : HO} (n : G a = none) : Same G (upd G a o) := fun b u h => by rw [upd_ne (ne_of_none h n)]; exact h
theorem Ext.froze {a : Addr} {o : HO} (w : Wd K c G H S) (n : H a = none) : Ext c G H (upd G a o) (upd H a o) := by
  refine ⟨same_upd (w.nn n), fun b u h _ => same_upd n b u h, fun b h => ?_, fun b g h => ?_⟩
  · by_cases e : b = a
    · subst e; rw [upd_same]; simp
    · rw [upd_ne e]; exact h
  · have e : b ≠ a := fun z => h (by rw [z]; exact n)
    rw [upd_ne e]; exact g
/-- laid, not frozen -/
theorem Wd.laid {a : Addr} {o : HO} (w : Wd K c G H S) (n : H a = none) : Wd K c G (upd H a o) S := by
  refine ⟨fun b u h => same_upd n b u (w.sub b u h), fun b hb => ?_⟩
  obtain ⟨g, ca, h1, h2⟩ := w.stm b hb
  exact ⟨g, ca, h1, same_upd n _ _ h2⟩
theorem Ext.laid {a : Addr} {o : HO} (w : Wd K c G H S) (n : H a = none) : Ext c G H G (upd H a o) := by
  refine ⟨fun _ _ h => h, fun b u h _ => same_upd n b u h, fun b h => ?_, fun b g h => g⟩
  by_cases e : b = a
  · subst e; rw [upd_same]; simp
  · rw [upd_ne e]; exact h
/-- frozen later -/
theorem Wd.frz {a : Addr} {o : HO} (w : Wd K c G H S) (h : H a = some o) (ns : c.sa ≠ some a) (g : G a = none) : Wd K c (upd G a o) H S := by
  refine ⟨fun b u q => ?_, fun b hb => ?_⟩
  · by_cases e : b = a
    · subst e; rw [upd_same] at q; cases q; exact h
    · rw [upd_ne e] at q; exact w.sub b u q
  · obtain ⟨g', ca, h1, h2⟩ := w.stm b hb
    have nb : b ≠ a := fun e => ns (e ▸ hb)
    exact ⟨by rw [upd_ne nb]; exact g', ca, same_upd g _ _ h1, h2⟩
end
section
variable {X : Cx} {c : C} {e a b : Expr} {es : List Expr} {pos : Pos}
theorem _root_.L2.PE.weak {t t' : TE} (h : PE X e t) (w : ∀ σ H Q, t' σ H Q → t σ H Q) : PE X e t' := ⟨fun pins s σ H Q I q => h.run pins s σ H Q I (w _ _ _ q)⟩
theorem _root_.L2.PT.weak {t t' : TT} (h : PT X e t) (w : ∀ σ H Q, t' σ H Q → t σ H Q) : PT X e t' := ⟨fun pins s σ H Q I q => h.run pins s σ H Q I (w _ _ _ q)⟩
theorem _root_.L2.PA.weak {t t' : TA} (h : PA X es t) (w : ∀ σ H Q, t' σ H Q → t σ H Q) : PA X es t' := ⟨fun p pins s σ H Q I q => h.run p pins s σ H Q I (w _ _ _ q)⟩
theorem _root_.L2.PS.weak {s : Stmt} {t t' : TS} (h : PS X s t) (w : ∀ D σ H, t' D σ H → t D σ H) : PS X s t' := ⟨fun pins s σ H D I q => h.run pins s σ H D I (w _ _ _ q)⟩
theorem _root_.L2.PSs.weak {s : List Stmt} {t t' : TS} (h : PSs X s t) (w : ∀ D σ H, t' D σ H → t D σ H) : PSs X s t' := ⟨fun pins s σ H D I q => h.run pins s σ H D I (w _ _ _ q)⟩
/-! ### names, constants -/
def eVar (i : Nat) : EF := fun ρ S => match ρ[i]? with | some (.pv d) => .ok d S | _ => .bad
def eC (d : D) : EF := fun _ S => .ok d S
theorem Stt.get {K : PySem.W.Frag} {c : CB} {σ : St} {ρ : List Sl} {G H : Hp} {S : Stm} {i : Nat} {y : Sl} (s : Stt K c σ ρ G H S) (h : ρ[i]? = some y) : ∃ x, σ[i]? = some x ∧ SlR K c G H x y := by
  have hl : i < σ.length := by rw [s.len]; exact (List.getElem?_eq_some_iff.mp h).1
  exact ⟨σ[i], by simp [hl], s.sl i _ y (by simp [hl]) h⟩
theorem pe_eVar {i : Nat} {x : Str} (h : PE X (.Name x pos) (tVar i)) : PE X (.Name x pos) (tE X.K c (eVar i)) := h.weak fun σ H Q q => by
  obtain ⟨G, ρ, S, st, p⟩ := q
  unfold eVar at p
  (first | (unfold iteC at p; split at p) | split at p)
  · rename_i d e
    obtain ⟨v, hv, r⟩ := st.get e
    cases r with
    | pv r => exact ⟨_, hv, p _ G H (.refl _ _ _) st.wd r⟩
  · exact p.elim
theorem pe_eC {d : D} {v : V} (h : PE X e (tC v)) (r : ∀ G, Rep X.K c.sa G v d) : PE X e (tE X.K c (eC d)) := h.weak fun σ H Q q => by
  obtain ⟨G, ρ, S, st, p⟩ := q
  exact p v G H (.refl _ _ _) st.wd (r G)
theorem pe_eInt {i : Int} {j : Nat} : PE X (.Constant (.int i) j pos) (tE X.K c (eC (.int i))) := pe_eC pe_int fun _ => .int i
theorem pe_eBl {i : Bool} {j : Nat} : PE X (.Constant (.bool i) j pos) (tE X.K c (eC (.bl i))) := pe_eC pe_bl fun _ => .bl i
theorem pe_eNon {j : Nat} : PE X (.Constant .none j pos) (tE X.K c (eC .non)) := pe_eC pe_non fun _ => .non
theorem pe_eStr {x : Str} {j : Nat} : PE X (.Constant (.str x) j pos) (tE X.K c (eC (.str x))) := pe_eC pe_str fun _ => .str x
/-! ### two values and an operation -/
abbrev O2 := D → D → Stm → Res D
def eBin (o : O2) (f g : EF) : EF := fun ρ S => (f ρ S).bind fun x S1 => (g ρ S1).bind fun y S2 => o x y S2
def OpS (K : PySem.W.Frag) (c : C) (r : R2) (o : O2) : Prop := ∀ x y S v u G H Q, Wd K c G H S → Rep K c.sa G v x → Rep K c.sa G u y → PostE K c G H Q (o x y S) → r v u H Q
theorem tOp_eBin {K : PySem.W.Frag} {r : R2} {o : O2} {f g : EF} (so : OpS K c r o) (σ : St) (H : Hp) (Q : VK) (q : tE K c (eBin o f g) σ H Q) : tOp r (tE K c f) (tE K c g) σ H Q := by
  obtain ⟨G, ρ, S, st, p⟩ := q
  exact goE pstE st p fun x S1 v G1 H1 _ e1 st1 r1 p1 => goE pstE st1 p1 fun y S2 u G2 H2 _ e2 st2 r2 p2 => so x y S2 v u G2 H2 Q st2.wd (r1.mono e2.g) r2 p2
theorem pe_eBin {op : Operator} {r : R2} {o : O2} {f g : EF} (ho : OpR X (binaryOp op) r) (so : OpS X.K c r o) (ha : PE X a (tE X.K c f)) (hb : PE X b (tE X.K c g)) : PE X (.BinOp a op b pos) (tE X.K c (eBin o f g)) :=
  (pe_op ho ha hb).weak (tOp_eBin so)
theorem pe_eCmp {op : CmpOp} {r : R2} {o : O2} {f g : EF} (ho : OpR X (compareOp op) r) (so : OpS X.K c r o) (ha : PE X a (tE X.K c f)) (hb : PE X b (tE X.K c g)) (hm : behindInMarks op b = false) : PE X (.Compare a [op] [b] pos) (tE X.K c (eBin o f g)) :=
  (pe_cmpR ho ha hb hm).weak (tOp_eBin so)
/-- an expression's bool as a test -/
def tOfE (f : EF) : TF := fun ρ S => (f ρ S).bind fun d S1 => match d with | .bl b => .ok b S1 | _ => .bad
theorem bl_of {K : PySem.W.Frag} {sa : Option Addr} {G : Hp} {v : V} {b : Bool} (h : Rep K sa G v (.bl b)) : v = .bl b := by cases h; rfl
theorem int_of {K : PySem.W.Frag} {sa : Option Addr} {G : Hp} {v : V} {b : Int} (h : Rep K sa G v (.int b)) : v = .int b := by cases h; rfl
theorem str_of {K : PySem.W.Frag} {sa : Option Addr} {G : Hp} {v : V} {b : Str} (h : Rep K sa G v (.str b)) : v = .str b := by cases h; rfl
theorem non_of {K : PySem.W.Frag} {sa : Option Addr} {G : Hp} {v : V} (h : Rep K sa G v .non) : v = .non := by cases h; rfl
theorem tB_of {K : PySem.W.Frag} {f : EF} (σ : St) (H : Hp) (Q : Bool → Hp → Prop) (q : tT K c (tOfE f) σ H Q) : tE K c f σ H fun x H1 => ∃ k, x = .bl k ∧ Q k H1 := by
  obtain ⟨G, ρ, S, st, p⟩ := q
  refine goE pstT st p fun x S1 v G1 H1 _ e1 st1 r1 p1 => ?_
  (first | (unfold iteC at p1; split at p1) | split at p1)
  · exact ⟨_, bl_of r1, p1 G1 H1 (.refl _ _ _) st1.wd⟩
  · exact p1.elim
theorem pt_eCmp {op : CmpOp} {r : R2} {o : O2} {f g : EF} (ho : OpR X (compareOp op) r) (so : OpS X.K c r o) (ha : PE X a (tE X.K c f)) (hb : PE X b (tE X.K c g)) (hm : behindInMarks op b = false) : PT X (.Compare a [op] [b] pos) (tT X.K c (tOfE (eBin o f g))) :=
  (pt_cmpR ho ha hb hm).weak fun σ H Q q => by
    obtain ⟨G, ρ, S, st, p⟩ := q
    have p' : PostT X.K c G H Q (((f ρ S).bind fun x S1 => (g ρ S1).bind fun y S2 => o x y S2).bind fun d S1 => match d with | .bl b => .ok b S1 | _ => .bad) := p
    have p2 : PostT X.K c G H Q ((f ρ S).bind fun x S1 => (g ρ S1).bind fun y S2 => (o x y S2).bind fun d S1 => match d with | .bl b => .ok b S1 | _ => .bad) := by
      cases q1 : f ρ S with
      | ok x S1 =>
        rw [q1] at p'
        simp only [Res.bind_ok] at p' ⊢
        cases q2 : g ρ S1 with
        | ok y S2 => rw [q2] at p'; exact p'
        | ex y S2 => rw [q2] at p'; exact p'
        | bad => rw [q2] at p'; exact p'
      | ex x S1 => rw [q1] at p'; exact p'
      | bad => rw [q1] at p'; exact p'
    refine goE pstT st p2 fun x S1 v G1 H1 _ e1 st1 r1 p1 => goE pstT st1 p1 fun y S2 u G2 H2 _ e2 st2 r2 p2 => ?_
    refine so x y S2 v u G2 H2 _ st2.wd (r1.mono e2.g) r2 ?_
    cases q3 : o x y S2 with
    | ok d S3 =>
      rw [q3] at p2
      simp only [Res.bind_ok] at p2
      intro v3 G3 H3 e3 w3 r3
      (first | (unfold iteC at p2; split at p2) | split at p2)
      · exact ⟨_, bl_of r3, p2 G3 H3 e3 w3⟩
      · exact p2.elim
    | ex d S3 => rw [q3] at p2; exact p2
    | bad => rw [q3] at p2; exact p2
theorem pt_eVal {f : EF} (h : PE X e (tE X.K c f)) (he : ∀ whole, isTrue e X.env whole = (do let v ← whole; standAt e.pos; holding [v] (truthy v)) := by intro _; rfl) : PT X e (tT X.K c (tOfE f)) :=
  (pt_val h he).weak fun σ H Q q => tB_of σ H Q q
/-! ### and, or, not, if-else -/
def tfAnd (f g : TF) : TF := fun ρ S => (f ρ S).bind fun b S1 => if b = true then g ρ S1 else .ok false S1
def tfOr (f g : TF) : TF := fun ρ S => (f ρ S).bind fun b S1 => if b = true then .ok true S1 else g ρ S1
def tfNot (f : TF) : TF := fun ρ S => (f ρ S).bind fun b S1 => .ok (!b) S1
theorem _root_.L2.PW.weak {t t' : TT} (h : PW X e t) (w : ∀ σ H Q, t' σ H Q → t σ H Q) : PW X e t' := ⟨fun wh pins s σ H Q I q => h.run wh pins s σ H Q I (w _ _ _ q)⟩
theorem pw_eAnd {rest : List Expr} {f g : TF} (ha : PT X a (tT X.K c f)) (hb : PW X (.BoolOp .And (b :: rest) pos) (tT X.K c g)) : PW X (.BoolOp .And (a :: b :: rest) pos) (tT X.K c (tfAnd f g)) :=
  (pw_and ha hb).weak fun σ H Q q => by
    obtain ⟨G, ρ, S, st, p⟩ := q
    refine goT pstT st p fun x S1 G1 H1 _ e1 st1 p1 => ?_
    cases x with
    | true => exact iteT ⟨G1, ρ, S1, st1, p1⟩
    | false => exact iteF (p1 G1 H1 (.refl _ _ _) st1.wd)
theorem pw_eOr {rest : List Expr} {f g : TF} (ha : PT X a (tT X.K c f)) (hb : PW X (.BoolOp .Or (b :: rest) pos) (tT X.K c g)) : PW X (.BoolOp .Or (a :: b :: rest) pos) (tT X.K c (tfOr f g)) :=
  (pw_or ha hb).weak fun σ H Q q => by
    obtain ⟨G, ρ, S, st, p⟩ := q
    refine goT pstT st p fun x S1 G1 H1 _ e1 st1 p1 => ?_
    cases x with
    | true => exact iteT (p1 G1 H1 (.refl _ _ _) st1.wd)
    | false => exact iteF ⟨G1, ρ, S1, st1, p1⟩
theorem pt_eNot {f : TF} (ha : PT X a (tT X.K c f)) : PT X (.UnaryOp .Not a pos) (tT X.K c (tfNot f)) :=
  (pt_not ha).weak fun σ H Q q => by
    obtain ⟨G, ρ, S, st, p⟩ := q
    exact goT pstT st p fun x S1 G1 H1 _ e1 st1 p1 => p1 G1 H1 (.refl _ _ _) st1.wd
/-- .. as values: all but the last a bool -/
def eAnd (f g : EF) : EF := fun ρ S => (f ρ S).bind fun d S1 => match d with | .bl b => if b = true then g ρ S1 else .ok (.bl false) S1 | _ => .bad
def eOr (f g : EF) : EF := fun ρ S => (f ρ S).bind fun d S1 => match d with | .bl b => if b = true then .ok (.bl true) S1 else g ρ S1 | _ => .bad
def eNot (f : EF) : EF := fun ρ S => (f ρ S).bind fun d S1 => match d with | .bl b => .ok (.bl (!b)) S1 | _ => .bad
theorem pe_eOne {op} {f : EF} (h : PE X a (tE X.K c f)) : PE X (.BoolOp op [a] pos) (tE X.K c f) := pe_one h
theorem pe_eAnd {rest : List Expr} {f g : EF} (ha : PE X a (tE X.K c f)) (hb : PE X (.BoolOp .And (b :: rest) pos) (tE X.K c g)) : PE X (.BoolOp .And (a :: b :: rest) pos) (tE X.K c (eAnd f g)) :=
  (pe_and ha hb).weak fun σ H Q q => by
    obtain ⟨G, ρ, S, st, p⟩ := q
    refine goE pstE st p fun x S1 v G1 H1 _ e1 st1 r1 p1 => ?_
    (first | (unfold iteC at p1; split at p1) | split at p1)
    · rename_i k _
      refine ⟨_, bl_of r1, ?_⟩
      cases k with
      | true => exact iteT ⟨G1, ρ, S1, st1, p1⟩
      | false => exact iteF (p1 _ G1 H1 (.refl _ _ _) st1.wd (.bl _))
    · exact p1.elim
theorem pe_eOr {rest : List Expr} {f g : EF} (ha : PE X a (tE X.K c f)) (hb : PE X (.BoolOp .Or (b :: rest) pos) (tE X.K c g)) : PE X (.BoolOp .Or (a :: b :: rest) pos) (tE X.K c (eOr f g)) :=
  (pe_or ha hb).weak fun σ H Q q => by
    obtain ⟨G, ρ, S, st, p⟩ := q
    refine goE pstE st p fun x S1 v G1 H1 _ e1 st1 r1 p1 => ?_
    (first | (unfold iteC at p1; split at p1) | split at p1)
    · rename_i k _
      refine ⟨_, bl_of r1, ?_⟩
      cases k with
      | true => exact iteT (p1 _ G1 H1 (.refl _ _ _) st1.wd (.bl _))
      | false => exact iteF ⟨G1, ρ, S1, st1, p1⟩
    · exact p1.elim
theorem pe_eNot {f : EF} (ha : PE X a (tE X.K c f)) : PE X (.UnaryOp .Not a pos) (tE X.K c (eNot f)) :=
  (pe_not ha).weak fun σ H Q q => by
    obtain ⟨G, ρ, S, st, p⟩ := q
    refine goE pstE st p fun x S1 v G1 H1 _ e1 st1 r1 p1 => ?_
    (first | (unfold iteC at p1; split at p1) | split at p1)
    · exact ⟨_, bl_of r1, p1 _ G1 H1 (.refl _ _ _) st1.wd (.bl _)⟩
    · exact p1.elim
def eIf (t : TF) (f g : EF) : EF := fun ρ S => (t ρ S).bind fun b S1 => if b = true then f ρ S1 else g ρ S1
theorem pe_eIf {cd : Expr} {t : TF} {f g : EF} (hc : PT X cd (tT X.K c t)) (ha : PE X a (tE X.K c f)) (hb : PE X b (tE X.K c g)) : PE X (.IfExp cd a b pos) (tE X.K c (eIf t f g)) :=
  (pe_ifExp hc ha hb).weak fun σ H Q q => by
    obtain ⟨G, ρ, S, st, p⟩ := q
    refine goT pstE st p fun x S1 G1 H1 _ e1 st1 p1 => ?_
    cases x with
    | true => exact iteT ⟨G1, ρ, S1, st1, p1⟩
    | false => exact iteF ⟨G1, ρ, S1, st1, p1⟩
/-! ### arguments, displays, calls -/
def aNil : AF := fun _ S => .ok [] S
def aCons (f : EF) (g : AF) : AF := fun ρ S => (f ρ S).bind fun x S1 => (g ρ S1).bind fun xs S2 => .ok (x :: xs) S2
theorem pa_eNil : PA X [] (tA X.K c aNil) := pa_nil.weak fun σ H Q q => by
  obtain ⟨G, ρ, S, st, p⟩ := q
  exact p [] G H (.refl _ _ _) st.wd .nil
theorem pa_eCons {f : EF} {g : AF} (ha : PE X e (tE X.K c f)) (hr : PA X es (tA X.K c g)) (hs : starEach (e :: es) X.env = (false, eval e X.env) :: starEach es X.env := by rfl) : PA X (e :: es) (tA X.K c (aCons f g)) :=
  (pa_cons ha hr hs).weak fun σ H Q q => by
    obtain ⟨G, ρ, S, st, p⟩ := q
    exact goE pstA st p fun x S1 v G1 H1 _ e1 st1 r1 p1 => goA pstA st1 p1 fun y S2 u G2 H2 _ e2 st2 r2 p2 => p2 _ G2 H2 (.refl _ _ _) st2.wd (.cons (r1.mono e2.g) r2)
noncomputable def eTup (f : AF) : EF := fun ρ S => (f ρ S).bind fun ds S1 => iteC (ds.length ≤ sizeLine) (.ok (.tup ds) S1) .bad
theorem pe_eTup {k} {f : AF} (h : PA X es (tA X.K c f)) : PE X (.Tuple es k pos) (tE X.K c (eTup f)) :=
  (pe_tup h).weak fun σ H Q q => by
    obtain ⟨G, ρ, S, st, p⟩ := q
    refine goA pstE st p fun x S1 v G1 H1 _ e1 st1 r1 p1 => ?_
    (first | (unfold iteC at p1; split at p1) | split at p1)
    · rename_i z
      refine ⟨by rw [r1.length]; exact z, fun a n => ?_⟩
      exact p1 _ (upd G1 a (.tup v)) _ (.froze st1.wd n) (st1.wd.froze n) (.tup (.of upd_same) (r1.mono (same_upd (st1.wd.nn n))))
    · exact p1.elim
noncomputable def fLst (f : AF) : AF := fun ρ S => (f ρ S).bind fun ds S1 => iteC (ds.length ≤ sizeLine) (.ok ds S1) .bad
theorem pf_lst {f : AF} (h : PA X es (tA X.K c f)) : PE X (.List es pos) (tF X.K c (fLst f)) :=
  (pe_lst h).weak fun σ H Q q => by
    obtain ⟨G, ρ, S, st, p⟩ := q
    refine goA pstF st p fun x S1 v G1 H1 _ e1 st1 r1 p1 => ?_
    (first | (unfold iteC at p1; split at p1) | split at p1)
    · rename_i z
      refine ⟨by rw [r1.length]; exact z, fun a n => ?_⟩
      exact p1 a v G1 _ (.laid st1.wd n) (st1.wd.laid n) n (st1.wd.nn n) upd_same r1
    · exact p1.elim
/-- a new list, frozen -/
def eFrz (f : AF) : EF := fun ρ S => (f ρ S).bind fun ds S1 => .ok (.lst ds) S1
theorem pe_eFrz {f : AF} (h : PE X e (tF X.K c f)) : PE X e (tE X.K c (eFrz f)) := h.weak fun σ H Q q => by
  obtain ⟨G, ρ, S, st, p⟩ := q
  refine ⟨G, ρ, S, st, ?_⟩
  unfold eFrz at p
  cases q : f ρ S with
  | ok ds S1 =>
    rw [q] at p
    intro a vs G1 H1 e1 w1 n1 g1 h1 r1
    have ns : c.sa ≠ some a := fun e => by
      obtain ⟨_, _, _, h⟩ := st.wd.stm a e
      rw [n1] at h; cases h
    refine p _ (upd G1 a (.lst vs)) H1 ⟨fun b u h => same_upd g1 b u (e1.g b u h), e1.h, e1.d, fun b g h => ?_⟩ (w1.frz h1 ns g1) (.lst upd_same (r1.mono (same_upd g1)))
    have nb : b ≠ a := fun z => h (by rw [z]; exact n1)
    rw [upd_ne nb]
    exact e1.f b g h
  | ex x S1 => rw [q] at p; exact p
  | bad => rw [q] at p; exact p
/-- built-ins by their values -/
def eApp (o : List D → Stm → Res D) (f : AF) : EF := fun ρ S => (f ρ S).bind fun ds S1 => o ds S1
def CallS (K : PySem.W.Frag) (c : C) (r : List V → Hp → VK → Prop) (o : List D → Stm → Res D) : Prop := ∀ ds S vs G H Q, Wd K c G H S → Reps K c.sa G vs ds → PostE K c G H Q (o ds S) → r vs H Q
theorem tCB_eApp {K : PySem.W.Frag} {r : List V → Hp → VK → Prop} {o : List D → Stm → Res D} {f : AF} (so : CallS K c r o) (σ : St) (H : Hp) (Q : VK) (q : tE K c (eApp o f) σ H Q) : tCB r (tA K c f) σ H Q := by
  obtain ⟨G, ρ, S, st, p⟩ := q
  exact goA pstE st p fun x S1 v G1 H1 _ e1 st1 r1 p1 => so x S1 v G1 H1 Q st1.wd r1 p1
theorem pe_eCallB {id : String} {x : Str} {p : Pos} {r : List V → Hp → VK → Prop} {o : List D → Stm → Res D} {f : AF} (hc : CallR X (.builtin id) r) (so : CallS X.K c r o) (hg : Gl X x) (hm : X.mg x = none) (hv : bootBuiltins x = some (.builtin id)) (ha : PA X (e :: es) (tA X.K c f)) (hn : x ≠ "__name__" := by decide) (hdb : (x == ("__debug__" : Str)) = false := by decide)
    (he : starEach (e :: es) X.env = (false, eval e X.env) :: starEach es X.env := by rfl) (hpl : (backTo pos (starEach es X.env)).any (·.1) = false := by rfl) : PE X (.Call (.Name x p) (e :: es) [] pos) (tE X.K c (eApp o f)) :=
  (pe_callB hc hg hm hv ha hn hdb he hpl).weak (tCB_eApp so)
theorem pe_eCallTy {T : String} {x : Str} {p : Pos} {r : List V → Hp → VK → Prop} {o : List D → Stm → Res D} {f : AF} (hc : CallR X (.type T) r) (so : CallS X.K c r o) (hg : Gl X x) (hm : X.mg x = none) (hv : bootBuiltins x = some (.type T)) (ha : PA X (e :: es) (tA X.K c f)) (hn : x ≠ "__name__" := by decide) (hdb : (x == ("__debug__" : Str)) = false := by decide)
    (he : starEach (e :: es) X.env = (false, eval e X.env) :: starEach es X.env := by rfl) (hpl : (backTo pos (starEach es X.env)).any (·.1) = false := by rfl) : PE X (.Call (.Name x p) (e :: es) [] pos) (tE X.K c (eApp o f)) :=
  (pe_callTy hc hg hm hv ha hn hdb he hpl).weak (tCB_eApp so)
end
end L2.PL
namespace L2.PL
open PySem PySem.Spec PyProof.Rows
/-! ### operations on data -/
noncomputable def oAdd : O2 := fun x y S => match x, y with
  | .int i, .int j => .ok (.int (i + j)) S
  | .str i, .str j => iteC (i.length + j.length ≤ sizeLine) (.ok (.str (i ++ j)) S) .bad
  | .lst xs, .lst ys => iteC (xs.length + ys.length ≤ sizeLine) (.ok (.lst (xs ++ ys)) S) .bad
  | .tup (x :: xs), .tup ys => iteC ((x :: xs).length + ys.length ≤ sizeLine) (.ok (.tup ((x :: xs) ++ ys)) S) .bad
  | _, _ => .bad
def oSub : O2 := fun x y S => match x, y with
  | .int i, .int j => .ok (.int (i - j)) S
  | _, _ => .bad
noncomputable def oMul : O2 := fun x y S => match x, y with
  | .int i, .int j => iteC (i.natAbs.log2 + j.natAbs.log2 < 100000000) (.ok (.int (i * j)) S) .bad
  | _, _ => .bad
noncomputable def oDiv : O2 := fun x y S => match x, y with
  | .int i, .int j => iteC (j ≠ 0 ∧ j.natAbs.log2 < 9000) (.ok (.int (i.fdiv j)) S) .bad
  | _, _ => .bad
noncomputable def oMod : O2 := fun x y S => match x, y with
  | .int i, .int j => iteC (j ≠ 0) (.ok (.int (i.fmod j)) S) .bad
  | _, _ => .bad
def oCmp (p : Int → Int → Bool) : O2 := fun x y S => match x, y with
  | .int i, .int j => .ok (.bl (p i j)) S
  | _, _ => .bad
mutual
def D.py : D → PyData
  | .non => .none
  | .bl b => .bool b
  | .int i => .int i
  | .str x => .str x
  | .stm => .dict []
  | .tup ds => .tuple (D.pys ds)
  | .lst ds => .list (D.pys ds)
def D.pys : List D → List PyData
  | [] => []
  | d :: ds => D.py d :: D.pys ds
end
def D.eqv (x y : D) : Bool := PyData.eqv x.py y.py
noncomputable def oEq : O2 := fun x y S => iteC (SeqAt.shaped x.py = true ∧ SeqAt.shaped y.py = true) (.ok (.bl (D.eqv x y)) S) .bad
noncomputable def oNe : O2 := fun x y S => iteC (SeqAt.shaped x.py = true ∧ SeqAt.shaped y.py = true) (.ok (.bl (!D.eqv x y)) S) .bad
def D.isNon : D → Bool
  | .non => true
  | _ => false
def oIsN : O2 := fun x y S => match y with | .non => .ok (.bl x.isNon) S | _ => .bad
def oNotN : O2 := fun x y S => match y with | .non => .ok (.bl (!x.isNon)) S | _ => .bad
noncomputable def oIx : O2 := fun x y S => match x, y with
  | .lst xs, .int i => match atI xs i with | some d => .ok d S | none => .bad
  | .tup xs, .int i => match atI xs i with | some d => .ok d S | none => .bad
  | .str z, .int i => iteC (z.length ≤ sizeLine) ((match atI z.cps.toList i with | some d => .ok (.str ⟨#[d]⟩) S | none => .bad)) .bad
  | _, _ => .bad
section
variable {X : Cx} {c : C}
theorem post_ok {K : PySem.W.Frag} {G H : Hp} {Q : VK} {d : D} {S : Stm} {v : V} (w : Wd K c G H S) (p : PostE K c G H Q (.ok d S)) (r : Rep K c.sa G v d) : Q v H := p v G H (.refl _ _ _) w r
theorem post_lst {K : PySem.W.Frag} {G H : Hp} {Q : VK} {ds : List D} {vs : List V} {S : Stm} (w : Wd K c G H S) (p : PostE K c G H Q (.ok (.lst ds) S)) (r : Reps K c.sa G vs ds) (a : Addr) (n : H a = none) : Q (.ref a) (upd H a (.lst vs)) :=
  p _ (upd G a (.lst vs)) _ (.froze w n) (w.froze n) (.lst upd_same (r.mono (same_upd (w.nn n))))
theorem post_tup {K : PySem.W.Frag} {G H : Hp} {Q : VK} {ds : List D} {vs : List V} {S : Stm} (w : Wd K c G H S) (p : PostE K c G H Q (.ok (.tup ds) S)) (r : Reps K c.sa G vs ds) (a : Addr) (n : H a = none) : Q (.ref a) (upd H a (.tup vs)) :=
  p _ (upd G a (.tup vs)) _ (.froze w n) (w.froze n) (.tup (.of upd_same) (r.mono (same_upd (w.nn n))))
theorem seqT_up {K : PySem.W.Frag} {G H : Hp} {S : Stm} (w : Wd K c G H S) {a : Addr} {vs : List V} (h : SqT K G a vs) : SqT K H a vs := Same.seqT w.sub h
theorem pe_oAdd {a b : Expr} {pos : Pos} {f g : EF} (ha : PE X a (tE X.K c f)) (hb : PE X b (tE X.K c g)) : PE X (.BinOp a .Add b pos) (tE X.K c (eBin oAdd f g)) := by
  refine pe_eBin (op_add.or (op_add_str.or (op_cat.or op_catT))) ?_ ha hb
  intro x y S v u G H Q w rx ry p
  unfold oAdd at p
  (first | (unfold iteC at p; split at p) | split at p)
  · exact .inl ⟨_, _, int_of rx, int_of ry, post_ok w p (.int _)⟩
  · (first | (unfold iteC at p; split at p) | split at p)
    · rename_i hz
      exact .inr (.inl ⟨_, _, str_of rx, str_of ry, hz, post_ok w p (.str _)⟩)
    · exact p.elim
  · (first | (unfold iteC at p; split at p) | split at p)
    · rename_i xs ys hz
      cases rx with
      | lst gx rx =>
        cases ry with
        | lst gy ry => exact .inr (.inr (.inl ⟨_, _, _, _, rfl, rfl, w.sub _ _ gx, w.sub _ _ gy, by rw [rx.length, ry.length]; exact hz, post_lst w p (rx.append ry)⟩))
    · exact p.elim
  · (first | (unfold iteC at p; split at p) | split at p)
    · rename_i xs ys hz
      cases rx with
      | tup gx rx =>
        cases ry with
        | tup gy ry =>
          refine .inr (.inr (.inr ⟨_, _, _, _, rfl, rfl, seqT_up w gx, seqT_up w gy, ?_, by rw [rx.length, ry.length]; exact hz, fun e => ?_, fun _ => post_tup w p (rx.append ry)⟩))
          · cases rx; simp
          · subst e
            cases ry
            exact post_ok w p (by rw [List.append_nil]; exact .tup gx rx)
    · exact p.elim
  · exact p.elim
theorem pe_oSub {a b : Expr} {pos : Pos} {f g : EF} (ha : PE X a (tE X.K c f)) (hb : PE X b (tE X.K c g)) : PE X (.BinOp a .Sub b pos) (tE X.K c (eBin oSub f g)) := by
  refine pe_eBin op_sub ?_ ha hb
  intro x y S v u G H Q w rx ry p
  unfold oSub at p
  (first | (unfold iteC at p; split at p) | split at p)
  · exact ⟨_, _, int_of rx, int_of ry, post_ok w p (.int _)⟩
  · exact p.elim
theorem mulX {i j : Int} (h : i.natAbs.log2 + j.natAbs.log2 < 100000000) : IntMulOk i j := by
  have b : ∀ x : Int, Builtin.Int.intBits x ≤ x.natAbs.log2 + 1 := fun x => by
    unfold Builtin.Int.intBits
    split <;> omega
  have h1 := b i
  have h2 := b j
  have e : bitsLine = 134217728 := by decide
  unfold IntMulOk
  intro z
  rw [Bool.and_eq_true] at z
  have z2 := z.2
  unfold Builtin.Int.intTooBig at z2
  have z3 := of_decide_eq_true z2
  rw [e] at z3
  omega
theorem op_mulX : OpR X (binaryOp .Mult) (rI (fun i j => i.natAbs.log2 + j.natAbs.log2 < 100000000) fun i j => .int (i * j)) := opI fun _ _ _ _ _ _ _ hc q => mul_int q (mulX hc)
theorem pe_oMul {a b : Expr} {pos : Pos} {f g : EF} (ha : PE X a (tE X.K c f)) (hb : PE X b (tE X.K c g)) : PE X (.BinOp a .Mult b pos) (tE X.K c (eBin oMul f g)) := by
  refine pe_eBin op_mulX ?_ ha hb
  intro x y S v u G H Q w rx ry p
  unfold oMul at p
  (first | (unfold iteC at p; split at p) | split at p)
  · (first | (unfold iteC at p; split at p) | split at p)
    · rename_i hz
      exact ⟨_, _, int_of rx, int_of ry, hz, post_ok w p (.int _)⟩
    · exact p.elim
  · exact p.elim
theorem op_fdivX : OpR X (binaryOp .FloorDiv) (rI (fun _ j => j ≠ 0 ∧ j.natAbs.log2 < 9000) fun i j => .int (i.fdiv j)) := opI fun _ _ _ _ _ _ _ hc q => floordiv_int hc.1 q (.inl (PyProof.noPylong_of_log2 hc.2))
theorem pe_oDiv {a b : Expr} {pos : Pos} {f g : EF} (ha : PE X a (tE X.K c f)) (hb : PE X b (tE X.K c g)) : PE X (.BinOp a .FloorDiv b pos) (tE X.K c (eBin oDiv f g)) := by
  refine pe_eBin op_fdivX ?_ ha hb
  intro x y S v u G H Q w rx ry p
  unfold oDiv at p
  (first | (unfold iteC at p; split at p) | split at p)
  · (first | (unfold iteC at p; split at p) | split at p)
    · rename_i hz
      exact ⟨_, _, int_of rx, int_of ry, hz, post_ok w p (.int _)⟩
    · exact p.elim
  · exact p.elim
theorem pe_oMod {a b : Expr} {pos : Pos} {f g : EF} (ha : PE X a (tE X.K c f)) (hb : PE X b (tE X.K c g)) : PE X (.BinOp a .Mod b pos) (tE X.K c (eBin oMod f g)) := by
  refine pe_eBin op_modN ?_ ha hb
  intro x y S v u G H Q w rx ry p
  unfold oMod at p
  (first | (unfold iteC at p; split at p) | split at p)
  · (first | (unfold iteC at p; split at p) | split at p)
    · rename_i hz
      exact ⟨_, _, int_of rx, int_of ry, hz, post_ok w p (.int _)⟩
    · exact p.elim
  · exact p.elim
theorem cmpS {K : PySem.W.Frag} {p : Int → Int → Bool} : OpS K c (rI0 fun i j => .bl (p i j)) (oCmp p) := by
  intro x y S v u G H Q w rx ry q
  unfold oCmp at q
  (first | (unfold iteC at q; split at q) | split at q)
  · exact ⟨_, _, int_of rx, int_of ry, post_ok w q (.bl _)⟩
  · exact q.elim
mutual
theorem Rep.dp {K : PySem.W.Frag} {sa : Option Addr} {G H : Hp} (s : Same G H) : ∀ {v : V} {d : D}, Rep K sa G v d → d.py.canLay0 = true → Dp K H v d.py
  | _, _, .non, _ => .non
  | _, _, .bl b, _ => .bl b
  | _, _, .int i, _ => .int i
  | _, _, .str x, _ => .str x
  | _, _, .stm _, h => by exact absurd h (by decide)
  | _, _, .tup (ds := ds) h r, q => .tup (Same.seqT s h) (Reps.dp s r (by simpa [D.py, PyData.canLay0] using q))
  | _, _, .lst (ds := ds) h r, q => .lst (.of (s _ _ h)) (Reps.dp s r (by simpa [D.py, PyData.canLay0] using q))
theorem Reps.dp {K : PySem.W.Frag} {sa : Option Addr} {G H : Hp} (s : Same G H) : ∀ {vs : List V} {ds : List D}, Reps K sa G vs ds → PyData.canLayAll0 (D.pys ds) = true → DpAll K H vs (D.pys ds)
  | _, _, .nil, _ => .nil
  | _, _, .cons (d := d) (ds := ds) r t, h => by
    have h' : d.py.canLay0 = true ∧ PyData.canLayAll0 (D.pys ds) = true := by simpa [D.pys, PyData.canLayAll0] using h
    exact .cons (Rep.dp s r h'.1) (Reps.dp s t h'.2)
end
theorem eqS {K : PySem.W.Frag} : OpS K c (rEqD K) oEq := by
  intro x y S v u G H Q w rx ry q
  unfold oEq at q
  (first | (unfold iteC at q; split at q) | split at q)
  · rename_i h
    exact ⟨_, _, rx.dp w.sub (SeqAt.canLay_of_shaped h.1), ry.dp w.sub (SeqAt.canLay_of_shaped h.2), h.1, h.2, post_ok w q (.bl _)⟩
  · exact q.elim
theorem neS {K : PySem.W.Frag} : OpS K c (rNeD K) oNe := by
  intro x y S v u G H Q w rx ry q
  unfold oNe at q
  (first | (unfold iteC at q; split at q) | split at q)
  · rename_i h
    exact ⟨_, _, rx.dp w.sub (SeqAt.canLay_of_shaped h.1), ry.dp w.sub (SeqAt.canLay_of_shaped h.2), h.1, h.2, post_ok w q (.bl _)⟩
  · exact q.elim
theorem Rep.isNon {K : PySem.W.Frag} {sa : Option Addr} {G : Hp} {v : V} {d : D} (r : Rep K sa G v d) : decide (v = .non) = d.isNon := by
  cases r <;> simp [D.isNon]
theorem isNS {K : PySem.W.Frag} : OpS K c (fun x y H Q => y = .non ∧ Q (.bl (decide (x = .non))) H) oIsN := by
  intro x y S v u G H Q w rx ry q
  unfold oIsN at q
  (first | (unfold iteC at q; split at q) | split at q)
  · exact ⟨non_of ry, by rw [rx.isNon]; exact post_ok w q (.bl _)⟩
  · exact q.elim
theorem notNS {K : PySem.W.Frag} : OpS K c (fun x y H Q => y = .non ∧ Q (.bl (!decide (x = .non))) H) oNotN := by
  intro x y S v u G H Q w rx ry q
  unfold oNotN at q
  (first | (unfold iteC at q; split at q) | split at q)
  · exact ⟨non_of ry, by rw [rx.isNon]; exact post_ok w q (.bl _)⟩
  · exact q.elim
theorem Reps.at {K : PySem.W.Frag} {sa : Option Addr} {G : Hp} {vs : List V} {ds : List D} {i : Int} {d : D} (r : Reps K sa G vs ds) (h : atI ds i = some d) : ∃ v, atI vs i = some v ∧ Rep K sa G v d := by
  unfold atI at h ⊢
  rw [r.length]
  cases e : ixN ds.length i with
  | none => rw [e] at h; cases h
  | some j =>
    rw [e] at h
    exact r.get h
theorem ixS {K : PySem.W.Frag} : OpS K c (rIx K) oIx := by
  intro x y S v u G H Q w rx ry q
  unfold oIx at q
  (first | (unfold iteC at q; split at q) | split at q)
  · (first | (unfold iteC at q; split at q) | split at q)
    · rename_i h
      cases rx with
      | lst gx rx =>
        obtain ⟨z, hz, rz⟩ := rx.at h
        exact .inl ⟨_, _, _, z, rfl, int_of ry, .of (w.sub _ _ gx), hz, post_ok w q rz⟩
    · exact q.elim
  · (first | (unfold iteC at q; split at q) | split at q)
    · rename_i h
      cases rx with
      | tup gx rx =>
        obtain ⟨z, hz, rz⟩ := rx.at h
        exact .inr (.inl ⟨_, _, _, z, rfl, int_of ry, seqT_up w gx, hz, post_ok w q rz⟩)
    · exact q.elim
  · (first | (unfold iteC at q; split at q) | split at q)
    · rename_i hl
      (first | (unfold iteC at q; split at q) | split at q)
      · rename_i h
        exact .inr (.inr ⟨_, _, _, str_of rx, int_of ry, hl, h, post_ok w q (.str _)⟩)
      · exact q.elim
    · exact q.elim
  · exact q.elim
theorem pe_oIx {a b : Expr} {pos : Pos} {f g : EF} (ha : PE X a (tE X.K c f)) (hb : PE X b (tE X.K c g)) (hs : PlainIx b) : PE X (.Subscript a b pos) (tE X.K c (eBin oIx f g)) :=
  (pe_ix ix_seq ha hb hs).weak (tOp_eBin ixS)
def uNeg : D → Stm → Res D := fun x S => match x with | .int i => .ok (.int (-i)) S | _ => .bad
def eUn (o : D → Stm → Res D) (f : EF) : EF := fun ρ S => (f ρ S).bind fun x S1 => o x S1
theorem pe_uNeg {a : Expr} {pos : Pos} {f : EF} (ha : PE X a (tE X.K c f)) : PE X (.UnaryOp .USub a pos) (tE X.K c (eUn uNeg f)) :=
  (pe_un un_neg ha).weak fun σ H Q q => by
    obtain ⟨G, ρ, S, st, p⟩ := q
    refine goE pstE st p fun x S1 v G1 H1 _ e1 st1 r1 p1 => ?_
    unfold uNeg at p1
    (first | (unfold iteC at p1; split at p1) | split at p1)
    · exact ⟨_, int_of r1, post_ok st1.wd p1 (.int _)⟩
    · exact p1.elim
/-! ### built-ins -/
noncomputable def bLen : List D → Stm → Res D := fun ds S => match ds with
  | [.lst xs] => .ok (.int xs.length) S
  | [.tup xs] => .ok (.int xs.length) S
  | [.str x] => iteC (x.length ≤ sizeLine) (.ok (.int x.length) S) .bad
  | _ => .bad
def bAbs : List D → Stm → Res D := fun ds S => match ds with
  | [.int i] => .ok (.int (if i < 0 then -i else i)) S
  | _ => .bad
def bInt : List D → Stm → Res D := fun ds S => match ds with
  | [.int i] => .ok (.int i) S
  | [.bl b] => .ok (.int (if b = true then 1 else 0)) S
  | _ => .bad
def bTuple : List D → Stm → Res D := fun ds S => match ds with
  | [.lst xs] => .ok (.tup xs) S
  | [.tup xs] => .ok (.tup xs) S
  | _ => .bad
section
variable {K : PySem.W.Frag}
theorem reps1 {sa : Option Addr} {G : Hp} {vs : List V} {d : D} (r : Reps K sa G vs [d]) : ∃ v, vs = [v] ∧ Rep K sa G v d := by
  cases r with
  | cons r t => cases t; exact ⟨_, rfl, r⟩
theorem lenS : CallS K c (fun xs H Q => ∃ x n, xs = [x] ∧ LenV K x H n ∧ Q (.int n) H) bLen := by
  intro ds S vs G H Q w rs q
  unfold bLen at q
  (first | (unfold iteC at q; split at q) | split at q)
  · obtain ⟨v, rfl, r⟩ := reps1 rs
    cases r with
    | lst g r => exact ⟨_, _, rfl, .inl ⟨_, .of (w.sub _ _ g), r.length.symm⟩, post_ok w q (.int _)⟩
  · obtain ⟨v, rfl, r⟩ := reps1 rs
    cases r with
    | tup g r => exact ⟨_, _, rfl, .inr ⟨_, seqT_up w g, r.length.symm⟩, post_ok w q (.int _)⟩
  · (first | (unfold iteC at q; split at q) | split at q)
    · rename_i h
      obtain ⟨v, rfl, r⟩ := reps1 rs
      cases r
      exact ⟨_, _, rfl, ⟨h, rfl⟩, post_ok w q (.int _)⟩
    · exact q.elim
  · exact q.elim
theorem absS : CallS K c (fun xs H Q => ∃ i, xs = [.int i] ∧ Q (.int (if i < 0 then -i else i)) H) bAbs := by
  intro ds S vs G H Q w rs q
  unfold bAbs at q
  (first | (unfold iteC at q; split at q) | split at q)
  · obtain ⟨v, rfl, r⟩ := reps1 rs
    cases r
    exact ⟨_, rfl, post_ok w q (.int _)⟩
  · exact q.elim
theorem intS : CallS K c (fun xs H Q => (∃ i, xs = [.int i] ∧ Q (.int i) H) ∨ ∃ k, xs = [.bl k] ∧ Q (.int (if k = true then 1 else 0)) H) bInt := by
  intro ds S vs G H Q w rs q
  unfold bInt at q
  (first | (unfold iteC at q; split at q) | split at q)
  · obtain ⟨v, rfl, r⟩ := reps1 rs
    cases r
    exact .inl ⟨_, rfl, post_ok w q (.int _)⟩
  · obtain ⟨v, rfl, r⟩ := reps1 rs
    cases r
    exact .inr ⟨_, rfl, post_ok w q (.int _)⟩
  · exact q.elim
theorem tupleS : CallS K c (fun xs H Q => ∃ p ys, xs = [.ref p] ∧ ((SqL K H p ys ∧ ∀ l, H l = none → Q (.ref l) (upd H l (.tup ys))) ∨ (SqT K H p ys ∧ Q (.ref p) H))) bTuple := by
  intro ds S vs G H Q w rs q
  unfold bTuple at q
  (first | (unfold iteC at q; split at q) | split at q)
  · obtain ⟨v, rfl, r⟩ := reps1 rs
    cases r with
    | lst g r => exact ⟨_, _, rfl, .inl ⟨.of (w.sub _ _ g), post_tup w q r⟩⟩
  · obtain ⟨v, rfl, r⟩ := reps1 rs
    cases r with
    | tup g r => exact ⟨_, _, rfl, .inr ⟨seqT_up w g, post_ok w q (.tup g r)⟩⟩
  · exact q.elim
end
/-- list(x): a new list -/
def fListOf (f : AF) : AF := fun ρ S => (f ρ S).bind fun d S1 => match d with | [.lst xs] => .ok xs S1 | [.tup xs] => .ok xs S1 | _ => .bad
theorem pf_listOf {e : Expr} {es : List Expr} {x : Str} {p pos : Pos} {f : AF} (hg : Gl X x) (hm : X.mg x = none) (hv : bootBuiltins x = some (.type "list")) (ha : PA X (e :: es) (tA X.K c f)) (hn : x ≠ "__name__" := by decide) (hdb : (x == ("__debug__" : Str)) = false := by decide)
    (he : starEach (e :: es) X.env = (false, eval e X.env) :: starEach es X.env := by rfl) (hpl : (backTo pos (starEach es X.env)).any (·.1) = false := by rfl) : PE X (.Call (.Name x p) (e :: es) [] pos) (tF X.K c (fListOf f)) :=
  (pe_callTy call_list_of hg hm hv ha hn hdb he hpl).weak fun σ H Q q => by
    obtain ⟨G, ρ, S, st, p⟩ := q
    refine goA pstF st p fun x S1 v G1 H1 _ e1 st1 r1 p1 => ?_
    (first | (unfold iteC at p1; split at p1) | split at p1)
    · obtain ⟨v, rfl, r⟩ := reps1 r1
      cases r with
      | lst g r => exact ⟨_, _, rfl, .inl (.of (st1.wd.sub _ _ g)), fun a n => p1 a _ G1 _ (.laid st1.wd n) (st1.wd.laid n) n (st1.wd.nn n) upd_same r⟩
    · obtain ⟨v, rfl, r⟩ := reps1 r1
      cases r with
      | tup g r => exact ⟨_, _, rfl, .inr (seqT_up st1.wd g), fun a n => p1 a _ G1 _ (.laid st1.wd n) (st1.wd.laid n) n (st1.wd.nn n) upd_same r⟩
    · exact p1.elim
/-- xs * n: a new list -/
noncomputable def fRep (f g : EF) : AF := fun ρ S => (f ρ S).bind fun x S1 => (g ρ S1).bind fun y S2 => match x, y with
  | .lst xs, .int k => iteC (-9223372036854775808 ≤ k ∧ k < 9223372036854775808 ∧ xs.length * k.toNat ≤ sizeLine) (.ok (List.replicate k.toNat xs).flatten S2) .bad
  | _, _ => .bad
theorem Reps.rep {K : PySem.W.Frag} {sa : Option Addr} {G : Hp} {vs : List V} {ds : List D} (h : Reps K sa G vs ds) : ∀ k : Nat, Reps K sa G (List.replicate k vs).flatten (List.replicate k ds).flatten
  | 0 => .nil
  | k + 1 => by rw [List.replicate_succ, List.replicate_succ, List.flatten_cons, List.flatten_cons]; exact h.append (Reps.rep h k)
theorem e63 : (2 : Int) ^ 63 = 9223372036854775808 := by decide
theorem pf_rep {a b : Expr} {pos : Pos} {f g : EF} (ha : PE X a (tE X.K c f)) (hb : PE X b (tE X.K c g)) : PE X (.BinOp a .Mult b pos) (tF X.K c (fRep f g)) :=
  (pe_op op_rep ha hb).weak fun σ H Q q => by
    obtain ⟨G, ρ, S, st, p⟩ := q
    refine goE pstF st p fun x S1 v G1 H1 _ e1 st1 r1 p1 => goE pstF st1 p1 fun y S2 u G2 H2 _ e2 st2 r2 p2 => ?_
    (first | (unfold iteC at p2; split at p2) | split at p2)
    · (first | (unfold iteC at p2; split at p2) | split at p2)
      · rename_i h
        cases r1 with
        | lst g r =>
          refine ⟨_, _, _, rfl, int_of r2, st2.wd.sub _ _ (e2.g _ _ g), by rw [e63]; exact h.1, by rw [e63]; exact h.2.1, by rw [r.length]; exact h.2.2, fun a n => ?_⟩
          exact p2 a _ G2 _ (.laid st2.wd n) (st2.wd.laid n) n (st2.wd.nn n) upd_same ((r.mono e2.g).rep _)
      · exact p2.elim
    · exact p2.elim
/-! ### slices -/
abbrev OF := List Sl → Stm → Res (Option Int)
def PostO (K : PySem.W.Frag) (c : C) (G H : Hp) (Q : Option Int → Hp → Prop) : Res (Option Int) → Prop
  | .ok b S' => ∀ G' H', Ext c G H G' H' → Wd K c G' H' S' → Q b H'
  | .ex x S' => ∀ G' H', Ext c G H G' H' → Wd K c G' H' S' → c.xk x S' G' H'
  | .bad => False
def tO (K : PySem.W.Frag) (c : C) (f : OF) : TO := fun σ H Q => ∃ G ρ S, Stt K c σ ρ G H S ∧ PostO K c G H Q (f ρ S)
theorem pstO {K : PySem.W.Frag} {Q : Option Int → Hp → Prop} : Pst K c (fun G H => PostO K c G H Q) := ⟨fun {G H G1 H1 r} p e => by
  cases r with
  | ok d S' => exact fun G2 H2 e2 w2 => p G2 H2 (e.trans e2) w2
  | ex d S' => exact fun G2 H2 e2 w2 => p G2 H2 (e.trans e2) w2
  | bad => exact p, fun p => p, fun p => p⟩
theorem goO {K : PySem.W.Frag} {σ : St} {ρ : List Sl} {G H : Hp} {S : Stm} {β : Type} {P : Hp → Hp → Res β → Prop} {f : OF} {k : Option Int → Stm → Res β} {R : Option Int → Hp → Prop} (hP : Pst K c P) (st : Stt K c σ ρ G H S) (p : P G H ((f ρ S).bind k))
    (hk : ∀ x S1 G1 H1, Ext c G H G1 H1 → Stt K c σ ρ G1 H1 S1 → P G1 H1 (k x S1) → R x H1) : tO K c f σ H R := by
  refine ⟨G, ρ, S, st, ?_⟩
  cases e : f ρ S with
  | ok x S1 =>
    rw [e] at p
    exact fun G1 H1 e1 w1 => hk x S1 G1 H1 e1 (st.step e1 w1) (hP.ext (r := k x S1) p e1)
  | ex x S1 => rw [e] at p; exact hP.ex p
  | bad => rw [e] at p; exact (hP.bad p).elim
theorem _root_.L2.PO.weak {e : Option Expr} {t t' : TO} (h : PO X e t) (w : ∀ σ H Q, t' σ H Q → t σ H Q) : PO X e t' := by
  obtain ⟨r⟩ := h
  exact ⟨fun pins s σ H Q I q => r pins s σ H Q I (w _ _ _ q)⟩
def oNone : OF := fun _ S => .ok none S
def oSome (f : EF) : OF := fun ρ S => (f ρ S).bind fun d S1 => match d with | .int i => .ok (some i) S1 | _ => .bad
theorem po_eNone : PO X none (tO X.K c oNone) := po_none.weak fun σ H Q q => by
  obtain ⟨G, ρ, S, st, p⟩ := q
  exact p G H (.refl _ _ _) st.wd
theorem po_eSome {e : Expr} {f : EF} (h : PE X e (tE X.K c f)) : PO X (some e) (tO X.K c (oSome f)) := (po_some h).weak fun σ H Q q => by
  obtain ⟨G, ρ, S, st, p⟩ := q
  refine goE pstO st p fun x S1 v G1 H1 _ e1 st1 r1 p1 => ?_
  (first | (unfold iteC at p1; split at p1) | split at p1)
  · exact ⟨_, int_of r1, p1 G1 H1 (.refl _ _ _) st1.wd⟩
  · exact p1.elim
def cutD {α : Type} (xs : List α) (lo hi : Option Int) : List α := (xs.drop (HT.sIx xs.length 0 lo)).take (HT.sIx xs.length xs.length hi - HT.sIx xs.length 0 lo)
theorem Reps.cut {K : PySem.W.Frag} {sa : Option Addr} {G : Hp} {vs : List V} {ds : List D} (r : Reps K sa G vs ds) (lo hi : Option Int) : Reps K sa G (cutV vs lo hi) (cutD ds lo hi) := by
  unfold cutV cutD
  rw [r.length]
  exact (r.drop _).take _
/-- xs[lo:hi], a new list -/
def fSlice (f : EF) (g h : OF) : AF := fun ρ S => (f ρ S).bind fun x S1 => (g ρ S1).bind fun lo S2 => (h ρ S2).bind fun hi S3 => match x with
  | .lst xs => .ok (cutD xs lo hi) S3
  | _ => .bad
theorem pf_slice {e : Expr} {lo hi : Option Expr} {p2 pos : Pos} {f : EF} {g h : OF} (he : PE X e (tE X.K c f)) (hl : PO X lo (tO X.K c g)) (hu : PO X hi (tO X.K c h)) : PE X (.Subscript e (.Slice lo hi none p2) pos) (tF X.K c (fSlice f g h)) :=
  (pe_slice sl_list he hl hu).weak fun σ H Q q => by
    obtain ⟨G, ρ, S, st, p⟩ := q
    refine goE pstF st p fun x S1 v G1 H1 _ e1 st1 r1 p1 => goO pstF st1 p1 fun l S2 G2 H2 e2 st2 p2 => goO pstF st2 p2 fun u S3 G3 H3 e3 st3 p3 => ?_
    (first | (unfold iteC at p3; split at p3) | split at p3)
    · cases r1 with
      | lst g r => exact ⟨_, _, rfl, .of (st3.wd.sub _ _ (e3.g _ _ (e2.g _ _ g))), fun a n => p3 a _ G3 _ (.laid st3.wd n) (st3.wd.laid n) n (st3.wd.nn n) upd_same (((r.mono e2.g).mono e3.g).cut _ _)⟩
    · exact p3.elim
end
end L2.PL
namespace L2.PL
open PySem PySem.Spec PyProof.Rows
/-! ### the state when slots are set, when an own object is written -/
section
variable {K : PySem.W.Frag} {c : CB} {σ : St} {ρ : List Sl} {G H G' H' : Hp} {S S' : Stm}
theorem get_set {α : Type} {l : List α} {i k : Nat} {x y : α} (h : (l.set i x)[k]? = some y) : (k = i ∧ y = x ∧ i < l.length) ∨ (k ≠ i ∧ l[k]? = some y) := by
  by_cases e : i = k
  · subst e
    by_cases hl : i < l.length
    · rw [List.getElem?_set_self hl] at h; exact .inl ⟨rfl, (Option.some.inj h).symm, hl⟩
    · rw [List.getElem?_eq_none (by simpa using hl)] at h; cases h
  · rw [List.getElem?_set_ne e] at h; exact .inr ⟨fun z => e z.symm, h⟩
theorem Stt.put (s : Stt K c σ ρ G H S) {i : Nat} {x : Option V} {y : Sl} (r : SlR K c G H x y)
    (dj : ∀ ds a, y = .ow ds → x = some (.ref a) → ∀ j es, j ≠ i → ρ[j]? = some (.ow es) → σ[j]? ≠ some (some (.ref a))) : Stt K c (σ.set i x) (ρ.set i y) G H S := by
  refine ⟨s.wd, s.ex, by simp [s.len], fun k u w h1 h2 => ?_, fun k j a ds es hkj h1 h2 h3 h4 => ?_⟩
  · rcases get_set h1 with ⟨rfl, rfl, _⟩ | ⟨n, h1⟩
    · rcases get_set h2 with ⟨_, rfl, _⟩ | ⟨n, _⟩
      · exact r
      · exact absurd rfl n
    · rcases get_set h2 with ⟨e, _, _⟩ | ⟨_, h2⟩
      · exact absurd e n
      · exact s.sl k u w h1 h2
  · rcases get_set h1 with ⟨rfl, e1, _⟩ | ⟨n, h1⟩
    · rcases get_set h2 with ⟨rfl, _, _⟩ | ⟨n2, h2⟩
      · exact hkj rfl
      · rcases get_set h3 with ⟨_, e3, _⟩ | ⟨n3, _⟩
        · rcases get_set h4 with ⟨e, _, _⟩ | ⟨_, h4⟩
          · exact n2 e
          · exact dj ds a e1.symm e3.symm j es n2 h2 h4
        · exact n3 rfl
    · rcases get_set h3 with ⟨e, _, _⟩ | ⟨_, h3⟩
      · exact n e
      · rcases get_set h2 with ⟨rfl, e2, _⟩ | ⟨n2, h2⟩
        · rcases get_set h4 with ⟨_, e4, _⟩ | ⟨n4, _⟩
          · rcases get_set h1 with ⟨e, _, _⟩ | ⟨_, h1⟩
            · exact absurd e n
            · rcases get_set h3 with ⟨e, _, _⟩ | ⟨_, h3⟩
              · exact absurd e n
              · exact dj es a e2.symm e4.symm k ds n h1 h3
          · exact n4 rfl
        · rcases get_set h4 with ⟨e, _, _⟩ | ⟨_, h4⟩
          · exact n2 e
          · exact s.dj k j a ds es hkj h1 h2 h3 h4
theorem Stt.setPv (s : Stt K c σ ρ G H S) {v : V} {d : D} (r : Rep K c.sa G v d) (i : Nat) : Stt K c (σ.set i (some v)) (ρ.set i (.pv d)) G H S :=
  s.put (.pv r) fun _ _ e => nomatch e
theorem Stt.setNo (s : Stt K c σ ρ G H S) (x : Option V) (i : Nat) : Stt K c (σ.set i x) (ρ.set i .no) G H S :=
  s.put (.no x) fun _ _ e => nomatch e
/-- a fresh list (laid, not frozen) goes to a slot -/
theorem Stt.setOw (s : Stt K c σ ρ G H S) {a : Addr} {vs : List V} {ds : List D} (h : H a = some (.lst vs)) (g : G a = none) (h0 : c.H0 a = none) (hs : c.sa ≠ some a) (r : Reps K c.sa G vs ds)
    (fr : ∀ (j : Nat) es, ρ[j]? = some (.ow es) → σ[j]? ≠ some (some (.ref a))) (i : Nat) : Stt K c (σ.set i (some (.ref a))) (ρ.set i (.ow ds)) G H S :=
  s.put (.ow h g h0 hs r) fun _ b _ e j es _ h1 => by cases e; exact fr j es h1
theorem Stt.h0 (s : Stt K c σ ρ G H S) {a : Addr} (n : H a = none) : c.H0 a = none := by
  cases q : c.H0 a with
  | none => rfl
  | some o => exact absurd n (s.ex.d a (by rw [q]; simp))
theorem Stt.own (s : Stt K c σ ρ G H S) {i : Nat} {ds : List D} (h : ρ[i]? = some (.ow ds)) : ∃ a vs, σ[i]? = some (some (.ref a)) ∧ H a = some (.lst vs) ∧ G a = none ∧ c.H0 a = none ∧ c.sa ≠ some a ∧ Reps K c.sa G vs ds := by
  obtain ⟨x, hx, r⟩ := s.get h
  cases r with
  | ow h1 h2 h3 h4 h5 => exact ⟨_, _, hx, h1, h2, h3, h4, h5⟩
/-- .. is written -/
theorem Stt.wrt (s : Stt K c σ ρ G H S) {i : Nat} {a : Addr} {ds es : List D} {vs ws : List V} (h : ρ[i]? = some (.ow ds)) (hi : σ[i]? = some (some (.ref a))) (ha : H a = some (.lst vs)) (g : G a = none) (h0 : c.H0 a = none) (hs : c.sa ≠ some a)
    (r : Reps K c.sa G ws es) : Stt K c σ (ρ.set i (.ow es)) G (upd H a (.lst ws)) S := by
  have hg : ∀ b o, G b = some o → b ≠ a := fun b o e z => by subst z; rw [g] at e; cases e
  have hu : ∀ b o, G b = some o → upd H a (.lst ws) b = some o := fun b o e => by rw [upd_ne (hg b o e)]; exact s.wd.sub b o e
  refine ⟨⟨hu, fun b hb => ?_⟩, ⟨s.ex.g, fun b o e n => ?_, fun b e => ?_, fun b g1 h1 => s.ex.f b g1 h1⟩, by simp [s.len], fun k u w h1 h2 => ?_, fun k j b xs ys hkj h1 h2 h3 h4 => ?_⟩
  · obtain ⟨g', ca, q1, q2⟩ := s.wd.stm b hb
    exact ⟨g', ca, q1, by rw [upd_ne (fun z : b = a => hs (by rw [← z]; exact hb))]; exact q2⟩
  · rw [upd_ne (fun z => by subst z; rw [h0] at e; cases e)]; exact s.ex.h b o e n
  · by_cases z : b = a
    · subst z; rw [upd_same]; simp
    · rw [upd_ne z]; exact s.ex.d b e
  · rcases get_set h2 with ⟨rfl, rfl, _⟩ | ⟨n, h2⟩
    · rw [hi] at h1; cases h1
      exact .ow upd_same g h0 hs r
    · have q := s.sl k u w h1 h2
      cases q with
      | no => exact .no _
      | pv r => exact .pv r
      | @ow b vs' ds' q1 q2 q3 q4 q5 =>
        have nb : b ≠ a := fun z => s.dj i k a ds ds' (fun e => n e.symm) h h2 hi (by rw [h1, z])
        exact .ow (by rw [upd_ne nb]; exact q1) q2 q3 q4 q5
  · have q1 : ∃ zs, ρ[k]? = some (.ow zs) := by
      rcases get_set h1 with ⟨rfl, _, _⟩ | ⟨_, h1⟩
      · exact ⟨_, h⟩
      · exact ⟨_, h1⟩
    have q2 : ∃ zs, ρ[j]? = some (.ow zs) := by
      rcases get_set h2 with ⟨rfl, _, _⟩ | ⟨_, h2⟩
      · exact ⟨_, h⟩
      · exact ⟨_, h2⟩
    obtain ⟨z1, q1⟩ := q1
    obtain ⟨z2, q2⟩ := q2
    exact s.dj k j b z1 z2 hkj q1 q2 h3 h4
/-- an object outside the slots is written -/
theorem Stt.updA (s : Stt K c σ ρ G H S) {a : Addr} {o : HO} (g : G a = none) (h0 : c.H0 a = none) (hs : c.sa ≠ some a) (no : ∀ (k : Nat) ds, ρ[k]? = some (.ow ds) → σ[k]? ≠ some (some (.ref a))) : Stt K c σ ρ G (upd H a o) S := by
  have hg : ∀ b o, G b = some o → b ≠ a := fun b o e z => by subst z; rw [g] at e; cases e
  refine ⟨⟨fun b o e => by rw [upd_ne (hg b o e)]; exact s.wd.sub b o e, fun b hb => ?_⟩, ⟨s.ex.g, fun b o e n => ?_, fun b e => ?_, fun b g1 h1 => s.ex.f b g1 h1⟩, s.len, fun k u w h1 h2 => ?_, s.dj⟩
  · obtain ⟨g', ca, q1, q2⟩ := s.wd.stm b hb
    exact ⟨g', ca, q1, by rw [upd_ne (fun z : b = a => hs (by rw [← z]; exact hb))]; exact q2⟩
  · rw [upd_ne (fun z => by subst z; rw [h0] at e; cases e)]; exact s.ex.h b o e n
  · by_cases z : b = a
    · subst z; rw [upd_same]; simp
    · rw [upd_ne z]; exact s.ex.d b e
  · have q := s.sl k u w h1 h2
    cases q with
    | no => exact .no _
    | pv r => exact .pv r
    | @ow b vs' ds' q1 q2 q3 q4 q5 =>
      have nb : b ≠ a := fun z => no k ds' h2 (by rw [h1, z])
      exact .ow (by rw [upd_ne nb]; exact q1) q2 q3 q4 q5
theorem Ext.updA {G1 H1 : Hp} (e : Ext c G H G1 H1) {a : Addr} {o : HO} (n : H a = none) : Ext c G H G1 (upd H1 a o) :=
  ⟨e.g, fun b u h m => by rw [upd_ne (ne_of_none h n)]; exact e.h b u h m, fun b h => by
    by_cases z : b = a
    · subst z; rw [upd_same]; simp
    · rw [upd_ne z]; exact e.d b h, e.f⟩
/-- .. is frozen -/
theorem Stt.frz (s : Stt K c σ ρ G H S) {i : Nat} {ds : List D} (h : ρ[i]? = some (.ow ds)) : ∃ G1, Same G G1 ∧ Stt K c σ (ρ.set i (.pv (.lst ds))) G1 H S := by
  obtain ⟨a, vs, hi, ha, g, h0, hs, r⟩ := s.own h
  have hne : ∀ b o, G b = some o → b ≠ a := fun b o e z => by subst z; rw [g] at e; cases e
  refine ⟨upd G a (.lst vs), same_upd g, s.wd.frz ha hs g, ⟨fun b o e => same_upd g b o (s.ex.g b o e), s.ex.h, s.ex.d, fun b g1 h1 => ?_⟩, by simp [s.len], fun k u w h1 h2 => ?_, fun k j b xs ys hkj h1 h2 h3 h4 => ?_⟩
  · have nb : b ≠ a := fun z => h1 (z ▸ h0)
    rw [upd_ne nb]; exact s.ex.f b g1 h1
  · rcases get_set h2 with ⟨rfl, rfl, _⟩ | ⟨n, h2⟩
    · rw [hi] at h1; cases h1
      exact .pv (.lst upd_same (r.mono (same_upd g)))
    · have q := s.sl k u w h1 h2
      cases q with
      | no => exact .no _
      | pv r => exact .pv (r.mono (same_upd g))
      | @ow b vs' ds' q1 q2 q3 q4 q5 =>
        have nb : b ≠ a := fun z => s.dj i k a ds ds' (fun e => n e.symm) h h2 hi (by rw [h1, z])
        exact .ow q1 (by rw [upd_ne nb]; exact q2) q3 q4 (q5.mono (same_upd g))
  · have f : ∀ {m : Nat} {zs : List D}, (ρ.set i (.pv (.lst ds)))[m]? = some (.ow zs) → ρ[m]? = some (.ow zs) := fun {m zs} e => by
      rcases get_set e with ⟨_, z, _⟩ | ⟨_, e⟩
      · cases z
      · exact e
    exact s.dj k j b xs ys hkj (f h1) (f h2) h3 h4
end
/-! ### targets -/
abbrev GFn := D → List Sl → Option (List Sl)
def gSet (i : Nat) : GFn := fun d ρ => some (ρ.set i (.pv d))
def gAll : List GFn → List D → List Sl → Option (List Sl)
  | [], [], ρ => some ρ
  | g :: gs, d :: ds, ρ => (g d ρ).bind (gAll gs ds)
  | _, _, _ => none
def gTupF (gs : List GFn) : GFn := fun d ρ => match d with
  | .tup ds => gAll gs ds ρ
  | _ => none
/-- slots outside vs stay -/
structure Only (vs : List Nat) (σ σ1 : St) : Prop where
  len : σ1.length = σ.length
  ne : ∀ k, k ∉ vs → σ1[k]? = σ[k]?
theorem Only.refl (vs : List Nat) (σ : St) : Only vs σ σ := ⟨rfl, fun _ _ => rfl⟩
theorem Only.trans {vs : List Nat} {σ σ1 σ2 : St} (a : Only vs σ σ1) (b : Only vs σ1 σ2) : Only vs σ σ2 := ⟨b.len.trans a.len, fun k h => (b.ne k h).trans (a.ne k h)⟩
theorem Only.set {vs : List Nat} {σ : St} {i : Nat} {x : Option V} (h : i ∈ vs) : Only vs σ (σ.set i x) := ⟨by simp, fun k hk => by rw [List.getElem?_set_ne (fun z : i = k => hk (by rw [← z]; exact h))]⟩
theorem wipe_get {σ : St} : ∀ {vs : List Nat} {k : Nat}, (wipe σ vs)[k]? = if k ∈ vs then (σ[k]?).map (fun _ => none) else σ[k]?
  | [], k => by simp [wipe]
  | v :: vs, k => by
    unfold wipe
    by_cases e : v = k
    · subst e
      rw [if_pos (by simp)]
      by_cases hl : v < σ.length
      · rw [List.getElem?_set_self (by rw [wipe_length]; exact hl)]; simp [hl]
      · rw [List.getElem?_eq_none (by simp [wipe_length]; omega), List.getElem?_eq_none (by omega)]; rfl
    · rw [List.getElem?_set_ne e, wipe_get]
      by_cases h : k ∈ vs
      · rw [if_pos h, if_pos (by simp [h])]
      · rw [if_neg h, if_neg (by simp [h, Ne.symm e])]
theorem Only.wipe {vs : List Nat} {σ σ1 : St} (h : Only vs σ σ1) : wipe σ1 vs = wipe σ vs := by
  apply List.ext_getElem?
  intro k
  rw [wipe_get, wipe_get]
  by_cases e : k ∈ vs
  · rw [if_pos e, if_pos e]
    have hl := h.len
    by_cases hk : k < σ.length
    · rw [List.getElem?_eq_getElem hk, List.getElem?_eq_getElem (by omega)]; rfl
    · rw [List.getElem?_eq_none (by omega), List.getElem?_eq_none (by omega)]
  · rw [if_neg e, if_neg e]; exact h.ne k e
theorem wipe_wipe (σ : St) (vs : List Nat) : L2.wipe (L2.wipe σ vs) vs = L2.wipe σ vs :=
  Only.wipe ⟨wipe_length σ vs, fun k h => by rw [wipe_get, if_neg h]⟩
def wipeR (ρ : List Sl) : List Nat → List Sl
  | [] => ρ
  | v :: vs => (wipeR ρ vs).set v .no
theorem Stt.wipe {K : PySem.W.Frag} {c : CB} {σ : St} {ρ : List Sl} {G H : Hp} {S : Stm} (s : Stt K c σ ρ G H S) : ∀ vs : List Nat, Stt K c (L2.wipe σ vs) (wipeR ρ vs) G H S
  | [] => s
  | v :: vs => (Stt.wipe s vs).setNo none v
def TgS (K : PySem.W.Frag) (c : CB) (vs : List Nat) (g : TG) (t : GFn) : Prop := ∀ v d σ ρ ρ1 G H S (Q : St → Hp → Prop), Stt K c σ ρ G H S → Rep K c.sa G v d → t d ρ = some ρ1 → (∀ σ1, Stt K c σ1 ρ1 G H S → Only vs σ σ1 → Q σ1 H) → g v σ H Q
def TgsS (K : PySem.W.Frag) (c : CB) (vs : List Nat) (n : Nat) (g : TGs) (t : List GFn) : Prop := t.length = n ∧ ∀ us ds σ ρ ρ1 G H S (Q : St → Hp → Prop), Stt K c σ ρ G H S → Reps K c.sa G us ds → gAll t ds ρ = some ρ1 → (∀ σ1, Stt K c σ1 ρ1 G H S → Only vs σ σ1 → Q σ1 H) → g us σ H Q
section
variable {K : PySem.W.Frag} {c : CB} {vs : List Nat}
theorem tg_set {i : Nat} (h : i ∈ vs) : TgS K c vs (gName i) (gSet i) := by
  intro v d σ ρ ρ1 G H S Q s r e k
  cases e
  exact k _ (s.setPv r i) (.set h)
theorem tgs_nil : TgsS K c vs 0 gNil [] := by
  refine ⟨rfl, fun us ds σ ρ ρ1 G H S Q s r e k => ?_⟩
  cases ds with
  | nil => cases r; cases e; exact ⟨rfl, k _ s (.refl _ _)⟩
  | cons d ds => cases e
theorem tgs_cons {n : Nat} {g : TG} {gs : TGs} {t : GFn} {ts : List GFn} (h1 : TgS K c vs g t) (h2 : TgsS K c vs n gs ts) : TgsS K c vs (n + 1) (gCons g gs) (t :: ts) := by
  refine ⟨by simp [h2.1], fun us ds σ ρ ρ1 G H S Q s r e k => ?_⟩
  cases ds with
  | nil => cases e
  | cons d ds =>
    cases r with
    | cons r rr =>
      have e' : (t d ρ).bind (gAll ts ds) = some ρ1 := e
      cases q : t d ρ with
      | none => rw [q] at e'; cases e'
      | some ρ2 =>
        rw [q] at e'
        exact ⟨_, _, rfl, h1 _ _ _ _ _ _ _ _ _ s r q fun σ1 s1 o1 => h2.2 _ _ _ _ _ _ _ _ _ s1 rr e' fun σ2 s2 o2 => k σ2 s2 (o1.trans o2)⟩
theorem gAll_len : ∀ {ts : List GFn} {ds : List D} {ρ ρ1 : List Sl}, gAll ts ds ρ = some ρ1 → ds.length = ts.length
  | [], [], _, _, _ => rfl
  | [], _ :: _, _, _, h => nomatch h
  | _ :: _, [], _, _, h => nomatch h
  | t :: ts, d :: ds, ρ, ρ1, h => by
    have h' : (t d ρ).bind (gAll ts ds) = some ρ1 := h
    cases q : t d ρ with
    | none => rw [q] at h'; cases h'
    | some ρ2 => rw [q] at h'; simp [gAll_len (ρ := ρ2) (ρ1 := ρ1) h']
theorem tg_tup {n : Nat} {gs : TGs} {ts : List GFn} (h : TgsS K c vs n gs ts) : TgS K c vs (gTup K n gs) (gTupF ts) := by
  intro v d σ ρ ρ1 G H S Q s r e k
  unfold gTupF at e
  (first | (unfold iteC at e; split at e) | split at e)
  · cases r with
    | tup g r => exact ⟨_, _, rfl, Same.seqT s.wd.sub g, by rw [r.length, gAll_len e, h.1], h.2 _ _ _ _ _ _ _ _ _ s r e k⟩
  · cases e
end
/-! ### what is walked -/
structure Wk (K : PySem.W.Frag) (c : CB) (J : It) (G : Hp) (ds : List D) : Prop where
  go : ∀ i G' H, Same G G' → Same G' H → i < ds.length → J.go i H
  yl : ∀ i G' H x H', Same G G' → Same G' H → i < ds.length → J.yld i H x H' → H' = H ∧ ∃ d, ds[i]? = some d ∧ Rep K c.sa G' x d
  st : ∀ i G' H, Same G G' → Same G' H → ds.length ≤ i → J.stop i H
def PostI (K : PySem.W.Frag) (c : C) (G H : Hp) (R : It → Hp → Prop) : Res (List D) → Prop
  | .ok ds S' => ∀ J G' H', Ext c G H G' H' → Wd K c G' H' S' → Wk K c J G' ds → R J H'
  | .ex x S' => ∀ G' H', Ext c G H G' H' → Wd K c G' H' S' → c.xk x S' G' H'
  | .bad => False
theorem pstI {K : PySem.W.Frag} {c : C} {R : It → Hp → Prop} : Pst K c (fun G H => PostI K c G H R) := ⟨fun {G H G1 H1 r} p e => by
  cases r with
  | ok d S' => exact fun J G2 H2 e2 w2 => p J G2 H2 (e.trans e2) w2
  | ex d S' => exact fun G2 H2 e2 w2 => p G2 H2 (e.trans e2) w2
  | bad => exact p, fun p => p, fun p => p⟩
def tI (K : PySem.W.Frag) (c : C) (f : AF) : TI := fun σ H R => ∃ G ρ S, Stt K c σ ρ G H S ∧ PostI K c G H R (f ρ S)
def iSeq (f : EF) : AF := fun ρ S => (f ρ S).bind fun d S1 => match d with | .lst xs => .ok xs S1 | _ => .bad
def iTupF (f : EF) : AF := fun ρ S => (f ρ S).bind fun d S1 => match d with | .tup xs => .ok xs S1 | _ => .bad
def rangeD (lo : Int) (n : Nat) : List D := (List.range n).map fun i => D.int (lo + (i : Nat))
noncomputable def iRange1 (f : AF) : AF := fun ρ S => (f ρ S).bind fun d S1 => match d with | [.int j] => iteC (-4611686018427387904 ≤ j ∧ j < 4611686018427387904) (.ok (rangeD 0 j.toNat) S1) .bad | _ => .bad
noncomputable def iRange2 (f : AF) : AF := fun ρ S => (f ρ S).bind fun d S1 => match d with | [.int i, .int j] => iteC (-4611686018427387904 ≤ i ∧ i < 4611686018427387904 ∧ -4611686018427387904 ≤ j ∧ j < 4611686018427387904) (.ok (rangeD i (j - i).toNat) S1) .bad | _ => .bad
section
variable {X : Cx} {c : C} {tg l : Expr}
theorem _root_.L2.PI.weak {t t' : TI} (h : PI X tg l t) (w : ∀ σ H R, t' σ H R → t σ H R) : PI X tg l t' := ⟨fun pins s σ H Q I q => h.run pins s σ H Q I (w _ _ _ q)⟩
theorem wk_list {K : PySem.W.Frag} {c : CB} {G : Hp} {a : Addr} {vs : List V} {ds : List D} (g : G a = some (.lst vs)) (r : Reps K c.sa G vs ds) : Wk K c (Itl K a) G ds where
  go := fun i G' H s1 s2 hi => by
    have hv : i < vs.length := by rw [r.length]; exact hi
    exact ⟨vs, vs[i], .of (s2 _ _ (s1 _ _ g)), by simp [hv]⟩
  yl := fun i G' H x H' s1 s2 hi y => by
    obtain ⟨e, y⟩ := y
    obtain ⟨d, hd, rd⟩ := r.getv (y vs (.of (s2 _ _ (s1 _ _ g))))
    exact ⟨e, d, hd, rd.mono s1⟩
  st := fun i G' H s1 s2 hi => ⟨vs, .of (s2 _ _ (s1 _ _ g)), by rw [r.length]; exact hi⟩
theorem wk_tup {K : PySem.W.Frag} {c : CB} {G : Hp} {a : Addr} {vs : List V} {ds : List D} (g : SqT K G a vs) (r : Reps K c.sa G vs ds) : Wk K c (Itt K a) G ds where
  go := fun i G' H s1 s2 hi => by
    have hv : i < vs.length := by rw [r.length]; exact hi
    exact ⟨vs, vs[i], Same.seqT s2 (Same.seqT s1 g), by simp [hv]⟩
  yl := fun i G' H x H' s1 s2 hi y => by
    obtain ⟨e, y⟩ := y
    obtain ⟨d, hd, rd⟩ := r.getv (y vs (Same.seqT s2 (Same.seqT s1 g)))
    exact ⟨e, d, hd, rd.mono s1⟩
  st := fun i G' H s1 s2 hi => ⟨vs, Same.seqT s2 (Same.seqT s1 g), by rw [r.length]; exact hi⟩
theorem rangeD_get {lo : Int} {n i : Nat} (h : i < n) : (rangeD lo n)[i]? = some (.int (lo + (i : Nat))) := by
  unfold rangeD
  rw [List.getElem?_map, List.getElem?_range h]; rfl
theorem wk_range {K : PySem.W.Frag} {c : CB} {G : Hp} {lo : Int} {n : Nat} : Wk K c (Itr lo n) G (rangeD lo n) where
  go := fun i G' H s1 s2 hi => by
    have e : (rangeD lo n).length = n := by simp [rangeD]
    rw [e] at hi; exact hi
  yl := fun i G' H x H' s1 s2 hi y => by
    have e : (rangeD lo n).length = n := by simp [rangeD]
    rw [e] at hi
    obtain ⟨e1, e2⟩ := y
    exact ⟨e1, _, rangeD_get hi, by rw [e2]; exact .int _⟩
  st := fun i G' H s1 s2 hi => by
    have e : (rangeD lo n).length = n := by simp [rangeD]
    rw [e] at hi; exact hi
theorem pi_eSeq {f : EF} (hl : PE X l (tE X.K c f)) : PI X tg l (tI X.K c (iSeq f)) := (pi_list hl).weak fun σ H R q => by
  obtain ⟨G, ρ, S, st, p⟩ := q
  refine goE pstI st p fun x S1 v G1 H1 _ e1 st1 r1 p1 => ?_
  (first | (unfold iteC at p1; split at p1) | split at p1)
  · cases r1 with
    | lst g r => exact ⟨_, rfl, ⟨_, .of (st1.wd.sub _ _ g)⟩, p1 _ G1 H1 (.refl _ _ _) st1.wd (wk_list g r)⟩
  · exact p1.elim
theorem pi_eTup {f : EF} (hl : PE X l (tE X.K c f)) : PI X tg l (tI X.K c (iTupF f)) := (pi_tup hl).weak fun σ H R q => by
  obtain ⟨G, ρ, S, st, p⟩ := q
  refine goE pstI st p fun x S1 v G1 H1 _ e1 st1 r1 p1 => ?_
  (first | (unfold iteC at p1; split at p1) | split at p1)
  · cases r1 with
    | tup g r => exact ⟨_, rfl, ⟨_, seqT_up st1.wd g⟩, p1 _ G1 H1 (.refl _ _ _) st1.wd (wk_tup g r)⟩
  · exact p1.elim
theorem e62 : (2 : Int) ^ 62 = 4611686018427387904 := by decide
theorem pi_eRange1 {a : Expr} {f : AF} {p pos : Pos} (hg : Gl X "range") (hm : X.mg "range" = none) (ha : PA X [a] (tA X.K c f)) (hs : starEach [a] X.env = [(false, eval a X.env)] := by rfl) : PI X tg (.Call (.Name "range" p) [a] [] pos) (tI X.K c (iRange1 f)) :=
  (pi_range1 hg hm ha hs).weak fun σ H R q => by
    obtain ⟨G, ρ, S, st, p⟩ := q
    refine goA pstI st p fun x S1 v G1 H1 _ e1 st1 r1 p1 => ?_
    (first | (unfold iteC at p1; split at p1) | split at p1)
    · (first | (unfold iteC at p1; split at p1) | split at p1)
      · rename_i hz
        obtain ⟨w, rfl, r⟩ := reps1 r1
        cases r
        exact ⟨_, rfl, by rw [e62]; exact hz.1, by rw [e62]; exact hz.2, p1 _ G1 H1 (.refl _ _ _) st1.wd wk_range⟩
      · exact p1.elim
    · exact p1.elim
theorem pi_eRange2 {a b : Expr} {f : AF} {p pos : Pos} (hg : Gl X "range") (hm : X.mg "range" = none) (ha : PA X [a, b] (tA X.K c f)) (hs : starEach [a, b] X.env = [(false, eval a X.env), (false, eval b X.env)] := by rfl) (hs2 : starEach [b] X.env = [(false, eval b X.env)] := by rfl) : PI X tg (.Call (.Name "range" p) [a, b] [] pos) (tI X.K c (iRange2 f)) :=
  (pi_range2 hg hm ha hs hs2).weak fun σ H R q => by
    obtain ⟨G, ρ, S, st, p⟩ := q
    refine goA pstI st p fun x S1 v G1 H1 _ e1 st1 r1 p1 => ?_
    (first | (unfold iteC at p1; split at p1) | split at p1)
    · (first | (unfold iteC at p1; split at p1) | split at p1)
      · rename_i hz
        cases r1 with
        | cons r1 r2 =>
          cases r1
          obtain ⟨w, rfl, r⟩ := reps1 r2
          cases r
          exact ⟨_, _, rfl, by rw [e62]; exact hz, p1 _ G1 H1 (.refl _ _ _) st1.wd wk_range⟩
      · exact p1.elim
    · exact p1.elim
/-! ### list comprehensions -/
def Res.noex {α : Type} : Res α → Res α
  | .ok a S => .ok a S
  | _ => .bad
noncomputable def compL (t : GFn) (tf : TF) (ef : EF) (ρ : List Sl) : List D → Stm → List D → Res (List D)
  | [], S, acc => .ok acc S
  | d :: ds, S, acc => match t d ρ with
    | none => .bad
    | some ρ1 => (tf ρ1 S).noex.bind fun b S1 => if b = true then (ef ρ1 S1).noex.bind fun y S2 => iteC (acc.length < sizeLine) (compL t tf ef ρ ds S2 (acc ++ [y])) .bad else compL t tf ef ρ ds S1 acc
noncomputable def fComp (vs : List Nat) (it : AF) (t : GFn) (tf : TF) (ef : EF) : AF := fun ρ S => (it ρ S).bind fun ds S1 => compL t tf ef (wipeR ρ vs) ds S1 []
def tfYes : TF := fun _ S => .ok true S
theorem tLc_comp {K : PySem.W.Frag} {c : C} {vs : List Nat} {it : AF} {g : TG} {t : GFn} {tt : TT} {tf : TF} {ef : EF} (hgt : TgS K c vs g t) (htt : ∀ σ H Q, tT K c.nox tf σ H Q → tt σ H Q) (σ : St) (H : Hp) (Q : VK) (q : tF K c (fComp vs it t tf ef) σ H Q) :
    tLc (tI K c it) g tt (tE K c.nox ef) vs σ H Q := by
  obtain ⟨G, ρ, S, st, p⟩ := q
  refine ⟨G, ρ, S, st, ?_⟩
  have p' : PostF K c G H Q ((it ρ S).bind fun ds S1 => compL t tf ef (wipeR ρ (vs)) ds S1 []) := p
  cases ei : it ρ S with
  | bad => rw [ei] at p'; exact p'
  | ex x S1 => rw [ei] at p'; exact p'
  | ok ds S1 =>
    rw [ei] at p'
    intro J G1 H1 e1 w1 wk D0 n0
    have p1 : PostF K c G H Q (compL t tf ef (wipeR ρ (vs)) ds S1 []) := p'
    have s1 := (st.step e1 w1).wipe (vs)
    have n00 : H D0 = none := by
      cases q : H D0 with
      | none => rfl
      | some o => exact absurd n0 (e1.d D0 (by rw [q]; simp))
    have nsa : c.sa ≠ some D0 := w1.nost n0
    have nh0 : c.H0 D0 = none := (st.step e1 w1).h0 n0
    have nown : ∀ (k : Nat) es, (wipeR ρ (vs))[k]? = some (.ow es) → (wipe σ (vs))[k]? ≠ some (some (.ref D0)) := fun k es hk hv => by
      obtain ⟨a, us, q1, q2, _⟩ := s1.own hk
      rw [hv] at q1
      cases q1
      rw [n0] at q2; cases q2
    generalize hr : compL t tf ef (wipeR ρ (vs)) ds S1 [] = r at p1
    generalize hσ : wipe σ (vs) = σ0 at *
    generalize hρ : wipeR ρ (vs) = ρ0 at *
    refine ⟨fun i m H2 => i ≤ ds.length ∧ m = ds.length - i ∧ ∃ G2 S2 acc ws, Ext c G1 H1 G2 H2 ∧ Stt K c σ0 ρ0 G2 H2 S2 ∧ H2 D0 = some (.lst ws) ∧ Reps K c.sa G2 ws acc ∧ G2 D0 = none ∧ compL t tf ef ρ0 (ds.drop i) S2 acc = r,
      ⟨ds.length, Nat.zero_le _, by omega, G1, S1, [], [], (Ext.refl _ _ _).updA n0, s1.updA (w1.nn n0) nh0 nsa nown, upd_same, .nil, w1.nn n0, hr⟩, ?_⟩
    rintro i m H2 ⟨hi, rfl, G2, S2, acc, ws, e2, s2, hd, hr2, gd, hq⟩
    by_cases hlt : i < ds.length
    · obtain ⟨d, hdi⟩ : ∃ d, ds[i]? = some d := ⟨ds[i], by simp [hlt]⟩
      have hdrop : ds.drop i = d :: ds.drop (i + 1) := by
        rw [List.drop_eq_getElem_cons hlt]
        rw [List.getElem?_eq_getElem hlt] at hdi
        rw [Option.some.inj hdi]
      rw [hdrop] at hq
      refine .inr ⟨wk.go i G2 H2 e2.g s2.wd.sub hlt, fun H' => ∃ G3 S3 acc ws, Ext c G1 H1 G3 H' ∧ Stt K c σ0 ρ0 G3 H' S3 ∧ H' D0 = some (.lst ws) ∧ Reps K c.sa G3 ws acc ∧ G3 D0 = none ∧ compL t tf ef ρ0 (ds.drop (i + 1)) S3 acc = r,
        fun H' ⟨G3, S3, acc, ws, q⟩ => ⟨ds.length - (i + 1), by omega, by omega, rfl, G3, S3, acc, ws, q⟩, fun x H' y => ?_⟩
      obtain ⟨rfl, d', hd', rx⟩ := wk.yl i G2 H2 x H' e2.g s2.wd.sub hlt y
      rw [hdi] at hd'
      cases hd'
      unfold compL at hq
      cases et : t d ρ0 with
      | none =>
        rw [et] at hq
        dsimp only at hq
        subst hq
        exact p1.elim
      | some ρ1 =>
        rw [et] at hq
        dsimp only at hq
        refine hgt x d σ0 ρ0 ρ1 G2 H' S2 _ s2 rx et fun σ1 st1 on1 => ⟨?_, ?_⟩
        · have := on1.wipe
          rw [this, ← hσ, wipe_wipe]
        · refine htt _ _ _ ⟨G2, ρ1, S2, st1, ?_⟩
          cases ef1 : tf ρ1 S2 with
          | bad => rw [ef1] at hq; simp only [Res.noex, Res.bind_bad] at hq; subst hq; exact p1.elim
          | ex z S3 => rw [ef1] at hq; simp only [Res.noex, Res.bind_bad] at hq; subst hq; exact p1.elim
          | ok b S3 =>
            rw [ef1] at hq
            simp only [Res.noex, Res.bind_ok] at hq
            intro G3 H3 e3 w3
            have hd3 : H3 D0 = some (.lst ws) := e3.h _ _ hd nsa
            have gd3 : G3 D0 = none := e3.f _ gd (by rw [hd]; simp)
            have e13 := e2.trans e3
            have s3 := s2.step e3 w3
            cases b with
            | false =>
              rw [if_neg (by simp)] at hq
              exact iteF ⟨G3, S3, acc, ws, e13, s3, hd3, hr2.mono e3.g, gd3, hq⟩
            | true =>
              rw [if_pos rfl] at hq
              refine iteT ⟨G3, ρ1, S3, st1.step e3 w3, ?_⟩
              cases ee : ef ρ1 S3 with
              | bad => rw [ee] at hq; simp only [Res.noex, Res.bind_bad] at hq; subst hq; exact p1.elim
              | ex z S4 => rw [ee] at hq; simp only [Res.noex, Res.bind_bad] at hq; subst hq; exact p1.elim
              | ok y S4 =>
                rw [ee] at hq
                simp only [Res.noex, Res.bind_ok] at hq
                intro v G4 H4 e4 w4 r4
                have hd4 : H4 D0 = some (.lst ws) := e4.h _ _ hd3 nsa
                have gd4 : G4 D0 = none := e4.f _ gd3 (by rw [hd3]; simp)
                (first | (unfold iteC at hq; split at hq) | split at hq)
                · rename_i hz
                  refine ⟨ws, hd4, by rw [hr2.length]; exact hz, G4, S4, acc ++ [y], ws ++ [v], (e13.trans e4).updA n0, (s3.step e4 w4).updA gd4 nh0 nsa nown, upd_same, ((hr2.mono e3.g).mono e4.g).snoc r4, gd4, hq⟩
                · subst hq; exact p1.elim
    · have e : i = ds.length := by omega
      subst e
      rw [List.drop_length] at hq
      unfold compL at hq
      subst hq
      exact .inl ⟨wk.st _ G2 H2 e2.g s2.wd.sub (Nat.le_refl _), p1 D0 ws G2 H2 (e1.trans e2) s2.wd n00 gd hd hr2⟩
theorem pf_comp {elt iter : Expr} {ifs : List Expr} {scope : Scope} {own : List (Str × Nat)} {pos : Pos} {it : AF} {g : TG} {t : GFn} {tt : TT} {tf : TF} {ef : EF} (hc : X.calm = true) (hN : X.N.Nodup) (hi : PI X tg iter (tI X.K c it)) (ok : BlkOk X.N X.env.scope scope own)
    (hg : ∀ (s : Shared) (H : Hp) (C : Addr) (cl : List (Str × Addr)) (fp : List Addr), PG (X.blk s H scope (compEnvC scope cl C X.env) fp) tg g) (hgt : TgS X.K c (own.map (·.2)) g t)
    (ht : ∀ (s : Shared) (H : Hp) (C : Addr) (cl : List (Str × Addr)) (fp : List Addr), PTs (X.blk s H scope (compEnvC scope cl C X.env) fp) ifs tt) (htt : ∀ σ H Q, tT X.K c.nox tf σ H Q → tt σ H Q)
    (he : ∀ (s : Shared) (H : Hp) (C : Addr) (cl : List (Str × Addr)) (fp : List Addr), PE (X.blk s H scope (compEnvC scope cl C X.env) fp) elt (tE X.K c.nox ef)) (hs : ∀ x, foldedSetIterable iter X.env x = pure x := by intro _; rfl) :
    PE X (.ListComp elt [⟨tg, iter, ifs, 0⟩] scope pos) (tF X.K c (fComp (own.map (·.2)) it t tf ef)) :=
  (pe_lc hc hN hi ok hg ht he hs).weak fun σ H Q q => tLc_comp hgt htt σ H Q q
theorem tYes_of {K : PySem.W.Frag} {c : C} (σ : St) (H : Hp) (Q : Bool → Hp → Prop) (q : tT K c tfYes σ H Q) : tYes σ H Q := by
  obtain ⟨G, ρ, S, st, p⟩ := q
  exact p G H (.refl _ _ _) st.wd
end
end L2.PL
namespace L2.PL
open PySem PySem.Spec PyProof.Rows
section
variable {K : PySem.W.Frag} {c : C} {σ : St} {ρ : List Sl} {G H G' H' : Hp} {S S' : Stm} {Dn : Ends}
theorem PostS.same {r : Res Out} (p : PostS K c G Dn r) (e : Same G G') : PostS K c G' Dn r := by
  cases r with
  | ok o S' =>
    cases o with
    | nx ρ' => exact fun σ' G2 H2 s2 => p σ' G2 H2 (e.trans s2)
    | bk ρ' => exact fun σ' G2 H2 s2 => p σ' G2 H2 (e.trans s2)
    | ct ρ' => exact fun σ' G2 H2 s2 => p σ' G2 H2 (e.trans s2)
    | rt d => exact fun v G2 H2 s2 => p v G2 H2 (e.trans s2)
  | ex x S' => exact fun G2 H2 s2 => p G2 H2 (e.trans s2)
  | bad => exact p
theorem pstS : Pst K c (fun G H r => Ext c c.G0 c.H0 G H ∧ PostS K c G Dn r) :=
  ⟨fun {G H G1 H1 r} p e => ⟨p.1.trans e, p.2.same e.g⟩, fun {G H x S'} p G' H' e w => p.2 G' H' e.g (p.1.trans e) w, fun p => p.2⟩
end
/-! ### statements -/
def sSeq (f g : SF) : SF := fun ρ S => (f ρ S).bind fun o S1 => match o with | .nx ρ1 => g ρ1 S1 | o => .ok o S1
def sNext : SF := fun ρ S => .ok (.nx ρ) S
def sBreak : SF := fun ρ S => .ok (.bk ρ) S
def sCont : SF := fun ρ S => .ok (.ct ρ) S
def sNever : SF := fun _ _ => .bad
def sRet (f : EF) : SF := fun ρ S => (f ρ S).bind fun d S1 => .ok (.rt d) S1
def sRetN : SF := fun _ S => .ok (.rt .non) S
def sDrop (f : EF) : SF := fun ρ S => (f ρ S).bind fun _ S1 => .ok (.nx ρ) S1
def sIf (t : TF) (f g : SF) : SF := fun ρ S => (t ρ S).bind fun b S1 => if b = true then f ρ S1 else g ρ S1
def sAsg (t : GFn) (f : EF) : SF := fun ρ S => (f ρ S).bind fun d S1 => match t d ρ with | some ρ1 => .ok (.nx ρ1) S1 | none => .bad
def sPar (i j : Nat) (f : AF) : SF := fun ρ S => (f ρ S).bind fun ds S1 => match ds with | [d, e] => .ok (.nx ((ρ.set i (.pv d)).set j (.pv e))) S1 | _ => .bad
/-- a new list that will change -/
def sOwn (i : Nat) (f : AF) : SF := fun ρ S => (f ρ S).bind fun ds S1 => .ok (.nx (ρ.set i (.ow ds))) S1
noncomputable def sApp (i : Nat) (f : EF) : SF := fun ρ S => match ρ[i]? with
  | some (.ow ds) => (f ρ S).bind fun d S1 => iteC (ds.length < sizeLine) (.ok (.nx (ρ.set i (.ow (ds ++ [d])))) S1) .bad
  | _ => .bad
def sPut (i : Nat) (f g : EF) : SF := fun ρ S => match ρ[i]? with
  | some (.ow ds) => (g ρ S).bind fun d S1 => (f ρ S1).bind fun k S2 => match k with
    | .int z => (match ixN ds.length z with | some j => .ok (.nx (ρ.set i (.ow (ds.set j d)))) S2 | none => .bad)
    | _ => .bad
  | _ => .bad
/-- from here on the list at slot i stays as it is -/
def sFrz (i : Nat) (f : SF) : SF := fun ρ S => match ρ[i]? with | some (.ow ds) => f (ρ.set i (.pv (.lst ds))) S | _ => f ρ S
section
variable {X : Cx} {c : C} {st : Stmt} {rest sts : List Stmt} {e : Expr} {pos : Pos}
theorem pss_eNil : PSs X [] (tS X.K c sNext) := pss_nil.weak fun D σ H q => by
  obtain ⟨G, ρ, S, s, p⟩ := q
  exact p σ G H (.refl _) s
theorem pss_eCons {f g : SF} (h1 : PS X st (tS X.K c f)) (h2 : PSs X rest (tS X.K c g)) : PSs X (st :: rest) (tS X.K c (sSeq f g)) := (pss_cons h1 h2).weak fun D σ H q => by
  obtain ⟨G, ρ, S, s, p⟩ := q
  refine ⟨G, ρ, S, s, ?_⟩
  have p' : PostS X.K c G D ((f ρ S).bind fun o S1 => match o with | .nx ρ1 => g ρ1 S1 | o => .ok o S1) := p
  cases q : f ρ S with
  | ok o S1 =>
    rw [q] at p'
    cases o with
    | nx ρ1 => exact fun σ' G2 H2 s2 st2 => ⟨G2, ρ1, S1, st2, PostS.same (r := g ρ1 S1) p' s2⟩
    | bk ρ1 => exact p'
    | ct ρ1 => exact p'
    | rt d => exact p'
  | ex x S1 => rw [q] at p'; exact p'
  | bad => rw [q] at p'; exact p'
theorem pss_eOne {f : SF} (h1 : PS X st (tS X.K c f)) : PSs X [st] (tS X.K c f) := pss_one h1
theorem ps_ePass : PS X (.Pass pos) (tS X.K c sNext) := ps_pass.weak fun D σ H q => by
  obtain ⟨G, ρ, S, s, p⟩ := q
  exact p σ G H (.refl _) s
theorem ps_eBreak : PS X (.Break pos) (tS X.K c sBreak) := ps_break.weak fun D σ H q => by
  obtain ⟨G, ρ, S, s, p⟩ := q
  exact p σ G H (.refl _) s
theorem ps_eCont : PS X (.Continue pos) (tS X.K c sCont) := ps_continue.weak fun D σ H q => by
  obtain ⟨G, ρ, S, s, p⟩ := q
  exact p σ G H (.refl _) s
theorem ps_eNever : PS X st (tS X.K c sNever) := (ps_never (X := X)).weak fun D σ H q => by
  obtain ⟨G, ρ, S, s, p⟩ := q
  exact p
theorem ps_eRet {f : EF} (he : PE X e (tE X.K c f)) : PS X (.Return (some e) pos) (tS X.K c (sRet f)) := (ps_ret he).weak fun D σ H q => by
  obtain ⟨G, ρ, S, s, p⟩ := q
  exact goE pstS s ⟨s.ex, p⟩ fun x S1 v G1 H1 _ e1 st1 r1 p1 => p1.2 v G1 H1 (.refl _) st1.ex st1.wd r1
theorem ps_eRetN : PS X (.Return none pos) (tS X.K c sRetN) := ps_retN.weak fun D σ H q => by
  obtain ⟨G, ρ, S, s, p⟩ := q
  exact p .non G H (.refl _) s.ex s.wd .non
theorem ps_eDrop {f : EF} (he : PE X e (tE X.K c f)) (hs : swapsWith e none pos.line X.env = pure false := by rfl) : PS X (.Expr e pos) (tS X.K c (sDrop f)) := (ps_expr he hs).weak fun D σ H q => by
  obtain ⟨G, ρ, S, s, p⟩ := q
  exact goE pstS s ⟨s.ex, p⟩ fun x S1 v G1 H1 _ e1 st1 r1 p1 => p1.2 σ G1 H1 (.refl _) st1
theorem ps_eIf {cd : Expr} {a b : List Stmt} {t : TF} {f g : SF} (hc : PT X cd (tT X.K c t)) (ha : PSs X a (tS X.K c f)) (hb : PSs X b (tS X.K c g)) : PS X (.If cd a b pos) (tS X.K c (sIf t f g)) := (ps_if hc ha hb).weak fun D σ H q => by
  obtain ⟨G, ρ, S, s, p⟩ := q
  refine goT pstS s ⟨s.ex, p⟩ fun x S1 G1 H1 _ e1 st1 p1 => ?_
  cases x with
  | true => exact iteT ⟨G1, ρ, S1, st1, p1.2⟩
  | false => exact iteF ⟨G1, ρ, S1, st1, p1.2⟩
theorem asg_of {vs : List Nat} {g : TG} {t : GFn} {f : EF} (hgt : TgS X.K c vs g t) (D : Ends) (σ : St) (H : Hp) (q : tS X.K c (sAsg t f) D σ H) : tAsg (tE X.K c f) g D σ H := by
  obtain ⟨G, ρ, S, s, p⟩ := q
  refine goE pstS s ⟨s.ex, p⟩ fun x S1 v G1 H1 _ e1 st1 r1 p1 => ?_
  cases q : t x ρ with
  | none => rw [q] at p1; exact p1.2.elim
  | some ρ1 => rw [q] at p1; exact hgt _ _ _ _ _ _ _ _ _ st1 r1 q fun σ1 s1 _ => p1.2 σ1 G1 H1 (.refl _) s1
theorem ps_eAsg {tg : Expr} {vs : List Nat} {g : TG} {t : GFn} {f : EF} (he : PE X e (tE X.K c f)) (hg : PG X tg g) (hgt : TgS X.K c vs g t) (hs : swapsWithSole [tg] e pos.line X.env = pure false := by rfl) (hw : swappedStores [tg] e X.env = pure none := by rfl)
    (h1 : (assignEach [tg] X.env).map (·.2) = [assign tg X.env] := by rfl) : PS X (.Assign [tg] e pos) (tS X.K c (sAsg t f)) := (ps_asg he hg hs hw h1).weak (asg_of hgt)
theorem ps_eSet {i : Nat} {x : Str} {pos' : Pos} {f : EF} (hN : X.N.Nodup) (hi : X.N[i]? = some x) (hx : Loc X.env.scope x) (he : PE X e (tE X.K c f)) (hs : swapsWith e (some (.Name x pos')) pos.line X.env = pure false := by rfl) (hf : X.fn x = true ∨ X.env.scope.names.lookup x = some .local := by first | exact .inl rfl | exact .inr rfl | assumption) :
    PS X (.Assign [.Name x pos'] e pos) (tS X.K c (sAsg (gSet i) f)) := (ps_set hN hi hx he hs hf).weak (asg_of (tg_set (vs := [i]) (by simp)))
/-- a frozen comprehension's list at a name -/
theorem frz_comp {vs : List Nat} {it : AF} {g : TG} {t : GFn} {tt : TT} {tf : TF} {ef : EF} {i : Nat} (hgt : TgS X.K c vs g t) (htt : ∀ σ H Q, tT X.K c.nox tf σ H Q → tt σ H Q) (D : Ends) (σ : St) (H : Hp) (q : tS X.K c (sAsg (gSet i) (eFrz (fComp vs it t tf ef))) D σ H) :
    tAsg (tLc (tI X.K c it) g tt (tE X.K c.nox ef) vs) (gName i) D σ H := by
  have q' := asg_of (tg_set (vs := [i]) (by simp)) D σ H q
  refine tLc_comp hgt htt σ H _ ?_
  obtain ⟨G, ρ, S, st, p⟩ := q'
  refine ⟨G, ρ, S, st, ?_⟩
  unfold eFrz at p
  cases q : fComp vs it t tf ef ρ S with
  | ok ds S1 =>
    rw [q] at p
    intro a us G1 H1 e1 w1 n1 g1 h1 r1
    have ns : c.sa ≠ some a := fun e => by
      obtain ⟨_, _, _, h⟩ := st.wd.stm a e
      rw [n1] at h; cases h
    refine p _ (upd G1 a (.lst us)) H1 ⟨fun b u h => same_upd g1 b u (e1.g b u h), e1.h, e1.d, fun b g h => ?_⟩ (w1.frz h1 ns g1) (.lst upd_same (r1.mono (same_upd g1)))
    have nb : b ≠ a := fun z => h (by rw [z]; exact n1)
    rw [upd_ne nb]
    exact e1.f b g h
  | ex x S1 => rw [q] at p; exact p
  | bad => rw [q] at p; exact p
theorem ps_eSetLc {i : Nat} {y : Str} {py : Pos} {elt tg iter : Expr} {ifs : List Expr} {scope : Scope} {own : List (Str × Nat)} {spos : Pos} {it : AF} {g : TG} {t : GFn} {tt : TT} {tf : TF} {ef : EF} (hc : X.calm = true) (hN : X.N.Nodup) (hy : X.N[i]? = some y) (hyl : X.env.scope.names.lookup y = some .local)
    (hsw : swapsWith (.ListComp elt [⟨tg, iter, ifs, 0⟩] scope pos) (some (.Name y py)) spos.line X.env = pure true) (hi : PI X tg iter (tI X.K c it)) (ok : BlkOk X.N X.env.scope scope own)
    (hg : ∀ (s : Shared) (H : Hp) (C : Addr) (cl : List (Str × Addr)) (fp : List Addr), PG (X.blk s H scope (compEnvC scope cl C X.env) fp) tg g) (hgt : TgS X.K c (own.map (·.2)) g t)
    (ht : ∀ (s : Shared) (H : Hp) (C : Addr) (cl : List (Str × Addr)) (fp : List Addr), PTs (X.blk s H scope (compEnvC scope cl C X.env) fp) ifs tt) (htt : ∀ σ H Q, tT X.K c.nox tf σ H Q → tt σ H Q)
    (he : ∀ (s : Shared) (H : Hp) (C : Addr) (cl : List (Str × Addr)) (fp : List Addr), PE (X.blk s H scope (compEnvC scope cl C X.env) fp) elt (tE X.K c.nox ef)) (hs : ∀ x, foldedSetIterable iter X.env x = pure x := by intro _; rfl) :
    PS X (.Assign [.Name y py] (.ListComp elt [⟨tg, iter, ifs, 0⟩] scope pos) spos) (tS X.K c (sAsg (gSet i) (eFrz (fComp (own.map (·.2)) it t tf ef)))) :=
  (ps_setLc hc hN hy hyl hsw hi ok hg ht he hs).weak (frz_comp hgt htt)
/-- a, b = x, y of plain local names -/
theorem ps_ePar {i j : Nat} {x y : Str} {a b : Expr} {f : AF} {px py pt : Pos} {kt k2 pt2} (hc : X.calm = true) (hN : X.N.Nodup) (hi : X.N[i]? = some x) (hj : X.N[j]? = some y) (hij : i ≠ j)
    (hx : X.env.scope.names.lookup x = some .local) (hy : X.env.scope.names.lookup y = some .local) (ha : PA X [a, b] (tA X.K c f))
    (hw : swappedStores [.Tuple [.Name x px, .Name y py] kt pt] (.Tuple [a, b] k2 pt2) X.env = pure (some [x, y]))
    (hs : swapsWithSole [.Tuple [.Name x px, .Name y py] kt pt] (.Tuple [a, b] k2 pt2) pos.line X.env = pure false := by rfl) :
    PS X (.Assign [.Tuple [.Name x px, .Name y py] kt pt] (.Tuple [a, b] k2 pt2) pos) (tS X.K c (sPar i j f)) := (ps_par hc hN hi hj hij hx hy ha hw hs).weak fun D σ H q => by
  obtain ⟨G, ρ, S, s, p⟩ := q
  refine goA pstS s ⟨s.ex, p⟩ fun ds S1 vs G1 H1 _ e1 st1 r1 p1 => ?_
  (first | (unfold iteC at p1; split at p1) | split at p1)
  · cases r1 with
    | cons ra r1 =>
      obtain ⟨w, rfl, rb⟩ := reps1 r1
      exact ⟨_, _, rfl, p1.2 _ G1 H1 (.refl _) ((st1.setPv ra i).setPv rb j)⟩
  · exact p1.2.elim
theorem own_of {i : Nat} {f : AF} (D : Ends) (σ : St) (H : Hp) (q : tS X.K c (sOwn i f) D σ H) : tAsg (tF X.K c f) (gName i) D σ H := by
  obtain ⟨G, ρ, S, s, p⟩ := q
  refine ⟨G, ρ, S, s, ?_⟩
  have p' : PostS X.K c G D ((f ρ S).bind fun ds S1 => .ok (.nx (ρ.set i (.ow ds))) S1) := p
  cases q : f ρ S with
  | ok ds S1 =>
    rw [q] at p'
    intro a vs G1 H1 e1 w1 n1 g1 h1 r1
    have st1 := s.step e1 w1
    refine p' _ G1 H1 e1.g (st1.setOw h1 g1 (s.h0 n1) (s.wd.nost n1) r1 (fun j es hj hv => ?_) i)
    obtain ⟨b, us, q1, q2, _⟩ := s.own hj
    rw [hv] at q1
    cases q1
    rw [n1] at q2; cases q2
  | ex x S1 => rw [q] at p'; exact fun G2 H2 e2 w2 => p' G2 H2 e2.g (s.ex.trans e2) w2
  | bad => rw [q] at p'; exact p'
theorem ps_eOwn {i : Nat} {x : Str} {pos' : Pos} {f : AF} (hN : X.N.Nodup) (hi : X.N[i]? = some x) (hx : Loc X.env.scope x) (he : PE X e (tF X.K c f)) (hs : swapsWith e (some (.Name x pos')) pos.line X.env = pure false := by rfl) (hf : X.fn x = true ∨ X.env.scope.names.lookup x = some .local := by first | exact .inl rfl | exact .inr rfl | assumption) :
    PS X (.Assign [.Name x pos'] e pos) (tS X.K c (sOwn i f)) := (ps_set hN hi hx he hs hf).weak own_of
theorem ps_eOwnLc {i : Nat} {y : Str} {py : Pos} {elt tg iter : Expr} {ifs : List Expr} {scope : Scope} {own : List (Str × Nat)} {spos : Pos} {it : AF} {g : TG} {t : GFn} {tt : TT} {tf : TF} {ef : EF} (hc : X.calm = true) (hN : X.N.Nodup) (hy : X.N[i]? = some y) (hyl : X.env.scope.names.lookup y = some .local)
    (hsw : swapsWith (.ListComp elt [⟨tg, iter, ifs, 0⟩] scope pos) (some (.Name y py)) spos.line X.env = pure true) (hi : PI X tg iter (tI X.K c it)) (ok : BlkOk X.N X.env.scope scope own)
    (hg : ∀ (s : Shared) (H : Hp) (C : Addr) (cl : List (Str × Addr)) (fp : List Addr), PG (X.blk s H scope (compEnvC scope cl C X.env) fp) tg g) (hgt : TgS X.K c (own.map (·.2)) g t)
    (ht : ∀ (s : Shared) (H : Hp) (C : Addr) (cl : List (Str × Addr)) (fp : List Addr), PTs (X.blk s H scope (compEnvC scope cl C X.env) fp) ifs tt) (htt : ∀ σ H Q, tT X.K c.nox tf σ H Q → tt σ H Q)
    (he : ∀ (s : Shared) (H : Hp) (C : Addr) (cl : List (Str × Addr)) (fp : List Addr), PE (X.blk s H scope (compEnvC scope cl C X.env) fp) elt (tE X.K c.nox ef)) (hs : ∀ x, foldedSetIterable iter X.env x = pure x := by intro _; rfl) :
    PS X (.Assign [.Name y py] (.ListComp elt [⟨tg, iter, ifs, 0⟩] scope pos) spos) (tS X.K c (sOwn i (fComp (own.map (·.2)) it t tf ef))) :=
  (ps_setLc hc hN hy hyl hsw hi ok hg ht he hs).weak fun D σ H q => tLc_comp hgt htt σ H _ (own_of D σ H q)
theorem frz_PSs {i : Nat} {f : SF} (h : PSs X sts (tS X.K c f)) : PSs X sts (tS X.K c (sFrz i f)) := h.weak fun D σ H q => by
  obtain ⟨G, ρ, S, s, p⟩ := q
  unfold sFrz at p
  (first | (unfold iteC at p; split at p) | split at p)
  · rename_i ds hd
    obtain ⟨G1, s1, st1⟩ := s.frz hd
    exact ⟨G1, _, S, st1, p.same s1⟩
  · exact ⟨G, ρ, S, s, p⟩
theorem ps_eApp {i : Nat} {f : EF} (h : PE X e (tBM X.K "list" rAppend (tVar i) (tA X.K c (aCons f aNil)))) (hs : swapsWith e none pos.line X.env = pure false := by rfl) : PS X (.Expr e pos) (tS X.K c (sApp i f)) := (ps_expr h hs).weak fun D σ H q => by
  obtain ⟨G, ρ, S, s, p⟩ := q
  unfold sApp at p
  (first | (unfold iteC at p; split at p) | split at p)
  · rename_i ds hd
    obtain ⟨a, vs, hi, ha, g, h0, hsa, r⟩ := s.own hd
    refine ⟨_, hi, .inl ⟨rfl, _, .of ha⟩, G, ρ, S, s, ?_⟩
    cases ef : f ρ S with
    | bad => rw [ef] at p; exact p.elim
    | ex x S1 => rw [ef] at p; simp only [aCons, ef, Res.bind_ex]; exact fun G2 H2 e2 w2 => p G2 H2 e2.g (s.ex.trans e2) w2
    | ok d S1 =>
      rw [ef] at p
      simp only [aCons, aNil, ef, Res.bind_ok] at p ⊢
      intro us G1 H1 e1 w1 r1
      obtain ⟨u, rfl, ru⟩ := reps1 r1
      (first | (unfold iteC at p; split at p) | split at p)
      · rename_i hz
        have st1 := s.step e1 w1
        have ha1 := e1.h _ _ ha hsa
        refine ⟨a, vs, u, rfl, rfl, ha1, by rw [r.length]; exact hz, p σ G1 _ e1.g (st1.wrt hd hi ha1 (e1.f _ g (by rw [ha]; simp)) h0 hsa ((r.mono e1.g).snoc ru))⟩
      · exact p.elim
  · exact p.elim
theorem ps_ePut {i : Nat} {o ix : Expr} {spos : Pos} {f g : EF} (ho : PE X o (tVar i)) (hi : PE X ix (tE X.K c f)) (he : PE X e (tE X.K c g)) (hs : swapsWithSole [.Subscript o ix spos] e pos.line X.env = pure false := by rfl) (hw : swappedStores [.Subscript o ix spos] e X.env = pure none := by rfl)
    (h1 : (assignEach [.Subscript o ix spos] X.env).map (·.2) = [assign (.Subscript o ix spos) X.env] := by rfl)
    (ha : ∀ v, assign (.Subscript o ix spos) X.env v = (do
      let ov ← holding [v] (eval o X.env)
      let iv ← holding [v, ov] (eval ix X.env)
      standAt spos
      holding [v, ov, iv] (setItem ov iv v)
      release [v, ov, iv] []) := by intro _; rfl) : PS X (.Assign [.Subscript o ix spos] e pos) (tS X.K c (sPut i f g)) := (ps_asg he (pg_sub ho hi set_list ha) hs hw h1).weak fun D σ H q => by
  obtain ⟨G, ρ, S, s, p⟩ := q
  unfold sPut at p
  (first | (unfold iteC at p; split at p) | split at p)
  · rename_i ds hd
    refine goE pstS s ⟨s.ex, p⟩ fun d S1 v G1 H1 _ e1 st1 r1 p1 => ?_
    obtain ⟨a, vs, hi, ha, gg, h0, hsa, r⟩ := st1.own hd
    refine ⟨_, hi, ?_⟩
    refine goE pstS st1 p1 fun k S2 w G2 H2 _ e2 st2 r2 p2 => ?_
    (first | (unfold iteC at p2; split at p2) | split at p2)
    · (first | (unfold iteC at p2; split at p2) | split at p2)
      · rename_i j hj
        have ha2 := e2.h _ _ ha hsa
        exact ⟨a, vs, _, j, rfl, int_of r2, ha2, by rw [r.length]; exact hj, p2.2 σ G2 _ (.refl _) (st2.wrt hd hi ha2 (e2.f _ gg (by rw [ha]; simp)) h0 hsa ((r.mono e2.g).set (r1.mono e2.g) j))⟩
      · exact p2.2.elim
    · exact p2.2.elim
  · exact p.elim
/-! ### a list that will change, read -/
def eLenOw (i : Nat) : EF := fun ρ S => match ρ[i]? with | some (.ow ds) => .ok (.int ds.length) S | _ => .bad
def eIxOw (i : Nat) (f : EF) : EF := fun ρ S => match ρ[i]? with
  | some (.ow ds) => (f ρ S).bind fun k S1 => match k with
    | .int z => (match atI ds z with | some d => .ok d S1 | none => .bad)
    | _ => .bad
  | _ => .bad
theorem pe_eLenOw {i : Nat} (h : PE X e (tCB (fun xs H Q => ∃ x n, xs = [x] ∧ LenV X.K x H n ∧ Q (.int n) H) (tCons (tVar i) tNil))) : PE X e (tE X.K c (eLenOw i)) := h.weak fun σ H Q q => by
  obtain ⟨G, ρ, S, s, p⟩ := q
  unfold eLenOw at p
  (first | (unfold iteC at p; split at p) | split at p)
  · rename_i ds hd
    obtain ⟨a, vs, hi, ha, gg, h0, hsa, r⟩ := s.own hd
    exact ⟨_, hi, _, _, rfl, .inl ⟨_, .of ha, r.length.symm⟩, p _ G H (.refl _ _ _) s.wd (.int _)⟩
  · exact p.elim
theorem pe_eIxOw {i : Nat} {o ix : Expr} {f : EF} (ho : PE X o (tVar i)) (hi : PE X ix (tE X.K c f)) (hs : PlainIx ix) : PE X (.Subscript o ix pos) (tE X.K c (eIxOw i f)) := (pe_ix ix_list ho hi hs).weak fun σ H Q q => by
  obtain ⟨G, ρ, S, s, p⟩ := q
  unfold eIxOw at p
  (first | (unfold iteC at p; split at p) | split at p)
  · rename_i ds hd
    obtain ⟨a, vs, hi, ha, gg, h0, hsa, r⟩ := s.own hd
    refine ⟨_, hi, ?_⟩
    refine goE pstE s p fun k S1 w G1 H1 _ e1 st1 r1 p1 => ?_
    (first | (unfold iteC at p1; split at p1) | split at p1)
    · (first | (unfold iteC at p1; split at p1) | split at p1)
      · rename_i d hz
        obtain ⟨u, hu, ru⟩ := (r.mono e1.g).at hz
        exact ⟨_, _, _, u, rfl, int_of r1, .of (e1.h _ _ ha hsa), hu, p1 _ G1 H1 (.refl _ _ _) st1.wd ru⟩
      · exact p1.elim
    · exact p1.elim
  · exact p.elim
/-! ### loops -/
def forL (t : GFn) (b : SF) : List D → SF
  | [], ρ, S => .ok (.nx ρ) S
  | d :: ds, ρ, S => match t d ρ with
    | none => .bad
    | some ρ1 => (b ρ1 S).bind fun o S1 => match o with
      | .nx ρ2 => forL t b ds ρ2 S1
      | .ct ρ2 => forL t b ds ρ2 S1
      | .bk ρ2 => .ok (.nx ρ2) S1
      | .rt d => .ok (.rt d) S1
def sFor (it : AF) (t : GFn) (b : SF) : SF := fun ρ S => (it ρ S).bind fun ds S1 => forL t b ds ρ S1
theorem goI {it : AF} {k : List D → Stm → Res Out} {K : PySem.W.Frag} {σ : St} {ρ : List Sl} {G H : Hp} {S : Stm} {D : Ends} {R : It → Hp → Prop} (s : Stt K c σ ρ G H S) (p : PostS K c G D ((it ρ S).bind k))
    (hk : ∀ ds S1 J G1 H1, Ext c G H G1 H1 → Stt K c σ ρ G1 H1 S1 → Wk K c J G1 ds → PostS K c G1 D (k ds S1) → R J H1) : tI K c it σ H R := by
  refine ⟨G, ρ, S, s, ?_⟩
  cases e : it ρ S with
  | ok ds S1 =>
    rw [e] at p
    exact fun J G1 H1 e1 w1 wk => hk ds S1 J G1 H1 e1 (s.step e1 w1) wk (PostS.same (r := k ds S1) p e1.g)
  | ex x S1 => rw [e] at p; exact fun G2 H2 e2 w2 => p G2 H2 e2.g (s.ex.trans e2) w2
  | bad => rw [e] at p; exact p
theorem ps_eFor {tg iter : Expr} {body : List Stmt} {it : AF} {vs : List Nat} {g : TG} {t : GFn} {b : SF} (hp : PassesOwn (model X.prog X.w) X.A X.env X.xe) (hc : X.calm = true) (hi : PI X tg iter (tI X.K c it)) (hg : PG X tg g) (hgt : TgS X.K c vs g t) (hb : PSs X body (tS X.K c b))
    (hs : ∀ x, foldedSetIterable iter X.env x = pure x := by intro _; rfl) : PS X (.For tg iter body [] pos) (tS X.K c (sFor it t b)) := (ps_for hp hc hi hg hb hs).weak fun D σ H q => by
  obtain ⟨G, ρ, S, s, p⟩ := q
  refine goI s p fun ds S1 J G1 H1 e1 st1 wk p1 => ?_
  generalize hr : forL t b ds ρ S1 = r at p1
  refine ⟨fun i m σ' H' => i ≤ ds.length ∧ m = ds.length - i ∧ ∃ G' ρ' S', Same G1 G' ∧ Stt X.K c σ' ρ' G' H' S' ∧ forL t b (ds.drop i) ρ' S' = r, ⟨_, Nat.zero_le _, rfl, G1, ρ, S1, .refl _, st1, hr⟩, ?_⟩
  rintro i m σ2 H2 ⟨hi, rfl, G2, ρ2, S2, g2, st2, hq⟩
  by_cases hlt : i < ds.length
  · obtain ⟨d, hdi⟩ : ∃ d, ds[i]? = some d := ⟨ds[i], by simp [hlt]⟩
    have hdrop : ds.drop i = d :: ds.drop (i + 1) := by
      rw [List.drop_eq_getElem_cons hlt]
      rw [List.getElem?_eq_getElem hlt] at hdi
      rw [Option.some.inj hdi]
    rw [hdrop] at hq
    unfold forL at hq
    refine .inr ⟨wk.go i G2 H2 g2 st2.wd.sub hlt, fun σ' H' => ∃ G' ρ' S', Same G1 G' ∧ Stt X.K c σ' ρ' G' H' S' ∧ forL t b (ds.drop (i + 1)) ρ' S' = r, fun σ' H' q => ⟨_, by omega, by omega, rfl, q⟩, fun x H' y => ?_⟩
    obtain ⟨rfl, d', hd', rx⟩ := wk.yl i G2 H2 x H' g2 st2.wd.sub hlt y
    rw [hdi] at hd'
    cases hd'
    cases et : t d ρ2 with
    | none => rw [et] at hq; dsimp only at hq; subst hq; exact p1.elim
    | some ρ3 =>
      rw [et] at hq
      dsimp only at hq
      refine hgt _ _ _ _ _ _ _ _ _ st2 rx et fun σ3 st3 _ => ⟨G2, ρ3, S2, st3, ?_⟩
      cases eb : b ρ3 S2 with
      | bad => rw [eb] at hq; simp only [Res.bind_bad] at hq; subst hq; exact p1
      | ex z S3 => rw [eb] at hq; simp only [Res.bind_ex] at hq; subst hq; exact p1.same g2
      | ok o S3 =>
        rw [eb] at hq
        simp only [Res.bind_ok] at hq
        cases o with
        | nx ρ4 => exact fun σ' G' H' s' st' => ⟨G', ρ4, S3, g2.trans s', st', hq⟩
        | ct ρ4 => exact fun σ' G' H' s' st' => ⟨G', ρ4, S3, g2.trans s', st', hq⟩
        | bk ρ4 => dsimp only at hq; subst hq; exact fun σ' G' H' s' st' => p1 σ' G' H' (g2.trans s') st'
        | rt d => dsimp only at hq; subst hq; exact fun v G' H' s' => p1 v G' H' (g2.trans s')
  · have e : i = ds.length := by omega
    subst e
    rw [List.drop_length] at hq
    unfold forL at hq
    subst hq
    exact .inl ⟨wk.st _ G2 H2 g2 st2.wd.sub (Nat.le_refl _), p1 σ2 G2 H2 g2 st2⟩
def whileN (t : TF) (b : SF) : Nat → SF
  | 0, _, _ => .bad
  | n + 1, ρ, S => (t ρ S).bind fun k S1 => if k = true then (b ρ S1).bind fun o S2 => match o with
      | .nx ρ2 => whileN t b n ρ2 S2
      | .ct ρ2 => whileN t b n ρ2 S2
      | .bk ρ2 => .ok (.nx ρ2) S2
      | .rt d => .ok (.rt d) S2
    else .ok (.nx ρ) S1
open Classical in
noncomputable def sWhile (t : TF) (b : SF) : SF := fun ρ S => if h : ∃ n, whileN t b n ρ S ≠ .bad then whileN t b (choose h) ρ S else .bad
theorem whileN_succ {t : TF} {b : SF} : ∀ {n : Nat} {ρ : List Sl} {S : Stm}, whileN t b n ρ S ≠ .bad → whileN t b (n + 1) ρ S = whileN t b n ρ S
  | 0, _, _, h => absurd rfl h
  | n + 1, ρ, S, h => by
    unfold whileN at h
    rw [whileN, whileN]
    cases et : t ρ S with
    | bad => rfl
    | ex x S1 => rfl
    | ok k S1 =>
      rw [et] at h
      simp only [Res.bind_ok] at h ⊢
      split
      · rename_i hk
        rw [if_pos hk] at h
        cases eb : b ρ S1 with
        | bad => rfl
        | ex x S2 => rfl
        | ok o S2 =>
          rw [eb] at h
          simp only [Res.bind_ok] at h ⊢
          cases o with
          | nx ρ2 => exact whileN_succ h
          | ct ρ2 => exact whileN_succ h
          | bk ρ2 => rfl
          | rt d => rfl
      · rfl
theorem whileN_le {t : TF} {b : SF} {n m : Nat} {ρ : List Sl} {S : Stm} (h : whileN t b n ρ S ≠ .bad) (l : n ≤ m) : whileN t b m ρ S = whileN t b n ρ S := by
  induction m with
  | zero => have e : n = 0 := by omega
            subst e; rfl
  | succ m ih =>
    by_cases e : n = m + 1
    · subst e; rfl
    · have e1 := ih (by omega)
      rw [whileN_succ (by rw [e1]; exact h), e1]
theorem sWhile_eq {t : TF} {b : SF} {n : Nat} {ρ : List Sl} {S : Stm} {r : Res Out} (h : whileN t b n ρ S = r) (hr : r ≠ .bad) : sWhile t b ρ S = r := by
  have ex : ∃ n, whileN t b n ρ S ≠ .bad := ⟨n, by rw [h]; exact hr⟩
  unfold sWhile
  rw [dif_pos ex]
  have hc := Classical.choose_spec ex
  rcases Nat.le_total (Classical.choose ex) n with l | l
  · rw [← h, whileN_le hc l]
  · rw [whileN_le (by rw [h]; exact hr) l, h]
theorem sWhile_N {t : TF} {b : SF} {ρ : List Sl} {S : Stm} (h : sWhile t b ρ S ≠ .bad) : ∃ n, whileN t b n ρ S = sWhile t b ρ S := by
  unfold sWhile at h ⊢
  (first | (unfold iteC at h; split at h) | split at h)
  · rename_i ex
    exact ⟨Classical.choose ex, by rw [dif_pos ex]⟩
  · exact absurd rfl h
theorem ps_eWhile {cd : Expr} {body : List Stmt} {t : TF} {b : SF} (hp : PassesOwn (model X.prog X.w) X.A X.env X.xe) (hc : PT X cd (tT X.K c t)) (hb : PSs X body (tS X.K c b)) : PS X (.While cd body [] pos) (tS X.K c (sWhile t b)) := (ps_while hp hc hb).weak fun D σ H q => by
  obtain ⟨G, ρ, S, s, p⟩ := q
  have nb : sWhile t b ρ S ≠ .bad := fun e => by rw [e] at p; exact p
  obtain ⟨n0, hn⟩ := sWhile_N nb
  generalize sWhile t b ρ S = r at p hn
  refine ⟨fun m σ' H' => ∃ G' ρ' S', Same G G' ∧ Stt X.K c σ' ρ' G' H' S' ∧ whileN t b m ρ' S' = r, ⟨n0, G, ρ, S, .refl _, s, hn⟩, ?_⟩
  rintro m σ2 H2 ⟨G2, ρ2, S2, g2, st2, hq⟩
  cases m with
  | zero => unfold whileN at hq; subst hq; exact p.elim
  | succ m =>
    unfold whileN at hq
    refine ⟨G2, ρ2, S2, st2, ?_⟩
    cases et : t ρ2 S2 with
    | bad => rw [et] at hq; simp only [Res.bind_bad] at hq; subst hq; exact p
    | ex z S3 => rw [et] at hq; simp only [Res.bind_ex] at hq; subst hq; exact fun G3 H3 e3 w3 => p G3 H3 (g2.trans e3.g) (st2.ex.trans e3) w3
    | ok k S3 =>
      rw [et] at hq
      simp only [Res.bind_ok] at hq
      intro G3 H3 e3 w3
      have st3 := st2.step e3 w3
      cases k with
      | false => rw [if_neg (by simp)] at hq; subst hq; exact iteF (p σ2 G3 H3 (g2.trans e3.g) st3)
      | true =>
        rw [if_pos rfl] at hq
        refine iteT ⟨fun σ' H' => ∃ G' ρ' S', Same G G' ∧ Stt X.K c σ' ρ' G' H' S' ∧ whileN t b m ρ' S' = r, fun σ' H' q => ⟨m, Nat.lt_succ_self m, q⟩, G3, ρ2, S3, st3, ?_⟩
        have g3 := g2.trans e3.g
        cases eb : b ρ2 S3 with
        | bad => rw [eb] at hq; simp only [Res.bind_bad] at hq; subst hq; exact p
        | ex z S4 => rw [eb] at hq; simp only [Res.bind_ex] at hq; subst hq; exact p.same g3
        | ok o S4 =>
          rw [eb] at hq
          simp only [Res.bind_ok] at hq
          cases o with
          | nx ρ4 => exact fun σ' G' H' s' st' => ⟨G', ρ4, S4, g3.trans s', st', hq⟩
          | ct ρ4 => exact fun σ' G' H' s' st' => ⟨G', ρ4, S4, g3.trans s', st', hq⟩
          | bk ρ4 => dsimp only at hq; subst hq; exact fun σ' G' H' s' st' => p σ' G' H' (g3.trans s') st'
          | rt d => dsimp only at hq; subst hq; exact fun v G' H' s' => p v G' H' (g3.trans s')
end
end L2.PL
namespace L2.PL
open PySem PySem.Spec PyProof.Rows
/-! ### the promise of a def: its plain reading -/
abbrev FnD := List D → Stm → Res D
def startR (n : Nat) (ds : List D) : List Sl := ds.map .pv ++ List.replicate (n - ds.length) .no
def fnEnd : Res Out → Res D
  | .ok (.rt d) S => .ok d S
  | .ok (.nx _) S => .ok .non S
  | .ok _ _ => .bad
  | .ex x S => .ex x S
  | .bad => .bad
/-- n names, np parameters -/
def fnOf (n np : Nat) (b : SF) : FnD := fun ds S => if ds.length = np then fnEnd (b (startR n ds) S) else .bad
/-- no exception leaves it -/
def spP (K : PySem.W.Frag) (n : Nat) (fn : FnD) : Sp := fun vs H Q _ => vs.length = n ∧ ∃ (c : CB) (G : Hp) (ds : List D) (S : Stm), Wd K c G H S ∧ Reps K c.sa G vs ds ∧ PostE K (C.nox ⟨c, fun _ _ _ _ => False⟩) G H Q (fn ds S)
section
variable {P : Program} {w : World} {K : PySem.W.Frag} {mg : Str → Option Value} {base : Heap}
theorem startR_get {n i : Nat} {ds : List D} {y : Sl} (h : (startR n ds)[i]? = some y) : (∃ d, ds[i]? = some d ∧ y = .pv d) ∨ y = .no := by
  unfold startR at h
  by_cases hi : i < ds.length
  · rw [List.getElem?_append_left (by simpa using hi)] at h
    rw [List.getElem?_map] at h
    rw [List.getElem?_eq_getElem hi] at h ⊢
    exact .inl ⟨_, rfl, (Option.some.inj h).symm⟩
  · rw [List.getElem?_append_right (by simpa using hi)] at h
    exact .inr (List.eq_of_mem_replicate (List.mem_of_getElem? h))
theorem start_get {N : List Str} {i : Nat} {vs : List V} {v : V} (h : vs[i]? = some v) : (start N vs)[i]? = some (some v) := by
  unfold start
  have hi := (List.getElem?_eq_some_iff.mp h).1
  rw [List.getElem?_append_left (by simpa using hi), List.getElem?_map, h]; rfl
theorem body_ok {qual : Str} {st : Stmt} {f : Addr} {N ps : List Str} {k : Nat} {body : SF} (S : FnScope N ps (defScope st))
    (hb : ∀ (c : C) (cdv : Value) (A : Around) (outer : List Env) (s : Shared) (H : Hp) (E : XK), Room k (A.deeper (envOfC qual (defScope st) s.heap.objs.size f cdv)) →
      PSs (cxOf CX0 P w K mg base N qual (defScope st) f cdv A outer s H E).nox (defBody st) (tS K c body))
    (cdv : Value) (A : Around) (outer : List Env) (s : Shared) (H : Hp) (vs : List V) (Q : VK) (E : XK) (hr : Room k (A.deeper (envOfC qual (defScope st) s.heap.objs.size f cdv))) (h : spP K ps.length (fnOf N.length ps.length body) vs H Q E) :
    ∃ t, PSs (cxOf CX0 P w K mg base N qual (defScope st) f cdv A outer s H E).nox (defBody st) t ∧ t { nx := fun _ H' => Q .non H', rt := Q } (start N vs) H := by
  obtain ⟨hl, c, G, ds, S0, w0, r, p⟩ := h
  refine ⟨_, hb ⟨⟨c.sa, G, H⟩, fun _ _ _ _ => False⟩ cdv A outer s H E hr, G, startR N.length ds, S0, ?_, ?_⟩
  · have hpl : ps.length ≤ N.length := by have := congrArg List.length S.pre; rw [List.length_take] at this; omega
    refine ⟨Wd.cast (by rfl) w0, .refl _ _ _, ?_, fun i x y h1 h2 => ?_, fun i j a es fs hij h1 _ _ => ?_⟩
    · unfold start startR
      simp only [List.length_append, List.length_map, List.length_replicate, r.length]
    · rcases startR_get h2 with ⟨d, hd, rfl⟩ | rfl
      · obtain ⟨v, hv, rv⟩ := r.get hd
        rw [start_get hv] at h1
        cases h1
        exact .pv rv
      · exact .no x
    · rcases startR_get h1 with ⟨d, hd, e⟩ | e <;> cases e
  · have hds : ds.length = ps.length := by rw [← r.length]; exact hl
    unfold fnOf at p
    rw [if_pos hds] at p
    cases e : body (startR N.length ds) S0 with
    | bad => rw [e] at p; exact p
    | ex x S1 => rw [e] at p; exact fun G' H' s1 e1 w1 => p G' H' (Ext.cast (by rfl) e1) (Wd.cast (by rfl) w1)
    | ok o S1 =>
      rw [e] at p
      cases o with
      | nx ρ1 => exact fun σ' G' H' s1 st => p .non G' H' (Ext.cast (by rfl) st.ex) (Wd.cast (by rfl) st.wd) .non
      | rt d => exact fun v G' H' s1 e1 w1 r1 => p v G' H' (Ext.cast (by rfl) e1) (Wd.cast (by rfl) w1) r1
      | bk ρ1 => exact p.elim
      | ct ρ1 => exact p.elim
/-- the call of a def that keeps such a promise -/
def eCall (fn : FnD) (f : AF) : EF := fun ρ S => (f ρ S).bind fun ds S1 => (fn ds S1).noex
theorem fnOf_len {n np : Nat} {b : SF} : ∀ ds S, ds.length ≠ np → fnOf n np b ds S = .bad := fun ds S h => by unfold fnOf; rw [if_neg h]
theorem call_of {c : C} {n : Nat} {fn : FnD} {f : AF} (hn : ∀ ds S, ds.length ≠ n → fn ds S = .bad) (σ : St) (H : Hp) (Q : VK) (q : tE K c (eCall fn f) σ H Q) : tCall (spP K n fn) [] E0 (tA K c f) σ H Q := by
  obtain ⟨G, ρ, S, s, p⟩ := q
  refine goA pstE s p fun ds S1 vs G1 H1 _ e1 st1 r1 p1 => ?_
  have hl : ds.length = n := by
    refine Classical.byContradiction fun h => ?_
    rw [hn ds S1 h] at p1
    exact p1
  refine ⟨by simp [r1.length, hl], c.toCB, G1, ds, S1, st1.wd, by rw [List.append_nil]; exact r1, ?_⟩
  cases e : fn ds S1 with
  | bad => rw [e] at p1; exact p1
  | ex x S2 => rw [e] at p1; exact p1.elim
  | ok d S2 => rw [e] at p1; exact p1
section
variable {X : Cx} {c : C} {e : Expr} {es : List Expr} {x : Str} {p pos : Pos} {k n : Nat} {f : Addr} {fd : FuncData} {ps : List Str} {fn : FnD} {a : AF}
theorem pe_eCall (F : FnOk X.prog X.w X.K X.mg X.base CX0 k f fd ps (spP X.K n fn)) (hn : ∀ ds S, ds.length ≠ n → fn ds S = .bad) (hr : Room k X.A) (hg : Gl X x) (hm : X.mg x = some (.ref f)) (hk : PySem.W.keepIn X.K (.ref f) = true) (hb : Binds X.K fd ps [])
    (ha : PA X (e :: es) (tA X.K c a)) (hdb : (x == ("__debug__" : Str)) = false := by decide) (he : starEach (e :: es) X.env = (false, eval e X.env) :: starEach es X.env := by rfl) (hpl : (backTo pos (starEach es X.env)).any (·.1) = false := by rfl) :
    PE X (.Call (.Name x p) (e :: es) [] pos) (tE X.K c (eCall fn a)) := (pe_call F hr hg hm hk hb .nil pass0 ha hdb he hpl).weak (call_of hn)
end
/-! ### the law's stream -/
def keyAt : Key := .inr "at"
def keyRest : Key := .inr "rest"
def keyMixed : Key := .inr "mixed"
def keyCells : Key := .inr "cells"
theorem kca : ¬ keyCells = keyAt := by intro h; injection h with h; exact absurd h (by decide +kernel)
theorem kcr : ¬ keyCells = keyRest := by intro h; injection h with h; exact absurd h (by decide +kernel)
theorem kcm : ¬ keyCells = keyMixed := by intro h; injection h with h; exact absurd h (by decide +kernel)
theorem kar : ¬ keyAt = keyRest := by intro h; injection h with h; exact absurd h (by decide +kernel)
theorem kam : ¬ keyAt = keyMixed := by intro h; injection h with h; exact absurd h (by decide +kernel)
theorem krm : ¬ keyRest = keyMixed := by intro h; injection h with h; exact absurd h (by decide +kernel)
def stmKvs' (ca : Addr) (S : Stm) : List (Key × V) := [(keyCells, .ref ca), (keyAt, .int S.place), (keyRest, .int S.rest), (keyMixed, .int S.mixed)]
theorem stmKvs_eq (ca : Addr) (S : Stm) : stmKvs ca S = stmKvs' ca S := rfl
theorem stm_cells (ca : Addr) (S : Stm) : valV (stmKvs ca S) keyCells = some (.ref ca) := by
  rw [stmKvs_eq]; unfold stmKvs'
  rw [valV_pos rfl]
theorem stm_at (ca : Addr) (S : Stm) : valV (stmKvs ca S) keyAt = some (.int S.place) := by
  rw [stmKvs_eq]; unfold stmKvs'
  rw [valV_neg kca, valV_pos rfl]
theorem stm_rest (ca : Addr) (S : Stm) : valV (stmKvs ca S) keyRest = some (.int S.rest) := by
  rw [stmKvs_eq]; unfold stmKvs'
  rw [valV_neg kcr, valV_neg kar, valV_pos rfl]
theorem stm_mixed (ca : Addr) (S : Stm) : valV (stmKvs ca S) keyMixed = some (.int S.mixed) := by
  rw [stmKvs_eq]; unfold stmKvs'
  rw [valV_neg kcm, valV_neg kam, valV_neg krm, valV_pos rfl]
theorem put_at (ca : Addr) (S : Stm) (z : Int) : putK (stmKvs ca S) keyAt (.int z) = stmKvs ca { S with place := z } := by
  rw [stmKvs_eq, stmKvs_eq]; unfold putK
  rw [if_pos (by rw [valV_any, ← stmKvs_eq, stm_at]; rfl)]
  simp only [stmKvs', List.map_cons, List.map_nil, if_neg kca, if_pos, if_neg (Ne.symm kar), if_neg (Ne.symm kam)]
theorem put_rest (ca : Addr) (S : Stm) (z : Int) : putK (stmKvs ca S) keyRest (.int z) = stmKvs ca { S with rest := z } := by
  rw [stmKvs_eq, stmKvs_eq]; unfold putK
  rw [if_pos (by rw [valV_any, ← stmKvs_eq, stm_rest]; rfl)]
  simp only [stmKvs', List.map_cons, List.map_nil, if_neg kcr, if_pos, if_neg kar, if_neg (Ne.symm krm)]
theorem put_mixed (ca : Addr) (S : Stm) (z : Int) : putK (stmKvs ca S) keyMixed (.int z) = stmKvs ca { S with mixed := z } := by
  rw [stmKvs_eq, stmKvs_eq]; unfold putK
  rw [if_pos (by rw [valV_any, ← stmKvs_eq, stm_mixed]; rfl)]
  simp only [stmKvs', List.map_cons, List.map_nil, if_neg kcm, if_pos, if_neg kam, if_neg krm]
/-- the dict of the stream made at once -/
theorem merge_stm (ca : Addr) (S : Stm) : mergeK [] (stmKvs ca S) = stmKvs ca S := by
  rw [stmKvs_eq]
  show putK (putK (putK (putK [] keyCells _) keyAt _) keyRest _) keyMixed _ = _
  rw [putK_new (k := keyCells) _ (by rfl)]
  rw [putK_new (k := keyAt) _ (by simp only [List.nil_append]; rw [valV_neg kca]; rfl)]
  rw [putK_new (k := keyRest) _ (by simp only [List.nil_append, List.cons_append]; rw [valV_neg kcr, valV_neg kar]; rfl)]
  rw [putK_new (k := keyMixed) _ (by simp only [List.nil_append, List.cons_append]; rw [valV_neg kcm, valV_neg kam, valV_neg krm]; rfl)]
  rfl
inductive SKey where
  | place | rest | mixed
def SKey.key : SKey → Key
  | .place => keyAt
  | .rest => keyRest
  | .mixed => keyMixed
def SKey.get : SKey → Stm → Int
  | .place, S => S.place
  | .rest, S => S.rest
  | .mixed, S => S.mixed
def SKey.put : SKey → Int → Stm → Stm
  | .place, z, S => { S with place := z }
  | .rest, z, S => { S with rest := z }
  | .mixed, z, S => { S with mixed := z }
theorem SKey.val (k : SKey) (ca : Addr) (S : Stm) : valV (stmKvs ca S) k.key = some (.int (k.get S)) := by
  cases k
  · exact stm_at ca S
  · exact stm_rest ca S
  · exact stm_mixed ca S
theorem SKey.putK (k : SKey) (ca : Addr) (S : Stm) (z : Int) : L2.putK (stmKvs ca S) k.key (.int z) = stmKvs ca (k.put z S) := by
  cases k
  · exact put_at ca S z
  · exact put_rest ca S z
  · exact put_mixed ca S z
theorem SKey.cells (k : SKey) (z : Int) (S : Stm) : (k.put z S).cells = S.cells := by cases k <;> rfl
def eStm (i : Nat) (k : SKey) : EF := fun ρ S => match ρ[i]? with | some (.pv .stm) => .ok (.int (k.get S)) S | _ => .bad
def eCells (i : Nat) : EF := fun ρ S => match ρ[i]? with | some (.pv .stm) => .ok (.lst (S.cells.map D.int)) S | _ => .bad
def sStm (i : Nat) (k : SKey) (f : EF) : SF := fun ρ S => match ρ[i]? with | some (.pv .stm) => ((f ρ S).bind fun d S1 => match d with | .int z => .ok (.nx ρ) (k.put z S1) | _ => .bad) | _ => .bad
section
variable {X : Cx} {c : C} {o ix e : Expr} {pos spos : Pos} {i : Nat} {k : SKey} {f : EF}
theorem Stt.stm {K : PySem.W.Frag} {c : CB} {σ : St} {ρ : List Sl} {G H : Hp} {S : Stm} {i : Nat} (s : Stt K c σ ρ G H S) (h : ρ[i]? = some (.pv .stm)) : ∃ a ca, σ[i]? = some (some (.ref a)) ∧ c.sa = some a ∧ G a = none ∧ G ca = some (.lst (S.cells.map V.int)) ∧ H a = some (.dK (stmKvs ca S)) := by
  obtain ⟨x, hx, r⟩ := s.get h
  cases r with
  | pv r =>
    cases r with
    | stm ha =>
      obtain ⟨g, ca, q1, q2⟩ := s.wd.stm _ ha
      exact ⟨_, ca, hx, ha, g, q1, q2⟩
theorem pe_eStm (hu : X.A.units + 1 < cLine) (ho : PE X o (tVar i)) (hk : PE X ix (tC (kV k.key))) (hs : NoSl ix) : PE X (.Subscript o ix pos) (tE X.K c (eStm i k)) := (pe_dget hu ho hk hs).weak fun σ H Q q => by
  obtain ⟨G, ρ, S, s, p⟩ := q
  unfold eStm at p
  split at p
  · rename_i h
    obtain ⟨a, ca, h1, h2, h3, h4, h5⟩ := s.stm h
    have dg := DGet.k (k := k.key) h5
    rw [k.val] at dg
    exact ⟨_, h1, a, _, rfl, dg, p _ G H (.refl _ _ _) s.wd (.int _)⟩
  · exact p.elim
theorem pe_eCells (hu : X.A.units + 1 < cLine) (ho : PE X o (tVar i)) (hk : PE X ix (tC (kV keyCells))) (hs : NoSl ix) : PE X (.Subscript o ix pos) (tE X.K c (eCells i)) := (pe_dget hu ho hk hs).weak fun σ H Q q => by
  obtain ⟨G, ρ, S, s, p⟩ := q
  unfold eCells at p
  split at p
  · rename_i h
    obtain ⟨a, ca, h1, h2, h3, h4, h5⟩ := s.stm h
    have dg := DGet.k (k := keyCells) h5
    rw [stm_cells] at dg
    exact ⟨_, h1, a, _, rfl, dg, p _ G H (.refl _ _ _) s.wd (.lst h4 (.ints _))⟩
  · exact p.elim
theorem ps_eStm (hu : X.A.units + 1 < cLine) (ho : PE X o (tVar i)) (hk : PE X ix (tC (kV k.key))) (he : PE X e (tE X.K c f)) (hs : swapsWith e (some (.Subscript o ix spos)) pos.line X.env = pure false) : PS X (.Assign [.Subscript o ix spos] e pos) (tS X.K c (sStm i k f)) := (ps_dput hu ho hk he hs).weak fun D σ H q => by
  obtain ⟨G, ρ, S, s, p⟩ := q
  unfold sStm at p
  split at p
  · rename_i h
    refine goE pstS s ⟨s.ex, p⟩ fun d S1 v G1 H1 _ e1 st1 r1 p1 => ?_
    split at p1
    · obtain ⟨a, ca, h1, h2, h3, h4, h5⟩ := st1.stm h
      cases int_of r1
      refine ⟨_, h1, a, _, rfl, DPut.k h5 (by show 4 < sizeLine; rw [sizeLine_eq]; decide), ?_⟩
      rw [k.putK]
      refine p1.2 σ G1 _ (.refl _) ?_
      have nown : ∀ (j : Nat) es, ρ[j]? = some (.ow es) → σ[j]? ≠ some (some (.ref a)) := fun j es hj hv => by
        obtain ⟨b, us, q1, q2, _, _, q3, _⟩ := st1.own hj
        rw [hv] at q1
        cases q1
        exact q3 h2
      refine ⟨⟨fun b o e => ?_, fun b hb => ?_⟩, ⟨st1.ex.g, fun b o e n => ?_, fun b e => ?_, st1.ex.f⟩, st1.len, fun j u w h1 h2 => ?_, st1.dj⟩
      · rw [upd_ne (fun z => by subst z; rw [h3] at e; cases e)]; exact st1.wd.sub b o e
      · have : a = b := by rw [h2] at hb; exact Option.some.inj hb
        subst this
        exact ⟨h3, ca, by rw [k.cells]; exact h4, upd_same⟩
      · rw [upd_ne (fun z => by subst z; exact n h2)]; exact st1.ex.h b o e n
      · by_cases z : b = a
        · subst z; rw [upd_same]; simp
        · rw [upd_ne z]; exact st1.ex.d b e
      · have q := st1.sl j u w h1 h2
        cases q with
        | no => exact .no _
        | pv r => exact .pv r
        | @ow b vs' ds' q1 q2 q3 q4 q5 =>
          have nb : b ≠ a := fun z => nown j ds' h2 (by rw [h1, z])
          exact .ow (by rw [upd_ne nb]; exact q1) q2 q3 q4 q5
    · exact p1.2.elim
  · exact p.elim
end
end
end L2.PL
namespace L2.PL
open PySem PySem.Spec PyProof.Rows
/-- a def of the text, with defaults or without -/
structure FunV (K : PySem.W.Frag) (dV : Value) (x qual : Str) (st : Stmt) (f : Addr) (fd : FuncData) : Prop where
  ex : ∃ (oc : Value) (od : Option Addr) (kV doc pm : Value) (an : Option Addr) (cdv ct : Value) (osl : Array (Option Value)),
    fd = PySem.W.fnOf x qual (defArgs st) (defBody st) (defScope st) dV kV doc pm an cdv ct ∧ K.lookup f = some ⟨oc, od, .func fd, osl⟩ ∧ PySem.W.codeIn K cdv qual = true
  kp : PySem.W.keepIn K (.ref f) = true
theorem fn_okV {P : Program} {w : World} {K : PySem.W.Frag} {mg : Str → Option Value} {base : Heap} {x qual : Str} {st : Stmt} {f : Addr} {fd : FuncData} {dV : Value} {N ps : List Str} {k : Nat} {body : SF} (F : FunV K dV x qual st f fd) (S : FnScope N ps (defScope st))
    (hb : ∀ (c : C) (cdv : Value) (A : Around) (outer : List Env) (s : Shared) (H : Hp) (E : XK), Room k (A.deeper (envOfC qual (defScope st) s.heap.objs.size f cdv)) →
      PSs (cxOf CX0 P w K mg base N qual (defScope st) f cdv A outer s H E).nox (defBody st) (tS K c body)) : FnOk P w K mg base CX0 (k + 1) f fd ps (spP K ps.length (fnOf N.length ps.length body)) := by
  obtain ⟨oc, od, kV, doc, pm, an, cdv, ct, osl, rfl, lk, hcd⟩ := F.ex
  refine fn_of lk hcd S (fun vs H Q E h => h.1) fun A outer s H vs Q E hr hsp => ?_
  obtain ⟨t, h, q⟩ := body_ok S hb cdv A outer s H vs Q E hr hsp
  exact ⟨t, h.nox, q⟩
theorem FunV.binds {K : PySem.W.Frag} {x qual : Str} {st : Stmt} {f : Addr} {fd : FuncData} {ps : List Str} (F : FunV K .none x qual st f fd)
    (h : ∀ (kV doc pm : Value) (an : Option Addr) (cdv ct : Value) (us : List Value), us.length = ps.length → bindArgs (PySem.W.fnOf x qual (defArgs st) (defBody st) (defScope st) .none kV doc pm an cdv ct) ⟨us, []⟩ = pure (ps.zip us)) : Binds K fd ps [] := by
  obtain ⟨oc, od, kV, doc, pm, an, cdv, ct, osl, rfl, lk, hcd⟩ := F.ex
  exact .all (h kV doc pm an cdv ct)
/-- .. with defaults, all parameters given -/
theorem FunV.binds1 {K : PySem.W.Frag} {T : Addr} {o : Obj} {its : Array Value} {n : Nat} {x qual : Str} {st : Stmt} {f : Addr} {fd : FuncData} {ps : List Str} (F : FunV K (.ref T) x qual st f fd) (lT : K.lookup T = some o) (oT : o.data = .seq its n)
    (h : ∀ (kV doc pm : Value) (an : Option Addr) (cdv ct : Value) (us : List Value), us.length = ps.length → ∃ k, bindArgs (PySem.W.fnOf x qual (defArgs st) (defBody st) (defScope st) (.ref T) kV doc pm an cdv ct) ⟨us, []⟩ = seqItems? (.ref T) >>= k ∧ k (some its) = pure (ps.zip us)) : Binds K fd ps [] := by
  obtain ⟨oc, od, kV, doc, pm, an, cdv, ct, osl, rfl, lk, hcd⟩ := F.ex
  intro s us X hl
  rw [List.append_nil] at hl ⊢
  obtain ⟨k, e, hk⟩ := h kV doc pm an cdv ct us hl
  refine BindsTo.of_looks fun M => ?_
  rw [e]
  exact looks_items X lT oT (PySem.W.Looks.of_pure hk)
theorem funV_mk {K : PySem.W.Frag} {x qual : Str} {st : Stmt} {f : Addr} {oc dV : Value} {od an : Option Addr} {osl : Array (Option Value)} {kV doc pm cdv ct : Value} (l : K.lookup f = some ⟨oc, od, .func (PySem.W.fnOf x qual (defArgs st) (defBody st) (defScope st) dV kV doc pm an cdv ct), osl⟩)
    (c : PySem.W.codeIn K cdv qual = true) (k : PySem.W.keepIn K (.ref f) = true) : FunV K dV x qual st f (PySem.W.fnOf x qual (defArgs st) (defBody st) (defScope st) dV kV doc pm an cdv ct) := ⟨⟨oc, od, kV, doc, pm, an, cdv, ct, osl, rfl, l, c⟩, k⟩
/-- a def that keeps its plain reading stands behind a name -/
def Has (P : Program) (w : World) (K : PySem.W.Frag) (mg : Str → Option Value) (base : Heap) (x : Str) (k : Nat) (ps : List Str) (fn : FnD) : Prop :=
  ∃ f fd, mg x = some (.ref f) ∧ PySem.W.keepIn K (.ref f) = true ∧ Binds K fd ps [] ∧ (∀ ds S, ds.length ≠ ps.length → fn ds S = .bad) ∧ FnOk P w K mg base CX0 k f fd ps (spP K ps.length fn)
section
variable {X : Cx} {c : C} {e : Expr} {es : List Expr} {x : Str} {p pos : Pos} {k : Nat} {ps : List Str} {fn : FnD} {a : AF}
theorem pe_eHas (h : Has X.prog X.w X.K X.mg X.base x k ps fn) (hr : Room k X.A) (hg : Gl X x)
    (ha : PA X (e :: es) (tA X.K c a)) (hdb : (x == ("__debug__" : Str)) = false := by decide) (he : starEach (e :: es) X.env = (false, eval e X.env) :: starEach es X.env := by rfl) (hpl : (backTo pos (starEach es X.env)).any (·.1) = false := by rfl) :
    PE X (.Call (.Name x p) (e :: es) [] pos) (tE X.K c (eCall fn a)) := by
  obtain ⟨f, fd, hm, hk, hb, hn, F⟩ := h
  exact pe_eCall F hn hr hg hm hk hb ha hdb he hpl
end
theorem has_mk {P : Program} {w : World} {K : PySem.W.Frag} {mg : Str → Option Value} {base : Heap} {x qual : Str} {st : Stmt} {f : Addr} {fd : FuncData} {n k : Nat} {dV : Value} {ps : List Str} {b : SF} (F : FunV K dV x qual st f fd) (hm : mg x = some (.ref f)) (hb : Binds K fd ps [])
    (h : FnOk P w K mg base CX0 k f fd ps (spP K ps.length (fnOf n ps.length b))) : Has P w K mg base x k ps (fnOf n ps.length b) := ⟨f, fd, hm, F.kp, hb, fnOf_len, h⟩
/-- the law's stream is made of the script -/
def spStream (K : PySem.W.Frag) : Sp := fun vs H Q _ => ∃ (a : Addr) (ns : List Int), vs = [.ref a] ∧ SqL K H a (ns.map V.int) ∧ ns.length ≤ 63 ∧
  ∀ sa ca H', Same H H' → sa ≠ ca → H' ca = some (.lst (ns.map V.int)) → H' sa = some (.dK (stmKvs ca ⟨ns, 0, 0, 40503⟩)) → Q (.ref sa) H'
def spLaw (K : PySem.W.Frag) : Sp := fun vs H Q _ => ∃ (a : Addr) (ns : List Int), vs = [.ref a] ∧ SqL K H a (ns.map V.int) ∧ ns.length ≤ 63 ∧ (∀ z ∈ ns, Builtin.Int.intBits z ≤ 1048576) ∧ ∀ H', Q (.bl true) H'
theorem cut_all (ns : List Int) (h : ns.length ≤ 63) : cutV (ns.map V.int) none (some 63) = ns.map V.int := by
  unfold cutV
  rw [HT.sIx_none, show (some 63 : Option Int) = some ((63 : Nat) : Int) from rfl, HT.sIx_nat]
  rw [List.length_map, Nat.min_eq_right h, Nat.sub_zero, List.drop_zero, List.take_of_length_le (by simp)]
/-- the reading of its body -/
theorem stream_read {K : PySem.W.Frag} {H : Hp} {a : Addr} {ns : List Int} {Q : VK} {g : TG} {te : TE} {σ0 : St} (hg : g = gName 1) (hσ : σ0 = [some (.ref a), none])
    (hte : ∀ (σ : St) (H : Hp) (R : VK) (z : Int), σ[1]? = some (some (.int z)) → R (.int z) H → te σ H R)
    (hS : SqL K H a (ns.map V.int)) (hlen : ns.length ≤ 63) (k : ∀ sa ca H', Same H H' → sa ≠ ca → H' ca = some (.lst (ns.map V.int)) → H' sa = some (.dK (stmKvs ca ⟨ns, 0, 0, 40503⟩)) → Q (.ref sa) H') :
    tDisp [(tC (.str "cells"), tLc (iList K (tSl (rSlL K) (tVar 0) tNoPart (tPart (tC (.int 63))))) g tYes te [1]), (tC (.str "at"), tC (.int 0)), (tC (.str "rest"), tC (.int 0)), (tC (.str "mixed"), tC (.int 40503))] σ0 H Q := by
  subst hg hσ
  intro p np
  refine ⟨_, rfl, 63, rfl, a, ns.map V.int, rfl, Same.seq (same_upd np) hS, fun b nb => ?_⟩
  refine ⟨b, rfl, ⟨_, .of upd_same⟩, fun D0 nD => ?_⟩
  rw [cut_all ns hlen] at nD ⊢
  have npb : p ≠ b := fun z => by subst z; rw [upd_same] at nb; cases nb
  have bD : b ≠ D0 := fun z => by subst z; rw [upd_same] at nD; cases nD
  have pD : p ≠ D0 := fun z => by subst z; rw [upd_ne npb, upd_same] at nD; cases nD
  have hz : (63 : Nat) < sizeLine := by rw [sizeLine_eq]; decide
  refine lc_list (K := K) (a := b) (xs := ns.map V.int) (fun i H' => H' = upd (upd (upd (upd H p (.dK [])) b (.lst (ns.map V.int))) D0 (.lst [])) D0 (.lst ((ns.take i).map V.int)))
    (by simp [upd_upd]) (fun i H' _ e => by subst e; exact .of (by rw [upd_ne bD, upd_ne bD, upd_same])) (fun i y H' hy e => ?_) (fun H' e => ?_)
  · subst e
    rw [List.getElem?_map] at hy
    cases q : ns[i]? with
    | none => rw [q] at hy; cases hy
    | some z =>
      rw [q] at hy
      cases hy
      have hil := (List.getElem?_eq_some_iff.mp q).1
      refine ⟨rfl, ?_⟩
      unfold tYes
      dsimp only
      rw [if_pos rfl]
      refine hte _ _ _ z rfl ⟨_, upd_same, ?_, ?_⟩
      · rw [List.length_map, List.length_take]; omega
      · rw [upd_upd]
        rw [List.take_succ, q, List.map_append]
        rfl
  · subst e
    rw [List.length_map, List.take_length]
    refine ⟨by rw [upd_ne pD, upd_ne pD, upd_ne npb, upd_same], stmKvs D0 ⟨ns, 0, 0, 40503⟩, rfl, (by show 4 ≤ 15; decide), ?_⟩
    rw [merge_stm]
    refine k p D0 _ (fun c o h => ?_) pD (by rw [upd_ne (Ne.symm pD), upd_same]) upd_same
    have c1 : c ≠ p := ne_of_none h np
    have n2 : H b = none := by
      cases q : H b with
      | none => rfl
      | some o => rw [upd_ne (Ne.symm npb), q] at nb; cases nb
    have n3 : H D0 = none := by
      cases q : H D0 with
      | none => rfl
      | some o => rw [upd_ne (Ne.symm bD), upd_ne (Ne.symm pD), q] at nD; cases nD
    have c2 : c ≠ b := ne_of_none h n2
    have c3 : c ≠ D0 := ne_of_none h n3
    rw [upd_ne c1, upd_ne c3, upd_ne c3, upd_ne c2, upd_ne c1]
    exact h
/-- the law's own body, behind its first row -/
theorem law_rest {K : PySem.W.Frag} {N : List Str} {a sa ca : Addr} {ns : List Int} {H : Hp} {Q : VK} {b : SF} {c : C} (hc : c = ⟨⟨some sa, upd (fun _ => none) ca (.lst (ns.map V.int)), H⟩, fun _ _ _ _ => False⟩)
    (hne : sa ≠ ca) (hca : H ca = some (.lst (ns.map V.int))) (hsa : H sa = some (.dK (stmKvs ca ⟨ns, 0, 0, 40503⟩))) (n : Nat) (hN : N.length = n + 2)
    (hb : ∃ S', b (.no :: .pv .stm :: List.replicate n .no) ⟨ns, 0, 0, 40503⟩ = .ok (.rt (.bl true)) S') (k : ∀ H', Q (.bl true) H') (σ : St) (hσ : σ = (start N [.ref a]).set 1 (some (.ref sa))) :
    tS K c b { nx := fun _ H' => Q .non H', rt := Q } σ H := by
  subst hc hσ
  obtain ⟨S', e⟩ := hb
  refine ⟨upd (fun _ => none) ca (.lst (ns.map V.int)), _, ⟨ns, 0, 0, 40503⟩, ⟨⟨fun x o h => ?_, fun x hx => ?_⟩, .refl _ _ _, ?_, fun i x y h1 h2 => ?_, fun i j x es fs hij h1 _ _ => ?_⟩, by rw [e]; exact fun v G' H' _ _ _ r => by cases r; exact k H'⟩
  · by_cases z : x = ca
    · subst z; rw [upd_same] at h; cases h; exact hca
    · rw [upd_ne z] at h; cases h
  · cases hx
    exact ⟨by rw [upd_ne hne], ca, upd_same, hsa⟩
  · simp [start, hN]
  · match i, h1, h2 with
    | 0, h1, h2 => cases h2; exact .no _
    | 1, h1, h2 =>
      cases h2
      have : x = some (.ref sa) := by
        simp [start, hN, List.getElem?_set] at h1
        exact h1.symm
      subst this
      exact .pv (.stm rfl)
    | i + 2, h1, h2 =>
      have : y = .no := by
        have h2' : (List.replicate n Sl.no)[i]? = some y := by simpa using h2
        exact List.eq_of_mem_replicate (List.mem_of_getElem? h2')
      subst this
      exact .no _
  · match i, h1 with
    | 0, h1 => cases h1
    | 1, h1 => cases h1
    | i + 2, h1 =>
      have h2' : (List.replicate n Sl.no)[i]? = some (.ow es) := by simpa using h1
      exact nomatch List.eq_of_mem_replicate (List.mem_of_getElem? h2')
theorem pss_ex {X : Cx} {sts : List Stmt} {b : SF} (h : ∀ c : C, PSs X sts (tS X.K c b)) : PSs X sts (fun D σ H => ∃ c : C, tS X.K c b D σ H) := ⟨fun pins s σ H D I q => by
  obtain ⟨c, q⟩ := q
  exact (h c).run pins s σ H D I q⟩
end L2.PL
namespace L2.PL.Lib
open PySem PySem.Spec L2 L2.PL
/-! plain readings of small defs that many laws share (printed by gen.py --lib) -/
noncomputable def b_common : SF := sSeq (sAsg (gSet 0) (eApp bAbs (aCons (eVar 0) (aNil)))) (sSeq (sAsg (gSet 1) (eApp bAbs (aCons (eVar 1) (aNil)))) (sSeq (sWhile (tOfE (eBin (oCmp (fun i j => decide (j < i))) (eVar 1) (eC (.int 0)))) (sPar 0 1 (aCons (eVar 1) (aCons (eBin oMod (eVar 0) (eVar 1)) (aNil))))) (sRet (eVar 0))))
noncomputable def fn_common : FnD := fnOf 2 2 b_common
noncomputable def b_fraction : SF := sSeq (sIf (tOfE (eBin (oEq) (eVar 1) (eC (.int 0)))) (sNever) (sNext)) (sSeq (sAsg (gSet 2) (eCall fn_common (aCons (eVar 0) (aCons (eVar 1) (aNil))))) (sSeq (sIf (tOfE (eBin (oCmp (fun i j => decide (i < j))) (eVar 1) (eC (.int 0)))) (sAsg (gSet 2) (eUn uNeg (eVar 2))) (sNext)) (sRet (eTup (aCons (eBin oDiv (eVar 0) (eVar 2)) (aCons (eBin oDiv (eVar 1) (eVar 2)) (aNil)))))))
noncomputable def fn_fraction : FnD := fnOf 3 2 b_fraction
noncomputable def b_minus : SF := sRet (eCall fn_fraction (aCons (eBin oSub (eBin oMul (eBin oIx (eVar 0) (eC (.int 0))) (eBin oIx (eVar 1) (eC (.int 1)))) (eBin oMul (eBin oIx (eVar 1) (eC (.int 0))) (eBin oIx (eVar 0) (eC (.int 1))))) (aCons (eBin oMul (eBin oIx (eVar 0) (eC (.int 1))) (eBin oIx (eVar 1) (eC (.int 1)))) (aNil))))
noncomputable def fn_minus : FnD := fnOf 2 2 b_minus
noncomputable def b_times : SF := sRet (eCall fn_fraction (aCons (eBin oMul (eBin oIx (eVar 0) (eC (.int 0))) (eBin oIx (eVar 1) (eC (.int 0)))) (aCons (eBin oMul (eBin oIx (eVar 0) (eC (.int 1))) (eBin oIx (eVar 1) (eC (.int 1)))) (aNil))))
noncomputable def fn_times : FnD := fnOf 2 2 b_times
noncomputable def b_over : SF := sRet (eCall fn_fraction (aCons (eBin oMul (eBin oIx (eVar 0) (eC (.int 0))) (eBin oIx (eVar 1) (eC (.int 1)))) (aCons (eBin oMul (eBin oIx (eVar 0) (eC (.int 1))) (eBin oIx (eVar 1) (eC (.int 0)))) (aNil))))
noncomputable def fn_over : FnD := fnOf 2 2 b_over
noncomputable def b__law_f : SF := sSeq (sIf (tOfE (eBin (oCmp (fun i j => decide (i < j))) (eVar 1) (eC (.int 0)))) (sPar 0 1 (aCons (eUn uNeg (eVar 0)) (aCons (eUn uNeg (eVar 1)) (aNil)))) (sNext)) (sSeq (sPar 2 3 (aCons (eApp bAbs (aCons (eVar 0) (aNil))) (aCons (eVar 1) (aNil)))) (sSeq (sFor (iRange1 (aCons (eC (.int 400)) (aNil))) (gSet 4) (sSeq (sIf (tOfE (eBin (oEq) (eVar 3) (eC (.int 0)))) (sBreak) (sNext)) (sPar 2 3 (aCons (eVar 3) (aCons (eBin oMod (eApp bInt (aCons (eVar 2) (aNil))) (eVar 3)) (aNil)))))) (sRet (eTup (aCons (eBin oDiv (eVar 0) (eVar 2)) (aCons (eBin oDiv (eVar 1) (eVar 2)) (aNil)))))))
noncomputable def fn__law_f : FnD := fnOf 5 2 b__law_f
noncomputable def b__law_sum : SF := sRet (eCall fn__law_f (aCons (eBin oAdd (eBin oMul (eBin oIx (eVar 0) (eC (.int 0))) (eBin oIx (eVar 1) (eC (.int 1)))) (eBin oMul (eBin oIx (eVar 1) (eC (.int 0))) (eBin oIx (eVar 0) (eC (.int 1))))) (aCons (eBin oMul (eBin oIx (eVar 0) (eC (.int 1))) (eBin oIx (eVar 1) (eC (.int 1)))) (aNil))))
noncomputable def fn__law_sum : FnD := fnOf 2 2 b__law_sum
noncomputable def b__law_less_by : SF := sRet (eCall fn__law_f (aCons (eBin oSub (eBin oMul (eBin oIx (eVar 0) (eC (.int 0))) (eBin oIx (eVar 1) (eC (.int 1)))) (eBin oMul (eBin oIx (eVar 1) (eC (.int 0))) (eBin oIx (eVar 0) (eC (.int 1))))) (aCons (eBin oMul (eBin oIx (eVar 0) (eC (.int 1))) (eBin oIx (eVar 1) (eC (.int 1)))) (aNil))))
noncomputable def fn__law_less_by : FnD := fnOf 2 2 b__law_less_by
noncomputable def b__law_times : SF := sRet (eCall fn__law_f (aCons (eBin oMul (eBin oIx (eVar 0) (eC (.int 0))) (eBin oIx (eVar 1) (eC (.int 0)))) (aCons (eBin oMul (eBin oIx (eVar 0) (eC (.int 1))) (eBin oIx (eVar 1) (eC (.int 1)))) (aNil))))
noncomputable def fn__law_times : FnD := fnOf 2 2 b__law_times
noncomputable def b__law_part : SF := sRet (eCall fn__law_f (aCons (eBin oMul (eBin oIx (eVar 0) (eC (.int 0))) (eBin oIx (eVar 1) (eC (.int 1)))) (aCons (eBin oMul (eBin oIx (eVar 0) (eC (.int 1))) (eBin oIx (eVar 1) (eC (.int 0)))) (aNil))))
noncomputable def fn__law_part : FnD := fnOf 2 2 b__law_part
noncomputable def b__law_fresh : SF := sSeq (sAsg (gSet 1) (eCells 0)) (sSeq (sAsg (gSet 2) (eStm 0 .place)) (sSeq (sAsg (gSet 3) (eVar 2)) (sSeq (sIf (tOfE (eBin (oCmp (fun i j => decide (i < j))) (eVar 2) (eApp bLen (aCons (eVar 1) (aNil))))) (sAsg (gSet 3) (eBin oIx (eVar 1) (eVar 2))) (sNext)) (sSeq (sIf (tOfE (eBin (oCmp (fun i j => decide (i < j))) (eVar 3) (eC (.int 0)))) (sAsg (gSet 3) (eBin oSub (eBin oSub (eC (.int 0)) (eBin oMul (eC (.int 2)) (eVar 3))) (eC (.int 1)))) (sNext)) (sSeq (sStm 0 .place (eBin oAdd (eVar 2) (eC (.int 1)))) (sSeq (sIf (tOfE (eBin (oCmp (fun i j => decide (j ≤ i))) (eVar 3) (eC (.int 1000000000000000000)))) (sSeq (sStm 0 .rest (eVar 3)) (sRetN)) (sNext)) (sSeq (sAsg (gSet 4) (eC (.int 2305843009213693951))) (sSeq (sAsg (gSet 5) (eBin oMod (eApp bInt (aCons (eBin oAdd (eBin oAdd (eBin oAdd (eBin oMul (eVar 3) (eC (.int 6364136223846793005))) (eStm 0 .mixed)) (eBin oMul (eVar 2) (eC (.int 104729)))) (eC (.int 77))) (aNil))) (eVar 4))) (sSeq (sAsg (gSet 6) (eBin oMod (eApp bInt (aCons (eBin oAdd (eBin oAdd (eBin oMul (eVar 5) (eVar 5)) (eBin oMul (eC (.int 1013)) (eVar 5))) (eVar 2)) (aNil))) (eVar 4))) (sSeq (sAsg (gSet 7) (eBin oMod (eApp bInt (aCons (eBin oAdd (eBin oAdd (eBin oMul (eVar 6) (eC (.int 48271))) (eBin oMul (eVar 5) (eC (.int 31)))) (eC (.int 9))) (aNil))) (eVar 4))) (sSeq (sAsg (gSet 8) (eBin oMod (eApp bInt (aCons (eBin oAdd (eBin oMul (eVar 7) (eVar 7)) (eVar 6)) (aNil))) (eVar 4))) (sSeq (sStm 0 .mixed (eVar 7)) (sStm 0 .rest (eBin oAdd (eBin oMul (eBin oAdd (eBin oMul (eVar 8) (eVar 4)) (eVar 7)) (eVar 4)) (eVar 6)))))))))))))))
noncomputable def fn__law_fresh : FnD := fnOf 9 1 b__law_fresh
noncomputable def b__law_pick : SF := sSeq (sIf (tOfE (eBin (oCmp (fun i j => decide (i < j))) (eStm 0 .rest) (eVar 1))) (sDrop (eCall fn__law_fresh (aCons (eVar 0) (aNil)))) (sNext)) (sSeq (sAsg (gSet 2) (eBin oMod (eApp bInt (aCons (eStm 0 .rest) (aNil))) (eVar 1))) (sSeq (sStm 0 .rest (eBin oDiv (eStm 0 .rest) (eVar 1))) (sRet (eVar 2))))
noncomputable def fn__law_pick : FnD := fnOf 3 2 b__law_pick
noncomputable def b_plus : SF := sRet (eCall fn_fraction (aCons (eBin oAdd (eBin oMul (eBin oIx (eVar 0) (eC (.int 0))) (eBin oIx (eVar 1) (eC (.int 1)))) (eBin oMul (eBin oIx (eVar 1) (eC (.int 0))) (eBin oIx (eVar 0) (eC (.int 1))))) (aCons (eBin oMul (eBin oIx (eVar 0) (eC (.int 1))) (eBin oIx (eVar 1) (eC (.int 1)))) (aNil))))
noncomputable def fn_plus : FnD := fnOf 2 2 b_plus
noncomputable def b_negative : SF := sRet (eTup (aCons (eUn uNeg (eBin oIx (eVar 0) (eC (.int 0)))) (aCons (eBin oIx (eVar 0) (eC (.int 1))) (aNil))))
noncomputable def fn_negative : FnD := fnOf 1 1 b_negative
end L2.PL.Lib
/-! what the combinators give, for simp -/
namespace L2.PL
open PySem PySem.Spec L2
section
variable {ρ : List Sl} {S S' : Stm}
@[simp] theorem eVar_s (i : Nat) : eVar i ρ S = match ρ[i]? with | some (.pv d) => .ok d S | _ => .bad := rfl
@[simp] theorem eC_s (d : D) : eC d ρ S = .ok d S := rfl
@[simp] theorem eBin_s (o : O2) (f g : EF) : eBin o f g ρ S = (f ρ S).bind fun x S1 => (g ρ S1).bind fun y S2 => o x y S2 := rfl
@[simp] theorem eUn_s (o : D → Stm → Res D) (f : EF) : eUn o f ρ S = (f ρ S).bind fun x S1 => o x S1 := rfl
@[simp] theorem tOfE_s (f : EF) : tOfE f ρ S = (f ρ S).bind fun d S1 => match d with | .bl b => .ok b S1 | _ => .bad := rfl
@[simp] theorem tfAnd_s (f g : TF) : tfAnd f g ρ S = (f ρ S).bind fun b S1 => if b = true then g ρ S1 else .ok false S1 := rfl
@[simp] theorem tfOr_s (f g : TF) : tfOr f g ρ S = (f ρ S).bind fun b S1 => if b = true then .ok true S1 else g ρ S1 := rfl
@[simp] theorem tfNot_s (f : TF) : tfNot f ρ S = (f ρ S).bind fun b S1 => .ok (!b) S1 := rfl
@[simp] theorem tfYes_s : tfYes ρ S = .ok true S := rfl
@[simp] theorem eAnd_s (f g : EF) : eAnd f g ρ S = (f ρ S).bind fun d S1 => match d with | .bl b => if b = true then g ρ S1 else .ok (.bl false) S1 | _ => .bad := rfl
@[simp] theorem eOr_s (f g : EF) : eOr f g ρ S = (f ρ S).bind fun d S1 => match d with | .bl b => if b = true then .ok (.bl true) S1 else g ρ S1 | _ => .bad := rfl
@[simp] theorem eNot_s (f : EF) : eNot f ρ S = (f ρ S).bind fun d S1 => match d with | .bl b => .ok (.bl (!b)) S1 | _ => .bad := rfl
@[simp] theorem eIf_s (t : TF) (f g : EF) : eIf t f g ρ S = (t ρ S).bind fun b S1 => if b = true then f ρ S1 else g ρ S1 := rfl
@[simp] theorem aNil_s : aNil ρ S = .ok [] S := rfl
@[simp] theorem aCons_s (f : EF) (g : AF) : aCons f g ρ S = (f ρ S).bind fun x S1 => (g ρ S1).bind fun xs S2 => .ok (x :: xs) S2 := rfl
@[simp] theorem eTup_s (f : AF) : eTup f ρ S = (f ρ S).bind fun ds S1 => iteC (ds.length ≤ sizeLine) (.ok (.tup ds) S1) .bad := rfl
@[simp] theorem fLst_s (f : AF) : fLst f ρ S = (f ρ S).bind fun ds S1 => iteC (ds.length ≤ sizeLine) (.ok ds S1) .bad := rfl
@[simp] theorem eFrz_s (f : AF) : eFrz f ρ S = (f ρ S).bind fun ds S1 => .ok (.lst ds) S1 := rfl
@[simp] theorem eApp_s (o : List D → Stm → Res D) (f : AF) : eApp o f ρ S = (f ρ S).bind fun ds S1 => o ds S1 := rfl
@[simp] theorem eCall_s (fn : FnD) (f : AF) : eCall fn f ρ S = (f ρ S).bind fun ds S1 => (fn ds S1).noex := rfl
@[simp] theorem noex_ok {α : Type} (a : α) : (Res.ok a S).noex = .ok a S := rfl
@[simp] theorem noex_bad {α : Type} : (Res.bad : Res α).noex = .bad := rfl
@[simp] theorem noex_ex {α : Type} (x : D) : (Res.ex x S : Res α).noex = .bad := rfl
@[simp] theorem fListOf_s (f : AF) : fListOf f ρ S = (f ρ S).bind fun d S1 => match d with | [.lst xs] => .ok xs S1 | [.tup xs] => .ok xs S1 | _ => .bad := rfl
@[simp] theorem fRep_s (f g : EF) : fRep f g ρ S = (f ρ S).bind fun x S1 => (g ρ S1).bind fun y S2 => match x, y with
  | .lst xs, .int k => iteC (-9223372036854775808 ≤ k ∧ k < 9223372036854775808 ∧ xs.length * k.toNat ≤ sizeLine) (.ok (List.replicate k.toNat xs).flatten S2) .bad
  | _, _ => .bad := rfl
@[simp] theorem oNone_s : oNone ρ S = .ok none S := rfl
@[simp] theorem oSome_s (f : EF) : oSome f ρ S = (f ρ S).bind fun d S1 => match d with | .int i => .ok (some i) S1 | _ => .bad := rfl
@[simp] theorem fSlice_s (f : EF) (g h : OF) : fSlice f g h ρ S = (f ρ S).bind fun x S1 => (g ρ S1).bind fun lo S2 => (h ρ S2).bind fun hi S3 => match x with | .lst xs => .ok (cutD xs lo hi) S3 | _ => .bad := rfl
@[simp] theorem gSet_s (i : Nat) (d : D) : gSet i d ρ = some (ρ.set i (.pv d)) := rfl
@[simp] theorem gTupF_t (gs : List GFn) (ds : List D) : gTupF gs (.tup ds) ρ = gAll gs ds ρ := rfl
@[simp] theorem gAll_nil : gAll [] [] ρ = some ρ := rfl
@[simp] theorem gAll_cons (g : GFn) (gs : List GFn) (d : D) (ds : List D) : gAll (g :: gs) (d :: ds) ρ = (g d ρ).bind (gAll gs ds) := rfl
@[simp] theorem iSeq_s (f : EF) : iSeq f ρ S = (f ρ S).bind fun d S1 => match d with | .lst xs => .ok xs S1 | _ => .bad := rfl
@[simp] theorem iTupF_s (f : EF) : iTupF f ρ S = (f ρ S).bind fun d S1 => match d with | .tup xs => .ok xs S1 | _ => .bad := rfl
@[simp] theorem iRange1_s (f : AF) : iRange1 f ρ S = (f ρ S).bind fun d S1 => match d with | [.int j] => iteC (-4611686018427387904 ≤ j ∧ j < 4611686018427387904) (.ok (rangeD 0 j.toNat) S1) .bad | _ => .bad := rfl
@[simp] theorem iRange2_s (f : AF) : iRange2 f ρ S = (f ρ S).bind fun d S1 => match d with | [.int i, .int j] => iteC (-4611686018427387904 ≤ i ∧ i < 4611686018427387904 ∧ -4611686018427387904 ≤ j ∧ j < 4611686018427387904) (.ok (rangeD i (j - i).toNat) S1) .bad | _ => .bad := rfl
@[simp] theorem sSeq_s (f g : SF) : sSeq f g ρ S = (f ρ S).bind fun o S1 => match o with | .nx ρ1 => g ρ1 S1 | o => .ok o S1 := rfl
@[simp] theorem sNext_s : sNext ρ S = .ok (.nx ρ) S := rfl
@[simp] theorem sBreak_s : sBreak ρ S = .ok (.bk ρ) S := rfl
@[simp] theorem sCont_s : sCont ρ S = .ok (.ct ρ) S := rfl
@[simp] theorem sNever_s : sNever ρ S = .bad := rfl
@[simp] theorem sRet_s (f : EF) : sRet f ρ S = (f ρ S).bind fun d S1 => .ok (.rt d) S1 := rfl
@[simp] theorem sRetN_s : sRetN ρ S = .ok (.rt .non) S := rfl
@[simp] theorem sDrop_s (f : EF) : sDrop f ρ S = (f ρ S).bind fun _ S1 => .ok (.nx ρ) S1 := rfl
@[simp] theorem sIf_s (t : TF) (f g : SF) : sIf t f g ρ S = (t ρ S).bind fun b S1 => if b = true then f ρ S1 else g ρ S1 := rfl
@[simp] theorem sAsg_s (t : GFn) (f : EF) : sAsg t f ρ S = (f ρ S).bind fun d S1 => match t d ρ with | some ρ1 => .ok (.nx ρ1) S1 | none => .bad := rfl
@[simp] theorem sPar_s (i j : Nat) (f : AF) : sPar i j f ρ S = (f ρ S).bind fun ds S1 => match ds with | [d, e] => .ok (.nx ((ρ.set i (.pv d)).set j (.pv e))) S1 | _ => .bad := rfl
@[simp] theorem sOwn_s (i : Nat) (f : AF) : sOwn i f ρ S = (f ρ S).bind fun ds S1 => .ok (.nx (ρ.set i (.ow ds))) S1 := rfl
@[simp] theorem sApp_s (i : Nat) (f : EF) : sApp i f ρ S = match ρ[i]? with
  | some (.ow ds) => (f ρ S).bind fun d S1 => iteC (ds.length < sizeLine) (.ok (.nx (ρ.set i (.ow (ds ++ [d])))) S1) .bad
  | _ => .bad := rfl
@[simp] theorem sPut_s (i : Nat) (f g : EF) : sPut i f g ρ S = match ρ[i]? with
  | some (.ow ds) => (g ρ S).bind fun d S1 => (f ρ S1).bind fun k S2 => match k with
    | .int z => (match ixN ds.length z with | some j => .ok (.nx (ρ.set i (.ow (ds.set j d)))) S2 | none => .bad)
    | _ => .bad
  | _ => .bad := rfl
@[simp] theorem sFrz_s (i : Nat) (f : SF) : sFrz i f ρ S = match ρ[i]? with | some (.ow ds) => f (ρ.set i (.pv (.lst ds))) S | _ => f ρ S := rfl
@[simp] theorem eLenOw_s (i : Nat) : eLenOw i ρ S = match ρ[i]? with | some (.ow ds) => .ok (.int ds.length) S | _ => .bad := rfl
@[simp] theorem eIxOw_s (i : Nat) (f : EF) : eIxOw i f ρ S = match ρ[i]? with
  | some (.ow ds) => (f ρ S).bind fun k S1 => match k with
    | .int z => (match atI ds z with | some d => .ok d S1 | none => .bad)
    | _ => .bad
  | _ => .bad := rfl
@[simp] theorem eStm_s (i : Nat) (k : SKey) : eStm i k ρ S = match ρ[i]? with | some (.pv .stm) => .ok (.int (k.get S)) S | _ => .bad := rfl
@[simp] theorem eCells_s (i : Nat) : eCells i ρ S = match ρ[i]? with | some (.pv .stm) => .ok (.lst (S.cells.map D.int)) S | _ => .bad := rfl
@[simp] theorem sStm_s (i : Nat) (k : SKey) (f : EF) : sStm i k f ρ S = match ρ[i]? with | some (.pv .stm) => ((f ρ S).bind fun d S1 => match d with | .int z => .ok (.nx ρ) (k.put z S1) | _ => .bad) | _ => .bad := rfl
@[simp] theorem sFor_s (it : AF) (t : GFn) (b : SF) : sFor it t b ρ S = (it ρ S).bind fun ds S1 => forL t b ds ρ S1 := rfl
@[simp] theorem fComp_s (vs : List Nat) (it : AF) (t : GFn) (tf : TF) (ef : EF) : fComp vs it t tf ef ρ S = (it ρ S).bind fun ds S1 => compL t tf ef (wipeR ρ vs) ds S1 [] := rfl
@[simp] theorem wipeR_nil : wipeR ρ [] = ρ := rfl
@[simp] theorem wipeR_cons (v : Nat) (vs : List Nat) : wipeR ρ (v :: vs) = (wipeR ρ vs).set v .no := rfl
@[simp] theorem fnEnd_rt (d : D) : fnEnd (.ok (.rt d) S) = .ok d S := rfl
@[simp] theorem fnEnd_nx (d : List Sl) : fnEnd (.ok (.nx d) S) = .ok .non S := rfl
/-! operations -/
@[simp] theorem oAdd_i (i j : Int) : oAdd (.int i) (.int j) S = .ok (.int (i + j)) S := rfl
@[simp] theorem oAdd_l (xs ys : List D) : oAdd (.lst xs) (.lst ys) S = iteC (xs.length + ys.length ≤ sizeLine) (.ok (.lst (xs ++ ys)) S) .bad := rfl
@[simp] theorem oAdd_t (x : D) (xs ys : List D) : oAdd (.tup (x :: xs)) (.tup ys) S = iteC ((x :: xs).length + ys.length ≤ sizeLine) (.ok (.tup ((x :: xs) ++ ys)) S) .bad := rfl
@[simp] theorem oSub_i (i j : Int) : oSub (.int i) (.int j) S = .ok (.int (i - j)) S := rfl
@[simp] theorem oMul_i (i j : Int) : oMul (.int i) (.int j) S = iteC (i.natAbs.log2 + j.natAbs.log2 < 100000000) (.ok (.int (i * j)) S) .bad := rfl
@[simp] theorem oDiv_i (i j : Int) : oDiv (.int i) (.int j) S = iteC (j ≠ 0 ∧ j.natAbs.log2 < 9000) (.ok (.int (i.fdiv j)) S) .bad := rfl
@[simp] theorem oMod_i (i j : Int) : oMod (.int i) (.int j) S = iteC (j ≠ 0) (.ok (.int (i.fmod j)) S) .bad := rfl
@[simp] theorem oCmp_i (p : Int → Int → Bool) (i j : Int) : oCmp p (.int i) (.int j) S = .ok (.bl (p i j)) S := rfl
@[simp] theorem uNeg_i (i : Int) : uNeg (.int i) S = .ok (.int (-i)) S := rfl
@[simp] theorem oIsN_n (x : D) : oIsN x .non S = .ok (.bl x.isNon) S := rfl
@[simp] theorem oNotN_n (x : D) : oNotN x .non S = .ok (.bl (!x.isNon)) S := rfl
@[simp] theorem isNon_n : D.isNon .non = true := rfl
@[simp] theorem isNon_i (i : Int) : D.isNon (.int i) = false := rfl
@[simp] theorem isNon_t (ds : List D) : D.isNon (.tup ds) = false := rfl
@[simp] theorem isNon_l (ds : List D) : D.isNon (.lst ds) = false := rfl
@[simp] theorem oIx_t (xs : List D) (i : Int) : oIx (.tup xs) (.int i) S = match atI xs i with | some d => .ok d S | none => .bad := rfl
@[simp] theorem oIx_l (xs : List D) (i : Int) : oIx (.lst xs) (.int i) S = match atI xs i with | some d => .ok d S | none => .bad := rfl
@[simp] theorem bLen_l (xs : List D) : bLen [.lst xs] S = .ok (.int xs.length) S := rfl
@[simp] theorem bLen_t (xs : List D) : bLen [.tup xs] S = .ok (.int xs.length) S := rfl
@[simp] theorem bAbs_i (i : Int) : bAbs [.int i] S = .ok (.int (if i < 0 then -i else i)) S := rfl
@[simp] theorem bInt_i (i : Int) : bInt [.int i] S = .ok (.int i) S := rfl
@[simp] theorem bInt_b (b : Bool) : bInt [.bl b] S = .ok (.int (if b = true then 1 else 0)) S := rfl
@[simp] theorem bTuple_l (xs : List D) : bTuple [.lst xs] S = .ok (.tup xs) S := rfl
@[simp] theorem bTuple_t (xs : List D) : bTuple [.tup xs] S = .ok (.tup xs) S := rfl
/-! places -/
theorem atI_n {α : Type} (xs : List α) (n : Nat) : atI xs (n : Int) = xs[n]? := by
  unfold atI ixN
  rw [if_pos (by omega)]
  by_cases h : (n : Int) < xs.length
  · rw [if_pos h]; simp
  · rw [if_neg h, List.getElem?_eq_none (by omega)]; rfl
@[simp] theorem atI_0 {α : Type} (xs : List α) : atI xs 0 = xs[0]? := atI_n xs 0
@[simp] theorem atI_1 {α : Type} (xs : List α) : atI xs 1 = xs[1]? := atI_n xs 1
@[simp] theorem atI_2 {α : Type} (xs : List α) : atI xs 2 = xs[2]? := atI_n xs 2
@[simp] theorem atI_3 {α : Type} (xs : List α) : atI xs 3 = xs[3]? := atI_n xs 3
/-! equality -/
theorem eqv_int (i j : Int) : D.eqv (.int i) (.int j) = decide (i = j) := by
  show (i == j) = _
  exact Bool.beq_eq_decide_eq i j
theorem shaped_int (i : Int) : SeqAt.shaped (D.int i).py = true := by
  unfold SeqAt.shaped D.py
  simp [PyData.canLay0, PyData.depth]
@[simp] theorem oEq_i (i j : Int) : oEq (.int i) (.int j) S = .ok (.bl (decide (i = j))) S := by
  unfold oEq
  rw [iteC_pos ⟨shaped_int i, shaped_int j⟩, eqv_int]
@[simp] theorem oNe_i (i j : Int) : oNe (.int i) (.int j) S = .ok (.bl (!decide (i = j))) S := by
  unfold oNe
  rw [iteC_pos ⟨shaped_int i, shaped_int j⟩, eqv_int]
@[simp] theorem iteC_eq {α : Type} (P : Prop) (a b : α) : iteC P a b = @ite α P (Classical.propDecidable P) a b := rfl
/-! a comprehension whose element is plain: no stream touched -/
theorem compL_pure {α : Type} {t : GFn} {tf : TF} {ef : EF} {ρ : List Sl} {S : Stm} (enc : α → D) (keep : α → Bool) (val : α → D) :
    ∀ (xs : List α) (acc : List D), acc.length + xs.length ≤ sizeLine → (∀ x ∈ xs, ∃ ρ1, t (enc x) ρ = some ρ1 ∧ tf ρ1 S = .ok (keep x) S ∧ (keep x = true → ef ρ1 S = .ok (val x) S)) →
      compL t tf ef ρ (xs.map enc) S acc = .ok (acc ++ (xs.filter keep).map val) S
  | [], acc, _, _ => by simp [compL]
  | x :: xs, acc, hz, h => by
    obtain ⟨ρ1, h1, h2, h3⟩ := h x (by simp)
    have hz' : acc.length + (xs.length + 1) ≤ sizeLine := by simpa using hz
    rw [List.map_cons, compL, h1]
    simp only [h2, noex_ok, Res.bind_ok]
    cases hk : keep x with
    | true =>
      rw [if_pos rfl, h3 hk]
      simp only [noex_ok, Res.bind_ok]
      rw [iteC_pos (by omega), compL_pure enc keep val xs _ (by simp; omega) (fun y hy => h y (by simp [hy]))]
      simp [List.filter_cons, hk]
    | false =>
      rw [if_neg (by simp), compL_pure enc keep val xs _ (by omega) (fun y hy => h y (by simp [hy]))]
      simp [List.filter_cons, hk]
theorem compL_map {α : Type} {t : GFn} {ef : EF} {ρ : List Sl} {S : Stm} (enc : α → D) (val : α → D) (xs : List α) (hz : xs.length ≤ sizeLine)
    (h : ∀ x ∈ xs, ∃ ρ1, t (enc x) ρ = some ρ1 ∧ ef ρ1 S = .ok (val x) S) : compL t tfYes ef ρ (xs.map enc) S [] = .ok (xs.map val) S := by
  have := compL_pure (tf := tfYes) (ef := ef) (t := t) (ρ := ρ) (S := S) enc (fun _ => true) val xs [] (by simpa using hz) (fun x hx => by
    obtain ⟨ρ1, h1, h2⟩ := h x hx
    exact ⟨ρ1, h1, rfl, fun _ => h2⟩)
  rw [List.filter_eq_self.mpr (by simp)] at this
  simpa using this
/-- .. over range(n) -/
theorem compL_range {t : GFn} {ef : EF} {ρ : List Sl} {S : Stm} (val : Nat → D) (n : Nat) (hz : n ≤ sizeLine)
    (h : ∀ k, k < n → ∃ ρ1, t (.int (k : Int)) ρ = some ρ1 ∧ ef ρ1 S = .ok (val k) S) : compL t tfYes ef ρ (rangeD 0 n) S [] = .ok ((List.range n).map val) S := by
  have e : rangeD 0 n = (List.range n).map fun k => D.int ((k : Nat) : Int) := by
    unfold rangeD; congr 1; funext k; rw [Int.zero_add]
  rw [e]
  exact compL_map (fun k : Nat => D.int (k : Int)) val (List.range n) (by simpa using hz) fun k hk => h k (List.mem_range.mp hk)
theorem compL_rangeIf {t : GFn} {tf : TF} {ef : EF} {ρ : List Sl} {S : Stm} (keep : Nat → Bool) (val : Nat → D) (n : Nat) (hz : n ≤ sizeLine)
    (h : ∀ k, k < n → ∃ ρ1, t (.int (k : Int)) ρ = some ρ1 ∧ tf ρ1 S = .ok (keep k) S ∧ (keep k = true → ef ρ1 S = .ok (val k) S)) : compL t tf ef ρ (rangeD 0 n) S [] = .ok (((List.range n).filter keep).map val) S := by
  have e : rangeD 0 n = (List.range n).map fun k => D.int ((k : Nat) : Int) := by
    unfold rangeD; congr 1; funext k; rw [Int.zero_add]
  rw [e]
  have := compL_pure (tf := tf) (ef := ef) (t := t) (ρ := ρ) (S := S) (fun k : Nat => D.int (k : Int)) keep val (List.range n) [] (by simpa using hz) fun k hk => h k (List.mem_range.mp hk)
  simpa using this
/-! a for loop by an invariant -/
theorem forL_inv {t : GFn} {b : SF} (I : Nat → List Sl → Stm → Prop) {Rr : Res Out → Prop} : ∀ (ds : List D) (i : Nat) (ρ : List Sl) (S : Stm), I i ρ S →
    (∀ (j : Nat) (d : D) ρ S, ds[j]? = some d → I (i + j) ρ S → ∃ ρ1, t d ρ = some ρ1 ∧ ((∃ ρ2 S2, (b ρ1 S = .ok (.nx ρ2) S2 ∨ b ρ1 S = .ok (.ct ρ2) S2) ∧ I (i + j + 1) ρ2 S2) ∨ (∃ ρ2 S2, b ρ1 S = .ok (.bk ρ2) S2 ∧ Rr (.ok (.nx ρ2) S2)) ∨ ∃ d S2, b ρ1 S = .ok (.rt d) S2 ∧ Rr (.ok (.rt d) S2))) →
    (∀ ρ S, I (i + ds.length) ρ S → Rr (.ok (.nx ρ) S)) → Rr (forL t b ds ρ S)
  | [], i, ρ, S, h, _, he => by unfold forL; exact he ρ S h
  | d :: ds, i, ρ, S, h, hs, he => by
    obtain ⟨ρ1, h1, h2⟩ := hs 0 d ρ S rfl h
    unfold forL
    rw [h1]
    dsimp only
    rcases h2 with ⟨ρ2, S2, e, hI⟩ | ⟨ρ2, S2, e, hR⟩ | ⟨r, S2, e, hR⟩
    · have rest := forL_inv I ds (i + 1) ρ2 S2 hI (fun j d' ρ' S' hd hI' => by
        have := hs (j + 1) d' ρ' S' (by simpa using hd) (by rw [show i + (j + 1) = i + 1 + j by omega]; exact hI')
        rw [show i + (j + 1) + 1 = i + 1 + j + 1 by omega] at this
        exact this) (fun ρ' S' hI' => he ρ' S' (by rw [show i + (d :: ds).length = i + 1 + ds.length by simp; omega]; exact hI'))
      rcases e with e | e <;> (rw [e]; exact rest)
    · rw [e]; exact hR
    · rw [e]; exact hR
end
end L2.PL
/-! fractions: the shared small defs of numbers, and the stream's digits -/
namespace L2.PL
open PySem PySem.Spec L2
theorem mul_ok {i j : Int} (a b : Nat) (ha : i.natAbs < 2 ^ a) (hb : j.natAbs < 2 ^ b) (h0 : 0 < a) (h1 : 0 < b) (h : a + b ≤ 100000000) : i.natAbs.log2 + j.natAbs.log2 < 100000000 := by
  have x := PySem.Flt.log2_lt_of h0 ha
  have y := PySem.Flt.log2_lt_of h1 hb
  omega
@[simp] theorem fnOf_1 {n : Nat} {b : SF} {x : D} {S : Stm} : fnOf n 1 b [x] S = fnEnd (b (startR n [x]) S) := rfl
@[simp] theorem fnOf_2 {n : Nat} {b : SF} {x y : D} {S : Stm} : fnOf n 2 b [x, y] S = fnEnd (b (startR n [x, y]) S) := rfl
@[simp] theorem fnOf_3 {n : Nat} {b : SF} {x y z : D} {S : Stm} : fnOf n 3 b [x, y, z] S = fnEnd (b (startR n [x, y, z]) S) := rfl
@[simp] theorem fnOf_4 {n : Nat} {b : SF} {x y z u : D} {S : Stm} : fnOf n 4 b [x, y, z, u] S = fnEnd (b (startR n [x, y, z, u]) S) := rfl
theorem fnOf_pos {n np : Nat} {b : SF} {ds : List D} {S : Stm} (h : ds.length = np) : fnOf n np b ds S = fnEnd (b (startR n ds) S) := by unfold fnOf; rw [if_pos h]
theorem natAbs_nat {n : Nat} {B : Nat} (h : n < 2 ^ B) : ((n : Nat) : Int).natAbs < 2 ^ B := by rw [Int.natAbs_natCast]; exact h
/-- a fraction as the program holds it -/
def enc (q : Rat) : D := .tup [.int q.num, .int q.den]
/-! ### the greatest common divisor by a while -/
section
variable {S : Stm}
noncomputable def tCom : TF := tOfE (eBin (oCmp (fun i j => decide (j < i))) (eVar 1) (eC (.int 0)))
noncomputable def bCom : SF := sPar 0 1 (aCons (eVar 1) (aCons (eBin oMod (eVar 0) (eVar 1)) (aNil)))
theorem com_loop : ∀ (y x : Nat), ∃ n, whileN tCom bCom n [.pv (.int x), .pv (.int y)] S = .ok (.nx [.pv (.int (Nat.gcd x y)), .pv (.int 0)]) S := by
  intro y
  induction y using Nat.strongRecOn with
  | ind y ih =>
    intro x
    by_cases h : y = 0
    · subst h
      exact ⟨1, by simp [whileN, tCom, bCom]⟩
    · obtain ⟨n, e⟩ := ih (x % y) (Nat.mod_lt _ (by omega)) y
      refine ⟨n + 1, ?_⟩
      unfold whileN
      have h0 : (0 : Int) < (y : Int) := by omega
      have hne : ¬ ((y : Int) = 0) := by omega
      have hm : (x : Int).fmod (y : Int) = ((x % y : Nat) : Int) := by
        rw [Int.fmod_eq_emod_of_nonneg _ (by omega)]; exact (Int.natCast_emod x y).symm
      simp only [tCom, tOfE_s, eBin_s, eVar_s, List.getElem?_cons_succ, List.getElem?_cons_zero, Res.bind_ok, eC_s, oCmp_i, decide_eq_true h0, if_true, bCom, sPar_s, aCons_s, aNil_s, oMod_i, hm, List.set_cons_zero, List.set_cons_succ]
      rw [iteC_pos hne]
      simp only [Res.bind_ok]
      rw [show Nat.gcd x y = Nat.gcd y (x % y) by rw [Nat.gcd_comm x y, Nat.gcd_rec, Nat.gcd_comm]]
      exact e
theorem abs_nat (a : Int) : (if a < 0 then -a else a) = (a.natAbs : Int) := by
  split <;> omega
theorem common_s (a b : Int) : Lib.fn_common [.int a, .int b] S = .ok (.int (Int.gcd a b)) S := by
  obtain ⟨n, e⟩ := com_loop (S := S) b.natAbs a.natAbs
  have hw := sWhile_eq e (by simp)
  rw [show Lib.fn_common = fnOf _ _ Lib.b_common from rfl, fnOf_2]
  unfold Lib.b_common
  have hw' : sWhile (tOfE (eBin (oCmp (fun i j => decide (j < i))) (eVar 1) (eC (.int 0)))) (sPar 0 1 (aCons (eVar 1) (aCons (eBin oMod (eVar 0) (eVar 1)) (aNil)))) [.pv (.int a.natAbs), .pv (.int b.natAbs)] S = .ok (.nx [.pv (.int (Nat.gcd a.natAbs b.natAbs)), .pv (.int 0)]) S := hw
  simp [startR, abs_nat, hw', Int.gcd]
/-! ### fractions in lowest terms -/
theorem gcd_le {n d : Int} (hd : d ≠ 0) : Int.gcd n d ≤ d.natAbs := Nat.le_of_dvd (by omega) (Nat.gcd_dvd_right _ _)
theorem gcd_pos {n d : Int} (hd : d ≠ 0) : 0 < Int.gcd n d := Int.gcd_pos_of_ne_zero_right n hd
theorem divInt_pos {n d : Int} (hd : 0 < d) : (Rat.divInt n d).num = n.fdiv (Int.gcd n d) ∧ ((Rat.divInt n d).den : Int) = d.fdiv (Int.gcd n d) := by
  rw [Rat.num_divInt, Rat.den_divInt, if_neg (by omega), Int.sign_eq_one_of_pos hd, Int.one_mul, Int.gcd_comm d n]
  rw [Int.fdiv_eq_ediv_of_nonneg _ (by omega), Int.fdiv_eq_ediv_of_nonneg _ (by omega)]
  refine ⟨rfl, ?_⟩
  rw [Int.natCast_ediv]
  congr 1
  omega
theorem divInt_neg {n d : Int} (hd : d < 0) : (Rat.divInt n d).num = n.fdiv (-(Int.gcd n d : Int)) ∧ ((Rat.divInt n d).den : Int) = d.fdiv (-(Int.gcd n d : Int)) := by
  have h := divInt_pos (n := -n) (d := -d) (by omega)
  have e : Rat.divInt (-n) (-d) = Rat.divInt n d := by
    rw [Rat.divInt_eq_div, Rat.divInt_eq_div, Rat.intCast_neg, Rat.intCast_neg]
    grind
  have g : Int.gcd (-n) (-d) = Int.gcd n d := by simp
  rw [e, g] at h
  rw [h.1, h.2]
  have f : ∀ (a : Int) (g : Int), (-a).fdiv g = a.fdiv (-g) := fun a g => by
    have := Int.neg_fdiv_neg a (-g)
    rw [Int.neg_neg] at this
    exact this
  exact ⟨f _ _, f _ _⟩
theorem fraction_s {n d : Int} (hd : d ≠ 0) (hz : d.natAbs < 2 ^ 9000) : Lib.fn_fraction [.int n, .int d] S = .ok (enc (Rat.divInt n d)) S := by
  have hg := gcd_pos (n := n) hd
  have hl : ((Int.gcd n d : Int)).natAbs.log2 < 9000 := PySem.Flt.log2_lt_of (by decide) (Nat.lt_of_le_of_lt (by simpa using gcd_le (n := n) hd) hz)
  have hl3 : (Int.gcd n d).log2 < 9000 := by simpa using hl
  have h1 : ((Int.gcd n d : Nat) : Int) ≠ 0 := by omega
  have h2 : -((Int.gcd n d : Nat) : Int) ≠ 0 := by omega
  rw [show Lib.fn_fraction = fnOf _ _ Lib.b_fraction from rfl, fnOf_2]
  unfold Lib.b_fraction
  by_cases h : d < 0
  · obtain ⟨e1, e2⟩ := divInt_neg (n := n) h
    simp [startR, common_s, hd, h, hl3, h2, enc, e1, e2, sizeLine_eq]
  · obtain ⟨e1, e2⟩ := divInt_pos (n := n) (d := d) (by omega)
    simp [startR, common_s, hd, h, hl3, h1, enc, e1, e2, sizeLine_eq]
/-- sizes: numerator and divisor below 2 ^ B -/
structure Sz (B : Nat) (q : Rat) : Prop where
  n : q.num.natAbs < 2 ^ B
  d : q.den < 2 ^ B
theorem Sz.mono {B B' : Nat} {q : Rat} (h : Sz B q) (l : B ≤ B') : Sz B' q := ⟨Nat.lt_of_lt_of_le h.n (Nat.pow_le_pow_right (by decide) l), Nat.lt_of_lt_of_le h.d (Nat.pow_le_pow_right (by decide) l)⟩
theorem den_ne (q : Rat) : ((q.den : Nat) : Int) ≠ 0 := by have := q.den_nz; omega
theorem den_mul_ne (p q : Rat) : ((p.den : Nat) : Int) * (q.den : Int) ≠ 0 := Int.mul_ne_zero (den_ne p) (den_ne q)
theorem sub_eq (p q : Rat) : Rat.divInt (p.num * q.den - q.num * p.den) (p.den * q.den) = p - q := by
  rw [← Rat.divInt_sub_divInt _ _ (den_ne p) (den_ne q), Rat.num_divInt_den, Rat.num_divInt_den]
theorem add_eq (p q : Rat) : Rat.divInt (p.num * q.den + q.num * p.den) (p.den * q.den) = p + q := by
  rw [← Rat.divInt_add_divInt _ _ (den_ne p) (den_ne q), Rat.num_divInt_den, Rat.num_divInt_den]
theorem mul_eq (p q : Rat) : Rat.divInt (p.num * q.num) (p.den * q.den) = p * q := by
  rw [← Rat.divInt_mul_divInt, Rat.num_divInt_den, Rat.num_divInt_den]
theorem div_eq (p q : Rat) : Rat.divInt (p.num * q.den) (p.den * q.num) = p / q := by
  rw [Rat.div_def, Rat.inv_def, ← Rat.divInt_mul_divInt, Rat.num_divInt_den]
theorem prod_lt {a b : Int} {B C : Nat} (h1 : a.natAbs < 2 ^ B) (h2 : b.natAbs < 2 ^ C) : (a * b).natAbs < 2 ^ (B + C) := wide_lt h1 h2
theorem minus_s {p q : Rat} (hp : Sz 4000 p) (hq : Sz 4000 q) : Lib.fn_minus [enc p, enc q] S = .ok (enc (p - q)) S := by
  have m1 := mul_ok (i := p.num) (j := (q.den : Int)) 4000 4000 hp.n (natAbs_nat hq.d) (by decide) (by decide) (by decide)
  have m2 := mul_ok (i := q.num) (j := (p.den : Int)) 4000 4000 hq.n (natAbs_nat hp.d) (by decide) (by decide) (by decide)
  have m3 := mul_ok (i := (p.den : Int)) (j := (q.den : Int)) 4000 4000 (natAbs_nat hp.d) (natAbs_nat hq.d) (by decide) (by decide) (by decide)
  have hz : ((p.den : Int) * (q.den : Int)).natAbs < 2 ^ 9000 := Nat.lt_of_lt_of_le (prod_lt (B := 4000) (C := 4000) (natAbs_nat hp.d) (natAbs_nat hq.d)) (Nat.pow_le_pow_right (by decide) (by decide))
  have f := fraction_s (S := S) (n := p.num * q.den - q.num * p.den) (den_mul_ne p q) hz
  rw [sub_eq] at f
  rw [show Lib.fn_minus = fnOf _ _ Lib.b_minus from rfl, fnOf_2]
  unfold Lib.b_minus
  simp only [Int.natAbs_natCast] at m1 m2 m3
  simp [startR, enc, m1, m2, m3] at f ⊢
  rw [f]
  rfl
theorem plus_s {p q : Rat} (hp : Sz 4000 p) (hq : Sz 4000 q) : Lib.fn_plus [enc p, enc q] S = .ok (enc (p + q)) S := by
  have m1 := mul_ok (i := p.num) (j := (q.den : Int)) 4000 4000 hp.n (natAbs_nat hq.d) (by decide) (by decide) (by decide)
  have m2 := mul_ok (i := q.num) (j := (p.den : Int)) 4000 4000 hq.n (natAbs_nat hp.d) (by decide) (by decide) (by decide)
  have m3 := mul_ok (i := (p.den : Int)) (j := (q.den : Int)) 4000 4000 (natAbs_nat hp.d) (natAbs_nat hq.d) (by decide) (by decide) (by decide)
  have hz : ((p.den : Int) * (q.den : Int)).natAbs < 2 ^ 9000 := Nat.lt_of_lt_of_le (prod_lt (B := 4000) (C := 4000) (natAbs_nat hp.d) (natAbs_nat hq.d)) (Nat.pow_le_pow_right (by decide) (by decide))
  have f := fraction_s (S := S) (n := p.num * q.den + q.num * p.den) (den_mul_ne p q) hz
  rw [add_eq] at f
  rw [show Lib.fn_plus = fnOf _ _ Lib.b_plus from rfl, fnOf_2]
  unfold Lib.b_plus
  simp only [Int.natAbs_natCast] at m1 m2 m3
  simp [startR, enc, m1, m2, m3] at f ⊢
  rw [f]
  rfl
theorem times_s {p q : Rat} (hp : Sz 4000 p) (hq : Sz 4000 q) : Lib.fn_times [enc p, enc q] S = .ok (enc (p * q)) S := by
  have m1 := mul_ok (i := p.num) (j := q.num) 4000 4000 hp.n hq.n (by decide) (by decide) (by decide)
  have m3 := mul_ok (i := (p.den : Int)) (j := (q.den : Int)) 4000 4000 (natAbs_nat hp.d) (natAbs_nat hq.d) (by decide) (by decide) (by decide)
  have hz : ((p.den : Int) * (q.den : Int)).natAbs < 2 ^ 9000 := Nat.lt_of_lt_of_le (prod_lt (B := 4000) (C := 4000) (natAbs_nat hp.d) (natAbs_nat hq.d)) (Nat.pow_le_pow_right (by decide) (by decide))
  have f := fraction_s (S := S) (n := p.num * q.num) (den_mul_ne p q) hz
  rw [mul_eq] at f
  rw [show Lib.fn_times = fnOf _ _ Lib.b_times from rfl, fnOf_2]
  unfold Lib.b_times
  simp only [Int.natAbs_natCast] at m1 m3
  simp [startR, enc, m1, m3] at f ⊢
  rw [f]
  rfl
theorem num_ne {q : Rat} (h : q ≠ 0) : q.num ≠ 0 := fun e => h (Rat.num_eq_zero.mp e)
theorem over_s {p q : Rat} (hp : Sz 4000 p) (hq : Sz 4000 q) (h0 : q ≠ 0) : Lib.fn_over [enc p, enc q] S = .ok (enc (p / q)) S := by
  have m1 := mul_ok (i := p.num) (j := (q.den : Int)) 4000 4000 hp.n (natAbs_nat hq.d) (by decide) (by decide) (by decide)
  have m3 := mul_ok (i := (p.den : Int)) (j := q.num) 4000 4000 (natAbs_nat hp.d) hq.n (by decide) (by decide) (by decide)
  have hz : ((p.den : Int) * q.num).natAbs < 2 ^ 9000 := Nat.lt_of_lt_of_le (prod_lt (B := 4000) (C := 4000) (natAbs_nat hp.d) hq.n) (Nat.pow_le_pow_right (by decide) (by decide))
  have f := fraction_s (S := S) (n := p.num * q.den) (Int.mul_ne_zero (den_ne p) (num_ne h0)) hz
  rw [div_eq] at f
  rw [show Lib.fn_over = fnOf _ _ Lib.b_over from rfl, fnOf_2]
  unfold Lib.b_over
  simp only [Int.natAbs_natCast] at m1 m3
  simp [startR, enc, m1, m3] at f ⊢
  rw [f]
  rfl
end
end L2.PL
/-! the law's own fractions: 400 turns of Euclid's way are enough below 2 ^ 277; the stream's digits -/
namespace L2.PL
open PySem PySem.Spec L2
/-- the second number is 0 within k turns -/
def Eu : Nat → Nat → Nat → Prop
  | 0, _, y => y = 0
  | k + 1, x, y => y = 0 ∨ Eu k y (x % y)
def fibs : Nat → Nat × Nat
  | 0 => (0, 1)
  | n + 1 => ((fibs n).2, (fibs n).1 + (fibs n).2)
def fib (n : Nat) : Nat := (fibs n).1
theorem fib_two (n : Nat) : fib (n + 2) = fib n + fib (n + 1) := rfl
theorem eu_fib : ∀ (k x y : Nat), y < fib (k + 1) → Eu k x y := by
  intro k
  induction k using Nat.strongRecOn with
  | ind k ih =>
    intro x y h
    match k, ih, h with
    | 0, _, h => exact (by have : fib (0 + 1) = 1 := rfl; show y = 0; omega)
    | 1, _, h => exact .inl (by have : fib (1 + 1) = 1 := rfl; omega)
    | k + 2, ih, h =>
      by_cases hy : y = 0
      · exact .inl hy
      · refine .inr ?_
        have hr : x % y < y := Nat.mod_lt _ (by omega)
        by_cases h1 : x % y < fib (k + 2)
        · exact ih (k + 1) (by omega) y (x % y) h1
        · by_cases h0 : x % y = 0
          · exact .inl h0
          · refine .inr (ih k (by omega) (x % y) (y % (x % y)) ?_)
            have e : fib (k + 3) = fib (k + 1) + fib (k + 2) := rfl
            have h' : y < fib (k + 3) := h
            have hm : y % (x % y) ≤ y - x % y := by
              have h2 : y % (x % y) = (y - x % y) % (x % y) := (Nat.mod_eq_sub_mod (by omega))
              rw [h2]
              exact Nat.mod_le _ _
            omega
theorem eu400 {x y : Nat} (h : y < 2 ^ 277) : Eu 400 x y := by
  refine eu_fib 400 x y (Nat.lt_of_lt_of_le h ?_)
  decide +kernel
section
variable {S : Stm}
noncomputable def bEu : SF := sSeq (sIf (tOfE (eBin (oEq) (eVar 3) (eC (.int 0)))) (sBreak) (sNext)) (sPar 2 3 (aCons (eVar 3) (aCons (eBin oMod (eApp bInt (aCons (eVar 2) (aNil))) (eVar 3)) (aNil))))
theorem eu_loop {n d : D} : ∀ (ds : List D) (k x y : Nat) (s4 : Sl), ds.length = k → Eu k x y → ∃ s, forL (gSet 4) bEu ds [.pv n, .pv d, .pv (.int x), .pv (.int y), s4] S = .ok (.nx [.pv n, .pv d, .pv (.int (Nat.gcd x y)), .pv (.int 0), s]) S
  | [], k, x, y, s4, hk, h => by
    subst hk
    have e : y = 0 := h
    subst e
    exact ⟨s4, by simp [forL]⟩
  | c :: ds, k, x, y, s4, hk, h => by
    subst hk
    by_cases hy : y = 0
    · subst hy
      exact ⟨.pv c, by simp [forL, bEu]⟩
    · rcases h with h | h
      · exact absurd h hy
      · obtain ⟨s, e⟩ := eu_loop (n := n) (d := d) ds ds.length y (x % y) (.pv c) rfl h
        refine ⟨s, ?_⟩
        have hne : ¬ ((y : Int) = 0) := by omega
        have hm : (x : Int).fmod (y : Int) = ((x % y : Nat) : Int) := by
          rw [Int.fmod_eq_emod_of_nonneg _ (by omega)]; exact (Int.natCast_emod x y).symm
        have g : Nat.gcd x y = Nat.gcd y (x % y) := by rw [Nat.gcd_comm x y, Nat.gcd_rec, Nat.gcd_comm]
        rw [g, ← e]
        simp [forL, bEu, hne, hy, hm]
theorem law_f_s {n d : Int} (hd : d ≠ 0) (hz : d.natAbs < 2 ^ 277) : Lib.fn__law_f [.int n, .int d] S = .ok (enc (Rat.divInt n d)) S := by
  have hg := gcd_pos (n := n) hd
  have hl3 : (Int.gcd n d).log2 < 9000 := PySem.Flt.log2_lt_of (by decide) (Nat.lt_of_le_of_lt (gcd_le (n := n) hd) (Nat.lt_of_lt_of_le hz (Nat.pow_le_pow_right (by decide) (by decide))))
  have h1 : ((Int.gcd n d : Nat) : Int) ≠ 0 := by omega
  rw [show Lib.fn__law_f = fnOf _ _ Lib.b__law_f from rfl, fnOf_2]
  unfold Lib.b__law_f
  by_cases h : d < 0
  · obtain ⟨e1, e2⟩ := divInt_pos (n := -n) (d := -d) (by omega)
    have e : Rat.divInt (-n) (-d) = Rat.divInt n d := by
      rw [Rat.divInt_eq_div, Rat.divInt_eq_div, Rat.intCast_neg, Rat.intCast_neg]
      grind
    have g : Int.gcd (-n) (-d) = Int.gcd n d := by simp
    rw [e, g] at e1 e2
    obtain ⟨s, el⟩ := eu_loop (S := S) (n := .int (-n)) (d := .int (-d)) (rangeD 0 400) 400 n.natAbs d.natAbs .no (by simp [rangeD]) (eu400 hz)
    rw [show ((d.natAbs : Nat) : Int) = -d by omega] at el
    have el' : forL (gSet 4) (sSeq (sIf (tOfE (eBin (oEq) (eVar 3) (eC (.int 0)))) (sBreak) (sNext)) (sPar 2 3 (aCons (eVar 3) (aCons (eBin oMod (eApp bInt (aCons (eVar 2) (aNil))) (eVar 3)) (aNil))))) (rangeD 0 400) [.pv (.int (-n)), .pv (.int (-d)), .pv (.int n.natAbs), .pv (.int (-d)), .no] S = _ := el
    have ga : Nat.gcd n.natAbs d.natAbs = Int.gcd n d := rfl
    rw [ga] at el'
    have hb := abs_nat (-n)
    rw [Int.natAbs_neg] at hb
    have hb2 : (if 0 < n then n else -n) = (n.natAbs : Int) := by split <;> omega
    simp [startR, h, hd, hb2, el', hl3, h1, enc, e1, e2, sizeLine_eq]
  · obtain ⟨e1, e2⟩ := divInt_pos (n := n) (d := d) (by omega)
    obtain ⟨s, el⟩ := eu_loop (S := S) (n := .int n) (d := .int d) (rangeD 0 400) 400 n.natAbs d.natAbs .no (by simp [rangeD]) (eu400 hz)
    rw [show ((d.natAbs : Nat) : Int) = d by omega] at el
    have el' : forL (gSet 4) (sSeq (sIf (tOfE (eBin (oEq) (eVar 3) (eC (.int 0)))) (sBreak) (sNext)) (sPar 2 3 (aCons (eVar 3) (aCons (eBin oMod (eApp bInt (aCons (eVar 2) (aNil))) (eVar 3)) (aNil))))) (rangeD 0 400) [.pv (.int n), .pv (.int d), .pv (.int n.natAbs), .pv (.int d), .no] S = _ := el
    have ga : Nat.gcd n.natAbs d.natAbs = Int.gcd n d := rfl
    rw [ga] at el'
    have hb := abs_nat n
    simp [startR, h, hd, hb, el', hl3, h1, enc, e1, e2, sizeLine_eq]
/-- the law's product, difference, sum, quotient: the divisors below 2 ^ 277 together -/
theorem law_less_s {p q : Rat} (hp : Sz 4000 p) (hq : Sz 4000 q) (hz : p.den * q.den < 2 ^ 277) : Lib.fn__law_less_by [enc p, enc q] S = .ok (enc (p - q)) S := by
  have m1 := mul_ok (i := p.num) (j := (q.den : Int)) 4000 4000 hp.n (natAbs_nat hq.d) (by decide) (by decide) (by decide)
  have m2 := mul_ok (i := q.num) (j := (p.den : Int)) 4000 4000 hq.n (natAbs_nat hp.d) (by decide) (by decide) (by decide)
  have m3 := mul_ok (i := (p.den : Int)) (j := (q.den : Int)) 4000 4000 (natAbs_nat hp.d) (natAbs_nat hq.d) (by decide) (by decide) (by decide)
  have f := law_f_s (S := S) (n := p.num * q.den - q.num * p.den) (den_mul_ne p q) (by rw [Int.natAbs_mul]; simpa using hz)
  rw [sub_eq] at f
  rw [show Lib.fn__law_less_by = fnOf _ _ Lib.b__law_less_by from rfl, fnOf_2]
  unfold Lib.b__law_less_by
  simp only [Int.natAbs_natCast] at m1 m2 m3
  simp [startR, enc, m1, m2, m3] at f ⊢
  rw [f]
  rfl
theorem law_sum_s {p q : Rat} (hp : Sz 4000 p) (hq : Sz 4000 q) (hz : p.den * q.den < 2 ^ 277) : Lib.fn__law_sum [enc p, enc q] S = .ok (enc (p + q)) S := by
  have m1 := mul_ok (i := p.num) (j := (q.den : Int)) 4000 4000 hp.n (natAbs_nat hq.d) (by decide) (by decide) (by decide)
  have m2 := mul_ok (i := q.num) (j := (p.den : Int)) 4000 4000 hq.n (natAbs_nat hp.d) (by decide) (by decide) (by decide)
  have m3 := mul_ok (i := (p.den : Int)) (j := (q.den : Int)) 4000 4000 (natAbs_nat hp.d) (natAbs_nat hq.d) (by decide) (by decide) (by decide)
  have f := law_f_s (S := S) (n := p.num * q.den + q.num * p.den) (den_mul_ne p q) (by rw [Int.natAbs_mul]; simpa using hz)
  rw [add_eq] at f
  rw [show Lib.fn__law_sum = fnOf _ _ Lib.b__law_sum from rfl, fnOf_2]
  unfold Lib.b__law_sum
  simp only [Int.natAbs_natCast] at m1 m2 m3
  simp [startR, enc, m1, m2, m3] at f ⊢
  rw [f]
  rfl
theorem law_times_s {p q : Rat} (hp : Sz 4000 p) (hq : Sz 4000 q) (hz : p.den * q.den < 2 ^ 277) : Lib.fn__law_times [enc p, enc q] S = .ok (enc (p * q)) S := by
  have m1 := mul_ok (i := p.num) (j := q.num) 4000 4000 hp.n hq.n (by decide) (by decide) (by decide)
  have m3 := mul_ok (i := (p.den : Int)) (j := (q.den : Int)) 4000 4000 (natAbs_nat hp.d) (natAbs_nat hq.d) (by decide) (by decide) (by decide)
  have f := law_f_s (S := S) (n := p.num * q.num) (den_mul_ne p q) (by rw [Int.natAbs_mul]; simpa using hz)
  rw [mul_eq] at f
  rw [show Lib.fn__law_times = fnOf _ _ Lib.b__law_times from rfl, fnOf_2]
  unfold Lib.b__law_times
  simp only [Int.natAbs_natCast] at m1 m3
  simp [startR, enc, m1, m3] at f ⊢
  rw [f]
  rfl
theorem law_part_s {p q : Rat} (hp : Sz 4000 p) (hq : Sz 4000 q) (h0 : q ≠ 0) (hz : p.den * q.num.natAbs < 2 ^ 277) : Lib.fn__law_part [enc p, enc q] S = .ok (enc (p / q)) S := by
  have m1 := mul_ok (i := p.num) (j := (q.den : Int)) 4000 4000 hp.n (natAbs_nat hq.d) (by decide) (by decide) (by decide)
  have m3 := mul_ok (i := (p.den : Int)) (j := q.num) 4000 4000 (natAbs_nat hp.d) hq.n (by decide) (by decide) (by decide)
  have f := law_f_s (S := S) (n := p.num * q.den) (Int.mul_ne_zero (den_ne p) (num_ne h0)) (by rw [Int.natAbs_mul]; simpa using hz)
  rw [div_eq] at f
  rw [show Lib.fn__law_part = fnOf _ _ Lib.b__law_part from rfl, fnOf_2]
  unfold Lib.b__law_part
  simp only [Int.natAbs_natCast] at m1 m3
  simp [startR, enc, m1, m3] at f ⊢
  rw [f]
  rfl
end
/-! ### the stream's digits -/
/-- what holds of the stream behind at most k fresh cells -/
structure Gd (k : Nat) (S : Stm) : Prop where
  cells : ∀ z ∈ S.cells, z.natAbs < 2 ^ 1048576
  p0 : 0 ≤ S.place
  pk : S.place ≤ (k : Int)
  r0 : 0 ≤ S.rest
  m0 : 0 ≤ S.mixed
  m1 : S.mixed < 2305843009213693951
theorem Gd.mono {k k' : Nat} {S : Stm} (h : Gd k S) (l : k ≤ k') : Gd k' S := ⟨h.cells, h.p0, by have := h.pk; omega, h.r0, h.m0, h.m1⟩
theorem lt64 {x : Int} (h0 : 0 ≤ x) (h1 : x < 18446744073709551616) : x.natAbs < 2 ^ 64 := by
  have e : (2 : Nat) ^ 64 = 18446744073709551616 := by decide
  omega
theorem lt200 {x : Int} (h0 : 0 ≤ x) (h1 : x < 340282366920938463463374607431768211456) : x.natAbs < 2 ^ 128 := by
  have e : (2 : Nat) ^ 128 = 340282366920938463463374607431768211456 := by decide
  omega
theorem fmodP (x : Int) : x.fmod 2305843009213693951 = x % 2305843009213693951 := Int.fmod_eq_emod_of_nonneg _ (by decide)
theorem modP0 (x : Int) : 0 ≤ x % 2305843009213693951 := Int.emod_nonneg _ (by decide)
theorem modP1 (x : Int) : x % 2305843009213693951 < 2305843009213693951 := Int.emod_lt_of_pos _ (by decide)
theorem mulP {x y : Int} (hx0 : 0 ≤ x) (hx1 : x < 18446744073709551616) (hy0 : 0 ≤ y) (hy1 : y < 18446744073709551616) : x.natAbs.log2 + y.natAbs.log2 < 100000000 :=
  mul_ok 64 64 (lt64 hx0 hx1) (lt64 hy0 hy1) (by decide) (by decide) (by decide)
theorem fresh_tail {k : Nat} {S : Stm} {cell : Int} (g : Gd k S) (hk : k ≤ 1000000000) (h0 : 0 ≤ cell) :
    ∃ S', (if 1000000000000000000 ≤ cell then (Res.ok .non { S with place := S.place + 1, rest := cell } : Res D) else
      let first := (cell * 6364136223846793005 + S.mixed + S.place * 104729 + 77) % 2305843009213693951
      let second := (first * first + 1013 * first + S.place) % 2305843009213693951
      let third := (second * 48271 + first * 31 + 9) % 2305843009213693951
      let fourth := (third * third + second) % 2305843009213693951
      .ok .non { S with place := S.place + 1, mixed := third, rest := (fourth * 2305843009213693951 + third) * 2305843009213693951 + second }) = .ok .non S' ∧ Gd (k + 1) S' := by
  have hp := g.pk
  have hp0 := g.p0
  split
  · exact ⟨_, rfl, g.cells, by show 0 ≤ S.place + 1; omega, by show S.place + 1 ≤ _; omega, h0, g.m0, g.m1⟩
  · refine ⟨_, rfl, g.cells, by show 0 ≤ S.place + 1; omega, by show S.place + 1 ≤ _; omega, ?_, modP0 _, modP1 _⟩
    have a := modP0 ((((cell * 6364136223846793005 + S.mixed + S.place * 104729 + 77) % 2305843009213693951) * ((cell * 6364136223846793005 + S.mixed + S.place * 104729 + 77) % 2305843009213693951) + 1013 * ((cell * 6364136223846793005 + S.mixed + S.place * 104729 + 77) % 2305843009213693951) + S.place))
    generalize ((((cell * 6364136223846793005 + S.mixed + S.place * 104729 + 77) % 2305843009213693951) * ((cell * 6364136223846793005 + S.mixed + S.place * 104729 + 77) % 2305843009213693951) + 1013 * ((cell * 6364136223846793005 + S.mixed + S.place * 104729 + 77) % 2305843009213693951) + S.place)) % 2305843009213693951 = sec at *
    dsimp only
    generalize (sec * 48271 + _ * 31 + 9) = t3
    have b := modP0 t3
    generalize t3 % 2305843009213693951 = th at *
    have c := modP0 (th * th + sec)
    omega
theorem set2 (a b c d e : Sl) : True := trivial
/-- the cell as the stream takes it -/
def cell0 (S : Stm) : Int := if S.place < (S.cells.length : Int) then (S.cells.getD S.place.toNat 0) else S.place
def cellOf (S : Stm) : Int := if cell0 S < 0 then 0 - 2 * cell0 S - 1 else cell0 S
theorem cellOf_nn (S : Stm) : 0 ≤ cellOf S := by unfold cellOf; split <;> omega
theorem cell0_lt {k : Nat} {S : Stm} (g : Gd k S) (hk : k ≤ 1000000000) : (cell0 S).natAbs < 2 ^ 1048576 := by
  unfold cell0
  split
  · rename_i h
    have h2 : S.place.toNat < S.cells.length := by have := g.p0; omega
    rw [List.getD_eq_getElem?_getD, List.getElem?_eq_getElem h2]
    exact g.cells _ (List.getElem_mem h2)
  · have h0 := g.p0
    have h1 := g.pk
    refine Nat.lt_of_lt_of_le (lt64 h0 (by omega)) (Nat.pow_le_pow_right (by decide) (by decide))
theorem fresh_s {k : Nat} {S : Stm} (g : Gd k S) (hk : k ≤ 1000000000) : ∃ S', Lib.fn__law_fresh [.stm] S = .ok .non S' ∧ Gd (k + 1) S' := by
  have h0 := g.p0
  have h1 := g.pk
  obtain ⟨S', e, g'⟩ := fresh_tail (cell := cellOf S) g hk (cellOf_nn S)
  refine ⟨S', ?_, g'⟩
  rw [← e]
  rw [show Lib.fn__law_fresh = fnOf _ _ Lib.b__law_fresh from rfl, fnOf_1]
  unfold Lib.b__law_fresh
  -- the cell
  have hat : S.place < (S.cells.length : Int) → atI (S.cells.map D.int) S.place = some (.int (cell0 S)) := fun h => by
    have h2 : S.place.toNat < S.cells.length := by omega
    have := atI_n (S.cells.map D.int) S.place.toNat
    rw [show ((S.place.toNat : Nat) : Int) = S.place by omega] at this
    rw [this, List.getElem?_map, List.getElem?_eq_getElem h2]
    unfold cell0
    rw [if_pos h, List.getD_eq_getElem?_getD, List.getElem?_eq_getElem h2]
    rfl
  have mneg := mul_ok (i := 2) (j := cell0 S) 64 1048576 (by decide) (cell0_lt g hk) (by decide) (by decide) (by decide)
  have hm0 := g.m0
  have hm1 := g.m1
  -- the way of the cell, by hand: both tests
  have key : ∀ (c : Int), c = cellOf S → fnEnd ((sSeq (sStm 0 .place (eBin oAdd (eVar 2) (eC (.int 1)))) (sSeq (sIf (tOfE (eBin (oCmp (fun i j => decide (j ≤ i))) (eVar 3) (eC (.int 1000000000000000000)))) (sSeq (sStm 0 .rest (eVar 3)) (sRetN)) (sNext)) (sSeq (sAsg (gSet 4) (eC (.int 2305843009213693951))) (sSeq (sAsg (gSet 5) (eBin oMod (eApp bInt (aCons (eBin oAdd (eBin oAdd (eBin oAdd (eBin oMul (eVar 3) (eC (.int 6364136223846793005))) (eStm 0 .mixed)) (eBin oMul (eVar 2) (eC (.int 104729)))) (eC (.int 77))) (aNil))) (eVar 4))) (sSeq (sAsg (gSet 6) (eBin oMod (eApp bInt (aCons (eBin oAdd (eBin oAdd (eBin oMul (eVar 5) (eVar 5)) (eBin oMul (eC (.int 1013)) (eVar 5))) (eVar 2)) (aNil))) (eVar 4))) (sSeq (sAsg (gSet 7) (eBin oMod (eApp bInt (aCons (eBin oAdd (eBin oAdd (eBin oMul (eVar 6) (eC (.int 48271))) (eBin oMul (eVar 5) (eC (.int 31)))) (eC (.int 9))) (aNil))) (eVar 4))) (sSeq (sAsg (gSet 8) (eBin oMod (eApp bInt (aCons (eBin oAdd (eBin oMul (eVar 7) (eVar 7)) (eVar 6)) (aNil))) (eVar 4))) (sSeq (sStm 0 .mixed (eVar 7)) (sStm 0 .rest (eBin oAdd (eBin oMul (eBin oAdd (eBin oMul (eVar 8) (eVar 4)) (eVar 7)) (eVar 4)) (eVar 6)))))))))))
      [.pv .stm, .pv (.lst (S.cells.map D.int)), .pv (.int S.place), .pv (.int c), .no, .no, .no, .no, .no] S) = (if 1000000000000000000 ≤ cellOf S then (Res.ok .non { S with place := S.place + 1, rest := cellOf S } : Res D) else
      let first := (cellOf S * 6364136223846793005 + S.mixed + S.place * 104729 + 77) % 2305843009213693951
      let second := (first * first + 1013 * first + S.place) % 2305843009213693951
      let third := (second * 48271 + first * 31 + 9) % 2305843009213693951
      let fourth := (third * third + second) % 2305843009213693951
      .ok .non { S with place := S.place + 1, mixed := third, rest := (fourth * 2305843009213693951 + third) * 2305843009213693951 + second }) := by
    intro c hc
    subst hc
    have c0 := cellOf_nn S
    by_cases hbig : 1000000000000000000 ≤ cellOf S
    · rw [if_pos hbig]
      simp [hbig, SKey.put]
    · rw [if_neg hbig]
      have mm1 := mulP (x := cellOf S) (y := 6364136223846793005) c0 (by omega) (by decide) (by decide)
      have mm2 := mulP (x := S.place) (y := 104729) h0 (by omega) (by decide) (by decide)
      dsimp only
      generalize hf : (cellOf S * 6364136223846793005 + S.mixed + S.place * 104729 + 77) % 2305843009213693951 = fi
      have f0 : 0 ≤ fi := by rw [← hf]; exact modP0 _
      have f1 : fi < 2305843009213693951 := by rw [← hf]; exact modP1 _
      have mm3 := mulP (x := fi) (y := fi) f0 (by omega) f0 (by omega)
      have mm4 := mulP (x := 1013) (y := fi) (by decide) (by decide) f0 (by omega)
      generalize hs : (fi * fi + 1013 * fi + S.place) % 2305843009213693951 = se
      have s0 : 0 ≤ se := by rw [← hs]; exact modP0 _
      have s1 : se < 2305843009213693951 := by rw [← hs]; exact modP1 _
      have mm5 := mulP (x := se) (y := 48271) s0 (by omega) (by decide) (by decide)
      have mm6 := mulP (x := fi) (y := 31) f0 (by omega) (by decide) (by decide)
      generalize ht : (se * 48271 + fi * 31 + 9) % 2305843009213693951 = th
      have t0 : 0 ≤ th := by rw [← ht]; exact modP0 _
      have t1 : th < 2305843009213693951 := by rw [← ht]; exact modP1 _
      have mm7 := mulP (x := th) (y := th) t0 (by omega) t0 (by omega)
      generalize hq : (th * th + se) % 2305843009213693951 = fo
      have q0 : 0 ≤ fo := by rw [← hq]; exact modP0 _
      have q1 : fo < 2305843009213693951 := by rw [← hq]; exact modP1 _
      have mm8 := mulP (x := fo) (y := 2305843009213693951) q0 (by omega) (by decide) (by decide)
      have mm9 := mul_ok (i := fo * 2305843009213693951 + th) (j := 2305843009213693951) 128 64 (lt200 (by omega) (by omega)) (by decide) (by decide) (by decide) (by decide)
      simp only [sSeq_s, sStm_s, sIf_s, sAsg_s, tOfE_s, eBin_s, eVar_s, eC_s, eApp_s, aCons_s, aNil_s, eStm_s, gSet_s, List.getElem?_cons_zero, List.getElem?_cons_succ, List.set_cons_zero, List.set_cons_succ, Res.bind_ok, oAdd_i, oCmp_i, oMul_i, oMod_i, bInt_i, SKey.get, SKey.put, decide_eq_false hbig, if_false, sNext_s, iteC_pos mm1, iteC_pos mm2, fmodP, hf, iteC_pos mm3, iteC_pos mm4, hs, iteC_pos mm5, iteC_pos mm6, ht, iteC_pos mm7, hq, iteC_pos mm8, iteC_pos mm9, fnEnd_nx, Bool.false_eq_true, ne_eq, show ¬ ((2305843009213693951 : Int) = 0) by decide, not_false_eq_true, if_true, iteC_eq]
  by_cases hpl : S.place < (S.cells.length : Int)
  · by_cases hneg : cell0 S < 0
    · have hc : 0 - 2 * cell0 S - 1 = cellOf S := by unfold cellOf; rw [if_pos hneg]
      have k1 := key _ hc
      rw [← k1]
      simp only [startR, List.map_cons, List.map_nil, List.length_cons, List.length_nil, List.replicate, List.cons_append, List.nil_append, sSeq_s, sIf_s, sAsg_s, tOfE_s, eBin_s, eVar_s, eC_s, eApp_s, aCons_s, aNil_s, eStm_s, eCells_s, gSet_s, List.getElem?_cons_zero, List.getElem?_cons_succ, List.set_cons_zero, List.set_cons_succ, Res.bind_ok, oCmp_i, bLen_l, List.length_map, oIx_l, oMul_i, oSub_i, SKey.get, decide_eq_true hpl, if_true, hat hpl, decide_eq_true hneg, iteC_pos mneg]
    · have hc : cell0 S = cellOf S := by unfold cellOf; rw [if_neg hneg]
      have k1 := key _ hc
      rw [← k1]
      simp only [startR, List.map_cons, List.map_nil, List.length_cons, List.length_nil, List.replicate, List.cons_append, List.nil_append, sSeq_s, sIf_s, sAsg_s, tOfE_s, eBin_s, eVar_s, eC_s, eApp_s, aCons_s, aNil_s, eStm_s, eCells_s, gSet_s, List.getElem?_cons_zero, List.getElem?_cons_succ, List.set_cons_zero, List.set_cons_succ, Res.bind_ok, oCmp_i, bLen_l, List.length_map, oIx_l, oMul_i, oSub_i, SKey.get, decide_eq_true hpl, if_true, hat hpl, decide_eq_false hneg, sNext_s, Bool.false_eq_true, if_false]
  · have hc0 : cell0 S = S.place := by unfold cell0; rw [if_neg hpl]
    have hneg : ¬ S.place < 0 := by omega
    have hc : S.place = cellOf S := by unfold cellOf; rw [hc0, if_neg hneg]
    have k1 := key _ hc
    rw [← k1]
    simp only [startR, List.map_cons, List.map_nil, List.length_cons, List.length_nil, List.replicate, List.cons_append, List.nil_append, sSeq_s, sIf_s, sAsg_s, tOfE_s, eBin_s, eVar_s, eC_s, eApp_s, aCons_s, aNil_s, eStm_s, eCells_s, gSet_s, List.getElem?_cons_zero, List.getElem?_cons_succ, List.set_cons_zero, List.set_cons_succ, Res.bind_ok, oCmp_i, bLen_l, List.length_map, SKey.get, decide_eq_false hpl, sNext_s, Bool.false_eq_true, if_false, decide_eq_false hneg]
/-- THE DIGIT -/
theorem pick_s {k : Nat} {S : Stm} {m : Int} (g : Gd k S) (hk : k ≤ 1000000000) (hm : 0 < m) (hm2 : m < 18446744073709551616) : ∃ (d : Nat) (S' : Stm), Lib.fn__law_pick [.stm, .int m] S = .ok (.int d) S' ∧ (d : Int) < m ∧ Gd (k + 1) S' := by
  have hml : m.natAbs.log2 < 9000 := PySem.Flt.log2_lt_of (by decide) (Nat.lt_of_lt_of_le (lt64 (by omega) hm2) (Nat.pow_le_pow_right (by decide) (by decide)))
  have hm0 : ¬ m = 0 := by omega
  -- behind the fresh cell
  have fin : ∀ (S1 : Stm) (k1 : Nat), Gd k1 S1 → k1 ≤ k + 1 → ∃ (d : Nat) (S' : Stm), fnEnd (sSeq (sAsg (gSet 2) (eBin oMod (eApp bInt (aCons (eStm 0 .rest) (aNil))) (eVar 1))) (sSeq (sStm 0 .rest (eBin oDiv (eStm 0 .rest) (eVar 1))) (sRet (eVar 2))) [.pv .stm, .pv (.int m), .no] S1) = .ok (.int d) S' ∧ (d : Int) < m ∧ Gd (k + 1) S' := by
    intro S1 k1 g1 hk1
    have r0 := g1.r0
    refine ⟨(S1.rest % m).toNat, { S1 with rest := S1.rest / m }, ?_, ?_, ⟨g1.cells, g1.p0, by have := g1.pk; show S1.place ≤ _; omega, Int.ediv_nonneg r0 (by omega), g1.m0, g1.m1⟩⟩
    · have e1 : S1.rest.fmod m = (((S1.rest % m).toNat : Nat) : Int) := by
        rw [Int.fmod_eq_emod_of_nonneg _ (by omega)]
        have := Int.emod_nonneg S1.rest (show m ≠ 0 by omega)
        omega
      have e2 : S1.rest.fdiv m = S1.rest / m := Int.fdiv_eq_ediv_of_nonneg _ (by omega)
      simp [SKey.get, SKey.put, hm0, hml, e1, e2]
    · have h1 := Int.emod_nonneg S1.rest (show m ≠ 0 by omega)
      have h2 := Int.emod_lt_of_pos S1.rest hm
      omega
  rw [show Lib.fn__law_pick = fnOf _ _ Lib.b__law_pick from rfl, fnOf_2]
  unfold Lib.b__law_pick
  by_cases hr : S.rest < m
  · obtain ⟨S1, e, g1⟩ := fresh_s g hk
    obtain ⟨d, S', e2, h2, g2⟩ := fin S1 (k + 1) g1 (by omega)
    refine ⟨d, S', ?_, h2, g2⟩
    rw [← e2]
    simp only [startR, List.map_cons, List.map_nil, List.length_cons, List.length_nil, List.replicate, List.cons_append, List.nil_append, sSeq_s, sIf_s, tOfE_s, eBin_s, eVar_s, eStm_s, List.getElem?_cons_zero, List.getElem?_cons_succ, Res.bind_ok, oCmp_i, SKey.get, decide_eq_true hr, if_true, sDrop_s, eCall_s, aCons_s, aNil_s, e, noex_ok]
  · obtain ⟨d, S', e2, h2, g2⟩ := fin S k g (by omega)
    refine ⟨d, S', ?_, h2, g2⟩
    rw [← e2]
    simp only [startR, List.map_cons, List.map_nil, List.length_cons, List.length_nil, List.replicate, List.cons_append, List.nil_append, sSeq_s, sIf_s, tOfE_s, eBin_s, eVar_s, eStm_s, List.getElem?_cons_zero, List.getElem?_cons_succ, Res.bind_ok, oCmp_i, SKey.get, decide_eq_false hr, Bool.false_eq_true, if_false, sNext_s]
theorem gd_start {ns : List Int} (h : ∀ z ∈ ns, Builtin.Int.intBits z ≤ 1048576) : Gd 0 ⟨ns, 0, 0, 40503⟩ := by
  refine ⟨fun z hz => ?_, Int.le_refl _, Int.le_refl _, Int.le_refl _, show (0 : Int) ≤ 40503 by decide, show (40503 : Int) < 2305843009213693951 by decide⟩
  have h1 := h z hz
  unfold Builtin.Int.intBits at h1
  by_cases e : z = 0
  · subst e; exact Nat.pow_pos (by decide)
  · have e' : (z == 0) = false := by simpa using e
    rw [e'] at h1
    have h2 : z.natAbs.log2 + 1 ≤ 1048576 := by simpa using h1
    have h3 : z.natAbs < 2 ^ (z.natAbs.log2 + 1) := Nat.lt_log2_self
    exact Nat.lt_of_lt_of_le h3 (Nat.pow_le_pow_right (by decide) h2)
end L2.PL
/-! == of plain data -/
namespace L2.PL
open PySem PySem.Spec L2
variable {S : Stm}
/-- data that == can read, nested to depth k at most -/
structure Lay (k : Nat) (d : D) : Prop where
  c : d.py.canLay0 = true
  h : d.py.depth ≤ k
theorem Lay.mono {k k' : Nat} {d : D} (h : Lay k d) (l : k ≤ k') : Lay k' d := ⟨h.c, Nat.le_trans h.h l⟩
theorem lay_int (i : Int) : Lay 0 (.int i) := ⟨by simp [D.py, PyData.canLay0], by simp [D.py, PyData.depth]⟩
theorem lay_non : Lay 0 .non := ⟨by simp [D.py, PyData.canLay0], by simp [D.py, PyData.depth]⟩
theorem lay_bl (b : Bool) : Lay 0 (.bl b) := ⟨by simp [D.py, PyData.canLay0], by simp [D.py, PyData.depth]⟩
theorem lay_all {k : Nat} : ∀ {ds : List D}, (∀ d ∈ ds, Lay k d) → PyData.canLayAll0 (D.pys ds) = true ∧ PyData.depthAll (D.pys ds) ≤ k
  | [], _ => ⟨by simp [D.pys, PyData.canLayAll0], by simp [D.pys, PyData.depthAll]⟩
  | d :: ds, h => by
    obtain ⟨a, b⟩ := lay_all (ds := ds) fun x hx => h x (by simp [hx])
    have c := h d (by simp)
    refine ⟨by simp [D.pys, PyData.canLayAll0, a, c.c], ?_⟩
    simp only [D.pys, PyData.depthAll]
    exact Nat.max_le.mpr ⟨c.h, b⟩
theorem lay_lst {k : Nat} {ds : List D} (h : ∀ d ∈ ds, Lay k d) : Lay (k + 1) (.lst ds) := by
  obtain ⟨a, b⟩ := lay_all h
  exact ⟨by simp [D.py, PyData.canLay0, a], by simp only [D.py, PyData.depth]; omega⟩
theorem lay_tup {k : Nat} {ds : List D} (h : ∀ d ∈ ds, Lay k d) : Lay (k + 1) (.tup ds) := by
  obtain ⟨a, b⟩ := lay_all h
  exact ⟨by simp [D.py, PyData.canLay0, a], by simp only [D.py, PyData.depth]; omega⟩
theorem lay_enc (q : Rat) : Lay 1 (enc q) := lay_tup fun d hd => by
  simp at hd
  rcases hd with rfl | rfl <;> exact lay_int _
theorem Lay.shaped {k : Nat} {d : D} (h : Lay k d) (hk : k ≤ 64) : SeqAt.shaped d.py = true := by
  unfold SeqAt.shaped
  rw [h.c, Bool.true_and, decide_eq_true_eq]
  exact Nat.le_trans h.h hk
mutual
theorem eqv_rfl : ∀ d : D, d.py.canLay0 = true → PyData.eqv d.py d.py = true
  | .non, _ => by simp [D.py, PyData.eqv]
  | .bl b, _ => by simp [D.py, PyData.eqv]
  | .int i, _ => by simp [D.py, PyData.eqv]
  | .str x, _ => by simp [D.py, PyData.eqv]
  | .stm, h => by simp [D.py, PyData.canLay0] at h
  | .tup ds, h => by
    have h' : PyData.canLayAll0 (D.pys ds) = true := by simpa [D.py, PyData.canLay0] using h
    simpa [D.py, PyData.eqv] using eqvs_rfl ds h'
  | .lst ds, h => by
    have h' : PyData.canLayAll0 (D.pys ds) = true := by simpa [D.py, PyData.canLay0] using h
    simpa [D.py, PyData.eqv] using eqvs_rfl ds h'
theorem eqvs_rfl : ∀ ds : List D, PyData.canLayAll0 (D.pys ds) = true → PyData.eqvAll (D.pys ds) (D.pys ds) = true
  | [], _ => by simp [D.pys, PyData.eqvAll]
  | d :: ds, h => by
    have h' : d.py.canLay0 = true ∧ PyData.canLayAll0 (D.pys ds) = true := by simpa [D.pys, PyData.canLayAll0] using h
    simp [D.pys, PyData.eqvAll, eqv_rfl d h'.1, eqvs_rfl ds h'.2]
end
theorem oEq_rfl {d : D} {k : Nat} (h : Lay k d) (hk : k ≤ 64) : oEq d d S = .ok (.bl true) S := by
  unfold oEq
  rw [iteC_pos ⟨h.shaped hk, h.shaped hk⟩]
  unfold D.eqv
  rw [eqv_rfl d h.c]
theorem oNe_rfl {d : D} {k : Nat} (h : Lay k d) (hk : k ≤ 64) : oNe d d S = .ok (.bl false) S := by
  unfold oNe
  rw [iteC_pos ⟨h.shaped hk, h.shaped hk⟩]
  unfold D.eqv
  rw [eqv_rfl d h.c]
  rfl
/-- lists of numbers of places -/
def natsD (l : List Nat) : D := .lst (l.map fun (k : Nat) => D.int (k : Int))
theorem lay_nats (l : List Nat) : Lay 1 (natsD l) := lay_lst fun d hd => by
  obtain ⟨k, _, rfl⟩ := List.mem_map.mp hd
  exact lay_int _
theorem eqv_nats : ∀ l m : List Nat, PyData.eqvAll (D.pys (l.map fun (k : Nat) => D.int (k : Int))) (D.pys (m.map fun (k : Nat) => D.int (k : Int))) = decide (l = m)
  | [], [] => by simp [D.pys, PyData.eqvAll]
  | [], _ :: _ => by simp [D.pys, PyData.eqvAll]
  | _ :: _, [] => by simp [D.pys, PyData.eqvAll]
  | a :: l, b :: m => by
    have ih := eqv_nats l m
    simp only [List.map_cons, D.pys, D.py, PyData.eqvAll, PyData.eqv, ih]
    by_cases h : a = b
    · subst h
      simp
    · have h' : ¬ ((a : Int) = (b : Int)) := by omega
      simp [h, h']
theorem oEq_nats (l m : List Nat) : oEq (natsD l) (natsD m) S = .ok (.bl (decide (l = m))) S := by
  unfold oEq
  rw [iteC_pos ⟨(lay_nats l).shaped (by decide), (lay_nats m).shaped (by decide)⟩]
  have : D.eqv (natsD l) (natsD m) = decide (l = m) := by
    unfold D.eqv natsD
    simp only [D.py, PyData.eqv]
    exact eqv_nats l m
  rw [this]
theorem oNe_nats (l m : List Nat) : oNe (natsD l) (natsD m) S = .ok (.bl (!decide (l = m))) S := by
  unfold oNe
  rw [iteC_pos ⟨(lay_nats l).shaped (by decide), (lay_nats m).shaped (by decide)⟩]
  have : D.eqv (natsD l) (natsD m) = decide (l = m) := by
    unfold D.eqv natsD
    simp only [D.py, PyData.eqv]
    exact eqv_nats l m
  rw [this]
end L2.PL
/-! elimination over rows of fractions: plain mathematics -/
namespace K43
open L2.PL
abbrev Row := Nat → Rat
abbrev Kept := List (Nat × Row)
def less (r : Row) (f : Rat) (o : Row) : Row := fun k => r k - f * o k
def redR : Kept → Row → Row
  | [], r => r
  | p :: ks, r => redR ks (less r (r p.1) p.2)
def normR (r : Row) (a : Nat) : Row := fun k => r k / r a
def joinR (ks : Kept) (a : Nat) (r : Row) : Kept := ks.map (fun p => (p.1, less p.2 (p.2 a) (normR r a))) ++ [(a, normR r a)]
/-- the sum that a reduction takes away -/
def lin : Kept → Row → Row
  | [], _, _ => 0
  | p :: ks, s, k => s p.1 * p.2 k + lin ks s k
structure IsLead (many : Nat) (r : Row) (a : Nat) : Prop where
  lt : a < many
  ne : r a ≠ 0
  z : ∀ i, i < a → r i = 0
/-- leading ones, noughts above and below -/
structure Rref (many : Nat) (ks : Kept) : Prop where
  pw : ks.Pairwise fun p q => p.2 q.1 = 0 ∧ q.2 p.1 = 0 ∧ p.1 ≠ q.1
  each : ∀ p ∈ ks, p.1 < many ∧ p.2 p.1 = 1 ∧ ∀ i, i < p.1 → p.2 i = 0
theorem Rref.lead {many : Nat} {ks : Kept} (h : Rref many ks) {p : Nat × Row} (hp : p ∈ ks) : IsLead many p.2 p.1 := by
  obtain ⟨h1, h2, h3⟩ := h.each p hp
  exact ⟨h1, by rw [h2]; decide, h3⟩
theorem redR_lin : ∀ (ks : Kept) (r : Row), (ks.Pairwise fun p q => p.2 q.1 = 0 ∧ q.2 p.1 = 0 ∧ p.1 ≠ q.1) → ∀ k, redR ks r k = r k - lin ks r k
  | [], r, _, k => by simp [redR, lin]; grind
  | p :: ks, r, h, k => by
    have h' := List.pairwise_cons.mp h
    rw [redR, redR_lin ks _ h'.2 k]
    have e : ∀ qs : Kept, (∀ q ∈ qs, p.2 q.1 = 0) → lin qs (less r (r p.1) p.2) k = lin qs r k := by
      intro qs
      induction qs with
      | nil => intro _; rfl
      | cons q qs ih =>
        intro hq
        have h0 := hq q (by simp)
        rw [lin, lin, ih fun x hx => hq x (by simp [hx])]
        simp only [less]
        rw [h0]
        grind
    rw [e ks fun q hq => (h'.1 q hq).1]
    simp only [lin, less]
    grind
/-- a reduction has nought where the kept rows lead -/
theorem lin_at {many : Nat} : ∀ {ks : Kept} (r : Row), Rref many ks → ∀ p ∈ ks, lin ks r p.1 = r p.1
  | [], r, _, p, hp => by cases hp
  | q :: ks, r, h, p, hp => by
    have h' := List.pairwise_cons.mp h.pw
    have hk : Rref many ks := ⟨h'.2, fun x hx => h.each x (by simp [hx])⟩
    have zero : ∀ (qs : Kept) (a : Nat), (∀ x ∈ qs, x.2 a = 0) → lin qs r a = 0 := by
      intro qs a
      induction qs with
      | nil => intro _; rfl
      | cons x qs ih =>
        intro hx
        rw [lin, ih fun y hy => hx y (by simp [hy]), hx x (by simp)]
        grind
    rcases List.mem_cons.mp hp with e | hp
    · subst e
      rw [lin, zero ks p.1 fun x hx => (h'.1 x hx).2.1, (h.each p (by simp)).2.1]
      grind
    · rw [lin, lin_at r hk p hp, (h'.1 p hp).1]
      grind
theorem red_zero {many : Nat} {ks : Kept} (h : Rref many ks) (r : Row) {p : Nat × Row} (hp : p ∈ ks) : redR ks r p.1 = 0 := by
  rw [redR_lin ks r h.pw, lin_at r h p hp]
  grind
theorem mem_map_snd {ks : Kept} {f : Nat × Row → Row} : ∀ q ∈ ks.map (fun p => (p.1, f p)), ∃ p ∈ ks, q = (p.1, f p) := fun q hq => by
  obtain ⟨p, hp, e⟩ := List.mem_map.mp hq
  exact ⟨p, hp, e.symm⟩
/-- a new row, whose leading place is taken out of the others -/
theorem Rref.join {many a : Nat} {ks : Kept} {r : Row} (h : Rref many ks) (hz : ∀ p ∈ ks, r p.1 = 0) (hl : IsLead many r a) : Rref many (joinR ks a r) := by
  have hna : ∀ p ∈ ks, p.1 ≠ a := fun p hp e => hl.ne (e ▸ hz p hp)
  have n1 : normR r a a = 1 := by
    have := hl.ne
    unfold normR
    grind
  have n0 : ∀ p ∈ ks, normR r a p.1 = 0 := fun p hp => by
    unfold normR
    rw [hz p hp]
    grind
  refine ⟨?_, ?_⟩
  · unfold joinR
    rw [List.pairwise_append]
    refine ⟨?_, List.pairwise_singleton _ _, ?_⟩
    · rw [List.pairwise_map]
      have hm : ∀ x ∈ ks, ∀ y ∈ ks, (x.2 y.1 = 0 ∧ y.2 x.1 = 0 ∧ x.1 ≠ y.1) → (less x.2 (x.2 a) (normR r a) y.1 = 0 ∧ less y.2 (y.2 a) (normR r a) x.1 = 0 ∧ x.1 ≠ y.1) := by
        intro x hx y hy ⟨e1, e2, e3⟩
        refine ⟨?_, ?_, e3⟩
        · unfold less; rw [e1, n0 y hy]; grind
        · unfold less; rw [e2, n0 x hx]; grind
      exact List.Pairwise.imp_of_mem (fun {x y} hx hy e => hm x hx y hy e) h.pw
    · intro q hq s hs
      obtain ⟨p, hp, rfl⟩ := mem_map_snd q hq
      have e : s = (a, normR r a) := by simpa using hs
      subst e
      refine ⟨?_, n0 p hp, hna p hp⟩
      show less p.2 (p.2 a) (normR r a) a = 0
      unfold less
      rw [n1]
      grind
  · intro q hq
    unfold joinR at hq
    rcases List.mem_append.mp hq with hq | hq
    · obtain ⟨p, hp, rfl⟩ := mem_map_snd q hq
      obtain ⟨h1, h2, h3⟩ := h.each p hp
      refine ⟨h1, ?_, fun i hi => ?_⟩
      · show less p.2 (p.2 a) (normR r a) p.1 = 1
        unfold less
        rw [h2, n0 p hp]
        grind
      · have hi' : i < p.1 := hi
        show less p.2 (p.2 a) (normR r a) i = 0
        unfold less
        rw [h3 i hi']
        by_cases hc : a < p.1
        · rw [h3 a hc]; grind
        · have hp1 : p.1 < a := by have := hna p hp; omega
          have : normR r a i = 0 := by unfold normR; rw [hl.z i (by omega)]; grind
          rw [this]; grind
    · have e : q = (a, normR r a) := by simpa using hq
      subst e
      refine ⟨hl.lt, n1, fun i hi => ?_⟩
      show normR r a i = 0
      unfold normR
      rw [hl.z i hi]
      grind
theorem lin_join {ks : Kept} {a : Nat} {r s : Row} (k : Nat) : lin (joinR ks a r) s k = lin ks s k - lin ks s a * normR r a k + s a * normR r a k := by
  unfold joinR
  have app : ∀ (xs ys : Kept), lin (xs ++ ys) s k = lin xs s k + lin ys s k := by
    intro xs ys
    induction xs with
    | nil => simp [lin]; grind
    | cons x xs ih => rw [List.cons_append, lin, lin, ih]; grind
  rw [app]
  have m : lin (ks.map fun p => (p.1, less p.2 (p.2 a) (normR r a))) s k = lin ks s k - lin ks s a * normR r a k := by
    induction ks with
    | nil => simp [lin]; grind
    | cons x xs ih =>
      rw [List.map_cons, lin, lin, lin, ih]
      simp only [less]
      grind
  rw [m]
  simp only [lin]
  grind
/-- the rows so far are sums of the kept ones -/
def Span (many : Nat) (ks : Kept) (s : Row) : Prop := ∀ k, k < many → s k = lin ks s k
theorem Span.join {many a : Nat} {ks : Kept} {r s : Row} (h : Span many ks s) (ha : a < many) : Span many (joinR ks a r) s := fun k hk => by
  rw [lin_join, ← h k hk, ← h a ha]
  grind
theorem Span.new {many a : Nat} {ks : Kept} {r : Row} (hr : Rref many ks) (hl : IsLead many (redR ks r) a) : Span many (joinR ks a (redR ks r)) r := fun k hk => by
  rw [lin_join]
  have e1 := redR_lin ks r hr.pw k
  have e2 := redR_lin ks r hr.pw a
  have hne := hl.ne
  unfold normR
  generalize redR ks r k = u at *
  generalize redR ks r a = v at *
  have h3 : r a = v + lin ks r a := by grind
  have h4 : r k = u + lin ks r k := by grind
  rw [h3, h4]
  grind
theorem Span.red {many : Nat} {ks : Kept} {r : Row} (hr : Rref many ks) (h : ∀ k, k < many → redR ks r k = 0) : Span many ks r := fun k hk => by
  have e1 := redR_lin ks r hr.pw k
  rw [h k hk] at e1
  grind
theorem lin_comb {ks : Kept} {s a b : Row} {f : Rat} {many : Nat} (hp : ∀ p ∈ ks, p.1 < many) (h : ∀ k, k < many → s k = a k - f * b k) (k : Nat) : lin ks s k = lin ks a k - f * lin ks b k := by
  induction ks with
  | nil => simp [lin]; grind
  | cons x xs ih =>
    rw [lin, lin, lin, ih (fun p hp' => hp p (by simp [hp'])), h x.1 (hp x (by simp))]
    grind
/-- what is put together of such rows leaves nothing -/
theorem comb_red {many : Nat} {ks : Kept} {s a b : Row} {f : Rat} (hr : Rref many ks) (ha : Span many ks a) (hb : Span many ks b) (h : ∀ k, k < many → s k = a k - f * b k) : ∀ k, k < many → redR ks s k = 0 := fun k hk => by
  rw [redR_lin ks s hr.pw, lin_comb (fun p hp => (hr.each p hp).1) h, h k hk, ← ha k hk, ← hb k hk]
  grind
theorem nodup_len : ∀ (n : Nat) (l : List Nat), l.Nodup → (∀ x ∈ l, x < n) → l.length ≤ n
  | 0, l, _, h => by
    cases l with
    | nil => simp
    | cons x l => exact absurd (h x (by simp)) (by omega)
  | n + 1, l, nd, h => by
    by_cases hn : n ∈ l
    · have e := List.length_erase_of_mem hn
      have := nodup_len n (l.erase n) (nd.erase n) fun x hx => by
        have h1 := (nd.mem_erase_iff).mp hx
        have := h x h1.2
        omega
      omega
    · have := nodup_len n l nd fun x hx => by
        have h1 := h x hx
        have : x ≠ n := fun e => hn (e ▸ hx)
        omega
      omega
theorem Rref.length {many : Nat} {ks : Kept} (h : Rref many ks) : ks.length ≤ many := by
  have nd : (ks.map (·.1)).Nodup := by
    have := h.pw
    unfold List.Nodup
    rw [List.pairwise_map]
    exact this.imp fun ⟨_, _, e⟩ => e
  have := nodup_len many _ nd fun x hx => by
    obtain ⟨p, hp, rfl⟩ := List.mem_map.mp hx
    exact (h.each p hp).1
  simpa using this
/-! ### sizes -/
/-- z / d with |z| at most X -/
structure FrK (w : Nat) (d : Int) (X : Nat) (ks : Kept) : Prop where
  pos : 0 < d
  le : d.natAbs ≤ X
  el : ∀ p ∈ ks, ∀ k, k < w → ∃ z : Int, p.2 k = (z : Rat) / (d : Rat) ∧ z.natAbs ≤ X
/-- u / (2 d) with |u| at most c -/
def FrR (w : Nat) (d : Int) (c : Nat) (r : Row) : Prop := ∀ k, k < w → ∃ u : Int, r k = (u : Rat) / ((2 * d : Int) : Rat) ∧ u.natAbs ≤ c
theorem rat_ne {d : Int} (h : d ≠ 0) : (d : Rat) ≠ 0 := by
  intro e
  exact h (by exact_mod_cast e)
theorem divInt_size {n d : Int} (hd : d ≠ 0) : (((n : Rat) / (d : Rat)).num.natAbs ≤ n.natAbs) ∧ ((n : Rat) / (d : Rat)).den ≤ d.natAbs := by
  rw [← Rat.divInt_eq_div, Rat.num_divInt, Rat.den_divInt, if_neg hd]
  refine ⟨?_, Nat.div_le_self _ _⟩
  rw [Int.natAbs_ediv_of_dvd]
  · refine Nat.le_trans (Nat.div_le_self _ _) ?_
    rw [Int.natAbs_mul]
    have : d.sign.natAbs = 1 := by
      rcases Int.lt_or_gt_of_ne hd with h | h
      · rw [Int.sign_eq_neg_one_of_neg h]; rfl
      · rw [Int.sign_eq_one_of_pos h]; rfl
    rw [this, Nat.one_mul]
    exact Nat.le_refl _
  · exact Int.dvd_mul_of_dvd_right (Int.gcd_dvd_right _ _)
theorem less_fr {w : Nat} {d : Int} {c X C : Nat} {r : Row} {p : Nat × Row} {ks : Kept} {m : Int} (h : FrR w d c r) (hk : FrK w d X (p :: ks)) (hm : r p.1 = (m : Rat) / 2) (hC : m.natAbs ≤ C) : FrR w d (c + C * X) (less r (r p.1) p.2) := fun k hw => by
  obtain ⟨u, e1, h1⟩ := h k hw
  obtain ⟨z, e2, h2⟩ := hk.el p (by simp) k hw
  refine ⟨u - m * z, ?_, ?_⟩
  · unfold less
    have hd := rat_ne (show d ≠ 0 by have := hk.pos; omega)
    rw [e1, e2, hm, Rat.intCast_sub, Rat.intCast_mul, Rat.intCast_mul]
    grind
  · have h3 : (m * z).natAbs ≤ C * X := by
      rw [Int.natAbs_mul]
      exact Nat.mul_le_mul hC h2
    have h4 := Int.natAbs_sub_le u (m * z)
    omega
end K43
/-! the sizes of an elimination's numbers -/
namespace K43
open L2.PL
def SzR (w : Nat) (r : Row) : Prop := ∀ k, k < w → Sz 1000 (r k)
/-- a row less a multiple of another: all numbers on the way are small -/
structure StepSz (w : Nat) (r : Row) (f : Rat) (o : Row) : Prop where
  sr : SzR w r
  sf : Sz 1000 f
  so : SzR w o
  sd : ∀ k, k < w → (r k).den * (f.den * (o k).den) < 2 ^ 277
def RedSz (w : Nat) : Kept → Row → Prop
  | [], r => SzR w r
  | p :: ks, r => p.1 < w ∧ StepSz w r (r p.1) p.2 ∧ RedSz w ks (less r (r p.1) p.2)
/-- the divisions and the joining -/
structure JoinSz (w : Nat) (ks : Kept) (a : Nat) (r : Row) : Prop where
  sa : a < w
  sr : SzR w r
  sq : ∀ k, k < w → (r k).den * (r a).num.natAbs < 2 ^ 277
  sn : SzR w (normR r a)
  ss : ∀ p ∈ ks, StepSz w p.2 (p.2 a) (normR r a)
theorem sz_of {n d : Int} {B : Nat} (hd : d ≠ 0) (h1 : n.natAbs < 2 ^ B) (h2 : d.natAbs < 2 ^ B) : Sz B ((n : Rat) / (d : Rat)) := by
  obtain ⟨a, b⟩ := divInt_size (n := n) hd
  exact ⟨by omega, by omega⟩
/-- the bound behind p joined rows -/
def Xs : Nat → Nat
  | 0 => 1
  | p + 1 => 2 * (6 + 4 * p) * (Xs p * Xs p)
theorem Xs_le {p : Nat} (h : p ≤ 5) : Xs p ≤ 2 ^ 127 := by
  have : p = 0 ∨ p = 1 ∨ p = 2 ∨ p = 3 ∨ p = 4 ∨ p = 5 := by omega
  rcases this with rfl | rfl | rfl | rfl | rfl | rfl <;> decide
theorem Xs_pos (p : Nat) : 1 ≤ Xs p := by
  induction p with
  | zero => exact Nat.le_refl _
  | succ p ih =>
    unfold Xs
    have : 1 ≤ Xs p * Xs p := Nat.mul_pos ih ih
    have := Nat.mul_le_mul (show 1 ≤ 2 * (6 + 4 * p) by omega) this
    omega
theorem FrK.tail {w : Nat} {d : Int} {X : Nat} {p : Nat × Row} {ks : Kept} (h : FrK w d X (p :: ks)) : FrK w d X ks := ⟨h.pos, h.le, fun q hq => h.el q (by simp [hq])⟩
theorem FrK.sz {w : Nat} {d : Int} {X B : Nat} {ks : Kept} (h : FrK w d X ks) (hX : X < 2 ^ B) {p : Nat × Row} (hp : p ∈ ks) : ∀ k, k < w → Sz B (p.2 k) ∧ (p.2 k).den ≤ X := fun k hk => by
  obtain ⟨z, e, hz⟩ := h.el p hp k hk
  have h1 := h.pos
  have h2 := h.le
  rw [e]
  exact ⟨sz_of (by omega) (Nat.lt_of_le_of_lt hz hX) (Nat.lt_of_le_of_lt h2 hX), Nat.le_trans (divInt_size (n := z) (by omega)).2 h2⟩
theorem FrR.sz {w : Nat} {d : Int} {c X B : Nat} {r : Row} (h : FrR w d c r) (h0 : 0 < d) (hd : d.natAbs ≤ X) (hc : c < 2 ^ B) (hX : 2 * X < 2 ^ B) : ∀ k, k < w → Sz B (r k) ∧ (r k).den ≤ 2 * X ∧ (r k).num.natAbs ≤ c := fun k hk => by
  obtain ⟨u, e, hu⟩ := h k hk
  rw [e]
  have h3 : (2 * d).natAbs ≤ 2 * X := by omega
  have h4 := divInt_size (n := u) (d := 2 * d) (by omega)
  exact ⟨sz_of (by omega) (Nat.lt_of_le_of_lt hu hc) (Nat.lt_of_le_of_lt h3 hX), Nat.le_trans h4.2 h3, Nat.le_trans h4.1 hu⟩
theorem pow_1000 {x : Nat} (h : x ≤ 2 ^ 200) : x < 2 ^ 1000 := Nat.lt_of_le_of_lt h (Nat.pow_lt_pow_right (by decide) (by decide))
/-- a reduction's numbers -/
theorem red_sz {w many : Nat} {d : Int} {X C : Nat} (hX : X ≤ 2 ^ 127) (hC : C ≤ 2 ^ 16) (hw : many ≤ w) : ∀ (ks : Kept) (r : Row) (c : Nat), FrK w d X ks → (∀ p ∈ ks, p.1 < many) → (ks.Pairwise fun p q => p.2 q.1 = 0 ∧ q.2 p.1 = 0 ∧ p.1 ≠ q.1) →
    FrR w d c r → (∀ p ∈ ks, ∃ m : Int, r p.1 = (m : Rat) / 2 ∧ m.natAbs ≤ C) → c + ks.length * (C * X) ≤ 2 ^ 200 → RedSz w ks r ∧ FrR w d (c + ks.length * (C * X)) (redR ks r)
  | [], r, c, hk, _, _, h, _, hc => by
    have hc' : c ≤ 2 ^ 200 := by simpa using hc
    have hX2 : 2 * X ≤ 2 ^ 200 := by
      have : (2 : Nat) ^ 200 = 2 ^ 73 * 2 ^ 127 := by decide
      have e73 : (2 : Nat) ^ 73 = 9444732965739290427392 := by decide
      omega
    refine ⟨fun k hk' => (h.sz hk.pos hk.le (pow_1000 hc') (pow_1000 hX2) k hk').1, ?_⟩
    simpa [redR] using h
  | p :: ks, r, c, hk, hlt, pw, h, hm, hc => by
    have pw' := List.pairwise_cons.mp pw
    obtain ⟨m, e, hm1⟩ := hm p (by simp)
    have hf := less_fr h hk e hm1
    have hX2 : 2 * X ≤ 2 ^ 200 := by
      have : (2 : Nat) ^ 200 = 2 ^ 73 * 2 ^ 127 := by decide
      have e73 : (2 : Nat) ^ 73 = 9444732965739290427392 := by decide
      omega
    have hX1 : X ≤ 2 ^ 200 := by omega
    have hlen : c + (ks.length + 1) * (C * X) ≤ 2 ^ 200 := by simpa using hc
    have hmul : (ks.length + 1) * (C * X) = ks.length * (C * X) + C * X := by rw [Nat.add_mul, Nat.one_mul]
    have hc' : c ≤ 2 ^ 200 := by omega
    have hpw : p.1 < w := by have := hlt p (by simp); omega
    have sr := h.sz hk.pos hk.le (pow_1000 hc') (pow_1000 hX2)
    have so := hk.sz (pow_1000 hX1) (p := p) (by simp)
    have sf : Sz 1000 (r p.1) := (sr p.1 hpw).1
    have fden : (r p.1).den ≤ 2 := by
      rw [e]
      have := (divInt_size (n := m) (d := 2) (by decide)).2
      simpa using this
    have rest := red_sz hX hC hw ks (less r (r p.1) p.2) (c + C * X) hk.tail (fun q hq => hlt q (by simp [hq])) pw'.2 hf (fun q hq => by
      obtain ⟨m', e', hm'⟩ := hm q (by simp [hq])
      refine ⟨m', ?_, hm'⟩
      unfold less
      rw [(pw'.1 q hq).1, e']
      grind) (by omega)
    refine ⟨⟨hpw, ⟨fun k hk' => (sr k hk').1, sf, fun k hk' => (so k hk').1, fun k hk' => ?_⟩, rest.1⟩, ?_⟩
    · have a1 := (sr k hk').2.1
      have a2 := (so k hk').2
      have a3 := Nat.mul_le_mul a1 (Nat.mul_le_mul fden a2)
      refine Nat.lt_of_le_of_lt a3 ?_
      have a4 : 2 * X * (2 * X) ≤ 2 ^ 256 := by
        have b : 2 * X ≤ 2 ^ 128 := by
          have : (2 : Nat) ^ 128 = 2 * 2 ^ 127 := by decide
          omega
        have := Nat.mul_le_mul b b
        have e256 : (2 : Nat) ^ 128 * 2 ^ 128 = 2 ^ 256 := by decide
        omega
      have e277 : (2 : Nat) ^ 277 = 2 ^ 21 * 2 ^ 256 := by decide +kernel
      have p256 : 0 < (2 : Nat) ^ 256 := Nat.pow_pos (by decide)
      omega
    · have e2 := rest.2
      rw [redR]
      have e3 : c + C * X + ks.length * (C * X) = c + (p :: ks).length * (C * X) := by
        rw [List.length_cons, hmul]; omega
      rw [← e3]
      exact e2
theorem Xs_le4 {p : Nat} (h : p ≤ 4) : Xs p ≤ 2 ^ 61 := by
  have : p = 0 ∨ p = 1 ∨ p = 2 ∨ p = 3 ∨ p = 4 := by omega
  rcases this with rfl | rfl | rfl | rfl | rfl <;> decide
theorem sgn_cases (m : Int) (h : m ≠ 0) : (m.natAbs : Int) = m ∨ (m.natAbs : Int) = -m := by omega
/-- a joining's numbers -/
theorem join_sz {w many a : Nat} {d : Int} {ks : Kept} {r : Row} (hp : ks.length ≤ 4) (hk : FrK w d (Xs ks.length) ks) (hr : FrR w d ((6 + 4 * ks.length) * Xs ks.length) r) (hl : IsLead many r a) (hw : many ≤ w) :
    JoinSz w ks a r ∧ ∃ d', FrK w d' (Xs (ks.length + 1)) (joinR ks a r) := by
  have hX := Xs_le4 hp
  have hX1 := Xs_pos ks.length
  have hXs : Xs (ks.length + 1) = 2 * (6 + 4 * ks.length) * (Xs ks.length * Xs ks.length) := rfl
  generalize Xs ks.length = X at *
  generalize hU : (6 + 4 * ks.length) * X = U at *
  have hU1 : U ≤ 22 * X := by
    rw [← hU]; exact Nat.mul_le_mul (by omega) (Nat.le_refl _)
  have e61 : (2 : Nat) ^ 61 = 2305843009213693952 := by decide
  have haw : a < w := by have := hl.lt; omega
  have hd0 := hk.pos
  have hle := hk.le
  have hUb : U ≤ 2 ^ 200 := by
    have : (2 : Nat) ^ 200 = 2 ^ 139 * 2 ^ 61 := by decide
    have e139 : (2 : Nat) ^ 139 = 696898287454081973172991196020261297061888 := by decide
    omega
  have hXb : 2 * X ≤ 2 ^ 200 := by
    have : (2 : Nat) ^ 200 = 2 ^ 139 * 2 ^ 61 := by decide
    have e139 : (2 : Nat) ^ 139 = 696898287454081973172991196020261297061888 := by decide
    omega
  have sr := hr.sz hd0 hle (pow_1000 hUb) (pow_1000 hXb)
  have sk := fun p hp => hk.sz (pow_1000 (by omega : X ≤ 2 ^ 200)) (p := p) hp
  obtain ⟨m, em, hm⟩ := hr a haw
  have hdq := rat_ne (show d ≠ 0 by omega)
  have hm0 : m ≠ 0 := fun e => by
    apply hl.ne
    rw [em, e]
    grind
  have hmq := rat_ne hm0
  have hn : ∀ k, k < w → ∃ u : Int, normR r a k = (u : Rat) / (m : Rat) ∧ u.natAbs ≤ U := fun k hk' => by
    obtain ⟨u, eu, hu⟩ := hr k hk'
    refine ⟨u, ?_, hu⟩
    unfold normR
    rw [em, eu, Rat.intCast_mul]
    grind
  have sn : ∀ k, k < w → Sz 1000 (normR r a k) ∧ (normR r a k).den ≤ U := fun k hk' => by
    obtain ⟨u, eu, hu⟩ := hn k hk'
    rw [eu]
    exact ⟨sz_of hm0 (Nat.lt_of_le_of_lt hu (pow_1000 hUb)) (Nat.lt_of_le_of_lt hm (pow_1000 hUb)), Nat.le_trans (divInt_size (n := u) hm0).2 hm⟩
  have big : ∀ x y z : Nat, x ≤ 2 * X → y ≤ U → z ≤ X → x * (z * y) < 2 ^ 277 ∧ x * y < 2 ^ 277 := by
    intro x y z h1 h2 h3
    have hx : x ≤ 2 ^ 62 := by have : (2 : Nat) ^ 62 = 2 * 2 ^ 61 := by decide
                               omega
    have hy : y ≤ 2 ^ 66 := by have : (2 : Nat) ^ 66 = 32 * 2 ^ 61 := by decide
                               omega
    have hz : z ≤ 2 ^ 61 := by omega
    have a1 := Nat.mul_le_mul hz hy
    have a2 := Nat.mul_le_mul hx a1
    have a3 := Nat.mul_le_mul hx hy
    have b1 : (2 : Nat) ^ 62 * (2 ^ 61 * 2 ^ 66) < 2 ^ 277 := by decide +kernel
    have b2 : (2 : Nat) ^ 62 * 2 ^ 66 < 2 ^ 277 := by decide +kernel
    exact ⟨Nat.lt_of_le_of_lt a2 b1, Nat.lt_of_le_of_lt a3 b2⟩
  refine ⟨⟨haw, fun k hk' => (sr k hk').1, fun k hk' => (big _ _ 0 (sr k hk').2.1 (sr a haw).2.2 (by omega)).2, fun k hk' => (sn k hk').1, fun p hp' => ⟨fun k hk' => (sk p hp' k hk').1, (sk p hp' a haw).1, fun k hk' => (sn k hk').1, fun k hk' => ?_⟩⟩, d * m.natAbs, ?_⟩
  · exact (big _ _ _ (by have := (sk p hp' k hk').2; omega) (sn k hk').2 (sk p hp' a haw).2).1
  · have hdm : d.natAbs * m.natAbs ≤ X * U := Nat.mul_le_mul hle hm
    have hXU : Xs (ks.length + 1) = 2 * (X * U) := by
      rw [hXs, ← hU]
      have : X * ((6 + 4 * ks.length) * X) = (6 + 4 * ks.length) * (X * X) := by rw [Nat.mul_left_comm]
      rw [this, Nat.mul_assoc]
    have hdd : ((d * (m.natAbs : Int) : Int)).natAbs = d.natAbs * m.natAbs := by rw [Int.natAbs_mul, Int.natAbs_natCast]
    refine ⟨Int.mul_pos hd0 (by omega), by rw [hXs, hdd] at *; omega, fun q hq k hk' => ?_⟩
    obtain ⟨u, eu, hu⟩ := hn k hk'
    unfold joinR at hq
    rcases List.mem_append.mp hq with hq | hq
    · obtain ⟨p, hp', rfl⟩ := mem_map_snd q hq
      obtain ⟨z, ez, hz⟩ := hk.el p hp' k hk'
      obtain ⟨za, eza, hza⟩ := hk.el p hp' a haw
      have hb : (z * m - za * u).natAbs ≤ 2 * (X * U) := by
        have h1 := Int.natAbs_sub_le (z * m) (za * u)
        have h2 : (z * m).natAbs ≤ X * U := by rw [Int.natAbs_mul]; exact Nat.mul_le_mul hz hm
        have h3 : (za * u).natAbs ≤ X * U := by rw [Int.natAbs_mul]; exact Nat.mul_le_mul hza hu
        omega
      rcases sgn_cases m hm0 with hs | hs
      · refine ⟨z * m - za * u, ?_, by rw [hXU]; exact hb⟩
        show less p.2 (p.2 a) (normR r a) k = _
        unfold less
        rw [ez, eza, eu, hs, Rat.intCast_sub, Rat.intCast_mul, Rat.intCast_mul, Rat.intCast_mul]
        grind
      · refine ⟨-(z * m - za * u), ?_, by rw [hXU, Int.natAbs_neg]; exact hb⟩
        show less p.2 (p.2 a) (normR r a) k = _
        unfold less
        rw [ez, eza, eu, hs, Rat.intCast_neg, Rat.intCast_sub, Rat.intCast_mul, Rat.intCast_mul, Rat.intCast_mul, Rat.intCast_neg]
        grind
    · have e : q = (a, normR r a) := by simpa using hq
      subst e
      have hb : (u * d).natAbs ≤ 2 * (X * U) := by
        rw [Int.natAbs_mul]
        have := Nat.mul_le_mul hu hle
        rw [Nat.mul_comm X U]
        omega
      rcases sgn_cases m hm0 with hs | hs
      · refine ⟨u * d, ?_, by rw [hXU]; exact hb⟩
        show normR r a k = _
        rw [eu, hs, Rat.intCast_mul, Rat.intCast_mul]
        grind
      · refine ⟨-(u * d), ?_, by rw [hXU, Int.natAbs_neg]; exact hb⟩
        show normR r a k = _
        rw [eu, hs, Rat.intCast_neg, Rat.intCast_mul, Rat.intCast_mul, Rat.intCast_neg]
        grind
end K43
/-! the elimination row by row -/
namespace K43
open L2.PL
def leadOf (many : Nat) (r : Row) : Option Nat := (List.range many).find? fun k => decide (r k ≠ 0)
theorem leadOf_some {many a : Nat} {r : Row} (h : leadOf many r = some a) : IsLead many r a := by
  unfold leadOf at h
  rw [List.find?_range_eq_some] at h
  obtain ⟨h1, h2, h3⟩ := h
  refine ⟨by simpa using h2, by simpa using h1, fun i hi => ?_⟩
  have := h3 i hi
  simpa using this
theorem leadOf_none {many : Nat} {r : Row} (h : leadOf many r = none) : ∀ k, k < many → r k = 0 := fun k hk => by
  unfold leadOf at h
  rw [List.find?_eq_none] at h
  have := h k (List.mem_range.mpr hk)
  simpa using this
theorem IsLead.uniq {many a b : Nat} {r : Row} (h : IsLead many r a) (h' : IsLead many r b) : a = b := by
  rcases Nat.lt_trichotomy a b with q | q | q
  · exact absurd (h'.z a q) h.ne
  · exact q
  · exact absurd (h.z b q) h'.ne
theorem leadOf_eq {many a : Nat} {r : Row} (h : IsLead many r a) : leadOf many r = some a := by
  cases e : leadOf many r with
  | none => exact absurd (leadOf_none e a h.lt) h.ne
  | some b => rw [(leadOf_some e).uniq h]
inductive StA where
  | kept (ks : Kept)
  | conf (r : Row)
def runA (many : Nat) : List Row → Kept → StA
  | [], ks => .kept ks
  | r :: rs, ks => match leadOf many (redR ks r) with
    | some a => runA many rs (joinR ks a (redR ks r))
    | none => if redR ks r many ≠ 0 then .conf (redR ks r) else runA many rs ks
/-- all that both ways of reckoning ask of the run -/
def RunSz (w many : Nat) : List Row → Kept → Prop
  | [], ks => Rref many ks ∧ ∀ p ∈ ks, SzR w p.2
  | r :: rs, ks => Rref many ks ∧ SzR w r ∧ RedSz w ks r ∧ match leadOf many (redR ks r) with
    | some a => JoinSz w ks a (redR ks r) ∧ RunSz w many rs (joinR ks a (redR ks r))
    | none => redR ks r many ≠ 0 ∨ RunSz w many rs ks
/-- halves with bounded numbers -/
def Half (w C : Nat) (r : Row) : Prop := ∀ k, k < w → ∃ n : Int, r k = (n : Rat) / 2 ∧ n.natAbs ≤ C
structure Base (w many : Nat) (r : Row) : Prop where
  h6 : Half w 6 r
  h4 : Half many 4 r
def Comb (many : Nat) (done : List Row) (r : Row) : Prop := ∃ a ∈ done, ∃ b ∈ done, ∃ f : Rat, ∀ k, k < many → r k = a k - f * b k
/-- each row is a small one, or put together of two in front of it -/
def Good (w many : Nat) : List Row → List Row → Prop
  | _, [] => True
  | done, r :: rs => Half w (2 ^ 16) r ∧ (Base w many r ∨ Comb many done r) ∧ Good w many (done ++ [r]) rs
theorem half_fr {w C X : Nat} {d : Int} {r : Row} (h : Half w C r) (h0 : 0 < d) (hd : d.natAbs ≤ X) : FrR w d (C * X) r := fun k hk => by
  obtain ⟨n, e, hn⟩ := h k hk
  refine ⟨n * d, ?_, ?_⟩
  · have := rat_ne (show d ≠ 0 by omega)
    rw [e, Rat.intCast_mul, Rat.intCast_mul]
    grind
  · rw [Int.natAbs_mul]
    exact Nat.mul_le_mul hn hd
theorem Half.sz {w C : Nat} {r : Row} (h : Half w C r) (hC : C ≤ 2 ^ 16) : SzR w r := fun k hk => by
  obtain ⟨n, e, hn⟩ := h k hk
  rw [e]
  have := sz_of (n := n) (d := 2) (B := 1000) (by decide) (pow_1000 (by
    have : (2 : Nat) ^ 200 = 2 ^ 184 * 2 ^ 16 := by decide
    have e184 : (2 : Nat) ^ 184 = 24519928653854221733733552434404946937899825954937634816 := by decide
    omega)) (pow_1000 (by decide))
  simpa using this
theorem run_sz {w many : Nat} (hm : many ≤ 5) (hw : many < w) : ∀ (rs done : List Row) (ks : Kept), Rref many ks → (∃ d, FrK w d (Xs ks.length) ks) → (∀ s ∈ done, Span many ks s) → Good w many done rs → RunSz w many rs ks
  | [], done, ks, hr, ⟨d, hk⟩, _, _ => ⟨hr, fun p hp k hk' => (hk.sz (pow_1000 (by
      have := Xs_le (p := ks.length) (Nat.le_trans hr.length hm)
      have : (2 : Nat) ^ 127 ≤ 2 ^ 200 := Nat.pow_le_pow_right (by decide) (by decide)
      omega)) hp k hk').1⟩
  | r :: rs, done, ks, hr, ⟨d, hk⟩, hsp, hg => by
    obtain ⟨g1, g2, g3⟩ := hg
    have hlen : ks.length ≤ 5 := Nat.le_trans hr.length hm
    have hX := Xs_le hlen
    have hlt : ∀ p ∈ ks, p.1 < many := fun p hp => (hr.each p hp).1
    have e16 : (2 : Nat) ^ 16 = 65536 := by decide
    have e127 : (2 : Nat) ^ 200 = 9444732965739290427392 * 2 ^ 127 := by decide
    have big := red_sz (w := w) (many := many) (C := 2 ^ 16) hX (Nat.le_refl _) (by omega) ks r (2 ^ 16 * Xs ks.length) hk hlt hr.pw (half_fr g1 hk.pos hk.le) (fun p hp => g1 p.1 (by have := hlt p hp; omega)) (by
      have h1 : ks.length * (2 ^ 16 * Xs ks.length) ≤ 5 * (2 ^ 16 * Xs ks.length) := Nat.mul_le_mul hlen (Nat.le_refl _)
      have h2 : 2 ^ 16 * Xs ks.length ≤ 2 ^ 16 * 2 ^ 127 := Nat.mul_le_mul (Nat.le_refl _) hX
      omega)
    refine ⟨hr, g1.sz (Nat.le_refl _), big.1, ?_⟩
    cases el : leadOf many (redR ks r) with
    | none =>
      dsimp only
      by_cases hc : redR ks r many ≠ 0
      · exact .inl hc
      · refine .inr (run_sz hm hw rs (done ++ [r]) ks hr ⟨d, hk⟩ (fun s hs => ?_) g3)
        rcases List.mem_append.mp hs with hs | hs
        · exact hsp s hs
        · have e : s = r := by simpa using hs
          subst e
          exact Span.red hr (leadOf_none el)
    | some a =>
      dsimp only
      have hl := leadOf_some el
      have hb : Base w many r := by
        rcases g2 with g2 | ⟨x, hx, y, hy, f, hf⟩
        · exact g2
        · exact absurd (comb_red hr (hsp x hx) (hsp y hy) hf a hl.lt) hl.ne
      have h4 : ks.length ≤ 4 := by
        have hj := (hr.join (r := redR ks r) (fun p hp => red_zero hr r hp) hl).length
        unfold joinR at hj
        simp at hj
        omega
      have small := red_sz (w := w) (many := many) (C := 4) hX (by decide) (by omega) ks r (6 * Xs ks.length) hk hlt hr.pw (half_fr hb.h6 hk.pos hk.le) (fun p hp => hb.h4 p.1 (hlt p hp)) (by
        have h1 : ks.length * (4 * Xs ks.length) ≤ 5 * (4 * Xs ks.length) := Nat.mul_le_mul hlen (Nat.le_refl _)
        omega)
      have e3 : 6 * Xs ks.length + ks.length * (4 * Xs ks.length) = (6 + 4 * ks.length) * Xs ks.length := by
        rw [Nat.add_mul, Nat.mul_left_comm, Nat.mul_assoc]
      have fr := small.2
      rw [e3] at fr
      obtain ⟨j1, d', j2⟩ := join_sz h4 hk fr hl (by omega)
      refine ⟨j1, run_sz hm hw rs (done ++ [r]) _ (hr.join (fun p hp => red_zero hr r hp) hl) ⟨d', ?_⟩ (fun s hs => ?_) g3⟩
      · have : (joinR ks a (redR ks r)).length = ks.length + 1 := by unfold joinR; simp
        rw [this]; exact j2
      · rcases List.mem_append.mp hs with hs | hs
        · exact (hsp s hs).join hl.lt
        · have e : s = r := by simpa using hs
          subst e
          exact Span.new hr hl
end K43
namespace K43
open PySem PySem.Spec L2 L2.PL
def topS (i : Nat) : Stmt := PySem.Challenge.pw_trueshop_k43_equations_kept_and_contradi.main.body.getD i (.Pass ⟨0, 0, 0, 0⟩)
/-! common -/
abbrev s_common : Stmt := topS 4
abbrev N_common : List Str := ["a", "b"]
theorem sc_common : FnScope N_common ["a", "b"] (defScope s_common) := ⟨rfl, rfl, rfl, by decide +kernel, rfl, by decide +kernel, by decide +kernel⟩
theorem ok_common {P : Program} {w : World} {K : PySem.W.Frag} {mg : Str → Option Value} {base : Heap} {f : Addr} {fd : FuncData} {dV : Value} (F : FunV K dV "common" "common" s_common f fd) (n_abs : mg "abs" = none) : FnOk P w K mg base CX0 1 f fd ["a", "b"] (spP K 2 Lib.fn_common) :=
  fn_okV F sc_common fun c cdv A outer s H E hr => pss_eCons (ps_eSet (i := 0) sc_common.nd rfl (Or.inl rfl) (pe_eCallB call_abs absS (by rfl) n_abs (by decide +kernel) (pa_eCons (pe_eVar (pv 0)) (pa_eNil)))) (pss_eCons (ps_eSet (i := 1) sc_common.nd rfl (Or.inl rfl) (pe_eCallB call_abs absS (by rfl) n_abs (by decide +kernel) (pa_eCons (pe_eVar (pv 1)) (pa_eNil)))) (pss_eCons (ps_eWhile PassesOwn.never (pt_eCmp op_gt cmpS (pe_eVar (pv 1)) (pe_eInt) (nomark _)) (pss_eOne (ps_ePar (i := 0) (j := 1) rfl sc_common.nd rfl rfl (by decide) rfl rfl (pa_eCons (pe_eVar (pv 1)) (pa_eCons (pe_oMod (pe_eVar (pv 0)) (pe_eVar (pv 1))) (pa_eNil))) (by rfl)))) (pss_eOne (ps_eRet (pe_eVar (pv 0))))))
/-! fraction -/
abbrev s_fraction : Stmt := topS 5
abbrev N_fraction : List Str := ["number", "divisor", "shared"]
theorem sc_fraction : FnScope N_fraction ["number", "divisor"] (defScope s_fraction) := ⟨rfl, rfl, rfl, by decide +kernel, rfl, by decide +kernel, by decide +kernel⟩
theorem ok_fraction {P : Program} {w : World} {K : PySem.W.Frag} {mg : Str → Option Value} {base : Heap} {f : Addr} {fd : FuncData} {dV : Value} (F : FunV K dV "fraction" "fraction" s_fraction f fd) (h_common : Has P w K mg base "common" 1 ["a", "b"] Lib.fn_common) : FnOk P w K mg base CX0 2 f fd ["number", "divisor"] (spP K 2 Lib.fn_fraction) :=
  fn_okV F sc_fraction fun c cdv A outer s H E hr => pss_eCons (ps_eIf (pt_eCmp (op_eqD hr.units) eqS (pe_eVar (pv 1)) (pe_eInt) (nomark _)) (pss_eOne (ps_eNever)) (pss_eNil)) (pss_eCons (ps_eSet (i := 2) sc_fraction.nd rfl (Or.inl rfl) (pe_eHas h_common (hr.mono (by decide)) (by rfl) (pa_eCons (pe_eVar (pv 0)) (pa_eCons (pe_eVar (pv 1)) (pa_eNil))))) (pss_eCons (ps_eIf (pt_eCmp op_lt cmpS (pe_eVar (pv 1)) (pe_eInt) (nomark _)) (pss_eOne (ps_eSet (i := 2) sc_fraction.nd rfl (Or.inl rfl) (pe_uNeg (pe_eVar (pv 2))))) (pss_eNil)) (pss_eOne (ps_eRet (pe_eTup (pa_eCons (pe_oDiv (pe_eVar (pv 0)) (pe_eVar (pv 2))) (pa_eCons (pe_oDiv (pe_eVar (pv 1)) (pe_eVar (pv 2))) (pa_eNil))))))))
/-! minus -/
abbrev s_minus : Stmt := topS 6
abbrev N_minus : List Str := ["a", "b"]
theorem sc_minus : FnScope N_minus ["a", "b"] (defScope s_minus) := ⟨rfl, rfl, rfl, by decide +kernel, rfl, by decide +kernel, by decide +kernel⟩
theorem ok_minus {P : Program} {w : World} {K : PySem.W.Frag} {mg : Str → Option Value} {base : Heap} {f : Addr} {fd : FuncData} {dV : Value} (F : FunV K dV "minus" "minus" s_minus f fd) (h_fraction : Has P w K mg base "fraction" 2 ["number", "divisor"] Lib.fn_fraction) : FnOk P w K mg base CX0 3 f fd ["a", "b"] (spP K 2 Lib.fn_minus) :=
  fn_okV F sc_minus fun c cdv A outer s H E hr => pss_eOne (ps_eRet (pe_eHas h_fraction (hr.mono (by decide)) (by rfl) (pa_eCons (pe_oSub (pe_oMul (pe_oIx (pe_eVar (pv 0)) (pe_eInt) (fun _ _ => rfl)) (pe_oIx (pe_eVar (pv 1)) (pe_eInt) (fun _ _ => rfl))) (pe_oMul (pe_oIx (pe_eVar (pv 1)) (pe_eInt) (fun _ _ => rfl)) (pe_oIx (pe_eVar (pv 0)) (pe_eInt) (fun _ _ => rfl)))) (pa_eCons (pe_oMul (pe_oIx (pe_eVar (pv 0)) (pe_eInt) (fun _ _ => rfl)) (pe_oIx (pe_eVar (pv 1)) (pe_eInt) (fun _ _ => rfl))) (pa_eNil)))))
/-! times -/
abbrev s_times : Stmt := topS 7
abbrev N_times : List Str := ["a", "b"]
theorem sc_times : FnScope N_times ["a", "b"] (defScope s_times) := ⟨rfl, rfl, rfl, by decide +kernel, rfl, by decide +kernel, by decide +kernel⟩
theorem ok_times {P : Program} {w : World} {K : PySem.W.Frag} {mg : Str → Option Value} {base : Heap} {f : Addr} {fd : FuncData} {dV : Value} (F : FunV K dV "times" "times" s_times f fd) (h_fraction : Has P w K mg base "fraction" 2 ["number", "divisor"] Lib.fn_fraction) : FnOk P w K mg base CX0 3 f fd ["a", "b"] (spP K 2 Lib.fn_times) :=
  fn_okV F sc_times fun c cdv A outer s H E hr => pss_eOne (ps_eRet (pe_eHas h_fraction (hr.mono (by decide)) (by rfl) (pa_eCons (pe_oMul (pe_oIx (pe_eVar (pv 0)) (pe_eInt) (fun _ _ => rfl)) (pe_oIx (pe_eVar (pv 1)) (pe_eInt) (fun _ _ => rfl))) (pa_eCons (pe_oMul (pe_oIx (pe_eVar (pv 0)) (pe_eInt) (fun _ _ => rfl)) (pe_oIx (pe_eVar (pv 1)) (pe_eInt) (fun _ _ => rfl))) (pa_eNil)))))
/-! over -/
abbrev s_over : Stmt := topS 8
abbrev N_over : List Str := ["a", "b"]
theorem sc_over : FnScope N_over ["a", "b"] (defScope s_over) := ⟨rfl, rfl, rfl, by decide +kernel, rfl, by decide +kernel, by decide +kernel⟩
theorem ok_over {P : Program} {w : World} {K : PySem.W.Frag} {mg : Str → Option Value} {base : Heap} {f : Addr} {fd : FuncData} {dV : Value} (F : FunV K dV "over" "over" s_over f fd) (h_fraction : Has P w K mg base "fraction" 2 ["number", "divisor"] Lib.fn_fraction) : FnOk P w K mg base CX0 3 f fd ["a", "b"] (spP K 2 Lib.fn_over) :=
  fn_okV F sc_over fun c cdv A outer s H E hr => pss_eOne (ps_eRet (pe_eHas h_fraction (hr.mono (by decide)) (by rfl) (pa_eCons (pe_oMul (pe_oIx (pe_eVar (pv 0)) (pe_eInt) (fun _ _ => rfl)) (pe_oIx (pe_eVar (pv 1)) (pe_eInt) (fun _ _ => rfl))) (pa_eCons (pe_oMul (pe_oIx (pe_eVar (pv 0)) (pe_eInt) (fun _ _ => rfl)) (pe_oIx (pe_eVar (pv 1)) (pe_eInt) (fun _ _ => rfl))) (pa_eNil)))))
/-! taken_from -/
abbrev s_taken_from : Stmt := topS 10
abbrev N_taken_from : List Str := ["row", "factor", "other", "coefficients", "parts", "k"]
theorem sc_taken_from : FnScope N_taken_from ["row", "factor", "other"] (defScope s_taken_from) := ⟨rfl, rfl, rfl, by decide +kernel, rfl, by decide +kernel, by decide +kernel⟩
noncomputable def b_taken_from : SF := sSeq (sAsg (gSet 3) (eFrz (fComp [5] (iRange1 (aCons (eApp bLen (aCons (eBin oIx (eVar 0) (eC (.int 0))) (aNil))) (aNil))) (gSet 5) (tfYes) (eCall Lib.fn_minus (aCons (eBin oIx (eBin oIx (eVar 0) (eC (.int 0))) (eVar 5)) (aCons (eCall Lib.fn_times (aCons (eVar 1) (aCons (eBin oIx (eBin oIx (eVar 2) (eC (.int 0))) (eVar 5)) (aNil)))) (aNil))))))) (sSeq (sAsg (gSet 4) (eFrz (fComp [5] (iRange1 (aCons (eApp bLen (aCons (eBin oIx (eVar 0) (eC (.int 2))) (aNil))) (aNil))) (gSet 5) (tfYes) (eCall Lib.fn_minus (aCons (eBin oIx (eBin oIx (eVar 0) (eC (.int 2))) (eVar 5)) (aCons (eCall Lib.fn_times (aCons (eVar 1) (aCons (eBin oIx (eBin oIx (eVar 2) (eC (.int 2))) (eVar 5)) (aNil)))) (aNil))))))) (sRet (eTup (aCons (eVar 3) (aCons (eCall Lib.fn_minus (aCons (eBin oIx (eVar 0) (eC (.int 1))) (aCons (eCall Lib.fn_times (aCons (eVar 1) (aCons (eBin oIx (eVar 2) (eC (.int 1))) (aNil)))) (aNil)))) (aCons (eVar 4) (aNil)))))))
noncomputable def fn_taken_from : FnD := fnOf 6 3 b_taken_from
theorem ok_taken_from {P : Program} {w : World} {K : PySem.W.Frag} {mg : Str → Option Value} {base : Heap} {f : Addr} {fd : FuncData} {dV : Value} (F : FunV K dV "taken_from" "taken_from" s_taken_from f fd) (h_minus : Has P w K mg base "minus" 3 ["a", "b"] Lib.fn_minus) (h_times : Has P w K mg base "times" 3 ["a", "b"] Lib.fn_times) (n_len : mg "len" = none) (n_range : mg "range" = none) : FnOk P w K mg base CX0 4 f fd ["row", "factor", "other"] (spP K 3 fn_taken_from) :=
  fn_okV F sc_taken_from fun c cdv A outer s H E hr => pss_eCons (ps_eSetLc (i := 3) (own := [("k", 5)]) rfl sc_taken_from.nd rfl rfl (sw_true rfl rfl rfl (by decide +kernel)) (pi_eRange1 (by rfl) n_range (pa_eCons (pe_eCallB call_len lenS (by rfl) n_len PySem.boot_len (pa_eCons (pe_oIx (pe_eVar (pv 0)) (pe_eInt) (fun _ _ => rfl)) (pa_eNil))) (pa_eNil))) (blkOk_by (N := N_taken_from) (sc := defScope s_taken_from) (by decide +kernel)) (fun _ _ _ _ _ => pg_name (i := 5) sc_taken_from.nd rfl (Or.inl rfl)) (tg_set (by decide)) (fun _ _ _ _ _ => pts_nil) tYes_of (fun _ _ _ _ _ => pe_eHas h_minus (hr.mono (by decide)) (by rfl) (pa_eCons (pe_oIx (pe_oIx (pe_eVar (pv 0)) (pe_eInt) (fun _ _ => rfl)) (pe_eVar (pv 5)) (fun _ _ => rfl)) (pa_eCons (pe_eHas h_times (hr.mono (by decide)) (by rfl) (pa_eCons (pe_eVar (pv 1)) (pa_eCons (pe_oIx (pe_oIx (pe_eVar (pv 2)) (pe_eInt) (fun _ _ => rfl)) (pe_eVar (pv 5)) (fun _ _ => rfl)) (pa_eNil)))) (pa_eNil))))) (pss_eCons (ps_eSetLc (i := 4) (own := [("k", 5)]) rfl sc_taken_from.nd rfl rfl (sw_true rfl rfl rfl (by decide +kernel)) (pi_eRange1 (by rfl) n_range (pa_eCons (pe_eCallB call_len lenS (by rfl) n_len PySem.boot_len (pa_eCons (pe_oIx (pe_eVar (pv 0)) (pe_eInt) (fun _ _ => rfl)) (pa_eNil))) (pa_eNil))) (blkOk_by (N := N_taken_from) (sc := defScope s_taken_from) (by decide +kernel)) (fun _ _ _ _ _ => pg_name (i := 5) sc_taken_from.nd rfl (Or.inl rfl)) (tg_set (by decide)) (fun _ _ _ _ _ => pts_nil) tYes_of (fun _ _ _ _ _ => pe_eHas h_minus (hr.mono (by decide)) (by rfl) (pa_eCons (pe_oIx (pe_oIx (pe_eVar (pv 0)) (pe_eInt) (fun _ _ => rfl)) (pe_eVar (pv 5)) (fun _ _ => rfl)) (pa_eCons (pe_eHas h_times (hr.mono (by decide)) (by rfl) (pa_eCons (pe_eVar (pv 1)) (pa_eCons (pe_oIx (pe_oIx (pe_eVar (pv 2)) (pe_eInt) (fun _ _ => rfl)) (pe_eVar (pv 5)) (fun _ _ => rfl)) (pa_eNil)))) (pa_eNil))))) (pss_eOne (ps_eRet (pe_eTup (pa_eCons (pe_eVar (pv 3)) (pa_eCons (pe_eHas h_minus (hr.mono (by decide)) (by rfl) (pa_eCons (pe_oIx (pe_eVar (pv 0)) (pe_eInt) (fun _ _ => rfl)) (pa_eCons (pe_eHas h_times (hr.mono (by decide)) (by rfl) (pa_eCons (pe_eVar (pv 1)) (pa_eCons (pe_oIx (pe_eVar (pv 2)) (pe_eInt) (fun _ _ => rfl)) (pa_eNil)))) (pa_eNil)))) (pa_eCons (pe_eVar (pv 4)) (pa_eNil))))))))
/-! leading -/
abbrev s_leading : Stmt := topS 11
abbrev N_leading : List Str := ["row", "k"]
theorem sc_leading : FnScope N_leading ["row"] (defScope s_leading) := ⟨rfl, rfl, rfl, by decide +kernel, rfl, by decide +kernel, by decide +kernel⟩
noncomputable def b_leading : SF := sSeq (sFor (iRange1 (aCons (eApp bLen (aCons (eBin oIx (eVar 0) (eC (.int 0))) (aNil))) (aNil))) (gSet 1) (sIf (tOfE (eBin (oNe) (eBin oIx (eBin oIx (eBin oIx (eVar 0) (eC (.int 0))) (eVar 1)) (eC (.int 0))) (eC (.int 0)))) (sRet (eVar 1)) (sNext))) (sRet (eC .non))
noncomputable def fn_leading : FnD := fnOf 2 1 b_leading
theorem ok_leading {P : Program} {w : World} {K : PySem.W.Frag} {mg : Str → Option Value} {base : Heap} {f : Addr} {fd : FuncData} {dV : Value} (F : FunV K dV "leading" "leading" s_leading f fd) (n_len : mg "len" = none) (n_range : mg "range" = none) : FnOk P w K mg base CX0 1 f fd ["row"] (spP K 1 fn_leading) :=
  fn_okV F sc_leading fun c cdv A outer s H E hr => pss_eCons (ps_eFor (vs := [0, 1]) PassesOwn.never rfl (pi_eRange1 (by rfl) n_range (pa_eCons (pe_eCallB call_len lenS (by rfl) n_len PySem.boot_len (pa_eCons (pe_oIx (pe_eVar (pv 0)) (pe_eInt) (fun _ _ => rfl)) (pa_eNil))) (pa_eNil))) (pg_name (i := 1) sc_leading.nd rfl (Or.inl rfl)) (tg_set (by decide)) (pss_eOne (ps_eIf (pt_eCmp (op_neD hr.units) neS (pe_oIx (pe_oIx (pe_oIx (pe_eVar (pv 0)) (pe_eInt) (fun _ _ => rfl)) (pe_eVar (pv 1)) (fun _ _ => rfl)) (pe_eInt) (fun _ _ => rfl)) (pe_eInt) (nomark _)) (pss_eOne (ps_eRet (pe_eVar (pv 1)))) (pss_eNil)))) (pss_eOne (ps_eRet (pe_eNon)))
/-! divided -/
abbrev s_divided : Stmt := topS 12
abbrev N_divided : List Str := ["row", "by", "one"]
theorem sc_divided : FnScope N_divided ["row", "by"] (defScope s_divided) := ⟨rfl, rfl, rfl, by decide +kernel, rfl, by decide +kernel, by decide +kernel⟩
noncomputable def b_divided : SF := sRet (eTup (aCons (eFrz (fComp [2] (iSeq (eBin oIx (eVar 0) (eC (.int 0)))) (gSet 2) (tfYes) (eCall Lib.fn_over (aCons (eVar 2) (aCons (eVar 1) (aNil)))))) (aCons (eCall Lib.fn_over (aCons (eBin oIx (eVar 0) (eC (.int 1))) (aCons (eVar 1) (aNil)))) (aCons (eFrz (fComp [2] (iSeq (eBin oIx (eVar 0) (eC (.int 2)))) (gSet 2) (tfYes) (eCall Lib.fn_over (aCons (eVar 2) (aCons (eVar 1) (aNil)))))) (aNil)))))
noncomputable def fn_divided : FnD := fnOf 3 2 b_divided
theorem ok_divided {P : Program} {w : World} {K : PySem.W.Frag} {mg : Str → Option Value} {base : Heap} {f : Addr} {fd : FuncData} {dV : Value} (F : FunV K dV "divided" "divided" s_divided f fd) (h_over : Has P w K mg base "over" 3 ["a", "b"] Lib.fn_over) : FnOk P w K mg base CX0 4 f fd ["row", "by"] (spP K 2 fn_divided) :=
  fn_okV F sc_divided fun c cdv A outer s H E hr => pss_eOne (ps_eRet (pe_eTup (pa_eCons (pe_eFrz (pf_comp (own := [("one", 2)]) rfl sc_divided.nd (pi_eSeq (pe_oIx (pe_eVar (pv 0)) (pe_eInt) (fun _ _ => rfl))) (blkOk_by (N := N_divided) (sc := defScope s_divided) (by decide +kernel)) (fun _ _ _ _ _ => pg_name (i := 2) sc_divided.nd rfl (Or.inl rfl)) (tg_set (by decide)) (fun _ _ _ _ _ => pts_nil) tYes_of (fun _ _ _ _ _ => pe_eHas h_over (hr.mono (by decide)) (by rfl) (pa_eCons (pe_eVar (pv 2)) (pa_eCons (pe_eVar (pv 1)) (pa_eNil)))))) (pa_eCons (pe_eHas h_over (hr.mono (by decide)) (by rfl) (pa_eCons (pe_oIx (pe_eVar (pv 0)) (pe_eInt) (fun _ _ => rfl)) (pa_eCons (pe_eVar (pv 1)) (pa_eNil)))) (pa_eCons (pe_eFrz (pf_comp (own := [("one", 2)]) rfl sc_divided.nd (pi_eSeq (pe_oIx (pe_eVar (pv 0)) (pe_eInt) (fun _ _ => rfl))) (blkOk_by (N := N_divided) (sc := defScope s_divided) (by decide +kernel)) (fun _ _ _ _ _ => pg_name (i := 2) sc_divided.nd rfl (Or.inl rfl)) (tg_set (by decide)) (fun _ _ _ _ _ => pts_nil) tYes_of (fun _ _ _ _ _ => pe_eHas h_over (hr.mono (by decide)) (by rfl) (pa_eCons (pe_eVar (pv 2)) (pa_eCons (pe_eVar (pv 1)) (pa_eNil)))))) (pa_eNil))))))
/-! reduced -/
abbrev s_reduced : Stmt := topS 13
abbrev N_reduced : List Str := ["kept", "row", "other"]
theorem sc_reduced : FnScope N_reduced ["kept", "row"] (defScope s_reduced) := ⟨rfl, rfl, rfl, by decide +kernel, rfl, by decide +kernel, by decide +kernel⟩
noncomputable def b_reduced : SF := sSeq (sFor (iSeq (eVar 0)) (gSet 2) (sAsg (gSet 1) (eCall fn_taken_from (aCons (eVar 1) (aCons (eBin oIx (eBin oIx (eVar 1) (eC (.int 0))) (eCall fn_leading (aCons (eVar 2) (aNil)))) (aCons (eVar 2) (aNil))))))) (sRet (eVar 1))
noncomputable def fn_reduced : FnD := fnOf 3 2 b_reduced
theorem ok_reduced {P : Program} {w : World} {K : PySem.W.Frag} {mg : Str → Option Value} {base : Heap} {f : Addr} {fd : FuncData} {dV : Value} (F : FunV K dV "reduced" "reduced" s_reduced f fd) (h_taken_from : Has P w K mg base "taken_from" 4 ["row", "factor", "other"] fn_taken_from) (h_leading : Has P w K mg base "leading" 1 ["row"] fn_leading) : FnOk P w K mg base CX0 5 f fd ["kept", "row"] (spP K 2 fn_reduced) :=
  fn_okV F sc_reduced fun c cdv A outer s H E hr => pss_eCons (ps_eFor (vs := [0, 1, 2]) PassesOwn.never rfl (pi_eSeq (pe_eVar (pv 0))) (pg_name (i := 2) sc_reduced.nd rfl (Or.inl rfl)) (tg_set (by decide)) (pss_eOne (ps_eSet (i := 1) sc_reduced.nd rfl (Or.inl rfl) (pe_eHas h_taken_from (hr.mono (by decide)) (by rfl) (pa_eCons (pe_eVar (pv 1)) (pa_eCons (pe_oIx (pe_oIx (pe_eVar (pv 1)) (pe_eInt) (fun _ _ => rfl)) (pe_eHas h_leading (hr.mono (by decide)) (by rfl) (pa_eCons (pe_eVar (pv 2)) (pa_eNil))) (fun _ _ => rfl)) (pa_eCons (pe_eVar (pv 2)) (pa_eNil)))))))) (pss_eOne (ps_eRet (pe_eVar (pv 1))))
/-! joined -/
abbrev s_joined : Stmt := topS 14
abbrev N_joined : List Str := ["kept", "row", "at", "other"]
theorem sc_joined : FnScope N_joined ["kept", "row"] (defScope s_joined) := ⟨rfl, rfl, rfl, by decide +kernel, rfl, by decide +kernel, by decide +kernel⟩
noncomputable def b_joined : SF := sSeq (sAsg (gSet 2) (eCall fn_leading (aCons (eVar 1) (aNil)))) (sSeq (sAsg (gSet 1) (eCall fn_divided (aCons (eVar 1) (aCons (eBin oIx (eBin oIx (eVar 1) (eC (.int 0))) (eVar 2)) (aNil))))) (sRet (eBin oAdd (eFrz (fComp [3] (iSeq (eVar 0)) (gSet 3) (tfYes) (eCall fn_taken_from (aCons (eVar 3) (aCons (eBin oIx (eBin oIx (eVar 3) (eC (.int 0))) (eVar 2)) (aCons (eVar 1) (aNil))))))) (eFrz (fLst (aCons (eVar 1) (aNil)))))))
noncomputable def fn_joined : FnD := fnOf 4 2 b_joined
theorem ok_joined {P : Program} {w : World} {K : PySem.W.Frag} {mg : Str → Option Value} {base : Heap} {f : Addr} {fd : FuncData} {dV : Value} (F : FunV K dV "joined" "joined" s_joined f fd) (h_leading : Has P w K mg base "leading" 1 ["row"] fn_leading) (h_divided : Has P w K mg base "divided" 4 ["row", "by"] fn_divided) (h_taken_from : Has P w K mg base "taken_from" 4 ["row", "factor", "other"] fn_taken_from) : FnOk P w K mg base CX0 5 f fd ["kept", "row"] (spP K 2 fn_joined) :=
  fn_okV F sc_joined fun c cdv A outer s H E hr => pss_eCons (ps_eSet (i := 2) sc_joined.nd rfl (Or.inr rfl) (pe_eHas h_leading (hr.mono (by decide)) (by rfl) (pa_eCons (pe_eVar (pv 1)) (pa_eNil)))) (pss_eCons (ps_eSet (i := 1) sc_joined.nd rfl (Or.inr rfl) (pe_eHas h_divided (hr.mono (by decide)) (by rfl) (pa_eCons (pe_eVar (pv 1)) (pa_eCons (pe_oIx (pe_oIx (pe_eVar (pv 1)) (pe_eInt) (fun _ _ => rfl)) (pe_eVar (pv 2)) (fun _ _ => rfl)) (pa_eNil))))) (pss_eOne (ps_eRet (pe_oAdd (pe_eFrz (pf_comp (own := [("other", 3)]) rfl sc_joined.nd (pi_eSeq (pe_eVar (pv 0))) (blkOk_by (N := N_joined) (sc := defScope s_joined) (by decide +kernel)) (fun _ _ _ _ _ => pg_name (i := 3) sc_joined.nd rfl (Or.inl rfl)) (tg_set (by decide)) (fun _ _ _ _ _ => pts_nil) tYes_of (fun _ _ _ _ _ => pe_eHas h_taken_from (hr.mono (by decide)) (by rfl) (pa_eCons (pe_eVar (pv 3)) (pa_eCons (pe_oIx (pe_oIx (pe_eVar (pv 3)) (pe_eInt) (fun _ _ => rfl)) (pe_eVar (pv 2)) (fun _ _ => rfl)) (pa_eCons (pe_eVar (pv 1)) (pa_eNil))))))) (pe_eFrz (pf_lst (pa_eCons (pe_eVar (pv 1)) (pa_eNil))))))))
/-! settle -/
abbrev s_settle : Stmt := topS 15
abbrev N_settle : List Str := ["rows", "many", "kept", "k", "parts", "row", "at"]
theorem sc_settle : FnScope N_settle ["rows", "many"] (defScope s_settle) := ⟨rfl, rfl, rfl, by decide +kernel, rfl, by decide +kernel, by decide +kernel⟩
noncomputable def b_settle : SF := sSeq (sAsg (gSet 2) (eFrz (fLst (aNil)))) (sSeq (sFor (iRange1 (aCons (eApp bLen (aCons (eVar 0) (aNil))) (aNil))) (gSet 3) (sSeq (sAsg (gSet 4) (eFrz (fComp [6] (iRange1 (aCons (eApp bLen (aCons (eVar 0) (aNil))) (aNil))) (gSet 6) (tfYes) (eTup (aCons (eIf (tOfE (eBin (oEq) (eVar 6) (eVar 3))) (eC (.int 1)) (eC (.int 0))) (aCons (eC (.int 1)) (aNil))))))) (sSeq (sAsg (gSet 5) (eCall fn_reduced (aCons (eVar 2) (aCons (eTup (aCons (eFrz (fListOf (aCons (eBin oIx (eBin oIx (eVar 0) (eVar 3)) (eC (.int 0))) (aNil)))) (aCons (eBin oIx (eBin oIx (eVar 0) (eVar 3)) (eC (.int 1))) (aCons (eVar 4) (aNil))))) (aNil))))) (sIf (tOfE (eBin (oNotN) (eCall fn_leading (aCons (eVar 5) (aNil))) (eC .non))) (sAsg (gSet 2) (eCall fn_joined (aCons (eVar 2) (aCons (eVar 5) (aNil))))) (sIf (tOfE (eBin (oNe) (eBin oIx (eBin oIx (eVar 5) (eC (.int 1))) (eC (.int 0))) (eC (.int 0)))) (sRet (eTup (aCons (eC (.str "conflict")) (aCons (eFrz (fComp [6] (iRange1 (aCons (eApp bLen (aCons (eVar 0) (aNil))) (aNil))) (gSet 6) (tOfE (eBin (oNe) (eBin oIx (eBin oIx (eBin oIx (eVar 5) (eC (.int 2))) (eVar 6)) (eC (.int 0))) (eC (.int 0)))) (eVar 6))) (aNil))))) (sNext)))))) (sRet (eTup (aCons (eC (.str "kept")) (aCons (eVar 2) (aNil))))))
noncomputable def fn_settle : FnD := fnOf 7 2 b_settle
theorem ok_settle {P : Program} {w : World} {K : PySem.W.Frag} {mg : Str → Option Value} {base : Heap} {f : Addr} {fd : FuncData} {dV : Value} (F : FunV K dV "settle" "settle" s_settle f fd) (h_reduced : Has P w K mg base "reduced" 5 ["kept", "row"] fn_reduced) (h_leading : Has P w K mg base "leading" 1 ["row"] fn_leading) (h_joined : Has P w K mg base "joined" 5 ["kept", "row"] fn_joined) (n_len : mg "len" = none) (n_range : mg "range" = none) (n_list : mg "list" = none) : FnOk P w K mg base CX0 6 f fd ["rows", "many"] (spP K 2 fn_settle) :=
  fn_okV F sc_settle fun c cdv A outer s H E hr => pss_eCons (ps_eSet (i := 2) sc_settle.nd rfl (Or.inl rfl) (pe_eFrz (pf_lst (pa_eNil)))) (pss_eCons (ps_eFor (vs := [0, 1, 2, 3, 4, 5, 6]) PassesOwn.never rfl (pi_eRange1 (by rfl) n_range (pa_eCons (pe_eCallB call_len lenS (by rfl) n_len PySem.boot_len (pa_eCons (pe_eVar (pv 0)) (pa_eNil))) (pa_eNil))) (pg_name (i := 3) sc_settle.nd rfl (Or.inr rfl)) (tg_set (by decide)) (pss_eCons (ps_eSetLc (i := 4) (own := [("at", 6)]) rfl sc_settle.nd rfl rfl (sw_true rfl rfl rfl (by decide +kernel)) (pi_eRange1 (by rfl) n_range (pa_eCons (pe_eCallB call_len lenS (by rfl) n_len PySem.boot_len (pa_eCons (pe_eVar (pv 0)) (pa_eNil))) (pa_eNil))) (blkOk_by (N := N_settle) (sc := defScope s_settle) (by decide +kernel)) (fun _ _ _ _ _ => pg_name (i := 6) sc_settle.nd rfl (Or.inl rfl)) (tg_set (by decide)) (fun _ _ _ _ _ => pts_nil) tYes_of (fun _ _ _ _ _ => pe_eTup (pa_eCons (pe_eIf (pt_eCmp (op_eqD hr.units) eqS (pe_eVar (pv 6)) (pe_eVar (pv 3)) (nomark _)) (pe_eInt) (pe_eInt)) (pa_eCons (pe_eInt) (pa_eNil))))) (pss_eCons (ps_eSet (i := 5) sc_settle.nd rfl (Or.inr rfl) (pe_eHas h_reduced (hr.mono (by decide)) (by rfl) (pa_eCons (pe_eVar (pv 2)) (pa_eCons (pe_eTup (pa_eCons (pe_eFrz (pf_listOf (by rfl) n_list (by decide +kernel) (pa_eCons (pe_oIx (pe_oIx (pe_eVar (pv 0)) (pe_eVar (pv 3)) (fun _ _ => rfl)) (pe_eInt) (fun _ _ => rfl)) (pa_eNil)))) (pa_eCons (pe_oIx (pe_oIx (pe_eVar (pv 0)) (pe_eVar (pv 3)) (fun _ _ => rfl)) (pe_eInt) (fun _ _ => rfl)) (pa_eCons (pe_eVar (pv 4)) (pa_eNil))))) (pa_eNil))))) (pss_eOne (ps_eIf (pt_eCmp op_notN notNS (pe_eHas h_leading (hr.mono (by decide)) (by rfl) (pa_eCons (pe_eVar (pv 5)) (pa_eNil))) (pe_eNon) (nomark _)) (pss_eOne (ps_eSet (i := 2) sc_settle.nd rfl (Or.inl rfl) (pe_eHas h_joined (hr.mono (by decide)) (by rfl) (pa_eCons (pe_eVar (pv 2)) (pa_eCons (pe_eVar (pv 5)) (pa_eNil)))))) (pss_eOne (ps_eIf (pt_eCmp (op_neD hr.units) neS (pe_oIx (pe_oIx (pe_eVar (pv 5)) (pe_eInt) (fun _ _ => rfl)) (pe_eInt) (fun _ _ => rfl)) (pe_eInt) (nomark _)) (pss_eOne (ps_eRet (pe_eTup (pa_eCons (pe_eStr) (pa_eCons (pe_eFrz (pf_comp (own := [("at", 6)]) rfl sc_settle.nd (pi_eRange1 (by rfl) n_range (pa_eCons (pe_eCallB call_len lenS (by rfl) n_len PySem.boot_len (pa_eCons (pe_eVar (pv 0)) (pa_eNil))) (pa_eNil))) (blkOk_by (N := N_settle) (sc := defScope s_settle) (by decide +kernel)) (fun _ _ _ _ _ => pg_name (i := 6) sc_settle.nd rfl (Or.inl rfl)) (tg_set (by decide)) (fun _ _ _ _ _ => pts_one (pt_eCmp (op_neD hr.units) neS (pe_oIx (pe_oIx (pe_oIx (pe_eVar (pv 5)) (pe_eInt) (fun _ _ => rfl)) (pe_eVar (pv 6)) (fun _ _ => rfl)) (pe_eInt) (fun _ _ => rfl)) (pe_eInt) (nomark _))) (fun _ _ _ q => q) (fun _ _ _ _ _ => pe_eVar (pv 6)))) (pa_eNil)))))) (pss_eNil)))))))) (pss_eOne (ps_eRet (pe_eTup (pa_eCons (pe_eStr) (pa_eCons (pe_eVar (pv 2)) (pa_eNil)))))))
/-! worth_of -/
abbrev s_worth_of : Stmt := topS 16
abbrev N_worth_of : List Str := ["kept", "at", "row", "k"]
theorem sc_worth_of : FnScope N_worth_of ["kept", "at"] (defScope s_worth_of) := ⟨rfl, rfl, rfl, by decide +kernel, rfl, by decide +kernel, by decide +kernel⟩
noncomputable def b_worth_of : SF := sSeq (sFor (iSeq (eVar 0)) (gSet 2) (sIf (tfAnd (tOfE (eBin (oEq) (eCall fn_leading (aCons (eVar 2) (aNil))) (eVar 1))) (tOfE (eBin (oEq) (eFrz (fComp [3] (iRange1 (aCons (eApp bLen (aCons (eBin oIx (eVar 2) (eC (.int 0))) (aNil))) (aNil))) (gSet 3) (tOfE (eBin (oNe) (eBin oIx (eBin oIx (eBin oIx (eVar 2) (eC (.int 0))) (eVar 3)) (eC (.int 0))) (eC (.int 0)))) (eVar 3))) (eFrz (fLst (aCons (eVar 1) (aNil))))))) (sRet (eBin oIx (eVar 2) (eC (.int 1)))) (sNext))) (sRet (eC .non))
noncomputable def fn_worth_of : FnD := fnOf 4 2 b_worth_of
theorem ok_worth_of {P : Program} {w : World} {K : PySem.W.Frag} {mg : Str → Option Value} {base : Heap} {f : Addr} {fd : FuncData} {dV : Value} (F : FunV K dV "worth_of" "worth_of" s_worth_of f fd) (h_leading : Has P w K mg base "leading" 1 ["row"] fn_leading) (n_len : mg "len" = none) (n_range : mg "range" = none) : FnOk P w K mg base CX0 2 f fd ["kept", "at"] (spP K 2 fn_worth_of) :=
  fn_okV F sc_worth_of fun c cdv A outer s H E hr => pss_eCons (ps_eFor (vs := [0, 1, 2, 3]) PassesOwn.never rfl (pi_eSeq (pe_eVar (pv 0))) (pg_name (i := 2) sc_worth_of.nd rfl (Or.inr rfl)) (tg_set (by decide)) (pss_eOne (ps_eIf (PW.pt (pw_eAnd (pt_eCmp (op_eqD hr.units) eqS (pe_eHas h_leading (hr.mono (by decide)) (by rfl) (pa_eCons (pe_eVar (pv 2)) (pa_eNil))) (pe_eVar (pv 1)) (nomark _)) (pw_and1 (pt_eCmp (op_eqD hr.units) eqS (pe_eFrz (pf_comp (own := [("k", 3)]) rfl sc_worth_of.nd (pi_eRange1 (by rfl) n_range (pa_eCons (pe_eCallB call_len lenS (by rfl) n_len PySem.boot_len (pa_eCons (pe_oIx (pe_eVar (pv 2)) (pe_eInt) (fun _ _ => rfl)) (pa_eNil))) (pa_eNil))) (blkOk_by (N := N_worth_of) (sc := defScope s_worth_of) (by decide +kernel)) (fun _ _ _ _ _ => pg_name (i := 3) sc_worth_of.nd rfl (Or.inl rfl)) (tg_set (by decide)) (fun _ _ _ _ _ => pts_one (pt_eCmp (op_neD hr.units) neS (pe_oIx (pe_oIx (pe_oIx (pe_eVar (pv 2)) (pe_eInt) (fun _ _ => rfl)) (pe_eVar (pv 3)) (fun _ _ => rfl)) (pe_eInt) (fun _ _ => rfl)) (pe_eInt) (nomark _))) (fun _ _ _ q => q) (fun _ _ _ _ _ => pe_eVar (pv 3)))) (pe_eFrz (pf_lst (pa_eCons (pe_eVar (pv 1)) (pa_eNil)))) (nomark _))))) (pss_eOne (ps_eRet (pe_oIx (pe_eVar (pv 2)) (pe_eInt) (fun _ _ => rfl)))) (pss_eNil)))) (pss_eOne (ps_eRet (pe_eNon)))
/-! _law_f -/
abbrev s__law_f : Stmt := topS 18
abbrev N__law_f : List Str := ["number", "divisor", "one", "other", "step"]
theorem sc__law_f : FnScope N__law_f ["number", "divisor"] (defScope s__law_f) := ⟨rfl, rfl, rfl, by decide +kernel, rfl, by decide +kernel, by decide +kernel⟩
theorem ok__law_f {P : Program} {w : World} {K : PySem.W.Frag} {mg : Str → Option Value} {base : Heap} {f : Addr} {fd : FuncData} {dV : Value} (F : FunV K dV "_law_f" "_law_f" s__law_f f fd) (n_abs : mg "abs" = none) (n_range : mg "range" = none) (n_int : mg "int" = none) : FnOk P w K mg base CX0 1 f fd ["number", "divisor"] (spP K 2 Lib.fn__law_f) :=
  fn_okV F sc__law_f fun c cdv A outer s H E hr => pss_eCons (ps_eIf (pt_eCmp op_lt cmpS (pe_eVar (pv 1)) (pe_eInt) (nomark _)) (pss_eOne (ps_ePar (i := 0) (j := 1) rfl sc__law_f.nd rfl rfl (by decide) rfl rfl (pa_eCons (pe_uNeg (pe_eVar (pv 0))) (pa_eCons (pe_uNeg (pe_eVar (pv 1))) (pa_eNil))) (by rfl))) (pss_eNil)) (pss_eCons (ps_ePar (i := 2) (j := 3) rfl sc__law_f.nd rfl rfl (by decide) rfl rfl (pa_eCons (pe_eCallB call_abs absS (by rfl) n_abs (by decide +kernel) (pa_eCons (pe_eVar (pv 0)) (pa_eNil))) (pa_eCons (pe_eVar (pv 1)) (pa_eNil))) (by rfl)) (pss_eCons (ps_eFor (vs := [0, 1, 2, 3, 4]) PassesOwn.never rfl (pi_eRange1 (by rfl) n_range (pa_eCons (pe_eInt) (pa_eNil))) (pg_name (i := 4) sc__law_f.nd rfl (Or.inl rfl)) (tg_set (by decide)) (pss_eCons (ps_eIf (pt_eCmp (op_eqD hr.units) eqS (pe_eVar (pv 3)) (pe_eInt) (nomark _)) (pss_eOne (ps_eBreak)) (pss_eNil)) (pss_eOne (ps_ePar (i := 2) (j := 3) rfl sc__law_f.nd rfl rfl (by decide) rfl rfl (pa_eCons (pe_eVar (pv 3)) (pa_eCons (pe_oMod (pe_eCallTy call_int1 intS (by rfl) n_int (by decide +kernel) (pa_eCons (pe_eVar (pv 2)) (pa_eNil))) (pe_eVar (pv 3))) (pa_eNil))) (by rfl))))) (pss_eOne (ps_eRet (pe_eTup (pa_eCons (pe_oDiv (pe_eVar (pv 0)) (pe_eVar (pv 2))) (pa_eCons (pe_oDiv (pe_eVar (pv 1)) (pe_eVar (pv 2))) (pa_eNil))))))))
/-! _law_less_by -/
abbrev s__law_less_by : Stmt := topS 19
abbrev N__law_less_by : List Str := ["a", "b"]
theorem sc__law_less_by : FnScope N__law_less_by ["a", "b"] (defScope s__law_less_by) := ⟨rfl, rfl, rfl, by decide +kernel, rfl, by decide +kernel, by decide +kernel⟩
theorem ok__law_less_by {P : Program} {w : World} {K : PySem.W.Frag} {mg : Str → Option Value} {base : Heap} {f : Addr} {fd : FuncData} {dV : Value} (F : FunV K dV "_law_less_by" "_law_less_by" s__law_less_by f fd) (h__law_f : Has P w K mg base "_law_f" 1 ["number", "divisor"] Lib.fn__law_f) : FnOk P w K mg base CX0 2 f fd ["a", "b"] (spP K 2 Lib.fn__law_less_by) :=
  fn_okV F sc__law_less_by fun c cdv A outer s H E hr => pss_eOne (ps_eRet (pe_eHas h__law_f (hr.mono (by decide)) (by rfl) (pa_eCons (pe_oSub (pe_oMul (pe_oIx (pe_eVar (pv 0)) (pe_eInt) (fun _ _ => rfl)) (pe_oIx (pe_eVar (pv 1)) (pe_eInt) (fun _ _ => rfl))) (pe_oMul (pe_oIx (pe_eVar (pv 1)) (pe_eInt) (fun _ _ => rfl)) (pe_oIx (pe_eVar (pv 0)) (pe_eInt) (fun _ _ => rfl)))) (pa_eCons (pe_oMul (pe_oIx (pe_eVar (pv 0)) (pe_eInt) (fun _ _ => rfl)) (pe_oIx (pe_eVar (pv 1)) (pe_eInt) (fun _ _ => rfl))) (pa_eNil)))))
/-! _law_times -/
abbrev s__law_times : Stmt := topS 20
abbrev N__law_times : List Str := ["a", "b"]
theorem sc__law_times : FnScope N__law_times ["a", "b"] (defScope s__law_times) := ⟨rfl, rfl, rfl, by decide +kernel, rfl, by decide +kernel, by decide +kernel⟩
theorem ok__law_times {P : Program} {w : World} {K : PySem.W.Frag} {mg : Str → Option Value} {base : Heap} {f : Addr} {fd : FuncData} {dV : Value} (F : FunV K dV "_law_times" "_law_times" s__law_times f fd) (h__law_f : Has P w K mg base "_law_f" 1 ["number", "divisor"] Lib.fn__law_f) : FnOk P w K mg base CX0 2 f fd ["a", "b"] (spP K 2 Lib.fn__law_times) :=
  fn_okV F sc__law_times fun c cdv A outer s H E hr => pss_eOne (ps_eRet (pe_eHas h__law_f (hr.mono (by decide)) (by rfl) (pa_eCons (pe_oMul (pe_oIx (pe_eVar (pv 0)) (pe_eInt) (fun _ _ => rfl)) (pe_oIx (pe_eVar (pv 1)) (pe_eInt) (fun _ _ => rfl))) (pa_eCons (pe_oMul (pe_oIx (pe_eVar (pv 0)) (pe_eInt) (fun _ _ => rfl)) (pe_oIx (pe_eVar (pv 1)) (pe_eInt) (fun _ _ => rfl))) (pa_eNil)))))
/-! _law_part -/
abbrev s__law_part : Stmt := topS 21
abbrev N__law_part : List Str := ["a", "b"]
theorem sc__law_part : FnScope N__law_part ["a", "b"] (defScope s__law_part) := ⟨rfl, rfl, rfl, by decide +kernel, rfl, by decide +kernel, by decide +kernel⟩
theorem ok__law_part {P : Program} {w : World} {K : PySem.W.Frag} {mg : Str → Option Value} {base : Heap} {f : Addr} {fd : FuncData} {dV : Value} (F : FunV K dV "_law_part" "_law_part" s__law_part f fd) (h__law_f : Has P w K mg base "_law_f" 1 ["number", "divisor"] Lib.fn__law_f) : FnOk P w K mg base CX0 2 f fd ["a", "b"] (spP K 2 Lib.fn__law_part) :=
  fn_okV F sc__law_part fun c cdv A outer s H E hr => pss_eOne (ps_eRet (pe_eHas h__law_f (hr.mono (by decide)) (by rfl) (pa_eCons (pe_oMul (pe_oIx (pe_eVar (pv 0)) (pe_eInt) (fun _ _ => rfl)) (pe_oIx (pe_eVar (pv 1)) (pe_eInt) (fun _ _ => rfl))) (pa_eCons (pe_oMul (pe_oIx (pe_eVar (pv 0)) (pe_eInt) (fun _ _ => rfl)) (pe_oIx (pe_eVar (pv 1)) (pe_eInt) (fun _ _ => rfl))) (pa_eNil)))))
/-! _law_fresh -/
abbrev s__law_fresh : Stmt := topS 24
abbrev N__law_fresh : List Str := ["stream", "cells", "at", "cell", "prime", "first", "second", "third", "fourth"]
theorem sc__law_fresh : FnScope N__law_fresh ["stream"] (defScope s__law_fresh) := ⟨rfl, rfl, rfl, by decide +kernel, rfl, by decide +kernel, by decide +kernel⟩
theorem ok__law_fresh {P : Program} {w : World} {K : PySem.W.Frag} {mg : Str → Option Value} {base : Heap} {f : Addr} {fd : FuncData} {dV : Value} (F : FunV K dV "_law_fresh" "_law_fresh" s__law_fresh f fd) (n_len : mg "len" = none) (n_int : mg "int" = none) : FnOk P w K mg base CX0 1 f fd ["stream"] (spP K 1 Lib.fn__law_fresh) :=
  fn_okV F sc__law_fresh fun c cdv A outer s H E hr => pss_eCons (ps_eSet (i := 1) sc__law_fresh.nd rfl (Or.inl rfl) (pe_eCells (hu_of hr) (pv 0) pe_str (fun _ _ => rfl))) (pss_eCons (ps_eSet (i := 2) sc__law_fresh.nd rfl (Or.inl rfl) (pe_eStm (k := .place) (hu_of hr) (pv 0) pe_str (fun _ _ => rfl))) (pss_eCons (ps_eSet (i := 3) sc__law_fresh.nd rfl (Or.inl rfl) (pe_eVar (pv 2))) (pss_eCons (ps_eIf (pt_eCmp op_lt cmpS (pe_eVar (pv 2)) (pe_eCallB call_len lenS (by rfl) n_len PySem.boot_len (pa_eCons (pe_eVar (pv 1)) (pa_eNil))) (nomark _)) (pss_eOne (ps_eSet (i := 3) sc__law_fresh.nd rfl (Or.inl rfl) (pe_oIx (pe_eVar (pv 1)) (pe_eVar (pv 2)) (fun _ _ => rfl)))) (pss_eNil)) (pss_eCons (ps_eIf (pt_eCmp op_lt cmpS (pe_eVar (pv 3)) (pe_eInt) (nomark _)) (pss_eOne (ps_eSet (i := 3) sc__law_fresh.nd rfl (Or.inl rfl) (pe_oSub (pe_oSub (pe_eInt) (pe_oMul (pe_eInt) (pe_eVar (pv 3)))) (pe_eInt)))) (pss_eNil)) (pss_eCons (ps_eStm (k := .place) (hu_of hr) (pv 0) pe_str (pe_oAdd (pe_eVar (pv 2)) (pe_eInt)) (by rfl)) (pss_eCons (ps_eIf (pt_eCmp op_ge cmpS (pe_eVar (pv 3)) (pe_eInt) (nomark _)) (pss_eCons (ps_eStm (k := .rest) (hu_of hr) (pv 0) pe_str (pe_eVar (pv 3)) (by rfl)) (pss_eOne (ps_eRetN))) (pss_eNil)) (pss_eCons (ps_eSet (i := 4) sc__law_fresh.nd rfl (Or.inl rfl) (pe_eInt)) (pss_eCons (ps_eSet (i := 5) sc__law_fresh.nd rfl (Or.inl rfl) (pe_oMod (pe_eCallTy call_int1 intS (by rfl) n_int (by decide +kernel) (pa_eCons (pe_oAdd (pe_oAdd (pe_oAdd (pe_oMul (pe_eVar (pv 3)) (pe_eInt)) (pe_eStm (k := .mixed) (hu_of hr) (pv 0) pe_str (fun _ _ => rfl))) (pe_oMul (pe_eVar (pv 2)) (pe_eInt))) (pe_eInt)) (pa_eNil))) (pe_eVar (pv 4)))) (pss_eCons (ps_eSet (i := 6) sc__law_fresh.nd rfl (Or.inl rfl) (pe_oMod (pe_eCallTy call_int1 intS (by rfl) n_int (by decide +kernel) (pa_eCons (pe_oAdd (pe_oAdd (pe_oMul (pe_eVar (pv 5)) (pe_eVar (pv 5))) (pe_oMul (pe_eInt) (pe_eVar (pv 5)))) (pe_eVar (pv 2))) (pa_eNil))) (pe_eVar (pv 4)))) (pss_eCons (ps_eSet (i := 7) sc__law_fresh.nd rfl (Or.inl rfl) (pe_oMod (pe_eCallTy call_int1 intS (by rfl) n_int (by decide +kernel) (pa_eCons (pe_oAdd (pe_oAdd (pe_oMul (pe_eVar (pv 6)) (pe_eInt)) (pe_oMul (pe_eVar (pv 5)) (pe_eInt))) (pe_eInt)) (pa_eNil))) (pe_eVar (pv 4)))) (pss_eCons (ps_eSet (i := 8) sc__law_fresh.nd rfl (Or.inl rfl) (pe_oMod (pe_eCallTy call_int1 intS (by rfl) n_int (by decide +kernel) (pa_eCons (pe_oAdd (pe_oMul (pe_eVar (pv 7)) (pe_eVar (pv 7))) (pe_eVar (pv 6))) (pa_eNil))) (pe_eVar (pv 4)))) (pss_eCons (ps_eStm (k := .mixed) (hu_of hr) (pv 0) pe_str (pe_eVar (pv 7)) (by rfl)) (pss_eOne (ps_eStm (k := .rest) (hu_of hr) (pv 0) pe_str (pe_oAdd (pe_oMul (pe_oAdd (pe_oMul (pe_eVar (pv 8)) (pe_eVar (pv 4))) (pe_eVar (pv 7))) (pe_eVar (pv 4))) (pe_eVar (pv 6))) (by rfl)))))))))))))))
/-! _law_pick -/
abbrev s__law_pick : Stmt := topS 22
abbrev N__law_pick : List Str := ["stream", "many", "digit"]
theorem sc__law_pick : FnScope N__law_pick ["stream", "many"] (defScope s__law_pick) := ⟨rfl, rfl, rfl, by decide +kernel, rfl, by decide +kernel, by decide +kernel⟩
theorem ok__law_pick {P : Program} {w : World} {K : PySem.W.Frag} {mg : Str → Option Value} {base : Heap} {f : Addr} {fd : FuncData} {dV : Value} (F : FunV K dV "_law_pick" "_law_pick" s__law_pick f fd) (h__law_fresh : Has P w K mg base "_law_fresh" 1 ["stream"] Lib.fn__law_fresh) (n_int : mg "int" = none) : FnOk P w K mg base CX0 2 f fd ["stream", "many"] (spP K 2 Lib.fn__law_pick) :=
  fn_okV F sc__law_pick fun c cdv A outer s H E hr => pss_eCons (ps_eIf (pt_eCmp op_lt cmpS (pe_eStm (k := .rest) (hu_of hr) (pv 0) pe_str (fun _ _ => rfl)) (pe_eVar (pv 1)) (nomark _)) (pss_eOne (ps_eDrop (pe_eHas h__law_fresh (hr.mono (by decide)) (by rfl) (pa_eCons (pe_eVar (pv 0)) (pa_eNil))))) (pss_eNil)) (pss_eCons (ps_eSet (i := 2) sc__law_pick.nd rfl (Or.inl rfl) (pe_oMod (pe_eCallTy call_int1 intS (by rfl) n_int (by decide +kernel) (pa_eCons (pe_eStm (k := .rest) (hu_of hr) (pv 0) pe_str (fun _ _ => rfl)) (pa_eNil))) (pe_eVar (pv 1)))) (pss_eCons (ps_eStm (k := .rest) (hu_of hr) (pv 0) pe_str (pe_oDiv (pe_eStm (k := .rest) (hu_of hr) (pv 0) pe_str (fun _ _ => rfl)) (pe_eVar (pv 1))) (by rfl)) (pss_eOne (ps_eRet (pe_eVar (pv 2))))))
/-! _law_sum -/
abbrev s__law_sum : Stmt := topS 23
abbrev N__law_sum : List Str := ["a", "b"]
theorem sc__law_sum : FnScope N__law_sum ["a", "b"] (defScope s__law_sum) := ⟨rfl, rfl, rfl, by decide +kernel, rfl, by decide +kernel, by decide +kernel⟩
theorem ok__law_sum {P : Program} {w : World} {K : PySem.W.Frag} {mg : Str → Option Value} {base : Heap} {f : Addr} {fd : FuncData} {dV : Value} (F : FunV K dV "_law_sum" "_law_sum" s__law_sum f fd) (h__law_f : Has P w K mg base "_law_f" 1 ["number", "divisor"] Lib.fn__law_f) : FnOk P w K mg base CX0 2 f fd ["a", "b"] (spP K 2 Lib.fn__law_sum) :=
  fn_okV F sc__law_sum fun c cdv A outer s H E hr => pss_eOne (ps_eRet (pe_eHas h__law_f (hr.mono (by decide)) (by rfl) (pa_eCons (pe_oAdd (pe_oMul (pe_oIx (pe_eVar (pv 0)) (pe_eInt) (fun _ _ => rfl)) (pe_oIx (pe_eVar (pv 1)) (pe_eInt) (fun _ _ => rfl))) (pe_oMul (pe_oIx (pe_eVar (pv 1)) (pe_eInt) (fun _ _ => rfl)) (pe_oIx (pe_eVar (pv 0)) (pe_eInt) (fun _ _ => rfl)))) (pa_eCons (pe_oMul (pe_oIx (pe_eVar (pv 0)) (pe_eInt) (fun _ _ => rfl)) (pe_oIx (pe_eVar (pv 1)) (pe_eInt) (fun _ _ => rfl))) (pa_eNil)))))
/-! _law_less_row -/
abbrev s__law_less_row : Stmt := topS 26
abbrev N__law_less_row : List Str := ["row", "factor", "other", "k"]
theorem sc__law_less_row : FnScope N__law_less_row ["row", "factor", "other"] (defScope s__law_less_row) := ⟨rfl, rfl, rfl, by decide +kernel, rfl, by decide +kernel, by decide +kernel⟩
noncomputable def b__law_less_row : SF := sRet (eFrz (fComp [3] (iRange1 (aCons (eApp bLen (aCons (eVar 0) (aNil))) (aNil))) (gSet 3) (tfYes) (eCall Lib.fn__law_less_by (aCons (eBin oIx (eVar 0) (eVar 3)) (aCons (eCall Lib.fn__law_times (aCons (eVar 1) (aCons (eBin oIx (eVar 2) (eVar 3)) (aNil)))) (aNil))))))
noncomputable def fn__law_less_row : FnD := fnOf 4 3 b__law_less_row
theorem ok__law_less_row {P : Program} {w : World} {K : PySem.W.Frag} {mg : Str → Option Value} {base : Heap} {f : Addr} {fd : FuncData} {dV : Value} (F : FunV K dV "_law_less_row" "_law_less_row" s__law_less_row f fd) (h__law_less_by : Has P w K mg base "_law_less_by" 2 ["a", "b"] Lib.fn__law_less_by) (h__law_times : Has P w K mg base "_law_times" 2 ["a", "b"] Lib.fn__law_times) (n_len : mg "len" = none) (n_range : mg "range" = none) : FnOk P w K mg base CX0 3 f fd ["row", "factor", "other"] (spP K 3 fn__law_less_row) :=
  fn_okV F sc__law_less_row fun c cdv A outer s H E hr => pss_eOne (ps_eRet (pe_eFrz (pf_comp (own := [("k", 3)]) rfl sc__law_less_row.nd (pi_eRange1 (by rfl) n_range (pa_eCons (pe_eCallB call_len lenS (by rfl) n_len PySem.boot_len (pa_eCons (pe_eVar (pv 0)) (pa_eNil))) (pa_eNil))) (blkOk_by (N := N__law_less_row) (sc := defScope s__law_less_row) (by decide +kernel)) (fun _ _ _ _ _ => pg_name (i := 3) sc__law_less_row.nd rfl (Or.inl rfl)) (tg_set (by decide)) (fun _ _ _ _ _ => pts_nil) tYes_of (fun _ _ _ _ _ => pe_eHas h__law_less_by (hr.mono (by decide)) (by rfl) (pa_eCons (pe_oIx (pe_eVar (pv 0)) (pe_eVar (pv 3)) (fun _ _ => rfl)) (pa_eCons (pe_eHas h__law_times (hr.mono (by decide)) (by rfl) (pa_eCons (pe_eVar (pv 1)) (pa_eCons (pe_oIx (pe_eVar (pv 2)) (pe_eVar (pv 3)) (fun _ _ => rfl)) (pa_eNil)))) (pa_eNil)))))))
/-! _law_settled -/
abbrev s__law_settled : Stmt := topS 27
abbrev N__law_settled : List Str := ["rows", "many", "kept", "k", "row", "lead", "other", "leads", "found", "j", "one"]
theorem sc__law_settled : FnScope N__law_settled ["rows", "many"] (defScope s__law_settled) := ⟨rfl, rfl, rfl, by decide +kernel, rfl, by decide +kernel, by decide +kernel⟩
noncomputable def b__law_settled : SF := sSeq (sAsg (gSet 2) (eFrz (fLst (aNil)))) (sSeq (sFor (iRange1 (aCons (eApp bLen (aCons (eVar 0) (aNil))) (aNil))) (gSet 3) (sSeq (sAsg (gSet 4) (eBin oAdd (eBin oAdd (eBin oIx (eBin oIx (eVar 0) (eVar 3)) (eC (.int 0))) (eFrz (fLst (aCons (eBin oIx (eBin oIx (eVar 0) (eVar 3)) (eC (.int 1))) (aNil))))) (eFrz (fComp [9] (iRange1 (aCons (eApp bLen (aCons (eVar 0) (aNil))) (aNil))) (gSet 9) (tfYes) (eTup (aCons (eApp bInt (aCons (eBin (oEq) (eVar 9) (eVar 3)) (aNil))) (aCons (eC (.int 1)) (aNil)))))))) (sSeq (sFor (iSeq (eVar 2)) (gTupF [gSet 5, gSet 6]) (sAsg (gSet 4) (eCall fn__law_less_row (aCons (eVar 4) (aCons (eBin oIx (eVar 4) (eVar 5)) (aCons (eVar 6) (aNil))))))) (sSeq (sAsg (gSet 7) (eFrz (fComp [9] (iRange1 (aCons (eVar 1) (aNil))) (gSet 9) (tOfE (eBin (oNe) (eBin oIx (eBin oIx (eVar 4) (eVar 9)) (eC (.int 0))) (eC (.int 0)))) (eVar 9)))) (sIf (tOfE (eBin (oNe) (eVar 7) (eFrz (fLst (aNil))))) (sSeq (sAsg (gSet 4) (eFrz (fComp [10] (iSeq (eVar 4)) (gSet 10) (tfYes) (eCall Lib.fn__law_part (aCons (eVar 10) (aCons (eBin oIx (eVar 4) (eBin oIx (eVar 7) (eC (.int 0)))) (aNil))))))) (sAsg (gSet 2) (eBin oAdd (eFrz (fComp [5, 6] (iSeq (eVar 2)) (gTupF [gSet 5, gSet 6]) (tfYes) (eTup (aCons (eVar 5) (aCons (eCall fn__law_less_row (aCons (eVar 6) (aCons (eBin oIx (eVar 6) (eBin oIx (eVar 7) (eC (.int 0)))) (aCons (eVar 4) (aNil))))) (aNil)))))) (eFrz (fLst (aCons (eTup (aCons (eBin oIx (eVar 7) (eC (.int 0))) (aCons (eVar 4) (aNil)))) (aNil))))))) (sIf (tOfE (eBin (oNe) (eBin oIx (eBin oIx (eVar 4) (eVar 1)) (eC (.int 0))) (eC (.int 0)))) (sRet (eTup (aCons (eC (.str "conflict")) (aCons (eFrz (fComp [9] (iRange1 (aCons (eApp bLen (aCons (eVar 0) (aNil))) (aNil))) (gSet 9) (tOfE (eBin (oNe) (eBin oIx (eBin oIx (eVar 4) (eBin oAdd (eBin oAdd (eVar 1) (eC (.int 1))) (eVar 9))) (eC (.int 0))) (eC (.int 0)))) (eVar 9))) (aNil))))) (sNext))))))) (sSeq (sOwn 8 (fRep (eFrz (fLst (aCons (eC .non) (aNil)))) (eVar 1))) (sSeq (sFor (iSeq (eVar 2)) (gTupF [gSet 5, gSet 4]) (sIf (tOfE (eBin (oEq) (eFrz (fComp [9] (iRange1 (aCons (eVar 1) (aNil))) (gSet 9) (tOfE (eBin (oNe) (eBin oIx (eBin oIx (eVar 4) (eVar 9)) (eC (.int 0))) (eC (.int 0)))) (eVar 9))) (eFrz (fLst (aCons (eVar 5) (aNil)))))) (sPut 8 (eVar 5) (eBin oIx (eVar 4) (eVar 1))) (sNext))) (sFrz 8 (sRet (eTup (aCons (eC (.str "kept")) (aCons (eVar 8) (aNil)))))))))
noncomputable def fn__law_settled : FnD := fnOf 11 2 b__law_settled
theorem ok__law_settled {P : Program} {w : World} {K : PySem.W.Frag} {mg : Str → Option Value} {base : Heap} {f : Addr} {fd : FuncData} {dV : Value} (F : FunV K dV "_law_settled" "_law_settled" s__law_settled f fd) (h__law_less_row : Has P w K mg base "_law_less_row" 3 ["row", "factor", "other"] fn__law_less_row) (h__law_part : Has P w K mg base "_law_part" 2 ["a", "b"] Lib.fn__law_part) (n_len : mg "len" = none) (n_range : mg "range" = none) (n_int : mg "int" = none) : FnOk P w K mg base CX0 4 f fd ["rows", "many"] (spP K 2 fn__law_settled) :=
  fn_okV F sc__law_settled fun c cdv A outer s H E hr => pss_eCons (ps_eSet (i := 2) sc__law_settled.nd rfl (Or.inl rfl) (pe_eFrz (pf_lst (pa_eNil)))) (pss_eCons (ps_eFor (vs := [0, 1, 2, 3, 4, 5, 6, 7, 8, 9, 10]) PassesOwn.never rfl (pi_eRange1 (by rfl) n_range (pa_eCons (pe_eCallB call_len lenS (by rfl) n_len PySem.boot_len (pa_eCons (pe_eVar (pv 0)) (pa_eNil))) (pa_eNil))) (pg_name (i := 3) sc__law_settled.nd rfl (Or.inr rfl)) (tg_set (by decide)) (pss_eCons (ps_eSet (i := 4) sc__law_settled.nd rfl (Or.inr rfl) (pe_oAdd (pe_oAdd (pe_oIx (pe_oIx (pe_eVar (pv 0)) (pe_eVar (pv 3)) (fun _ _ => rfl)) (pe_eInt) (fun _ _ => rfl)) (pe_eFrz (pf_lst (pa_eCons (pe_oIx (pe_oIx (pe_eVar (pv 0)) (pe_eVar (pv 3)) (fun _ _ => rfl)) (pe_eInt) (fun _ _ => rfl)) (pa_eNil))))) (pe_eFrz (pf_comp (own := [("j", 9)]) rfl sc__law_settled.nd (pi_eRange1 (by rfl) n_range (pa_eCons (pe_eCallB call_len lenS (by rfl) n_len PySem.boot_len (pa_eCons (pe_eVar (pv 0)) (pa_eNil))) (pa_eNil))) (blkOk_by (N := N__law_settled) (sc := defScope s__law_settled) (by decide +kernel)) (fun _ _ _ _ _ => pg_name (i := 9) sc__law_settled.nd rfl (Or.inl rfl)) (tg_set (by decide)) (fun _ _ _ _ _ => pts_nil) tYes_of (fun _ _ _ _ _ => pe_eTup (pa_eCons (pe_eCallTy call_int1 intS (by rfl) n_int (by decide +kernel) (pa_eCons (pe_eCmp (op_eqD hr.units) eqS (pe_eVar (pv 9)) (pe_eVar (pv 3)) (nomark _)) (pa_eNil))) (pa_eCons (pe_eInt) (pa_eNil)))))))) (pss_eCons (ps_eFor (vs := [0, 1, 2, 3, 4, 5, 6, 7, 8, 9, 10]) PassesOwn.never rfl (pi_eSeq (pe_eVar (pv 2))) (pg_tup rfl (pgs_cons (pg_name (i := 5) sc__law_settled.nd rfl (Or.inl rfl)) (pgs_cons (pg_name (i := 6) sc__law_settled.nd rfl (Or.inl rfl)) (pgs_nil)))) (tg_tup (tgs_cons (tg_set (by decide)) (tgs_cons (tg_set (by decide)) (tgs_nil)))) (pss_eOne (ps_eSet (i := 4) sc__law_settled.nd rfl (Or.inr rfl) (pe_eHas h__law_less_row (hr.mono (by decide)) (by rfl) (pa_eCons (pe_eVar (pv 4)) (pa_eCons (pe_oIx (pe_eVar (pv 4)) (pe_eVar (pv 5)) (fun _ _ => rfl)) (pa_eCons (pe_eVar (pv 6)) (pa_eNil)))))))) (pss_eCons (ps_eSet (i := 7) sc__law_settled.nd rfl (Or.inr rfl) (pe_eFrz (pf_comp (own := [("j", 9)]) rfl sc__law_settled.nd (pi_eRange1 (by rfl) n_range (pa_eCons (pe_eVar (pv 1)) (pa_eNil))) (blkOk_by (N := N__law_settled) (sc := defScope s__law_settled) (by decide +kernel)) (fun _ _ _ _ _ => pg_name (i := 9) sc__law_settled.nd rfl (Or.inl rfl)) (tg_set (by decide)) (fun _ _ _ _ _ => pts_one (pt_eCmp (op_neD hr.units) neS (pe_oIx (pe_oIx (pe_eVar (pv 4)) (pe_eVar (pv 9)) (fun _ _ => rfl)) (pe_eInt) (fun _ _ => rfl)) (pe_eInt) (nomark _))) (fun _ _ _ q => q) (fun _ _ _ _ _ => pe_eVar (pv 9))))) (pss_eOne (ps_eIf (pt_eCmp (op_neD hr.units) neS (pe_eVar (pv 7)) (pe_eFrz (pf_lst (pa_eNil))) (nomark _)) (pss_eCons (ps_eSet (i := 4) sc__law_settled.nd rfl (Or.inr rfl) (pe_eFrz (pf_comp (own := [("one", 10)]) rfl sc__law_settled.nd (pi_eSeq (pe_eVar (pv 4))) (blkOk_by (N := N__law_settled) (sc := defScope s__law_settled) (by decide +kernel)) (fun _ _ _ _ _ => pg_name (i := 10) sc__law_settled.nd rfl (Or.inl rfl)) (tg_set (by decide)) (fun _ _ _ _ _ => pts_nil) tYes_of (fun _ _ _ _ _ => pe_eHas h__law_part (hr.mono (by decide)) (by rfl) (pa_eCons (pe_eVar (pv 10)) (pa_eCons (pe_oIx (pe_eVar (pv 4)) (pe_oIx (pe_eVar (pv 7)) (pe_eInt) (fun _ _ => rfl)) (fun _ _ => rfl)) (pa_eNil))))))) (pss_eOne (ps_eSet (i := 2) sc__law_settled.nd rfl (Or.inl rfl) (pe_oAdd (pe_eFrz (pf_comp (own := [("lead", 5), ("other", 6)]) rfl sc__law_settled.nd (pi_eSeq (pe_eVar (pv 2))) (blkOk_by (N := N__law_settled) (sc := defScope s__law_settled) (by decide +kernel)) (fun _ _ _ _ _ => pg_tup rfl (pgs_cons (pg_name (i := 5) sc__law_settled.nd rfl (Or.inl rfl)) (pgs_cons (pg_name (i := 6) sc__law_settled.nd rfl (Or.inl rfl)) (pgs_nil)))) (tg_tup (tgs_cons (tg_set (by decide)) (tgs_cons (tg_set (by decide)) (tgs_nil)))) (fun _ _ _ _ _ => pts_nil) tYes_of (fun _ _ _ _ _ => pe_eTup (pa_eCons (pe_eVar (pv 5)) (pa_eCons (pe_eHas h__law_less_row (hr.mono (by decide)) (by rfl) (pa_eCons (pe_eVar (pv 6)) (pa_eCons (pe_oIx (pe_eVar (pv 6)) (pe_oIx (pe_eVar (pv 7)) (pe_eInt) (fun _ _ => rfl)) (fun _ _ => rfl)) (pa_eCons (pe_eVar (pv 4)) (pa_eNil))))) (pa_eNil)))))) (pe_eFrz (pf_lst (pa_eCons (pe_eTup (pa_eCons (pe_oIx (pe_eVar (pv 7)) (pe_eInt) (fun _ _ => rfl)) (pa_eCons (pe_eVar (pv 4)) (pa_eNil)))) (pa_eNil)))))))) (pss_eOne (ps_eIf (pt_eCmp (op_neD hr.units) neS (pe_oIx (pe_oIx (pe_eVar (pv 4)) (pe_eVar (pv 1)) (fun _ _ => rfl)) (pe_eInt) (fun _ _ => rfl)) (pe_eInt) (nomark _)) (pss_eOne (ps_eRet (pe_eTup (pa_eCons (pe_eStr) (pa_eCons (pe_eFrz (pf_comp (own := [("j", 9)]) rfl sc__law_settled.nd (pi_eRange1 (by rfl) n_range (pa_eCons (pe_eCallB call_len lenS (by rfl) n_len PySem.boot_len (pa_eCons (pe_eVar (pv 0)) (pa_eNil))) (pa_eNil))) (blkOk_by (N := N__law_settled) (sc := defScope s__law_settled) (by decide +kernel)) (fun _ _ _ _ _ => pg_name (i := 9) sc__law_settled.nd rfl (Or.inl rfl)) (tg_set (by decide)) (fun _ _ _ _ _ => pts_one (pt_eCmp (op_neD hr.units) neS (pe_oIx (pe_oIx (pe_eVar (pv 4)) (pe_oAdd (pe_oAdd (pe_eVar (pv 1)) (pe_eInt)) (pe_eVar (pv 9))) (fun _ _ => rfl)) (pe_eInt) (fun _ _ => rfl)) (pe_eInt) (nomark _))) (fun _ _ _ q => q) (fun _ _ _ _ _ => pe_eVar (pv 9)))) (pa_eNil)))))) (pss_eNil))))))))) (pss_eCons (ps_eOwn (i := 8) sc__law_settled.nd rfl (Or.inl rfl) (pf_rep (pe_eFrz (pf_lst (pa_eCons (pe_eNon) (pa_eNil)))) (pe_eVar (pv 1)))) (pss_eCons (ps_eFor (vs := [0, 1, 2, 3, 4, 5, 6, 7, 8, 9, 10]) PassesOwn.never rfl (pi_eSeq (pe_eVar (pv 2))) (pg_tup rfl (pgs_cons (pg_name (i := 5) sc__law_settled.nd rfl (Or.inl rfl)) (pgs_cons (pg_name (i := 4) sc__law_settled.nd rfl (Or.inr rfl)) (pgs_nil)))) (tg_tup (tgs_cons (tg_set (by decide)) (tgs_cons (tg_set (by decide)) (tgs_nil)))) (pss_eOne (ps_eIf (pt_eCmp (op_eqD hr.units) eqS (pe_eFrz (pf_comp (own := [("j", 9)]) rfl sc__law_settled.nd (pi_eRange1 (by rfl) n_range (pa_eCons (pe_eVar (pv 1)) (pa_eNil))) (blkOk_by (N := N__law_settled) (sc := defScope s__law_settled) (by decide +kernel)) (fun _ _ _ _ _ => pg_name (i := 9) sc__law_settled.nd rfl (Or.inl rfl)) (tg_set (by decide)) (fun _ _ _ _ _ => pts_one (pt_eCmp (op_neD hr.units) neS (pe_oIx (pe_oIx (pe_eVar (pv 4)) (pe_eVar (pv 9)) (fun _ _ => rfl)) (pe_eInt) (fun _ _ => rfl)) (pe_eInt) (nomark _))) (fun _ _ _ q => q) (fun _ _ _ _ _ => pe_eVar (pv 9)))) (pe_eFrz (pf_lst (pa_eCons (pe_eVar (pv 5)) (pa_eNil)))) (nomark _)) (pss_eOne (ps_ePut (pv 8) (pe_eVar (pv 5)) (pe_oIx (pe_eVar (pv 4)) (pe_eVar (pv 1)) (fun _ _ => rfl)))) (pss_eNil)))) (frz_PSs (i := 8) (pss_eOne (ps_eRet (pe_eTup (pa_eCons (pe_eStr) (pa_eCons (pe_eVar (pv 8)) (pa_eNil))))))))))
/-! _law_rows -/
abbrev s__law_rows : Stmt := topS 28
abbrev N__law_rows : List Str := ["stream", "many", "rows", "k", "kind", "row", "bound", "one", "other", "factor", "j"]
theorem sc__law_rows : FnScope N__law_rows ["stream", "many"] (defScope s__law_rows) := ⟨rfl, rfl, rfl, by decide +kernel, rfl, by decide +kernel, by decide +kernel⟩
noncomputable def b__law_rows : SF := sSeq (sOwn 2 (fLst (aNil))) (sSeq (sFor (iRange1 (aCons (eCall Lib.fn__law_pick (aCons (eVar 0) (aCons (eC (.int 9)) (aNil)))) (aNil))) (gSet 3) (sSeq (sAsg (gSet 4) (eCall Lib.fn__law_pick (aCons (eVar 0) (aCons (eC (.int 4)) (aNil))))) (sSeq (sAsg (gSet 5) (eFrz (fComp [10] (iRange1 (aCons (eVar 1) (aNil))) (gSet 10) (tfYes) (eCall Lib.fn__law_f (aCons (eBin oSub (eCall Lib.fn__law_pick (aCons (eVar 0) (aCons (eC (.int 5)) (aNil)))) (eC (.int 2))) (aCons (eBin oIx (eTup (aCons (eC (.int 1)) (aCons (eC (.int 1)) (aCons (eC (.int 2)) (aNil))))) (eCall Lib.fn__law_pick (aCons (eVar 0) (aCons (eC (.int 3)) (aNil))))) (aNil))))))) (sSeq (sAsg (gSet 6) (eCall Lib.fn__law_f (aCons (eBin oSub (eCall Lib.fn__law_pick (aCons (eVar 0) (aCons (eC (.int 7)) (aNil)))) (eC (.int 3))) (aCons (eBin oAdd (eC (.int 1)) (eCall Lib.fn__law_pick (aCons (eVar 0) (aCons (eC (.int 2)) (aNil))))) (aNil))))) (sSeq (sIf (tfAnd (tOfE (eBin (oCmp (fun i j => decide (j < i))) (eVar 4) (eC (.int 1)))) (tOfE (eBin (oCmp (fun i j => decide (j < i))) (eLenOw 2) (eC (.int 1))))) (sSeq (sPar 7 8 (aCons (eIxOw 2 (eCall Lib.fn__law_pick (aCons (eVar 0) (aCons (eLenOw 2) (aNil))))) (aCons (eIxOw 2 (eCall Lib.fn__law_pick (aCons (eVar 0) (aCons (eLenOw 2) (aNil))))) (aNil)))) (sSeq (sAsg (gSet 9) (eCall Lib.fn__law_f (aCons (eBin oSub (eCall Lib.fn__law_pick (aCons (eVar 0) (aCons (eC (.int 5)) (aNil)))) (eC (.int 2))) (aCons (eC (.int 1)) (aNil))))) (sSeq (sAsg (gSet 5) (eCall fn__law_less_row (aCons (eBin oIx (eVar 7) (eC (.int 0))) (aCons (eVar 9) (aCons (eBin oIx (eVar 8) (eC (.int 0))) (aNil)))))) (sSeq (sAsg (gSet 6) (eCall Lib.fn__law_less_by (aCons (eBin oIx (eVar 7) (eC (.int 1))) (aCons (eCall Lib.fn__law_times (aCons (eVar 9) (aCons (eBin oIx (eVar 8) (eC (.int 1))) (aNil)))) (aNil))))) (sIf (tOfE (eBin (oEq) (eCall Lib.fn__law_pick (aCons (eVar 0) (aCons (eC (.int 6)) (aNil)))) (eC (.int 0)))) (sAsg (gSet 6) (eCall Lib.fn__law_sum (aCons (eVar 6) (aCons (eTup (aCons (eC (.int 1)) (aCons (eC (.int 1)) (aNil)))) (aNil))))) (sNext)))))) (sNext)) (sApp 2 (eTup (aCons (eVar 5) (aCons (eVar 6) (aNil)))))))))) (sFrz 2 (sRet (eVar 2))))
noncomputable def fn__law_rows : FnD := fnOf 11 2 b__law_rows
theorem ok__law_rows {P : Program} {w : World} {K : PySem.W.Frag} {mg : Str → Option Value} {base : Heap} {f : Addr} {fd : FuncData} {dV : Value} (F : FunV K dV "_law_rows" "_law_rows" s__law_rows f fd) (h__law_pick : Has P w K mg base "_law_pick" 2 ["stream", "many"] Lib.fn__law_pick) (h__law_f : Has P w K mg base "_law_f" 1 ["number", "divisor"] Lib.fn__law_f) (h__law_less_row : Has P w K mg base "_law_less_row" 3 ["row", "factor", "other"] fn__law_less_row) (h__law_less_by : Has P w K mg base "_law_less_by" 2 ["a", "b"] Lib.fn__law_less_by) (h__law_times : Has P w K mg base "_law_times" 2 ["a", "b"] Lib.fn__law_times) (h__law_sum : Has P w K mg base "_law_sum" 2 ["a", "b"] Lib.fn__law_sum) (n_range : mg "range" = none) (n_len : mg "len" = none) : FnOk P w K mg base CX0 4 f fd ["stream", "many"] (spP K 2 fn__law_rows) :=
  fn_okV F sc__law_rows fun c cdv A outer s H E hr => pss_eCons (ps_eOwn (i := 2) sc__law_rows.nd rfl (Or.inl rfl) (pf_lst (pa_eNil))) (pss_eCons (ps_eFor (vs := [0, 1, 2, 3, 4, 5, 6, 7, 8, 9, 10]) PassesOwn.never rfl (pi_eRange1 (by rfl) n_range (pa_eCons (pe_eHas h__law_pick (hr.mono (by decide)) (by rfl) (pa_eCons (pe_eVar (pv 0)) (pa_eCons (pe_eInt) (pa_eNil)))) (pa_eNil))) (pg_name (i := 3) sc__law_rows.nd rfl (Or.inl rfl)) (tg_set (by decide)) (pss_eCons (ps_eSet (i := 4) sc__law_rows.nd rfl (Or.inl rfl) (pe_eHas h__law_pick (hr.mono (by decide)) (by rfl) (pa_eCons (pe_eVar (pv 0)) (pa_eCons (pe_eInt) (pa_eNil))))) (pss_eCons (ps_eSetLc (i := 5) (own := [("j", 10)]) rfl sc__law_rows.nd rfl rfl (sw_true rfl rfl rfl (by decide +kernel)) (pi_eRange1 (by rfl) n_range (pa_eCons (pe_eVar (pv 1)) (pa_eNil))) (blkOk_by (N := N__law_rows) (sc := defScope s__law_rows) (by decide +kernel)) (fun _ _ _ _ _ => pg_name (i := 10) sc__law_rows.nd rfl (Or.inl rfl)) (tg_set (by decide)) (fun _ _ _ _ _ => pts_nil) tYes_of (fun _ _ _ _ _ => pe_eHas h__law_f (hr.mono (by decide)) (by rfl) (pa_eCons (pe_oSub (pe_eHas h__law_pick (hr.mono (by decide)) (by rfl) (pa_eCons (pe_eVar (pv 0)) (pa_eCons (pe_eInt) (pa_eNil)))) (pe_eInt)) (pa_eCons (pe_oIx (pe_eTup (pa_eCons (pe_eInt) (pa_eCons (pe_eInt) (pa_eCons (pe_eInt) (pa_eNil))))) (pe_eHas h__law_pick (hr.mono (by decide)) (by rfl) (pa_eCons (pe_eVar (pv 0)) (pa_eCons (pe_eInt) (pa_eNil)))) (fun _ _ => rfl)) (pa_eNil))))) (pss_eCons (ps_eSet (i := 6) sc__law_rows.nd rfl (Or.inl rfl) (pe_eHas h__law_f (hr.mono (by decide)) (by rfl) (pa_eCons (pe_oSub (pe_eHas h__law_pick (hr.mono (by decide)) (by rfl) (pa_eCons (pe_eVar (pv 0)) (pa_eCons (pe_eInt) (pa_eNil)))) (pe_eInt)) (pa_eCons (pe_oAdd (pe_eInt) (pe_eHas h__law_pick (hr.mono (by decide)) (by rfl) (pa_eCons (pe_eVar (pv 0)) (pa_eCons (pe_eInt) (pa_eNil))))) (pa_eNil))))) (pss_eCons (ps_eIf (PW.pt (pw_eAnd (pt_eCmp op_gt cmpS (pe_eVar (pv 4)) (pe_eInt) (nomark _)) (pw_and1 (pt_eCmp op_gt cmpS (pe_eLenOw (pe_callB call_len (by rfl) n_len PySem.boot_len (pa_cons (pv 2) pa_nil))) (pe_eInt) (nomark _))))) (pss_eCons (ps_ePar (i := 7) (j := 8) rfl sc__law_rows.nd rfl rfl (by decide) rfl rfl (pa_eCons (pe_eIxOw (pv 2) (pe_eHas h__law_pick (hr.mono (by decide)) (by rfl) (pa_eCons (pe_eVar (pv 0)) (pa_eCons (pe_eLenOw (pe_callB call_len (by rfl) n_len PySem.boot_len (pa_cons (pv 2) pa_nil))) (pa_eNil)))) (fun _ _ => rfl)) (pa_eCons (pe_eIxOw (pv 2) (pe_eHas h__law_pick (hr.mono (by decide)) (by rfl) (pa_eCons (pe_eVar (pv 0)) (pa_eCons (pe_eLenOw (pe_callB call_len (by rfl) n_len PySem.boot_len (pa_cons (pv 2) pa_nil))) (pa_eNil)))) (fun _ _ => rfl)) (pa_eNil))) (by rfl)) (pss_eCons (ps_eSet (i := 9) sc__law_rows.nd rfl (Or.inl rfl) (pe_eHas h__law_f (hr.mono (by decide)) (by rfl) (pa_eCons (pe_oSub (pe_eHas h__law_pick (hr.mono (by decide)) (by rfl) (pa_eCons (pe_eVar (pv 0)) (pa_eCons (pe_eInt) (pa_eNil)))) (pe_eInt)) (pa_eCons (pe_eInt) (pa_eNil))))) (pss_eCons (ps_eSet (i := 5) sc__law_rows.nd rfl (Or.inl rfl) (pe_eHas h__law_less_row (hr.mono (by decide)) (by rfl) (pa_eCons (pe_oIx (pe_eVar (pv 7)) (pe_eInt) (fun _ _ => rfl)) (pa_eCons (pe_eVar (pv 9)) (pa_eCons (pe_oIx (pe_eVar (pv 8)) (pe_eInt) (fun _ _ => rfl)) (pa_eNil)))))) (pss_eCons (ps_eSet (i := 6) sc__law_rows.nd rfl (Or.inl rfl) (pe_eHas h__law_less_by (hr.mono (by decide)) (by rfl) (pa_eCons (pe_oIx (pe_eVar (pv 7)) (pe_eInt) (fun _ _ => rfl)) (pa_eCons (pe_eHas h__law_times (hr.mono (by decide)) (by rfl) (pa_eCons (pe_eVar (pv 9)) (pa_eCons (pe_oIx (pe_eVar (pv 8)) (pe_eInt) (fun _ _ => rfl)) (pa_eNil)))) (pa_eNil))))) (pss_eOne (ps_eIf (pt_eCmp (op_eqD hr.units) eqS (pe_eHas h__law_pick (hr.mono (by decide)) (by rfl) (pa_eCons (pe_eVar (pv 0)) (pa_eCons (pe_eInt) (pa_eNil)))) (pe_eInt) (nomark _)) (pss_eOne (ps_eSet (i := 6) sc__law_rows.nd rfl (Or.inl rfl) (pe_eHas h__law_sum (hr.mono (by decide)) (by rfl) (pa_eCons (pe_eVar (pv 6)) (pa_eCons (pe_eTup (pa_eCons (pe_eInt) (pa_eCons (pe_eInt) (pa_eNil)))) (pa_eNil)))))) (pss_eNil))))))) (pss_eNil)) (pss_eOne (ps_eApp (pe_bm PySem.F.plainAttrs_list PySem.F.slot_list_append PySem.F.type_list_append mt_append (pv 2) (pa_eCons (pe_eTup (pa_eCons (pe_eVar (pv 5)) (pa_eCons (pe_eVar (pv 6)) (pa_eNil)))) pa_eNil))))))))) (frz_PSs (i := 2) (pss_eOne (ps_eRet (pe_eVar (pv 2))))))
/-! the stream, the law, the end -/
abbrev s_stream : Stmt := topS 25
abbrev N_stream : List Str := ["script", "cell"]
theorem sc_stream : FnScope N_stream ["script"] (defScope s_stream) := ⟨rfl, rfl, rfl, by decide +kernel, rfl, by decide +kernel, by decide +kernel⟩
theorem ok_stream {P : Program} {w : World} {K : PySem.W.Frag} {mg : Str → Option Value} {base : Heap} {f : Addr} {fd : FuncData} {dV : Value} (F : FunV K dV "_law_stream" "_law_stream" s_stream f fd) (n_int : mg "int" = none) : FnOk P w K mg base CX0 1 f fd ["script"] (spStream K) := by
  obtain ⟨oc, od, kV, doc, pm, an, cdv, ct, osl, rfl, lk, hcd⟩ := F.ex
  refine fn_of lk hcd sc_stream (fun vs H Q E h => by obtain ⟨a, ns, rfl, _⟩ := h; rfl) fun A outer s H vs Q E hr h => ?_
  obtain ⟨a, ns, rfl, hS, hlen, k⟩ := h
  refine ⟨_, PSs.nox (pss_one (ps_ret (pe_disp (pps_cons pe_str (pe_lc (own := [("cell", 1)]) (g := gName 1) (tt := tYes) rfl sc_stream.nd (pi_list (pe_slice sl_list (pv 0) po_none (po_some pe_int))) (blkOk_by (N := N_stream) (sc := defScope s_stream) (by decide +kernel)) (fun _ _ _ _ _ => pg_name (i := 1) sc_stream.nd rfl (Or.inl rfl)) (fun _ _ _ _ _ => pts_nil) (fun _ _ _ _ _ => pe_callTy call_int1 (by rfl) n_int (by decide +kernel) (pa_cons (pv 1) pa_nil)))
    (pps_cons pe_str pe_int (pps_cons pe_str pe_int (pps_cons pe_str pe_int pps_nil)))) (by rfl) (by rfl) (fun z => by cases z) (by decide)))), ?_⟩
  exact stream_read rfl rfl (fun σ H R z hz q => ⟨_, hz, .inl ⟨z, rfl, q⟩⟩) hS hlen k
abbrev s_law : Stmt := topS 29
abbrev N_law : List Str := ["script", "stream", "turn", "many", "rows", "state", "found", "due", "row", "bound", "k"]
theorem sc_law : FnScope N_law ["script"] (defScope s_law) := ⟨rfl, rfl, rfl, by decide +kernel, rfl, by decide +kernel, by decide +kernel⟩
noncomputable def b_law : SF := sSeq (sFor (iRange1 (aCons (eC (.int 4)) (aNil))) (gSet 2) (sSeq (sAsg (gSet 3) (eBin oAdd (eC (.int 1)) (eCall Lib.fn__law_pick (aCons (eVar 1) (aCons (eC (.int 5)) (aNil)))))) (sSeq (sAsg (gSet 4) (eCall fn__law_rows (aCons (eVar 1) (aCons (eVar 3) (aNil))))) (sSeq (sAsg (gTupF [gSet 5, gSet 6]) (eCall fn_settle (aCons (eFrz (fComp [8, 9] (iSeq (eVar 4)) (gTupF [gSet 8, gSet 9]) (tfYes) (eTup (aCons (eFrz (fListOf (aCons (eVar 8) (aNil)))) (aCons (eVar 9) (aNil)))))) (aCons (eVar 3) (aNil))))) (sSeq (sAsg (gSet 7) (eCall fn__law_settled (aCons (eVar 4) (aCons (eVar 3) (aNil))))) (sSeq (sIf (tfOr (tOfE (eBin (oNe) (eVar 5) (eBin oIx (eVar 7) (eC (.int 0))))) (tfAnd (tOfE (eBin (oEq) (eVar 5) (eC (.str "conflict")))) (tOfE (eBin (oNe) (eFrz (fListOf (aCons (eVar 6) (aNil)))) (eBin oIx (eVar 7) (eC (.int 1))))))) (sRet (eC (.bl false))) (sNext)) (sIf (tOfE (eBin (oEq) (eVar 5) (eC (.str "kept")))) (sIf (tOfE (eBin (oNe) (eFrz (fComp [10] (iRange1 (aCons (eVar 3) (aNil))) (gSet 10) (tfYes) (eCall fn_worth_of (aCons (eVar 6) (aCons (eVar 10) (aNil)))))) (eBin oIx (eVar 7) (eC (.int 1))))) (sRet (eC (.bl false))) (sNext)) (sNext)))))))) (sRet (eBin (oEq) (eBin oIx (eCall fn_settle (aCons (eFrz (fLst (aNil))) (aCons (eC (.int 2)) (aNil)))) (eC (.int 0))) (eC (.str "kept"))))
/-- THE PLAIN LAW -/
def Plain : Prop := ∀ ns : List Int, ns.length ≤ 63 → (∀ z ∈ ns, Builtin.Int.intBits z ≤ 1048576) → ∃ S', b_law (.no :: .pv .stm :: List.replicate 9 .no) ⟨ns, 0, 0, 40503⟩ = .ok (.rt (.bl true)) S'
theorem ok_law {P : Program} {w : World} {K : PySem.W.Frag} {mg : Str → Option Value} {base : Heap} {f fS : Addr} {fd fdS : FuncData} {dV : Value} (F : FunV K dV "law" "law" s_law f fd) (GS : FnOk P w K mg base CX0 1 fS fdS ["script"] (spStream K)) (mS : mg "_law_stream" = some (.ref fS)) (kS : PySem.W.keepIn K (.ref fS) = true) (bS : Binds K fdS ["script"] []) (h__law_pick : Has P w K mg base "_law_pick" 2 ["stream", "many"] Lib.fn__law_pick) (h__law_rows : Has P w K mg base "_law_rows" 4 ["stream", "many"] fn__law_rows) (h_settle : Has P w K mg base "settle" 6 ["rows", "many"] fn_settle) (h__law_settled : Has P w K mg base "_law_settled" 4 ["rows", "many"] fn__law_settled) (h_worth_of : Has P w K mg base "worth_of" 2 ["kept", "at"] fn_worth_of) (n_range : mg "range" = none) (n_list : mg "list" = none) (hlaw : Plain) : FnOk P w K mg base CX0 7 f fd ["script"] (spLaw K) := by
  obtain ⟨oc, od, kV, doc, pm, an, cdv, ct, osl, rfl, lk, hcd⟩ := F.ex
  refine fn_of lk hcd sc_law (fun vs H Q E h => by obtain ⟨a, ns, rfl, _⟩ := h; rfl) fun A outer s H vs Q E hr h => ?_
  obtain ⟨a, ns, rfl, hS, hlen, hbits, k⟩ := h
  have rest : ∀ c : C, PSs (cxOf CX0 P w K mg base N_law "law" (defScope s_law) f cdv A outer s H E).nox ((defBody s_law).drop 1) (tS K c b_law) := fun c =>
    pss_eCons (ps_eFor (vs := [0, 1, 2, 3, 4, 5, 6, 7, 8, 9, 10]) PassesOwn.never rfl (pi_eRange1 (by rfl) n_range (pa_eCons (pe_eInt) (pa_eNil))) (pg_name (i := 2) sc_law.nd rfl (Or.inl rfl)) (tg_set (by decide)) (pss_eCons (ps_eSet (i := 3) sc_law.nd rfl (Or.inl rfl) (pe_oAdd (pe_eInt) (pe_eHas h__law_pick (hr.mono (by decide)) (by rfl) (pa_eCons (pe_eVar (pv 1)) (pa_eCons (pe_eInt) (pa_eNil)))))) (pss_eCons (ps_eSet (i := 4) sc_law.nd rfl (Or.inl rfl) (pe_eHas h__law_rows (hr.mono (by decide)) (by rfl) (pa_eCons (pe_eVar (pv 1)) (pa_eCons (pe_eVar (pv 3)) (pa_eNil))))) (pss_eCons (ps_eAsg (vs := [0, 1, 2, 3, 4, 5, 6, 7, 8, 9, 10]) (pe_eHas h_settle (hr.mono (by decide)) (by rfl) (pa_eCons (pe_eFrz (pf_comp (own := [("row", 8), ("bound", 9)]) rfl sc_law.nd (pi_eSeq (pe_eVar (pv 4))) (blkOk_by (N := N_law) (sc := defScope s_law) (by decide +kernel)) (fun _ _ _ _ _ => pg_tup rfl (pgs_cons (pg_name (i := 8) sc_law.nd rfl (Or.inl rfl)) (pgs_cons (pg_name (i := 9) sc_law.nd rfl (Or.inl rfl)) (pgs_nil)))) (tg_tup (tgs_cons (tg_set (by decide)) (tgs_cons (tg_set (by decide)) (tgs_nil)))) (fun _ _ _ _ _ => pts_nil) tYes_of (fun _ _ _ _ _ => pe_eTup (pa_eCons (pe_eFrz (pf_listOf (by rfl) n_list (by decide +kernel) (pa_eCons (pe_eVar (pv 8)) (pa_eNil)))) (pa_eCons (pe_eVar (pv 9)) (pa_eNil)))))) (pa_eCons (pe_eVar (pv 3)) (pa_eNil)))) (pg_tup rfl (pgs_cons (pg_name (i := 5) sc_law.nd rfl (Or.inl rfl)) (pgs_cons (pg_name (i := 6) sc_law.nd rfl (Or.inr rfl)) (pgs_nil)))) (tg_tup (tgs_cons (tg_set (by decide)) (tgs_cons (tg_set (by decide)) (tgs_nil))))) (pss_eCons (ps_eSet (i := 7) sc_law.nd rfl (Or.inl rfl) (pe_eHas h__law_settled (hr.mono (by decide)) (by rfl) (pa_eCons (pe_eVar (pv 4)) (pa_eCons (pe_eVar (pv 3)) (pa_eNil))))) (pss_eCons (ps_eIf (PW.pt (pw_eOr (pt_eCmp (op_neD hr.units) neS (pe_eVar (pv 5)) (pe_oIx (pe_eVar (pv 7)) (pe_eInt) (fun _ _ => rfl)) (nomark _)) (pw_or1 (PW.pt (pw_eAnd (pt_eCmp (op_eqD hr.units) eqS (pe_eVar (pv 5)) (pe_eStr) (nomark _)) (pw_and1 (pt_eCmp (op_neD hr.units) neS (pe_eFrz (pf_listOf (by rfl) n_list (by decide +kernel) (pa_eCons (pe_eVar (pv 6)) (pa_eNil)))) (pe_oIx (pe_eVar (pv 7)) (pe_eInt) (fun _ _ => rfl)) (nomark _)))))))) (pss_eOne (ps_eRet (pe_eBl))) (pss_eNil)) (pss_eOne (ps_eIf (pt_eCmp (op_eqD hr.units) eqS (pe_eVar (pv 5)) (pe_eStr) (nomark _)) (pss_eOne (ps_eIf (pt_eCmp (op_neD hr.units) neS (pe_eFrz (pf_comp (own := [("k", 10)]) rfl sc_law.nd (pi_eRange1 (by rfl) n_range (pa_eCons (pe_eVar (pv 3)) (pa_eNil))) (blkOk_by (N := N_law) (sc := defScope s_law) (by decide +kernel)) (fun _ _ _ _ _ => pg_name (i := 10) sc_law.nd rfl (Or.inl rfl)) (tg_set (by decide)) (fun _ _ _ _ _ => pts_nil) tYes_of (fun _ _ _ _ _ => pe_eHas h_worth_of (hr.mono (by decide)) (by rfl) (pa_eCons (pe_eVar (pv 6)) (pa_eCons (pe_eVar (pv 10)) (pa_eNil)))))) (pe_oIx (pe_eVar (pv 7)) (pe_eInt) (fun _ _ => rfl)) (nomark _)) (pss_eOne (ps_eRet (pe_eBl))) (pss_eNil))) (pss_eNil))))))))) (pss_eOne (ps_eRet (pe_eCmp (op_eqD hr.units) eqS (pe_oIx (pe_eHas h_settle (hr.mono (by decide)) (by rfl) (pa_eCons (pe_eFrz (pf_lst (pa_eNil))) (pa_eCons (pe_eInt) (pa_eNil)))) (pe_eInt) (fun _ _ => rfl)) (pe_eStr) (nomark _))))
  refine ⟨_, PSs.nox (pss_cons (ps_set (i := 1) sc_law.nd rfl (Or.inl rfl) (pe_call GS (hr.mono (by decide)) (by rfl) mS kS bS .nil pass0 (pa_cons (pv 0) pa_nil))) (pss_ex rest)), ?_⟩
  refine ⟨_, rfl, a, ns, rfl, hS, hlen, fun sa ca H' s1 ne hca hsa => ?_⟩
  exact ⟨_, law_rest rfl ne hca hsa 9 (by rfl) (hlaw ns hlen hbits) k _ rfl⟩
theorem all_mk (hlaw : Plain) {l : PySem.W.OpenLaw} {w : World} {K : PySem.W.Frag} {h : Heap} {mg : Str → Option Value} {fa f0 f1 f2 f3 f4 f5 f6 f7 f8 f9 f10 f11 f12 f13 f14 f15 f16 f17 f18 f19 f20 f21 f22 f23 T1 : Addr} (X : K.In h) (G : h.Ns mainGlobals mg) (hfa : mg "law" = some (.ref fa))
    {od0 an0 od1 an1 od2 an2 od3 an3 od4 an4 od5 an5 od6 an6 od7 an7 od8 an8 od9 an9 od10 an10 od11 an11 od12 an12 od13 an13 od14 an14 od15 an15 od16 an16 od17 an17 od18 an18 od19 an19 od20 an20 od21 an21 od22 an22 od23 an23 dT1 : Option Addr} {sl0 sl1 sl2 sl3 sl4 sl5 sl6 sl7 sl8 sl9 sl10 sl11 sl12 sl13 sl14 sl15 sl16 sl17 sl18 sl19 sl20 sl21 sl22 sl23 sT1 : Array (Option Value)} {oc0 kV0 dc0 pm0 cd0 ct0 oc1 kV1 dc1 pm1 cd1 ct1 oc2 kV2 dc2 pm2 cd2 ct2 oc3 kV3 dc3 pm3 cd3 ct3 oc4 kV4 dc4 pm4 cd4 ct4 oc5 kV5 dc5 pm5 cd5 ct5 oc6 kV6 dc6 pm6 cd6 ct6 oc7 kV7 dc7 pm7 cd7 ct7 oc8 kV8 dc8 pm8 cd8 ct8 oc9 kV9 dc9 pm9 cd9 ct9 oc10 kV10 dc10 pm10 cd10 ct10 oc11 kV11 dc11 pm11 cd11 ct11 oc12 kV12 dc12 pm12 cd12 ct12 oc13 kV13 dc13 pm13 cd13 ct13 oc14 kV14 dc14 pm14 cd14 ct14 oc15 kV15 dc15 pm15 cd15 ct15 oc16 kV16 dc16 pm16 cd16 ct16 oc17 kV17 dc17 pm17 cd17 ct17 oc18 kV18 dc18 pm18 cd18 ct18 oc19 kV19 dc19 pm19 cd19 ct19 oc20 kV20 dc20 pm20 cd20 ct20 oc21 kV21 dc21 pm21 cd21 ct21 oc22 kV22 dc22 pm22 cd22 ct22 oc23 kV23 dc23 pm23 cd23 ct23 oT1 v1_0 : Value} {nT1 : Nat}
    (a0 : PySem.W.nsIn K mainGlobals "common" = some (some (.ref f0))) (l0 : K.lookup f0 = some ⟨oc0, od0, .func (PySem.W.fnOf "common" "common" (defArgs s_common) (defBody s_common) (defScope s_common) .none kV0 dc0 pm0 an0 cd0 ct0), sl0⟩) (c0 : PySem.W.codeIn K cd0 "common" = true) (k0 : PySem.W.keepIn K (.ref f0) = true)
    (a1 : PySem.W.nsIn K mainGlobals "fraction" = some (some (.ref f1))) (l1 : K.lookup f1 = some ⟨oc1, od1, .func (PySem.W.fnOf "fraction" "fraction" (defArgs s_fraction) (defBody s_fraction) (defScope s_fraction) (.ref T1) kV1 dc1 pm1 an1 cd1 ct1), sl1⟩) (c1 : PySem.W.codeIn K cd1 "fraction" = true) (k1 : PySem.W.keepIn K (.ref f1) = true)
    (t1 : K.lookup T1 = some ⟨oT1, dT1, .seq #[v1_0] nT1, sT1⟩)
    (a2 : PySem.W.nsIn K mainGlobals "minus" = some (some (.ref f2))) (l2 : K.lookup f2 = some ⟨oc2, od2, .func (PySem.W.fnOf "minus" "minus" (defArgs s_minus) (defBody s_minus) (defScope s_minus) .none kV2 dc2 pm2 an2 cd2 ct2), sl2⟩) (c2 : PySem.W.codeIn K cd2 "minus" = true) (k2 : PySem.W.keepIn K (.ref f2) = true)
    (a3 : PySem.W.nsIn K mainGlobals "times" = some (some (.ref f3))) (l3 : K.lookup f3 = some ⟨oc3, od3, .func (PySem.W.fnOf "times" "times" (defArgs s_times) (defBody s_times) (defScope s_times) .none kV3 dc3 pm3 an3 cd3 ct3), sl3⟩) (c3 : PySem.W.codeIn K cd3 "times" = true) (k3 : PySem.W.keepIn K (.ref f3) = true)
    (a4 : PySem.W.nsIn K mainGlobals "over" = some (some (.ref f4))) (l4 : K.lookup f4 = some ⟨oc4, od4, .func (PySem.W.fnOf "over" "over" (defArgs s_over) (defBody s_over) (defScope s_over) .none kV4 dc4 pm4 an4 cd4 ct4), sl4⟩) (c4 : PySem.W.codeIn K cd4 "over" = true) (k4 : PySem.W.keepIn K (.ref f4) = true)
    (a5 : PySem.W.nsIn K mainGlobals "taken_from" = some (some (.ref f5))) (l5 : K.lookup f5 = some ⟨oc5, od5, .func (PySem.W.fnOf "taken_from" "taken_from" (defArgs s_taken_from) (defBody s_taken_from) (defScope s_taken_from) .none kV5 dc5 pm5 an5 cd5 ct5), sl5⟩) (c5 : PySem.W.codeIn K cd5 "taken_from" = true) (k5 : PySem.W.keepIn K (.ref f5) = true)
    (a6 : PySem.W.nsIn K mainGlobals "leading" = some (some (.ref f6))) (l6 : K.lookup f6 = some ⟨oc6, od6, .func (PySem.W.fnOf "leading" "leading" (defArgs s_leading) (defBody s_leading) (defScope s_leading) .none kV6 dc6 pm6 an6 cd6 ct6), sl6⟩) (c6 : PySem.W.codeIn K cd6 "leading" = true) (k6 : PySem.W.keepIn K (.ref f6) = true)
    (a7 : PySem.W.nsIn K mainGlobals "divided" = some (some (.ref f7))) (l7 : K.lookup f7 = some ⟨oc7, od7, .func (PySem.W.fnOf "divided" "divided" (defArgs s_divided) (defBody s_divided) (defScope s_divided) .none kV7 dc7 pm7 an7 cd7 ct7), sl7⟩) (c7 : PySem.W.codeIn K cd7 "divided" = true) (k7 : PySem.W.keepIn K (.ref f7) = true)
    (a8 : PySem.W.nsIn K mainGlobals "reduced" = some (some (.ref f8))) (l8 : K.lookup f8 = some ⟨oc8, od8, .func (PySem.W.fnOf "reduced" "reduced" (defArgs s_reduced) (defBody s_reduced) (defScope s_reduced) .none kV8 dc8 pm8 an8 cd8 ct8), sl8⟩) (c8 : PySem.W.codeIn K cd8 "reduced" = true) (k8 : PySem.W.keepIn K (.ref f8) = true)
    (a9 : PySem.W.nsIn K mainGlobals "joined" = some (some (.ref f9))) (l9 : K.lookup f9 = some ⟨oc9, od9, .func (PySem.W.fnOf "joined" "joined" (defArgs s_joined) (defBody s_joined) (defScope s_joined) .none kV9 dc9 pm9 an9 cd9 ct9), sl9⟩) (c9 : PySem.W.codeIn K cd9 "joined" = true) (k9 : PySem.W.keepIn K (.ref f9) = true)
    (a10 : PySem.W.nsIn K mainGlobals "settle" = some (some (.ref f10))) (l10 : K.lookup f10 = some ⟨oc10, od10, .func (PySem.W.fnOf "settle" "settle" (defArgs s_settle) (defBody s_settle) (defScope s_settle) .none kV10 dc10 pm10 an10 cd10 ct10), sl10⟩) (c10 : PySem.W.codeIn K cd10 "settle" = true) (k10 : PySem.W.keepIn K (.ref f10) = true)
    (a11 : PySem.W.nsIn K mainGlobals "worth_of" = some (some (.ref f11))) (l11 : K.lookup f11 = some ⟨oc11, od11, .func (PySem.W.fnOf "worth_of" "worth_of" (defArgs s_worth_of) (defBody s_worth_of) (defScope s_worth_of) .none kV11 dc11 pm11 an11 cd11 ct11), sl11⟩) (c11 : PySem.W.codeIn K cd11 "worth_of" = true) (k11 : PySem.W.keepIn K (.ref f11) = true)
    (a12 : PySem.W.nsIn K mainGlobals "_law_f" = some (some (.ref f12))) (l12 : K.lookup f12 = some ⟨oc12, od12, .func (PySem.W.fnOf "_law_f" "_law_f" (defArgs s__law_f) (defBody s__law_f) (defScope s__law_f) .none kV12 dc12 pm12 an12 cd12 ct12), sl12⟩) (c12 : PySem.W.codeIn K cd12 "_law_f" = true) (k12 : PySem.W.keepIn K (.ref f12) = true)
    (a13 : PySem.W.nsIn K mainGlobals "_law_less_by" = some (some (.ref f13))) (l13 : K.lookup f13 = some ⟨oc13, od13, .func (PySem.W.fnOf "_law_less_by" "_law_less_by" (defArgs s__law_less_by) (defBody s__law_less_by) (defScope s__law_less_by) .none kV13 dc13 pm13 an13 cd13 ct13), sl13⟩) (c13 : PySem.W.codeIn K cd13 "_law_less_by" = true) (k13 : PySem.W.keepIn K (.ref f13) = true)
    (a14 : PySem.W.nsIn K mainGlobals "_law_times" = some (some (.ref f14))) (l14 : K.lookup f14 = some ⟨oc14, od14, .func (PySem.W.fnOf "_law_times" "_law_times" (defArgs s__law_times) (defBody s__law_times) (defScope s__law_times) .none kV14 dc14 pm14 an14 cd14 ct14), sl14⟩) (c14 : PySem.W.codeIn K cd14 "_law_times" = true) (k14 : PySem.W.keepIn K (.ref f14) = true)
    (a15 : PySem.W.nsIn K mainGlobals "_law_part" = some (some (.ref f15))) (l15 : K.lookup f15 = some ⟨oc15, od15, .func (PySem.W.fnOf "_law_part" "_law_part" (defArgs s__law_part) (defBody s__law_part) (defScope s__law_part) .none kV15 dc15 pm15 an15 cd15 ct15), sl15⟩) (c15 : PySem.W.codeIn K cd15 "_law_part" = true) (k15 : PySem.W.keepIn K (.ref f15) = true)
    (a16 : PySem.W.nsIn K mainGlobals "_law_fresh" = some (some (.ref f16))) (l16 : K.lookup f16 = some ⟨oc16, od16, .func (PySem.W.fnOf "_law_fresh" "_law_fresh" (defArgs s__law_fresh) (defBody s__law_fresh) (defScope s__law_fresh) .none kV16 dc16 pm16 an16 cd16 ct16), sl16⟩) (c16 : PySem.W.codeIn K cd16 "_law_fresh" = true) (k16 : PySem.W.keepIn K (.ref f16) = true)
    (a17 : PySem.W.nsIn K mainGlobals "_law_pick" = some (some (.ref f17))) (l17 : K.lookup f17 = some ⟨oc17, od17, .func (PySem.W.fnOf "_law_pick" "_law_pick" (defArgs s__law_pick) (defBody s__law_pick) (defScope s__law_pick) .none kV17 dc17 pm17 an17 cd17 ct17), sl17⟩) (c17 : PySem.W.codeIn K cd17 "_law_pick" = true) (k17 : PySem.W.keepIn K (.ref f17) = true)
    (a18 : PySem.W.nsIn K mainGlobals "_law_sum" = some (some (.ref f18))) (l18 : K.lookup f18 = some ⟨oc18, od18, .func (PySem.W.fnOf "_law_sum" "_law_sum" (defArgs s__law_sum) (defBody s__law_sum) (defScope s__law_sum) .none kV18 dc18 pm18 an18 cd18 ct18), sl18⟩) (c18 : PySem.W.codeIn K cd18 "_law_sum" = true) (k18 : PySem.W.keepIn K (.ref f18) = true)
    (a19 : PySem.W.nsIn K mainGlobals "_law_less_row" = some (some (.ref f19))) (l19 : K.lookup f19 = some ⟨oc19, od19, .func (PySem.W.fnOf "_law_less_row" "_law_less_row" (defArgs s__law_less_row) (defBody s__law_less_row) (defScope s__law_less_row) .none kV19 dc19 pm19 an19 cd19 ct19), sl19⟩) (c19 : PySem.W.codeIn K cd19 "_law_less_row" = true) (k19 : PySem.W.keepIn K (.ref f19) = true)
    (a20 : PySem.W.nsIn K mainGlobals "_law_settled" = some (some (.ref f20))) (l20 : K.lookup f20 = some ⟨oc20, od20, .func (PySem.W.fnOf "_law_settled" "_law_settled" (defArgs s__law_settled) (defBody s__law_settled) (defScope s__law_settled) .none kV20 dc20 pm20 an20 cd20 ct20), sl20⟩) (c20 : PySem.W.codeIn K cd20 "_law_settled" = true) (k20 : PySem.W.keepIn K (.ref f20) = true)
    (a21 : PySem.W.nsIn K mainGlobals "_law_rows" = some (some (.ref f21))) (l21 : K.lookup f21 = some ⟨oc21, od21, .func (PySem.W.fnOf "_law_rows" "_law_rows" (defArgs s__law_rows) (defBody s__law_rows) (defScope s__law_rows) .none kV21 dc21 pm21 an21 cd21 ct21), sl21⟩) (c21 : PySem.W.codeIn K cd21 "_law_rows" = true) (k21 : PySem.W.keepIn K (.ref f21) = true)
    (a22 : PySem.W.nsIn K mainGlobals "_law_stream" = some (some (.ref f22))) (l22 : K.lookup f22 = some ⟨oc22, od22, .func (PySem.W.fnOf "_law_stream" "_law_stream" (defArgs s_stream) (defBody s_stream) (defScope s_stream) .none kV22 dc22 pm22 an22 cd22 ct22), sl22⟩) (c22 : PySem.W.codeIn K cd22 "_law_stream" = true) (k22 : PySem.W.keepIn K (.ref f22) = true)
    (a23 : PySem.W.nsIn K mainGlobals "law" = some (some (.ref f23))) (l23 : K.lookup f23 = some ⟨oc23, od23, .func (PySem.W.fnOf "law" "law" (defArgs s_law) (defBody s_law) (defScope s_law) .none kV23 dc23 pm23 an23 cd23 ct23), sl23⟩) (c23 : PySem.W.codeIn K cd23 "law" = true) (k23 : PySem.W.keepIn K (.ref f23) = true)
    (z0 : PySem.W.nsIn K mainGlobals "abs" = some none) (z1 : PySem.W.nsIn K mainGlobals "len" = some none) (z2 : PySem.W.nsIn K mainGlobals "range" = some none) (z3 : PySem.W.nsIn K mainGlobals "list" = some none) (z4 : PySem.W.nsIn K mainGlobals "int" = some none) :
    ∃ fd : FuncData, (∀ (s : Shared) (v : Value), BindsTo s fd ⟨[v], []⟩ [("script", v)]) ∧ ∀ base : Heap, K.In base → base.Ns mainGlobals mg → FnOk l.prog w K mg base CX0 7 fa fd ["script"] (spLaw K) := by
  have e := hfa.symm.trans (PySem.W.mg_of X G a23)
  cases e
  have F0 := funV_mk (st := s_common) l0 c0 k0
  have m0 := PySem.W.mg_of X G a0
  have B0 := F0.binds (ps := ["a", "b"]) fun _ _ _ _ _ _ us hl => match us, hl with | [_, _], _ => rfl
  have F1 := funV_mk (st := s_fraction) l1 c1 k1
  have m1 := PySem.W.mg_of X G a1
  have B1 := F1.binds1 (ps := ["number", "divisor"]) t1 rfl fun _ _ _ _ _ _ us hl => match us, hl with | [_, _], _ => ⟨_, rfl, rfl⟩
  have F2 := funV_mk (st := s_minus) l2 c2 k2
  have m2 := PySem.W.mg_of X G a2
  have B2 := F2.binds (ps := ["a", "b"]) fun _ _ _ _ _ _ us hl => match us, hl with | [_, _], _ => rfl
  have F3 := funV_mk (st := s_times) l3 c3 k3
  have m3 := PySem.W.mg_of X G a3
  have B3 := F3.binds (ps := ["a", "b"]) fun _ _ _ _ _ _ us hl => match us, hl with | [_, _], _ => rfl
  have F4 := funV_mk (st := s_over) l4 c4 k4
  have m4 := PySem.W.mg_of X G a4
  have B4 := F4.binds (ps := ["a", "b"]) fun _ _ _ _ _ _ us hl => match us, hl with | [_, _], _ => rfl
  have F5 := funV_mk (st := s_taken_from) l5 c5 k5
  have m5 := PySem.W.mg_of X G a5
  have B5 := F5.binds (ps := ["row", "factor", "other"]) fun _ _ _ _ _ _ us hl => match us, hl with | [_, _, _], _ => rfl
  have F6 := funV_mk (st := s_leading) l6 c6 k6
  have m6 := PySem.W.mg_of X G a6
  have B6 := F6.binds (ps := ["row"]) fun _ _ _ _ _ _ us hl => match us, hl with | [_], _ => rfl
  have F7 := funV_mk (st := s_divided) l7 c7 k7
  have m7 := PySem.W.mg_of X G a7
  have B7 := F7.binds (ps := ["row", "by"]) fun _ _ _ _ _ _ us hl => match us, hl with | [_, _], _ => rfl
  have F8 := funV_mk (st := s_reduced) l8 c8 k8
  have m8 := PySem.W.mg_of X G a8
  have B8 := F8.binds (ps := ["kept", "row"]) fun _ _ _ _ _ _ us hl => match us, hl with | [_, _], _ => rfl
  have F9 := funV_mk (st := s_joined) l9 c9 k9
  have m9 := PySem.W.mg_of X G a9
  have B9 := F9.binds (ps := ["kept", "row"]) fun _ _ _ _ _ _ us hl => match us, hl with | [_, _], _ => rfl
  have F10 := funV_mk (st := s_settle) l10 c10 k10
  have m10 := PySem.W.mg_of X G a10
  have B10 := F10.binds (ps := ["rows", "many"]) fun _ _ _ _ _ _ us hl => match us, hl with | [_, _], _ => rfl
  have F11 := funV_mk (st := s_worth_of) l11 c11 k11
  have m11 := PySem.W.mg_of X G a11
  have B11 := F11.binds (ps := ["kept", "at"]) fun _ _ _ _ _ _ us hl => match us, hl with | [_, _], _ => rfl
  have F12 := funV_mk (st := s__law_f) l12 c12 k12
  have m12 := PySem.W.mg_of X G a12
  have B12 := F12.binds (ps := ["number", "divisor"]) fun _ _ _ _ _ _ us hl => match us, hl with | [_, _], _ => rfl
  have F13 := funV_mk (st := s__law_less_by) l13 c13 k13
  have m13 := PySem.W.mg_of X G a13
  have B13 := F13.binds (ps := ["a", "b"]) fun _ _ _ _ _ _ us hl => match us, hl with | [_, _], _ => rfl
  have F14 := funV_mk (st := s__law_times) l14 c14 k14
  have m14 := PySem.W.mg_of X G a14
  have B14 := F14.binds (ps := ["a", "b"]) fun _ _ _ _ _ _ us hl => match us, hl with | [_, _], _ => rfl
  have F15 := funV_mk (st := s__law_part) l15 c15 k15
  have m15 := PySem.W.mg_of X G a15
  have B15 := F15.binds (ps := ["a", "b"]) fun _ _ _ _ _ _ us hl => match us, hl with | [_, _], _ => rfl
  have F16 := funV_mk (st := s__law_fresh) l16 c16 k16
  have m16 := PySem.W.mg_of X G a16
  have B16 := F16.binds (ps := ["stream"]) fun _ _ _ _ _ _ us hl => match us, hl with | [_], _ => rfl
  have F17 := funV_mk (st := s__law_pick) l17 c17 k17
  have m17 := PySem.W.mg_of X G a17
  have B17 := F17.binds (ps := ["stream", "many"]) fun _ _ _ _ _ _ us hl => match us, hl with | [_, _], _ => rfl
  have F18 := funV_mk (st := s__law_sum) l18 c18 k18
  have m18 := PySem.W.mg_of X G a18
  have B18 := F18.binds (ps := ["a", "b"]) fun _ _ _ _ _ _ us hl => match us, hl with | [_, _], _ => rfl
  have F19 := funV_mk (st := s__law_less_row) l19 c19 k19
  have m19 := PySem.W.mg_of X G a19
  have B19 := F19.binds (ps := ["row", "factor", "other"]) fun _ _ _ _ _ _ us hl => match us, hl with | [_, _, _], _ => rfl
  have F20 := funV_mk (st := s__law_settled) l20 c20 k20
  have m20 := PySem.W.mg_of X G a20
  have B20 := F20.binds (ps := ["rows", "many"]) fun _ _ _ _ _ _ us hl => match us, hl with | [_, _], _ => rfl
  have F21 := funV_mk (st := s__law_rows) l21 c21 k21
  have m21 := PySem.W.mg_of X G a21
  have B21 := F21.binds (ps := ["stream", "many"]) fun _ _ _ _ _ _ us hl => match us, hl with | [_, _], _ => rfl
  have F22 := funV_mk (st := s_stream) l22 c22 k22
  have m22 := PySem.W.mg_of X G a22
  have B22 := F22.binds (ps := ["script"]) fun _ _ _ _ _ _ us hl => match us, hl with | [_], _ => rfl
  have F23 := funV_mk (st := s_law) l23 c23 k23
  have n_abs := PySem.W.mg_none_of X G z0
  have n_len := PySem.W.mg_none_of X G z1
  have n_range := PySem.W.mg_none_of X G z2
  have n_list := PySem.W.mg_none_of X G z3
  have n_int := PySem.W.mg_none_of X G z4
  refine ⟨PySem.W.fnOf "law" "law" (defArgs s_law) (defBody s_law) (defScope s_law) .none kV23 dc23 pm23 an23 cd23 ct23, fun s v => .of_eq rfl, fun base _ _ => ?_⟩
  have h_common : Has l.prog w K mg base "common" 1 ["a", "b"] Lib.fn_common := has_mk F0 m0 B0 (ok_common F0 n_abs)
  have h_fraction : Has l.prog w K mg base "fraction" 2 ["number", "divisor"] Lib.fn_fraction := has_mk F1 m1 B1 (ok_fraction F1 h_common)
  have h_minus : Has l.prog w K mg base "minus" 3 ["a", "b"] Lib.fn_minus := has_mk F2 m2 B2 (ok_minus F2 h_fraction)
  have h_times : Has l.prog w K mg base "times" 3 ["a", "b"] Lib.fn_times := has_mk F3 m3 B3 (ok_times F3 h_fraction)
  have h_over : Has l.prog w K mg base "over" 3 ["a", "b"] Lib.fn_over := has_mk F4 m4 B4 (ok_over F4 h_fraction)
  have h_taken_from : Has l.prog w K mg base "taken_from" 4 ["row", "factor", "other"] fn_taken_from := has_mk F5 m5 B5 (ok_taken_from F5 h_minus h_times n_len n_range)
  have h_leading : Has l.prog w K mg base "leading" 1 ["row"] fn_leading := has_mk F6 m6 B6 (ok_leading F6 n_len n_range)
  have h_divided : Has l.prog w K mg base "divided" 4 ["row", "by"] fn_divided := has_mk F7 m7 B7 (ok_divided F7 h_over)
  have h_reduced : Has l.prog w K mg base "reduced" 5 ["kept", "row"] fn_reduced := has_mk F8 m8 B8 (ok_reduced F8 h_taken_from h_leading)
  have h_joined : Has l.prog w K mg base "joined" 5 ["kept", "row"] fn_joined := has_mk F9 m9 B9 (ok_joined F9 h_leading h_divided h_taken_from)
  have h_settle : Has l.prog w K mg base "settle" 6 ["rows", "many"] fn_settle := has_mk F10 m10 B10 (ok_settle F10 h_reduced h_leading h_joined n_len n_range n_list)
  have h_worth_of : Has l.prog w K mg base "worth_of" 2 ["kept", "at"] fn_worth_of := has_mk F11 m11 B11 (ok_worth_of F11 h_leading n_len n_range)
  have h__law_f : Has l.prog w K mg base "_law_f" 1 ["number", "divisor"] Lib.fn__law_f := has_mk F12 m12 B12 (ok__law_f F12 n_abs n_range n_int)
  have h__law_less_by : Has l.prog w K mg base "_law_less_by" 2 ["a", "b"] Lib.fn__law_less_by := has_mk F13 m13 B13 (ok__law_less_by F13 h__law_f)
  have h__law_times : Has l.prog w K mg base "_law_times" 2 ["a", "b"] Lib.fn__law_times := has_mk F14 m14 B14 (ok__law_times F14 h__law_f)
  have h__law_part : Has l.prog w K mg base "_law_part" 2 ["a", "b"] Lib.fn__law_part := has_mk F15 m15 B15 (ok__law_part F15 h__law_f)
  have h__law_fresh : Has l.prog w K mg base "_law_fresh" 1 ["stream"] Lib.fn__law_fresh := has_mk F16 m16 B16 (ok__law_fresh F16 n_len n_int)
  have h__law_pick : Has l.prog w K mg base "_law_pick" 2 ["stream", "many"] Lib.fn__law_pick := has_mk F17 m17 B17 (ok__law_pick F17 h__law_fresh n_int)
  have h__law_sum : Has l.prog w K mg base "_law_sum" 2 ["a", "b"] Lib.fn__law_sum := has_mk F18 m18 B18 (ok__law_sum F18 h__law_f)
  have h__law_less_row : Has l.prog w K mg base "_law_less_row" 3 ["row", "factor", "other"] fn__law_less_row := has_mk F19 m19 B19 (ok__law_less_row F19 h__law_less_by h__law_times n_len n_range)
  have h__law_settled : Has l.prog w K mg base "_law_settled" 4 ["rows", "many"] fn__law_settled := has_mk F20 m20 B20 (ok__law_settled F20 h__law_less_row h__law_part n_len n_range n_int)
  have h__law_rows : Has l.prog w K mg base "_law_rows" 4 ["stream", "many"] fn__law_rows := has_mk F21 m21 B21 (ok__law_rows F21 h__law_pick h__law_f h__law_less_row h__law_less_by h__law_times h__law_sum n_range n_len)
  exact ok_law F23 (ok_stream F22 n_int) m22 k22 B22 h__law_pick h__law_rows h_settle h__law_settled h_worth_of n_range n_list hlaw
theorem walk {l : PySem.W.OpenLaw} {q : Program} {loose : List Str} {XP : (Str → Option Value) → Heap → Prop} {YP : World → Heap → Prop} {d : DefRec} {K : Params → PySem.W.Frag} (hn : l.most = some 63) (hdf : d.params.defaults = [])
    (hY : ∀ (w : World) (h : Heap), YP w h → (K w.params).In h)
    (F : ∀ (w : World) (mg : Str → Option Value) (fa : Addr) (h : Heap), (K w.params).In h → h.Ns mainGlobals mg → mg d.name = some (.ref fa) →
      ∃ fd : FuncData, (∀ (s : Shared) (u : Value), BindsTo s fd ⟨[u], []⟩ [("script", u)]) ∧ ∀ base : Heap, (K w.params).In base → base.Ns mainGlobals mg → FnOk l.prog w (K w.params) mg base CX0 7 fa fd ["script"] (spLaw (K w.params))) :
    PySem.W.WalkO q loose XP YP l.row.toRowW d [] (fun f vs => PySem.call f vs) :=
  L2.walk_ofB (n := 63) (k := 7) (x := "script") (CX := fun _ => CX0) (sp := fun w => spLaw (K w.params)) hn (by decide) hdf ⟨rfl, by decide, by decide⟩ hY F (fun _ _ a ns hl hb _ hS => ⟨a, ns, rfl, hS, hl, hb, fun _ => rfl⟩) fun _ _ _ _ _ z => z
end K43
/-! the program's and the law's defs read as the elimination -/
namespace K43
open PySem PySem.Spec L2 L2.PL
variable {S : Stm}
def encL (w : Nat) (f : Row) : List D := (List.range w).map fun k => enc (f k)
@[simp] theorem encL_len (w : Nat) (f : Row) : (encL w f).length = w := by simp [encL]
theorem encL_get {w k : Nat} {f : Row} (h : k < w) : (encL w f)[k]? = some (enc (f k)) := by
  unfold encL
  rw [List.getElem?_map, List.getElem?_range h]; rfl
theorem encL_at {w k : Nat} {f : Row} (h : k < w) : atI (encL w f) (k : Int) = some (enc (f k)) := by
  rw [atI_n, encL_get h]
def prow (many n : Nat) (r : Row) : D := .tup [.lst (encL many r), enc (r many), .lst (encL n fun k => r (many + 1 + k))]
@[simp] theorem prow_0 (many n : Nat) (r : Row) : oIx (prow many n r) (.int 0) S = .ok (.lst (encL many r)) S := by simp [prow]
@[simp] theorem prow_1 (many n : Nat) (r : Row) : oIx (prow many n r) (.int 1) S = .ok (enc (r many)) S := by simp [prow]
@[simp] theorem prow_2 (many n : Nat) (r : Row) : oIx (prow many n r) (.int 2) S = .ok (.lst (encL n fun k => r (many + 1 + k))) S := by simp [prow]
theorem range_nat {f : AF} {ρ : List Sl} {S S' : Stm} {n : Nat} (h : f ρ S = .ok [.int (n : Int)] S') (hn : n < 4611686018427387904) : iRange1 f ρ S = .ok (rangeD 0 n) S' := by
  have c : -4611686018427387904 ≤ (n : Int) ∧ (n : Int) < 4611686018427387904 := by constructor <;> omega
  rw [iRange1_s, h]
  simp only [Res.bind_ok, Int.toNat_natCast]
  rw [iteC_pos c]
theorem sz_mul {p q : Rat} {A B : Nat} (hp : Sz A p) (hq : Sz B q) : Sz (A + B) (p * q) ∧ (p * q).den ≤ p.den * q.den := by
  have e := mul_eq p q
  rw [Rat.divInt_eq_div] at e
  have s := divInt_size (n := p.num * q.num) (den_mul_ne p q)
  rw [e] at s
  have h2 : ((p.den : Int) * (q.den : Int)).natAbs = p.den * q.den := by rw [Int.natAbs_mul]; rfl
  rw [h2] at s
  refine ⟨⟨Nat.lt_of_le_of_lt s.1 (prod_lt hp.n hq.n), Nat.lt_of_le_of_lt s.2 ?_⟩, s.2⟩
  rw [Nat.pow_add]
  exact Nat.mul_lt_mul'' hp.d hq.d
theorem small_line {n : Nat} (h : n ≤ 100) : n ≤ sizeLine := by rw [sizeLine_eq]; omega
/-- one number of a row less a multiple -/
theorem one_s {r o : Row} {f : Rat} {w k : Nat} (h : StepSz w r f o) (hk : k < w) : Lib.fn_times [enc f, enc (o k)] S = .ok (enc (f * o k)) S ∧ Lib.fn_minus [enc (r k), enc (f * o k)] S = .ok (enc (less r f o k)) S := by
  have m := sz_mul h.sf (h.so k hk)
  exact ⟨times_s (h.sf.mono (by decide)) ((h.so k hk).mono (by decide)), minus_s ((h.sr k hk).mono (by decide)) (m.1.mono (by decide))⟩
theorem lawone_s {r o : Row} {f : Rat} {w k : Nat} (h : StepSz w r f o) (hk : k < w) : Lib.fn__law_times [enc f, enc (o k)] S = .ok (enc (f * o k)) S ∧ Lib.fn__law_less_by [enc (r k), enc (f * o k)] S = .ok (enc (less r f o k)) S := by
  have m := sz_mul h.sf (h.so k hk)
  have d := h.sd k hk
  have h0 : 0 < (r k).den := (r k).den_pos
  have h1 : f.den * (o k).den ≤ (r k).den * (f.den * (o k).den) := Nat.le_mul_of_pos_left _ h0
  exact ⟨law_times_s (h.sf.mono (by decide)) ((h.so k hk).mono (by decide)) (by omega),
    law_less_s ((h.sr k hk).mono (by decide)) (m.1.mono (by decide)) (Nat.lt_of_le_of_lt (Nat.mul_le_mul (Nat.le_refl _) m.2) d)⟩
theorem taken_from_s {many n : Nat} {r o : Row} {f : Rat} (h : StepSz (many + 1 + n) r f o) (hw : many + 1 + n ≤ 100) : fn_taken_from [prow many n r, enc f, prow many n o] S = .ok (prow many n (less r f o)) S := by
  rw [show fn_taken_from = fnOf _ _ b_taken_from from rfl, fnOf_3]
  unfold b_taken_from prow
  have c1 : ∀ x3 x4, compL (gSet 5) tfYes (eCall Lib.fn_minus (aCons (eBin oIx (eBin oIx (eVar 0) (eC (.int 0))) (eVar 5)) (aCons (eCall Lib.fn_times (aCons (eVar 1) (aCons (eBin oIx (eBin oIx (eVar 2) (eC (.int 0))) (eVar 5)) aNil))) aNil))) [.pv (.tup [.lst (encL many r), enc (r many), .lst (encL n fun k => r (many + 1 + k))]), .pv (enc f), .pv (.tup [.lst (encL many o), enc (o many), .lst (encL n fun k => o (many + 1 + k))]), x3, x4, .no] (rangeD 0 many) S [] = .ok (encL many (less r f o)) S := fun x3 x4 =>
    compL_range (fun k => enc (less r f o k)) many (small_line (by omega)) fun k hk => by
      obtain ⟨e1, e2⟩ := one_s (S := S) h (show k < many + 1 + n by omega)
      exact ⟨_, rfl, by simp [encL_at hk, e1, e2]⟩
  have c2 : ∀ x3 x4, compL (gSet 5) tfYes (eCall Lib.fn_minus (aCons (eBin oIx (eBin oIx (eVar 0) (eC (.int 2))) (eVar 5)) (aCons (eCall Lib.fn_times (aCons (eVar 1) (aCons (eBin oIx (eBin oIx (eVar 2) (eC (.int 2))) (eVar 5)) aNil))) aNil))) [.pv (.tup [.lst (encL many r), enc (r many), .lst (encL n fun k => r (many + 1 + k))]), .pv (enc f), .pv (.tup [.lst (encL many o), enc (o many), .lst (encL n fun k => o (many + 1 + k))]), x3, x4, .no] (rangeD 0 n) S [] = .ok (encL n fun k => less r f o (many + 1 + k)) S := fun x3 x4 =>
    compL_range (fun k => enc (less r f o (many + 1 + k))) n (small_line (by omega)) fun k hk => by
      obtain ⟨e1, e2⟩ := one_s (S := S) h (show many + 1 + k < many + 1 + n by omega)
      exact ⟨_, rfl, by simp [encL_at hk, e1, e2]⟩
  obtain ⟨e1, e2⟩ := one_s (S := S) h (show many < many + 1 + n by omega)
  have r1 : ∀ ρ : List Sl, ∀ f : AF, f ρ S = .ok [.int (many : Int)] S → iRange1 f ρ S = .ok (rangeD 0 many) S := fun ρ f hf => range_nat hf (by omega)
  have r2 : ∀ ρ : List Sl, ∀ f : AF, f ρ S = .ok [.int (n : Int)] S → iRange1 f ρ S = .ok (rangeD 0 n) S := fun ρ f hf => range_nat hf (by omega)
  simp [-iRange1_s, startR, r1, r2, c1, c2, e1, e2, sizeLine_eq]
/-! ### leading -/
theorem num_zero (q : Rat) : (q.num = 0) = (q = 0) := propext Rat.num_eq_zero
theorem lead_body {many n k : Nat} {r : Row} (hk : k < many) (x : Sl) : (sIf (tOfE (eBin (oNe) (eBin oIx (eBin oIx (eBin oIx (eVar 0) (eC (.int 0))) (eVar 1)) (eC (.int 0))) (eC (.int 0)))) (sRet (eVar 1)) (sNext)) [.pv (prow many n r), .pv (.int (k : Int))] S = if r k = 0 then .ok (.nx [.pv (prow many n r), .pv (.int (k : Int))]) S else .ok (.rt (.int (k : Int))) S := by
  by_cases h : r k = 0
  · have : (r k).num = 0 := Rat.num_eq_zero.mpr h
    rw [if_pos h]
    simp [prow, encL_at hk, enc, this]
  · have : ¬ (r k).num = 0 := fun e => h (Rat.num_eq_zero.mp e)
    rw [if_neg h]
    simp [prow, encL_at hk, enc, this]
theorem leading_loop {many n : Nat} {r : Row} (hw : many ≤ 100) : (∀ a, leadOf many r = some a → ∀ s, forL (gSet 1) (sIf (tOfE (eBin (oNe) (eBin oIx (eBin oIx (eBin oIx (eVar 0) (eC (.int 0))) (eVar 1)) (eC (.int 0))) (eC (.int 0)))) (sRet (eVar 1)) (sNext)) (rangeD 0 many) [.pv (prow many n r), s] S = .ok (.rt (.int (a : Int))) S) ∧
    (leadOf many r = none → ∀ s, ∃ s', forL (gSet 1) (sIf (tOfE (eBin (oNe) (eBin oIx (eBin oIx (eBin oIx (eVar 0) (eC (.int 0))) (eVar 1)) (eC (.int 0))) (eC (.int 0)))) (sRet (eVar 1)) (sNext)) (rangeD 0 many) [.pv (prow many n r), s] S = .ok (.nx [.pv (prow many n r), s']) S) := by
  have key := fun (Rr : Res Out → Prop) (s : Sl) (h1 : ∀ a, leadOf many r = some a → Rr (.ok (.rt (.int (a : Int))) S)) (h2 : leadOf many r = none → ∀ s', Rr (.ok (.nx [.pv (prow many n r), s']) S)) =>
    forL_inv (t := gSet 1) (b := sIf (tOfE (eBin (oNe) (eBin oIx (eBin oIx (eBin oIx (eVar 0) (eC (.int 0))) (eVar 1)) (eC (.int 0))) (eC (.int 0)))) (sRet (eVar 1)) (sNext)) (fun j ρ S' => S' = S ∧ (∃ s, ρ = [.pv (prow many n r), s]) ∧ ∀ i, i < j → i < many → r i = 0) (Rr := Rr) (rangeD 0 many) 0 [.pv (prow many n r), s] S ⟨rfl, ⟨s, rfl⟩, fun i hi => absurd hi (by omega)⟩
      (fun j d ρ S' hd hI => by
        obtain ⟨rfl, ⟨s', rfl⟩, hz⟩ := hI
        have hj : j < many := by have := (List.getElem?_eq_some_iff.mp hd).1; simpa [rangeD] using this
        rw [rangeD_get hj, Int.zero_add] at hd
        cases hd
        refine ⟨_, rfl, ?_⟩
        show (∃ ρ2 S2, _ ∧ _) ∨ _
        have e := lead_body (S := S') (n := n) (r := r) hj s'
        have es : ([Sl.pv (prow many n r), s'] : List Sl).set 1 (.pv (.int (j : Int))) = [.pv (prow many n r), .pv (.int (j : Int))] := rfl
        rw [es, e]
        by_cases h0 : r j = 0
        · rw [if_pos h0]
          exact .inl ⟨_, _, .inl rfl, rfl, ⟨_, rfl⟩, fun i hi hm => by
            by_cases hij : i = j
            · rw [hij]; exact h0
            · exact hz i (by omega) hm⟩
        · rw [if_neg h0]
          refine .inr (.inr ⟨_, _, rfl, h1 j (leadOf_eq ⟨hj, h0, fun i hi => hz i (by omega) (by omega)⟩)⟩))
      (fun ρ S' hI => by
        obtain ⟨rfl, ⟨s', rfl⟩, hz⟩ := hI
        refine h2 ?_ s'
        cases e : leadOf many r with
        | none => rfl
        | some a =>
          have hl := leadOf_some e
          exact absurd (hz a (by have := hl.lt; simp [rangeD]; omega) hl.lt) hl.ne)
  refine ⟨fun a ha s => key (fun X => X = .ok (.rt (.int (a : Int))) S) s (fun b hb => by rw [ha] at hb; cases hb; rfl) (fun hn => by rw [hn] at ha; cases ha), fun hn s => ?_⟩
  exact key (fun X => ∃ s', X = .ok (.nx [.pv (prow many n r), s']) S) s (fun b hb => by rw [hn] at hb; cases hb) (fun _ s' => ⟨s', rfl⟩)
theorem leading_s {many n : Nat} {r : Row} (hw : many ≤ 100) : fn_leading [prow many n r] S = .ok (match leadOf many r with | some a => .int (a : Int) | none => .non) S := by
  rw [show fn_leading = fnOf _ _ b_leading from rfl, fnOf_1]
  unfold b_leading
  obtain ⟨h1, h2⟩ := leading_loop (S := S) (n := n) (r := r) hw
  have r1 : ∀ x : Sl, iRange1 (aCons (eApp bLen (aCons (eBin oIx (eVar 0) (eC (.int 0))) (aNil))) (aNil)) [.pv (prow many n r), x] S = .ok (rangeD 0 many) S := fun x => range_nat (by simp [prow]) (by omega)
  cases e : leadOf many r with
  | some a => simp [-iRange1_s, startR, r1, h1 a e]
  | none =>
    obtain ⟨s', e2⟩ := h2 e .no
    simp [-iRange1_s, startR, r1, e2]
/-! ### divided -/
theorem half_lt {a b : Nat} (h : a < b) : a < b := h
theorem divided_s {many n a : Nat} {r : Row} {ks : Kept} (h : JoinSz (many + 1 + n) ks a r) (hne : r a ≠ 0) (hw : many + 1 + n ≤ 100) : fn_divided [prow many n r, enc (r a)] S = .ok (prow many n (normR r a)) S := by
  rw [show fn_divided = fnOf _ _ b_divided from rfl, fnOf_2]
  unfold b_divided
  have one : ∀ k, k < many + 1 + n → Lib.fn_over [enc (r k), enc (r a)] S = .ok (enc (normR r a k)) S := fun k hk => over_s ((h.sr k hk).mono (by decide)) ((h.sr a h.sa).mono (by decide)) hne
  have c1 : ∀ x0, compL (gSet 2) tfYes (eCall Lib.fn_over (aCons (eVar 2) (aCons (eVar 1) aNil))) [x0, .pv (enc (r a)), .no] (encL many r) S [] = .ok (encL many (normR r a)) S := fun x0 =>
    compL_map (fun k : Nat => enc (r k)) (fun k => enc (normR r a k)) (List.range many) (by simpa using small_line (by omega)) fun k hk => ⟨_, rfl, by simp [one k (by have := List.mem_range.mp hk; omega)]⟩
  have c2 : ∀ x0, compL (gSet 2) tfYes (eCall Lib.fn_over (aCons (eVar 2) (aCons (eVar 1) aNil))) [x0, .pv (enc (r a)), .no] (encL n fun k => r (many + 1 + k)) S [] = .ok (encL n fun k => normR r a (many + 1 + k)) S := fun x0 =>
    compL_map (fun k : Nat => enc (r (many + 1 + k))) (fun k => enc (normR r a (many + 1 + k))) (List.range n) (by simpa using small_line (by omega)) fun k hk => ⟨_, rfl, by simp [one (many + 1 + k) (by have := List.mem_range.mp hk; omega)]⟩
  have c3 := one many (by omega)
  unfold prow
  simp [startR, c1, c2, c3, sizeLine_eq]
/-! ### reduced -/
theorem reduced_loop {many n : Nat} (hw : many + 1 + n ≤ 100) : ∀ (ks : Kept) (r : Row) (x0 s : Sl), RedSz (many + 1 + n) ks r → (∀ p ∈ ks, IsLead many p.2 p.1) →
    ∃ s', forL (gSet 2) (sAsg (gSet 1) (eCall fn_taken_from (aCons (eVar 1) (aCons (eBin oIx (eBin oIx (eVar 1) (eC (.int 0))) (eCall fn_leading (aCons (eVar 2) (aNil)))) (aCons (eVar 2) (aNil)))))) (ks.map fun p => prow many n p.2) [x0, .pv (prow many n r), s] S = .ok (.nx [x0, .pv (prow many n (redR ks r)), s']) S
  | [], r, x0, s, _, _ => ⟨s, rfl⟩
  | p :: ks, r, x0, s, h, hl => by
    obtain ⟨h1, h2, h3⟩ := h
    obtain ⟨s', e⟩ := reduced_loop hw ks (less r (r p.1) p.2) x0 (.pv (prow many n p.2)) h3 (fun q hq => hl q (by simp [hq]))
    have hp := hl p (by simp)
    have e1 := leading_s (S := S) (many := many) (n := n) (r := p.2) (by omega)
    rw [leadOf_eq hp] at e1
    dsimp only at e1
    have e2 := taken_from_s (S := S) h2 hw
    have e3 : eBin oIx (eBin oIx (eVar 1) (eC (.int 0))) (eCall fn_leading (aCons (eVar 2) (aNil))) [x0, .pv (prow many n r), .pv (prow many n p.2)] S = .ok (enc (r p.1)) S := by
      simp [e1, encL_at hp.lt]
    refine ⟨s', ?_⟩
    rw [List.map_cons, forL]
    simp only [gSet_s, List.set_cons_zero, List.set_cons_succ]
    have e4 : sAsg (gSet 1) (eCall fn_taken_from (aCons (eVar 1) (aCons (eBin oIx (eBin oIx (eVar 1) (eC (.int 0))) (eCall fn_leading (aCons (eVar 2) (aNil)))) (aCons (eVar 2) (aNil))))) [x0, .pv (prow many n r), .pv (prow many n p.2)] S = .ok (.nx [x0, .pv (prow many n (less r (r p.1) p.2)), .pv (prow many n p.2)]) S := by
      simp only [sAsg_s, eCall_s, aCons_s, aNil_s, eVar_s, List.getElem?_cons_zero, List.getElem?_cons_succ, Res.bind_ok, e3, e2, noex_ok, gSet_s, List.set_cons_zero, List.set_cons_succ]
    rw [e4]
    exact e
theorem reduced_s {many n : Nat} {ks : Kept} {r : Row} (hw : many + 1 + n ≤ 100) (h : RedSz (many + 1 + n) ks r) (hl : ∀ p ∈ ks, IsLead many p.2 p.1) : fn_reduced [.lst (ks.map fun p => prow many n p.2), prow many n r] S = .ok (prow many n (redR ks r)) S := by
  rw [show fn_reduced = fnOf _ _ b_reduced from rfl, fnOf_2]
  unfold b_reduced
  obtain ⟨s', e⟩ := reduced_loop (S := S) hw ks r (.pv (.lst (ks.map fun p => prow many n p.2))) .no h hl
  simp [startR, e]
/-! ### joined -/
theorem joined_s {many n a : Nat} {ks : Kept} {r : Row} (hw : many + 1 + n ≤ 100) (h : JoinSz (many + 1 + n) ks a r) (hl : IsLead many r a) (hk : ks.length ≤ 100) : fn_joined [.lst (ks.map fun p => prow many n p.2), prow many n r] S = .ok (.lst ((joinR ks a r).map fun p => prow many n p.2)) S := by
  rw [show fn_joined = fnOf _ _ b_joined from rfl, fnOf_2]
  unfold b_joined
  have e1 := leading_s (S := S) (many := many) (n := n) (r := r) (by omega)
  rw [leadOf_eq hl] at e1
  dsimp only at e1
  have e2 := divided_s (S := S) h hl.ne hw
  have e3 : ∀ x3 : Sl, eBin oIx (eBin oIx (eVar 1) (eC (.int 0))) (eVar 2) [.pv (.lst (ks.map fun p => prow many n p.2)), .pv (prow many n r), .pv (.int (a : Int)), x3] S = .ok (enc (r a)) S := fun x3 => by
    simp [encL_at hl.lt]
  have c1 : ∀ x0, compL (gSet 3) tfYes (eCall fn_taken_from (aCons (eVar 3) (aCons (eBin oIx (eBin oIx (eVar 3) (eC (.int 0))) (eVar 2)) (aCons (eVar 1) aNil)))) [x0, .pv (prow many n (normR r a)), .pv (.int (a : Int)), .no] (ks.map fun p => prow many n p.2) S [] = .ok (ks.map fun p => prow many n (less p.2 (p.2 a) (normR r a))) S := fun x0 =>
    compL_map (fun p : Nat × Row => prow many n p.2) (fun p => prow many n (less p.2 (p.2 a) (normR r a))) ks (small_line hk) fun p hp => by
      have e4 := taken_from_s (S := S) (h.ss p hp) hw
      refine ⟨_, rfl, ?_⟩
      have e5 : eBin oIx (eBin oIx (eVar 3) (eC (.int 0))) (eVar 2) [x0, .pv (prow many n (normR r a)), .pv (.int (a : Int)), .pv (prow many n p.2)] S = .ok (enc (p.2 a)) S := by
        simp [encL_at hl.lt]
      simp only [eCall_s, aCons_s, aNil_s, eVar_s, List.set_cons_zero, List.set_cons_succ, List.getElem?_cons_zero, List.getElem?_cons_succ, Res.bind_ok, e5, e4, noex_ok]
  have hlen : ks.length + 1 ≤ 16777216 := by omega
  simp only [startR, List.map_cons, List.map_nil, List.length_cons, List.length_nil, List.replicate, List.cons_append, List.nil_append, sSeq_s, sAsg_s, eCall_s, aCons_s, aNil_s, eVar_s, List.getElem?_cons_zero, List.getElem?_cons_succ, Res.bind_ok, e1, noex_ok, gSet_s, List.set_cons_zero, List.set_cons_succ, e3, e2, sRet_s]
  have e6 : eBin oAdd (eFrz (fComp [3] (iSeq (eVar 0)) (gSet 3) tfYes (eCall fn_taken_from (aCons (eVar 3) (aCons (eBin oIx (eBin oIx (eVar 3) (eC (.int 0))) (eVar 2)) (aCons (eVar 1) aNil)))))) (eFrz (fLst (aCons (eVar 1) aNil))) [.pv (.lst (ks.map fun p => prow many n p.2)), .pv (prow many n (normR r a)), .pv (.int (a : Int)), .no] S = .ok (.lst ((joinR ks a r).map fun p => prow many n p.2)) S := by
    simp [c1, sizeLine_eq, hlen, joinR]
  rw [e6]
  rfl
end K43
/-! settle, read -/
namespace K43
open PySem PySem.Spec L2 L2.PL
variable {S : Stm}
/-- a row with the part of its own number -/
def full (many k : Nat) (r : Row) : Row := fun j => if j ≤ many then r j else if j = many + 1 + k then 1 else 0
def fulls (many n : Nat) (cs : Nat → Row) : List Row := (List.range n).map fun k => full many k (cs k)
theorem fulls_drop {many n j : Nat} {cs : Nat → Row} (h : j < n) : (fulls many n cs).drop j = full many j (cs j) :: (fulls many n cs).drop (j + 1) := by
  rw [List.drop_eq_getElem_cons (by simpa [fulls] using h)]
  simp [fulls]
def rowD (many : Nat) (r : Row) : D := .tup [.lst (encL many r), enc (r many)]
def rowsD (many n : Nat) (cs : Nat → Row) : D := .lst ((List.range n).map fun k => rowD many (cs k))
def idxs (many n : Nat) (r : Row) : List D := ((List.range n).filter fun k => decide (r (many + 1 + k) ≠ 0)).map fun (k : Nat) => D.int (k : Int)
theorem enc_one : enc 1 = .tup [.int 1, .int 1] := rfl
theorem enc_zero : enc 0 = .tup [.int 0, .int 1] := rfl
theorem encL_congr {w : Nat} {f g : Row} (h : ∀ k, k < w → f k = g k) : encL w f = encL w g := by
  unfold encL
  apply List.map_congr_left
  intro k hk
  rw [h k (List.mem_range.mp hk)]
theorem full_prow {many n k : Nat} {r : Row} (hk : k < n) : prow many n (full many k r) = .tup [.lst (encL many r), enc (r many), .lst ((List.range n).map fun (i : Nat) => enc (if i = k then 1 else 0))] := by
  unfold prow
  rw [encL_congr (f := full many k r) (g := r) (fun j hj => by unfold full; rw [if_pos (by omega)])]
  have e1 : full many k r many = r many := by unfold full; rw [if_pos (Nat.le_refl _)]
  have e2 : (encL n fun i => full many k r (many + 1 + i)) = (List.range n).map fun (i : Nat) => enc (if i = k then 1 else 0) := by
    unfold encL
    apply List.map_congr_left
    intro i hi
    have q : full many k r (many + 1 + i) = if i = k then 1 else 0 := by
      unfold full
      rw [if_neg (show ¬ many + 1 + i ≤ many by omega)]
      by_cases h : i = k
      · rw [if_pos (by omega), if_pos h]
      · rw [if_neg (by omega), if_neg h]
    exact congrArg enc q
  rw [e1, e2]
theorem rows_at {many n k : Nat} {cs : Nat → Row} (h : k < n) : atI ((List.range n).map fun k => rowD many (cs k)) (k : Int) = some (rowD many (cs k)) := by
  rw [atI_n, List.getElem?_map, List.getElem?_range h]; rfl
@[simp] theorem rowD_0 (many : Nat) (r : Row) : oIx (rowD many r) (.int 0) S = .ok (.lst (encL many r)) S := by simp [rowD]
@[simp] theorem rowD_1 (many : Nat) (r : Row) : oIx (rowD many r) (.int 1) S = .ok (enc (r many)) S := by simp [rowD]
@[simp] theorem enc_num (q : Rat) : oIx (enc q) (.int 0) S = .ok (.int q.num) S := by simp [enc]
/-- the settled state of the program -/
def ksD (many n : Nat) (ks : Kept) : D := .lst (ks.map fun p => prow many n p.2)
def resD (many n : Nat) : StA → D
  | .kept ks => .tup [.str "kept", ksD many n ks]
  | .conf r => .tup [.str "conflict", .lst (idxs many n r)]
noncomputable def bTurn : SF := sSeq (sAsg (gSet 4) (eFrz (fComp [6] (iRange1 (aCons (eApp bLen (aCons (eVar 0) (aNil))) (aNil))) (gSet 6) (tfYes) (eTup (aCons (eIf (tOfE (eBin (oEq) (eVar 6) (eVar 3))) (eC (.int 1)) (eC (.int 0))) (aCons (eC (.int 1)) (aNil))))))) (sSeq (sAsg (gSet 5) (eCall fn_reduced (aCons (eVar 2) (aCons (eTup (aCons (eFrz (fListOf (aCons (eBin oIx (eBin oIx (eVar 0) (eVar 3)) (eC (.int 0))) (aNil)))) (aCons (eBin oIx (eBin oIx (eVar 0) (eVar 3)) (eC (.int 1))) (aCons (eVar 4) (aNil))))) (aNil))))) (sIf (tOfE (eBin (oNotN) (eCall fn_leading (aCons (eVar 5) (aNil))) (eC .non))) (sAsg (gSet 2) (eCall fn_joined (aCons (eVar 2) (aCons (eVar 5) (aNil))))) (sIf (tOfE (eBin (oNe) (eBin oIx (eBin oIx (eVar 5) (eC (.int 1))) (eC (.int 0))) (eC (.int 0)))) (sRet (eTup (aCons (eC (.str "conflict")) (aCons (eFrz (fComp [6] (iRange1 (aCons (eApp bLen (aCons (eVar 0) (aNil))) (aNil))) (gSet 6) (tOfE (eBin (oNe) (eBin oIx (eBin oIx (eBin oIx (eVar 5) (eC (.int 2))) (eVar 6)) (eC (.int 0))) (eC (.int 0)))) (eVar 6))) (aNil))))) (sNext))))
theorem settle_split : b_settle = sSeq (sAsg (gSet 2) (eFrz (fLst (aNil)))) (sSeq (sFor (iRange1 (aCons (eApp bLen (aCons (eVar 0) (aNil))) (aNil))) (gSet 3) bTurn) (sRet (eTup (aCons (eC (.str "kept")) (aCons (eVar 2) (aNil)))))) := rfl
/-- one turn -/
theorem turn_s {many n j : Nat} {cs : Nat → Row} {ks : Kept} (hw : many + 1 + n ≤ 100) (hj : j < n) (hr : Rref many ks) (hs : RedSz (many + 1 + n) ks (full many j (cs j)))
    (hjn : ∀ a, leadOf many (redR ks (full many j (cs j))) = some a → JoinSz (many + 1 + n) ks a (redR ks (full many j (cs j)))) (s4 s5 s6 : Sl) :
    ∃ s4' s5', bTurn [.pv (rowsD many n cs), .pv (.int (many : Int)), .pv (ksD many n ks), .pv (.int (j : Int)), s4, s5, s6] S = (match leadOf many (redR ks (full many j (cs j))) with
      | some a => .ok (.nx [.pv (rowsD many n cs), .pv (.int (many : Int)), .pv (ksD many n (joinR ks a (redR ks (full many j (cs j))))), .pv (.int (j : Int)), s4', s5', s6]) S
      | none => if redR ks (full many j (cs j)) many ≠ 0 then .ok (.rt (.tup [.str "conflict", .lst (idxs many n (redR ks (full many j (cs j))))])) S
        else .ok (.nx [.pv (rowsD many n cs), .pv (.int (many : Int)), .pv (ksD many n ks), .pv (.int (j : Int)), s4', s5', s6]) S) := by
  refine ⟨.pv (.lst ((List.range n).map fun (i : Nat) => enc (if i = j then 1 else 0))), .pv (prow many n (redR ks (full many j (cs j)))), ?_⟩
  have hlen : ks.length ≤ 100 := by have := hr.length; omega
  have r1 : ∀ (a b c d e f : Sl), iRange1 (aCons (eApp bLen (aCons (eVar 0) (aNil))) (aNil)) [.pv (rowsD many n cs), a, b, c, d, e, f] S = .ok (rangeD 0 n) S := fun a b c d e f => range_nat (by simp [rowsD]) (by omega)
  have c1 : ∀ (a b c d e : Sl), compL (gSet 6) tfYes (eTup (aCons (eIf (tOfE (eBin (oEq) (eVar 6) (eVar 3))) (eC (.int 1)) (eC (.int 0))) (aCons (eC (.int 1)) (aNil)))) [a, b, c, .pv (.int (j : Int)), d, e, .no] (rangeD 0 n) S [] = .ok ((List.range n).map fun (i : Nat) => enc (if i = j then 1 else 0)) S := fun a b c d e =>
    compL_range _ n (small_line (by omega)) fun k hk => by
      refine ⟨_, rfl, ?_⟩
      by_cases h : k = j
      · simp [h, sizeLine_eq, enc_one]
      · have h' : ¬ ((k : Int) = (j : Int)) := by omega
        simp [h, h', sizeLine_eq, enc_zero]
  have e1 : eTup (aCons (eFrz (fListOf (aCons (eBin oIx (eBin oIx (eVar 0) (eVar 3)) (eC (.int 0))) (aNil)))) (aCons (eBin oIx (eBin oIx (eVar 0) (eVar 3)) (eC (.int 1))) (aCons (eVar 4) (aNil)))) [.pv (rowsD many n cs), .pv (.int (many : Int)), .pv (ksD many n ks), .pv (.int (j : Int)), .pv (.lst ((List.range n).map fun (i : Nat) => enc (if i = j then 1 else 0))), s5, s6] S = .ok (prow many n (full many j (cs j))) S := by
    rw [full_prow hj]
    simp [rowsD, rows_at hj, sizeLine_eq]
  have e2 : fn_reduced [ksD many n ks, prow many n (full many j (cs j))] S = .ok (prow many n (redR ks (full many j (cs j)))) S := reduced_s hw hs (fun p hp => hr.lead hp)
  have e3 := leading_s (S := S) (many := many) (n := n) (r := redR ks (full many j (cs j))) (by omega)
  generalize hR : redR ks (full many j (cs j)) = R at *
  unfold bTurn
  have step1 : sAsg (gSet 4) (eFrz (fComp [6] (iRange1 (aCons (eApp bLen (aCons (eVar 0) (aNil))) (aNil))) (gSet 6) (tfYes) (eTup (aCons (eIf (tOfE (eBin (oEq) (eVar 6) (eVar 3))) (eC (.int 1)) (eC (.int 0))) (aCons (eC (.int 1)) (aNil)))))) [.pv (rowsD many n cs), .pv (.int (many : Int)), .pv (ksD many n ks), .pv (.int (j : Int)), s4, s5, s6] S = .ok (.nx [.pv (rowsD many n cs), .pv (.int (many : Int)), .pv (ksD many n ks), .pv (.int (j : Int)), .pv (.lst ((List.range n).map fun (i : Nat) => enc (if i = j then 1 else 0))), s5, s6]) S := by
    simp only [sAsg_s, eFrz_s, fComp_s, r1, Res.bind_ok, wipeR_cons, wipeR_nil, List.set_cons_succ, List.set_cons_zero, c1, gSet_s]
  have step2 : sAsg (gSet 5) (eCall fn_reduced (aCons (eVar 2) (aCons (eTup (aCons (eFrz (fListOf (aCons (eBin oIx (eBin oIx (eVar 0) (eVar 3)) (eC (.int 0))) (aNil)))) (aCons (eBin oIx (eBin oIx (eVar 0) (eVar 3)) (eC (.int 1))) (aCons (eVar 4) (aNil))))) (aNil)))) [.pv (rowsD many n cs), .pv (.int (many : Int)), .pv (ksD many n ks), .pv (.int (j : Int)), .pv (.lst ((List.range n).map fun (i : Nat) => enc (if i = j then 1 else 0))), s5, s6] S = .ok (.nx [.pv (rowsD many n cs), .pv (.int (many : Int)), .pv (ksD many n ks), .pv (.int (j : Int)), .pv (.lst ((List.range n).map fun (i : Nat) => enc (if i = j then 1 else 0))), .pv (prow many n R), s6]) S := by
    simp only [sAsg_s, eCall_s, aCons_s, aNil_s, e1, Res.bind_ok, eVar_s, List.getElem?_cons_zero, List.getElem?_cons_succ, e2, noex_ok, gSet_s, List.set_cons_zero, List.set_cons_succ]
  rw [sSeq_s, step1]
  simp only [Res.bind_ok]
  rw [sSeq_s, step2]
  simp only [Res.bind_ok]
  cases el : leadOf many R with
  | some a =>
    rw [el] at e3
    dsimp only at e3
    have hl := leadOf_some el
    have e4 : fn_joined [ksD many n ks, prow many n R] S = .ok (ksD many n (joinR ks a R)) S := joined_s hw (hjn a el) hl hlen
    simp only [sIf_s, tOfE_s, eBin_s, eCall_s, aCons_s, aNil_s, eVar_s, eC_s, List.getElem?_cons_zero, List.getElem?_cons_succ, Res.bind_ok, e3, noex_ok, oNotN_n, isNon_i, Bool.not_false, if_true, sAsg_s, e4, gSet_s, List.set_cons_zero, List.set_cons_succ]
  | none =>
    rw [el] at e3
    dsimp only at e3
    by_cases hc : R many = 0
    · have hn : (R many).num = 0 := Rat.num_eq_zero.mpr hc
      simp [e3, hc, hn]
    · have hn : ¬ (R many).num = 0 := fun e => hc (Rat.num_eq_zero.mp e)
      have c2 : ∀ (a b c d e : Sl), compL (gSet 6) (tOfE (eBin (oNe) (eBin oIx (eBin oIx (eBin oIx (eVar 5) (eC (.int 2))) (eVar 6)) (eC (.int 0))) (eC (.int 0)))) (eVar 6) [a, b, c, d, e, .pv (prow many n R), .no] (rangeD 0 n) S [] = .ok (idxs many n R) S := fun a b c d e =>
        compL_rangeIf (fun (k : Nat) => decide (R (many + 1 + k) ≠ 0)) (fun (k : Nat) => D.int (k : Int)) n (small_line (by omega)) fun k hk => by
          refine ⟨_, rfl, ?_, fun _ => by simp⟩
          have hk' := encL_at (f := fun k => R (many + 1 + k)) hk
          by_cases h : R (many + 1 + k) = 0
          · simp [hk', h]
          · have : ¬ (R (many + 1 + k)).num = 0 := fun e => h (Rat.num_eq_zero.mp e)
            simp [hk', h, this]
      simp [-iRange1_s, e3, hc, hn, r1, c2, sizeLine_eq]
theorem settle_s {many n : Nat} {cs : Nat → Row} (hw : many + 1 + n ≤ 100) (h : RunSz (many + 1 + n) many (fulls many n cs) []) : fn_settle [rowsD many n cs, .int (many : Int)] S = .ok (resD many n (runA many (fulls many n cs) [])) S := by
  rw [show fn_settle = fnOf _ _ b_settle from rfl, fnOf_2, settle_split]
  have r1 : ∀ (a b c d e f : Sl), iRange1 (aCons (eApp bLen (aCons (eVar 0) (aNil))) (aNil)) [.pv (rowsD many n cs), a, b, c, d, e, f] S = .ok (rangeD 0 n) S := fun a b c d e f => range_nat (by simp [rowsD]) (by omega)
  generalize hres : runA many (fulls many n cs) [] = res
  have loop := forL_inv (t := gSet 3) (b := bTurn) (fun j ρ S' => S' = S ∧ ∃ ks s3 s4 s5 s6, ρ = [.pv (rowsD many n cs), .pv (.int (many : Int)), .pv (ksD many n ks), s3, s4, s5, s6] ∧ RunSz (many + 1 + n) many ((fulls many n cs).drop j) ks ∧ runA many ((fulls many n cs).drop j) ks = res)
    (Rr := fun X => match res with
      | .kept ks => ∃ s3 s4 s5 s6, X = .ok (.nx [.pv (rowsD many n cs), .pv (.int (many : Int)), .pv (ksD many n ks), s3, s4, s5, s6]) S
      | .conf r => X = .ok (.rt (resD many n (.conf r))) S)
    (rangeD 0 n) 0 [.pv (rowsD many n cs), .pv (.int (many : Int)), .pv (ksD many n []), .no, .no, .no, .no] S ⟨rfl, [], _, _, _, _, rfl, by simpa using h, by simpa using hres⟩
    (fun j d ρ S' hd hI => by
      obtain ⟨rfl, ks, s3, s4, s5, s6, rfl, hz, hq⟩ := hI
      rw [Nat.zero_add] at hz hq ⊢
      have hj : j < n := by have := (List.getElem?_eq_some_iff.mp hd).1; simpa [rangeD] using this
      rw [rangeD_get hj, Int.zero_add] at hd
      cases hd
      refine ⟨_, rfl, ?_⟩
      rw [fulls_drop hj] at hz hq
      obtain ⟨hr, hsr, hred, hm⟩ := hz
      obtain ⟨s4', s5', et⟩ := turn_s (S := S') (cs := cs) hw hj hr hred (fun a ha => by rw [ha] at hm; exact hm.1) s4 s5 s6
      have es : ([Sl.pv (rowsD many n cs), .pv (.int (many : Int)), .pv (ksD many n ks), s3, s4, s5, s6] : List Sl).set 3 (.pv (.int (j : Int))) = [Sl.pv (rowsD many n cs), .pv (.int (many : Int)), .pv (ksD many n ks), .pv (.int (j : Int)), s4, s5, s6] := rfl
      rw [es, et]
      unfold runA at hq
      cases el : leadOf many (redR ks (full many j (cs j))) with
      | some a =>
        rw [el] at hq hm
        exact .inl ⟨_, _, .inl rfl, rfl, _, _, _, _, _, rfl, hm.2, hq⟩
      | none =>
        rw [el] at hq hm
        dsimp only at hq hm ⊢
        by_cases hc : redR ks (full many j (cs j)) many ≠ 0
        · rw [if_pos hc] at hq ⊢
          subst hq
          exact .inr (.inr ⟨_, _, rfl, rfl⟩)
        · rw [if_neg hc] at hq ⊢
          rcases hm with hm | hm
          · exact absurd hm hc
          · exact .inl ⟨_, _, .inl rfl, rfl, _, _, _, _, _, rfl, hm, hq⟩)
    (fun ρ S' hI => by
      obtain ⟨rfl, ks, s3, s4, s5, s6, rfl, hz, hq⟩ := hI
      have hl : (rangeD 0 n).length = n := by simp [rangeD]
      rw [Nat.zero_add, hl, List.drop_eq_nil_of_le (by simp [fulls])] at hq
      unfold runA at hq
      subst hq
      exact ⟨_, _, _, _, rfl⟩)
  have e0 : sAsg (gSet 2) (eFrz (fLst aNil)) (startR 7 [rowsD many n cs, .int (many : Int)]) S = .ok (.nx [.pv (rowsD many n cs), .pv (.int (many : Int)), .pv (ksD many n []), .no, .no, .no, .no]) S := by
    simp [startR, ksD, sizeLine_eq]
  rw [sSeq_s, e0]
  simp only [Res.bind_ok, sSeq_s, sFor_s, r1]
  cases res with
  | kept ks =>
    obtain ⟨s3, s4, s5, s6, e⟩ := loop
    rw [e]
    simp [resD, sizeLine_eq]
  | conf r =>
    have e : _ = _ := loop
    rw [e]
    rfl
end K43
/-! the law's own way of settling, read -/
namespace K43
open PySem PySem.Spec L2 L2.PL
variable {S : Stm}
theorem less_row_s {w : Nat} {r o : Row} {f : Rat} (h : StepSz w r f o) (hw : w ≤ 100) : fn__law_less_row [.lst (encL w r), enc f, .lst (encL w o)] S = .ok (.lst (encL w (less r f o))) S := by
  rw [show fn__law_less_row = fnOf _ _ b__law_less_row from rfl, fnOf_3]
  unfold b__law_less_row
  have r1 : ∀ x y z : Sl, iRange1 (aCons (eApp bLen (aCons (eVar 0) (aNil))) (aNil)) [.pv (.lst (encL w r)), x, y, z] S = .ok (rangeD 0 w) S := fun x y z => range_nat (by simp) (by omega)
  have c1 : compL (gSet 3) tfYes (eCall Lib.fn__law_less_by (aCons (eBin oIx (eVar 0) (eVar 3)) (aCons (eCall Lib.fn__law_times (aCons (eVar 1) (aCons (eBin oIx (eVar 2) (eVar 3)) (aNil)))) (aNil)))) [.pv (.lst (encL w r)), .pv (enc f), .pv (.lst (encL w o)), .no] (rangeD 0 w) S [] = .ok (encL w (less r f o)) S :=
    compL_range (fun k => enc (less r f o k)) w (small_line hw) fun k hk => by
      obtain ⟨e1, e2⟩ := lawone_s (S := S) h hk
      exact ⟨_, rfl, by simp [encL_at hk, e1, e2]⟩
  simp [-iRange1_s, startR, r1, c1]
theorem encL_split (many n : Nat) (f : Row) : encL (many + 1 + n) f = encL many f ++ [enc (f many)] ++ encL n (fun i => f (many + 1 + i)) := by
  unfold encL
  rw [List.range_add, List.map_append, List.range_succ, List.map_append]
  simp
theorem full_encL {many n k : Nat} {r : Row} (hk : k < n) : encL many r ++ [enc (r many)] ++ ((List.range n).map fun (i : Nat) => enc (if i = k then 1 else 0)) = encL (many + 1 + n) (full many k r) := by
  have h := full_prow (many := many) (r := r) hk
  unfold prow at h
  injection h with h
  injection h with h1 h
  injection h with h2 h
  injection h with h3 h
  injection h1 with h1
  injection h3 with h3
  rw [encL_split, h1, h2, h3]
def leadsN (many : Nat) (r : Row) : List Nat := (List.range many).filter fun k => decide (r k ≠ 0)
theorem leadsN_head (many : Nat) (r : Row) : (leadsN many r).head? = leadOf many r := by
  unfold leadsN leadOf
  rw [List.head?_filter]
theorem leadsN_nil {many : Nat} {r : Row} (h : leadOf many r = none) : leadsN many r = [] := by
  have := leadsN_head many r
  rw [h] at this
  exact List.head?_eq_none_iff.mp this
theorem leadsN_cons {many a : Nat} {r : Row} (h : leadOf many r = some a) : ∃ l, leadsN many r = a :: l := by
  have := leadsN_head many r
  rw [h] at this
  exact List.head?_eq_some_iff.mp this
theorem leadsN_one {many a : Nat} {r : Row} (h : leadsN many r = [a]) : leadOf many r = some a := by
  rw [← leadsN_head, h]; rfl
def keptL (w : Nat) (ks : Kept) : D := .lst (ks.map fun p => .tup [.int (p.1 : Int), .lst (encL w p.2)])
noncomputable abbrev eRow : EF := eBin oAdd (eBin oAdd (eBin oIx (eBin oIx (eVar 0) (eVar 3)) (eC (.int 0))) (eFrz (fLst (aCons (eBin oIx (eBin oIx (eVar 0) (eVar 3)) (eC (.int 1))) (aNil))))) (eFrz (fComp [9] (iRange1 (aCons (eApp bLen (aCons (eVar 0) (aNil))) (aNil))) (gSet 9) (tfYes) (eTup (aCons (eApp bInt (aCons (eBin (oEq) (eVar 9) (eVar 3)) (aNil))) (aCons (eC (.int 1)) (aNil))))))
noncomputable abbrev sRed : SF := sFor (iSeq (eVar 2)) (gTupF [gSet 5, gSet 6]) (sAsg (gSet 4) (eCall fn__law_less_row (aCons (eVar 4) (aCons (eBin oIx (eVar 4) (eVar 5)) (aCons (eVar 6) (aNil))))))
noncomputable abbrev eLeads : EF := eFrz (fComp [9] (iRange1 (aCons (eVar 1) (aNil))) (gSet 9) (tOfE (eBin (oNe) (eBin oIx (eBin oIx (eVar 4) (eVar 9)) (eC (.int 0))) (eC (.int 0)))) (eVar 9))
noncomputable abbrev eNorm : EF := eFrz (fComp [10] (iSeq (eVar 4)) (gSet 10) (tfYes) (eCall Lib.fn__law_part (aCons (eVar 10) (aCons (eBin oIx (eVar 4) (eBin oIx (eVar 7) (eC (.int 0)))) (aNil)))))
noncomputable abbrev eJoin : EF := eBin oAdd (eFrz (fComp [5, 6] (iSeq (eVar 2)) (gTupF [gSet 5, gSet 6]) (tfYes) (eTup (aCons (eVar 5) (aCons (eCall fn__law_less_row (aCons (eVar 6) (aCons (eBin oIx (eVar 6) (eBin oIx (eVar 7) (eC (.int 0)))) (aCons (eVar 4) (aNil))))) (aNil)))))) (eFrz (fLst (aCons (eTup (aCons (eBin oIx (eVar 7) (eC (.int 0))) (aCons (eVar 4) (aNil)))) (aNil))))
noncomputable abbrev eIdx : EF := eFrz (fComp [9] (iRange1 (aCons (eApp bLen (aCons (eVar 0) (aNil))) (aNil))) (gSet 9) (tOfE (eBin (oNe) (eBin oIx (eBin oIx (eVar 4) (eBin oAdd (eBin oAdd (eVar 1) (eC (.int 1))) (eVar 9))) (eC (.int 0))) (eC (.int 0)))) (eVar 9))
noncomputable def bTL : SF := sSeq (sAsg (gSet 4) eRow) (sSeq sRed (sSeq (sAsg (gSet 7) eLeads) (sIf (tOfE (eBin (oNe) (eVar 7) (eFrz (fLst (aNil))))) (sSeq (sAsg (gSet 4) eNorm) (sAsg (gSet 2) eJoin)) (sIf (tOfE (eBin (oNe) (eBin oIx (eBin oIx (eVar 4) (eVar 1)) (eC (.int 0))) (eC (.int 0)))) (sRet (eTup (aCons (eC (.str "conflict")) (aCons eIdx (aNil))))) (sNext)))))
noncomputable def bFnd : SF := sIf (tOfE (eBin (oEq) eLeads (eFrz (fLst (aCons (eVar 5) (aNil)))))) (sPut 8 (eVar 5) (eBin oIx (eVar 4) (eVar 1))) (sNext)
noncomputable def bEnd : SF := sSeq (sOwn 8 (fRep (eFrz (fLst (aCons (eC .non) (aNil)))) (eVar 1))) (sSeq (sFor (iSeq (eVar 2)) (gTupF [gSet 5, gSet 4]) bFnd) (sFrz 8 (sRet (eTup (aCons (eC (.str "kept")) (aCons (eVar 8) (aNil)))))))
theorem law_split : b__law_settled = sSeq (sAsg (gSet 2) (eFrz (fLst (aNil)))) (sSeq (sFor (iRange1 (aCons (eApp bLen (aCons (eVar 0) (aNil))) (aNil))) (gSet 3) bTL) bEnd) := rfl
section
variable {many n : Nat}
theorem lrow_s {cs : Nat → Row} {j : Nat} (hw : many + 1 + n ≤ 100) (hj : j < n) (s2 s4 s5 s6 s7 s8 s9 s10 : Sl) :
    eRow [.pv (rowsD many n cs), .pv (.int (many : Int)), s2, .pv (.int (j : Int)), s4, s5, s6, s7, s8, s9, s10] S = .ok (.lst (encL (many + 1 + n) (full many j (cs j)))) S := by
  have r1 : ∀ (l : List Sl), iRange1 (aCons (eApp bLen (aCons (eVar 0) (aNil))) (aNil)) (.pv (rowsD many n cs) :: l) S = .ok (rangeD 0 n) S := fun l => range_nat (by simp [rowsD]) (by omega)
  have c1 : compL (gSet 9) tfYes (eTup (aCons (eApp bInt (aCons (eBin (oEq) (eVar 9) (eVar 3)) (aNil))) (aCons (eC (.int 1)) (aNil)))) [.pv (rowsD many n cs), .pv (.int (many : Int)), s2, .pv (.int (j : Int)), s4, s5, s6, s7, s8, .no, s10] (rangeD 0 n) S [] = .ok ((List.range n).map fun (i : Nat) => enc (if i = j then 1 else 0)) S :=
    compL_range _ n (small_line (by omega)) fun k hk => by
      refine ⟨_, rfl, ?_⟩
      by_cases h : k = j
      · simp [h, sizeLine_eq, enc_one]
      · have h' : ¬ ((k : Int) = (j : Int)) := by omega
        simp [h, h', sizeLine_eq, enc_zero]
  have e1 : eBin oIx (eVar 0) (eVar 3) [.pv (rowsD many n cs), .pv (.int (many : Int)), s2, .pv (.int (j : Int)), s4, s5, s6, s7, s8, s9, s10] S = .ok (rowD many (cs j)) S := by
    simp [rowsD, rows_at hj]
  have z1 : many + 1 ≤ sizeLine := small_line (by omega)
  have z2 : many + 1 + n ≤ sizeLine := small_line (by omega)
  have z3 : 1 ≤ sizeLine := small_line (by omega)
  rw [← full_encL hj]
  unfold eRow
  simp only [eBin_s (f := eBin oIx (eVar 0) (eVar 3)), eBin_s oAdd, e1, Res.bind_ok, eC_s, rowD_0, rowD_1, eFrz_s, fLst_s, aCons_s, aNil_s, List.length_cons, List.length_nil, fComp_s, r1, wipeR_cons, wipeR_nil, List.set_cons_succ, List.set_cons_zero, c1, oAdd_l, encL_len, List.length_append, List.length_map, List.length_range, Nat.zero_add]
  rw [iteC_pos z3]
  simp only [Res.bind_ok, oAdd_l, encL_len, List.length_cons, List.length_nil, List.length_append, List.length_map, List.length_range, Nat.zero_add]
  rw [iteC_pos z1]
  simp only [Res.bind_ok, r1, c1, oAdd_l, encL_len, List.length_cons, List.length_nil, List.length_append, List.length_map, List.length_range, Nat.zero_add]
  rw [iteC_pos z2]
theorem lred_loop {w : Nat} (hw : w ≤ 100) {x0 x1 x2 x3 x7 x8 x9 x10 : Sl} : ∀ (ks : Kept) (r : Row) (s5 s6 : Sl), RedSz w ks r →
    ∃ s5' s6', forL (gTupF [gSet 5, gSet 6]) (sAsg (gSet 4) (eCall fn__law_less_row (aCons (eVar 4) (aCons (eBin oIx (eVar 4) (eVar 5)) (aCons (eVar 6) (aNil)))))) (ks.map fun p => .tup [.int (p.1 : Int), .lst (encL w p.2)]) [x0, x1, x2, x3, .pv (.lst (encL w r)), s5, s6, x7, x8, x9, x10] S = .ok (.nx [x0, x1, x2, x3, .pv (.lst (encL w (redR ks r))), s5', s6', x7, x8, x9, x10]) S
  | [], r, s5, s6, _ => ⟨s5, s6, rfl⟩
  | p :: ks, r, s5, s6, h => by
    obtain ⟨h1, h2, h3⟩ := h
    obtain ⟨s5', s6', e⟩ := lred_loop hw ks (less r (r p.1) p.2) (.pv (.int (p.1 : Int))) (.pv (.lst (encL w p.2))) h3
    refine ⟨s5', s6', ?_⟩
    have e2 := less_row_s (S := S) h2 hw
    rw [List.map_cons, forL]
    simp only [gTupF_t, gAll_cons, gAll_nil, gSet_s, List.set_cons_zero, List.set_cons_succ, Option.bind_some]
    have e4 : sAsg (gSet 4) (eCall fn__law_less_row (aCons (eVar 4) (aCons (eBin oIx (eVar 4) (eVar 5)) (aCons (eVar 6) (aNil))))) [x0, x1, x2, x3, .pv (.lst (encL w r)), .pv (.int (p.1 : Int)), .pv (.lst (encL w p.2)), x7, x8, x9, x10] S = .ok (.nx [x0, x1, x2, x3, .pv (.lst (encL w (less r (r p.1) p.2))), .pv (.int (p.1 : Int)), .pv (.lst (encL w p.2)), x7, x8, x9, x10]) S := by
      simp [encL_at h1, e2]
    rw [e4]
    exact e
theorem lleads_s {w : Nat} {r : Row} (hm : many ≤ w) (hw : w ≤ 100) (x0 x2 x3 x5 x6 x7 x8 x9 x10 : Sl) :
    eLeads [x0, .pv (.int (many : Int)), x2, x3, .pv (.lst (encL w r)), x5, x6, x7, x8, x9, x10] S = .ok (natsD (leadsN many r)) S := by
  have r1 : ∀ (a : Sl) (l : List Sl), iRange1 (aCons (eVar 1) (aNil)) (a :: .pv (.int (many : Int)) :: l) S = .ok (rangeD 0 many) S := fun a l => range_nat (by simp) (by omega)
  have c1 : compL (gSet 9) (tOfE (eBin (oNe) (eBin oIx (eBin oIx (eVar 4) (eVar 9)) (eC (.int 0))) (eC (.int 0)))) (eVar 9) [x0, .pv (.int (many : Int)), x2, x3, .pv (.lst (encL w r)), x5, x6, x7, x8, .no, x10] (rangeD 0 many) S [] = .ok ((leadsN many r).map fun (k : Nat) => D.int (k : Int)) S :=
    compL_rangeIf (fun (k : Nat) => decide (r k ≠ 0)) (fun (k : Nat) => D.int (k : Int)) many (small_line (by omega)) fun k hk => by
      refine ⟨_, rfl, ?_, fun _ => by simp⟩
      have hk' := encL_at (f := r) (show k < w by omega)
      by_cases h : r k = 0
      · simp [hk', h]
      · have : ¬ (r k).num = 0 := fun e => h (Rat.num_eq_zero.mp e)
        simp [hk', h, this]
  unfold eLeads
  simp only [eFrz_s, fComp_s, r1, Res.bind_ok, wipeR_cons, wipeR_nil, List.set_cons_succ, List.set_cons_zero, c1]
  rfl
theorem lnorm_s {w a : Nat} {r : Row} {ks : Kept} {l : List Nat} (h : JoinSz w ks a r) (hne : r a ≠ 0) (hw : w ≤ 100) (x0 x1 x2 x3 x5 x6 x8 x9 x10 : Sl) :
    eNorm [x0, x1, x2, x3, .pv (.lst (encL w r)), x5, x6, .pv (natsD (a :: l)), x8, x9, x10] S = .ok (.lst (encL w (normR r a))) S := by
  have c1 : compL (gSet 10) tfYes (eCall Lib.fn__law_part (aCons (eVar 10) (aCons (eBin oIx (eVar 4) (eBin oIx (eVar 7) (eC (.int 0)))) (aNil)))) [x0, x1, x2, x3, .pv (.lst (encL w r)), x5, x6, .pv (natsD (a :: l)), x8, x9, .no] (encL w r) S [] = .ok (encL w (normR r a)) S :=
    compL_map (fun k : Nat => enc (r k)) (fun k => enc (normR r a k)) (List.range w) (by simpa using small_line hw) fun k hk => by
      have hk' := List.mem_range.mp hk
      have e := law_part_s (S := S) ((h.sr k hk').mono (by decide)) ((h.sr a h.sa).mono (by decide)) hne (h.sq k hk')
      exact ⟨_, rfl, by simp [natsD, encL_at h.sa, e, normR]⟩
  unfold eNorm
  simp [c1]
theorem ljoin_s {w a : Nat} {r : Row} {ks : Kept} {l : List Nat} (h : JoinSz w ks a r) (hw : w ≤ 100) (hk : ks.length ≤ 100) (x0 x1 x3 x5 x6 x8 x9 x10 : Sl) :
    eJoin [x0, x1, .pv (keptL w ks), x3, .pv (.lst (encL w (normR r a))), x5, x6, .pv (natsD (a :: l)), x8, x9, x10] S = .ok (keptL w (joinR ks a r)) S := by
  have c1 : compL (gTupF [gSet 5, gSet 6]) tfYes (eTup (aCons (eVar 5) (aCons (eCall fn__law_less_row (aCons (eVar 6) (aCons (eBin oIx (eVar 6) (eBin oIx (eVar 7) (eC (.int 0)))) (aCons (eVar 4) (aNil))))) (aNil)))) [x0, x1, .pv (keptL w ks), x3, .pv (.lst (encL w (normR r a))), .no, .no, .pv (natsD (a :: l)), x8, x9, x10] (ks.map fun p => .tup [.int (p.1 : Int), .lst (encL w p.2)]) S [] = .ok (ks.map fun p => .tup [.int (p.1 : Int), .lst (encL w (less p.2 (p.2 a) (normR r a)))]) S :=
    compL_map (fun p : Nat × Row => D.tup [.int (p.1 : Int), .lst (encL w p.2)]) (fun p => .tup [.int (p.1 : Int), .lst (encL w (less p.2 (p.2 a) (normR r a)))]) ks (small_line hk) fun p hp => by
      have e := less_row_s (S := S) (h.ss p hp) hw
      exact ⟨_, rfl, by simp [natsD, encL_at h.sa, e, sizeLine_eq]⟩
  have hlen : ks.length + 1 ≤ 16777216 := by omega
  unfold eJoin
  simp only [eBin_s oAdd, eFrz_s, fComp_s, iSeq_s, eVar_s, List.getElem?_cons_zero, List.getElem?_cons_succ, Res.bind_ok, keptL, wipeR_cons, wipeR_nil, List.set_cons_succ, List.set_cons_zero]
  simp only [keptL] at c1
  rw [c1]
  simp [natsD, sizeLine_eq, hlen, joinR, keptL]
theorem lidx_s {cs : Nat → Row} {r : Row} (hw : many + 1 + n ≤ 100) (x2 x3 x5 x6 x7 x8 x9 x10 : Sl) :
    eIdx [.pv (rowsD many n cs), .pv (.int (many : Int)), x2, x3, .pv (.lst (encL (many + 1 + n) r)), x5, x6, x7, x8, x9, x10] S = .ok (.lst (idxs many n r)) S := by
  have r1 : ∀ (l : List Sl), iRange1 (aCons (eApp bLen (aCons (eVar 0) (aNil))) (aNil)) (.pv (rowsD many n cs) :: l) S = .ok (rangeD 0 n) S := fun l => range_nat (by simp [rowsD]) (by omega)
  have c1 : compL (gSet 9) (tOfE (eBin (oNe) (eBin oIx (eBin oIx (eVar 4) (eBin oAdd (eBin oAdd (eVar 1) (eC (.int 1))) (eVar 9))) (eC (.int 0))) (eC (.int 0)))) (eVar 9) [.pv (rowsD many n cs), .pv (.int (many : Int)), x2, x3, .pv (.lst (encL (many + 1 + n) r)), x5, x6, x7, x8, .no, x10] (rangeD 0 n) S [] = .ok (idxs many n r) S :=
    compL_rangeIf (fun (k : Nat) => decide (r (many + 1 + k) ≠ 0)) (fun (k : Nat) => D.int (k : Int)) n (small_line (by omega)) fun k hk => by
      refine ⟨_, rfl, ?_, fun _ => by simp⟩
      have hk' := encL_at (f := r) (show many + 1 + k < many + 1 + n by omega)
      have hc : ((many : Int) + 1 + (k : Int)) = ((many + 1 + k : Nat) : Int) := by omega
      have e1 : oIx (.lst (encL (many + 1 + n) r)) (.int ((many : Int) + 1 + (k : Int))) S = .ok (enc (r (many + 1 + k))) S := by
        rw [oIx_l, hc, hk']
      have e2 : ((r (many + 1 + k)).num = 0) = (r (many + 1 + k) = 0) := num_zero _
      simp only [tOfE_s, eBin_s, eVar_s, eC_s, List.set_cons_zero, List.set_cons_succ, List.getElem?_cons_zero, List.getElem?_cons_succ, Res.bind_ok, oAdd_i, e1, enc_num, oNe_i, e2]
      simp
  unfold eIdx
  simp only [eFrz_s, fComp_s, r1, Res.bind_ok, wipeR_cons, wipeR_nil, List.set_cons_succ, List.set_cons_zero, c1]
/-- one turn of the law's loop -/
theorem lturn_s {j : Nat} {cs : Nat → Row} {ks : Kept} (hw : many + 1 + n ≤ 100) (hj : j < n) (hr : Rref many ks) (hs : RedSz (many + 1 + n) ks (full many j (cs j)))
    (hjn : ∀ a, leadOf many (redR ks (full many j (cs j))) = some a → JoinSz (many + 1 + n) ks a (redR ks (full many j (cs j)))) (s4 s5 s6 s7 s8 s9 s10 : Sl) :
    ∃ s4' s5' s6' s7', bTL [.pv (rowsD many n cs), .pv (.int (many : Int)), .pv (keptL (many + 1 + n) ks), .pv (.int (j : Int)), s4, s5, s6, s7, s8, s9, s10] S = (match leadOf many (redR ks (full many j (cs j))) with
      | some a => .ok (.nx [.pv (rowsD many n cs), .pv (.int (many : Int)), .pv (keptL (many + 1 + n) (joinR ks a (redR ks (full many j (cs j))))), .pv (.int (j : Int)), s4', s5', s6', s7', s8, s9, s10]) S
      | none => if redR ks (full many j (cs j)) many ≠ 0 then .ok (.rt (.tup [.str "conflict", .lst (idxs many n (redR ks (full many j (cs j))))])) S
        else .ok (.nx [.pv (rowsD many n cs), .pv (.int (many : Int)), .pv (keptL (many + 1 + n) ks), .pv (.int (j : Int)), s4', s5', s6', s7', s8, s9, s10]) S) := by
  have hlen : ks.length ≤ 100 := by have := hr.length; omega
  obtain ⟨s5', s6', e2⟩ := lred_loop (S := S) (x0 := .pv (rowsD many n cs)) (x1 := .pv (.int (many : Int))) (x2 := .pv (keptL (many + 1 + n) ks)) (x3 := .pv (.int (j : Int))) (x7 := s7) (x8 := s8) (x9 := s9) (x10 := s10) hw ks (full many j (cs j)) s5 s6 hs
  generalize hR : redR ks (full many j (cs j)) = R at *
  have e3 := lleads_s (S := S) (many := many) (r := R) (w := many + 1 + n) (by omega) hw (.pv (rowsD many n cs)) (.pv (keptL (many + 1 + n) ks)) (.pv (.int (j : Int))) s5' s6' s7 s8 s9 s10
  refine ⟨(match leadOf many R with | some a => .pv (.lst (encL (many + 1 + n) (normR R a))) | none => .pv (.lst (encL (many + 1 + n) R))), s5', s6', .pv (natsD (leadsN many R)), ?_⟩
  unfold bTL
  have step2 : sRed [.pv (rowsD many n cs), .pv (.int (many : Int)), .pv (keptL (many + 1 + n) ks), .pv (.int (j : Int)), .pv (.lst (encL (many + 1 + n) (full many j (cs j)))), s5, s6, s7, s8, s9, s10] S = .ok (.nx [.pv (rowsD many n cs), .pv (.int (many : Int)), .pv (keptL (many + 1 + n) ks), .pv (.int (j : Int)), .pv (.lst (encL (many + 1 + n) R)), s5', s6', s7, s8, s9, s10]) S := by
    unfold sRed
    simp only [sFor_s, iSeq_s, eVar_s, List.getElem?_cons_zero, List.getElem?_cons_succ, Res.bind_ok, keptL]
    simp only [keptL] at e2
    exact e2
  simp only [sSeq_s (f := sAsg (gSet 4) eRow), sSeq_s (f := sRed), sAsg_s (f := eRow), lrow_s hw hj, Res.bind_ok, gSet_s, List.set_cons_zero, List.set_cons_succ, step2]
  rw [sSeq_s, sAsg_s, e3]
  simp only [Res.bind_ok, gSet_s, List.set_cons_zero, List.set_cons_succ]
  have tz : (0 : Nat) ≤ sizeLine := Nat.zero_le _
  have t1 : ∀ (l : List Nat) (a b c d e f g : Sl) (q : List Sl), tOfE (eBin (oNe) (eVar 7) (eFrz (fLst (aNil)))) (a :: b :: c :: d :: e :: f :: g :: .pv (natsD l) :: q) S = .ok (!decide (l = [])) S := fun l a b c d e f g q => by
    simp only [tOfE_s, eBin_s, eVar_s, List.getElem?_cons_zero, List.getElem?_cons_succ, Res.bind_ok, eFrz_s, fLst_s, aNil_s, List.length_nil]
    rw [iteC_pos tz]
    simp only [Res.bind_ok]
    rw [show D.lst [] = natsD [] from rfl, oNe_nats]
    rfl
  rw [sIf_s, t1]
  simp only [Res.bind_ok]
  cases el : leadOf many R with
  | some a =>
    obtain ⟨l, el2⟩ := leadsN_cons el
    have hl := leadOf_some el
    rw [el2]
    have hq : (!decide (a :: l = [])) = true := by simp
    rw [if_pos hq]
    dsimp only
    rw [sSeq_s, sAsg_s, lnorm_s (hjn a el) hl.ne hw]
    simp only [Res.bind_ok, gSet_s, List.set_cons_zero, List.set_cons_succ]
    rw [sAsg_s, ljoin_s (hjn a el) hw hlen]
    simp only [Res.bind_ok, gSet_s, List.set_cons_zero, List.set_cons_succ]
  | none =>
    rw [leadsN_nil el]
    have hq : ¬ (!decide (([] : List Nat) = [])) = true := by simp
    rw [if_neg hq]
    dsimp only
    have hat := encL_at (f := R) (show many < many + 1 + n by omega)
    by_cases hc : R many = 0
    · simp [hat, hc]
    · have hn : ¬ (R many).num = 0 := fun e => hc (Rat.num_eq_zero.mp e)
      have e5 := lidx_s (S := S) (cs := cs) (r := R) hw (.pv (keptL (many + 1 + n) ks)) (.pv (.int (j : Int))) s5' s6' (.pv (natsD [])) s8 s9 s10
      rw [if_pos hc, sIf_s]
      have t2 : tOfE (eBin (oNe) (eBin oIx (eBin oIx (eVar 4) (eVar 1)) (eC (.int 0))) (eC (.int 0))) [.pv (rowsD many n cs), .pv (.int (many : Int)), .pv (keptL (many + 1 + n) ks), .pv (.int (j : Int)), .pv (.lst (encL (many + 1 + n) R)), s5', s6', .pv (natsD []), s8, s9, s10] S = .ok true S := by simp [hat, hn]
      rw [t2]
      simp only [Res.bind_ok, if_true, sRet_s, eTup_s, aCons_s, aNil_s, eC_s, e5, List.length_cons, List.length_nil]
      rw [iteC_pos (small_line (by omega))]
      rfl
end
end K43
/-! the law's settled rows, and the worths read from the kept ones -/
namespace K43
open PySem PySem.Spec L2 L2.PL
variable {S : Stm}
def okW (many k : Nat) (p : Nat × Row) : Bool := decide (leadsN many p.2 = [k])
def worthD (many : Nat) (ks : Kept) (k : Nat) : D := match ks.find? (okW many k) with
  | some p => enc (p.2 many)
  | none => .non
def worthsD (many : Nat) (ks : Kept) : D := .lst ((List.range many).map fun k => worthD many ks k)
def putW (many : Nat) (fd : List D) (p : Nat × Row) : List D := if leadsN many p.2 = [p.1] then fd.set p.1 (enc (p.2 many)) else fd
theorem putW_len (many : Nat) (fd : List D) (p : Nat × Row) : (putW many fd p).length = fd.length := by
  unfold putW; split <;> simp
theorem fold_len (many : Nat) : ∀ (ks : Kept) (fd : List D), (ks.foldl (putW many) fd).length = fd.length
  | [], _ => rfl
  | p :: ks, fd => by rw [List.foldl_cons, fold_len many ks, putW_len]
theorem fold_at {many k : Nat} : ∀ (ks : Kept) (fd : List D), (∀ p ∈ ks, IsLead many p.2 p.1) → (ks.Pairwise fun p q => p.2 q.1 = 0 ∧ q.2 p.1 = 0 ∧ p.1 ≠ q.1) → k < fd.length →
    (ks.foldl (putW many) fd)[k]? = match ks.find? (okW many k) with | some p => some (enc (p.2 many)) | none => fd[k]?
  | [], fd, _, _, _ => rfl
  | p :: ks, fd, hl, hp, hk => by
    have hp' := List.pairwise_cons.mp hp
    rw [List.foldl_cons, fold_at ks _ (fun q hq => hl q (by simp [hq])) hp'.2 (by rw [putW_len]; exact hk)]
    have hlp := hl p (by simp)
    by_cases hc : okW many k p = true
    · rw [List.find?_cons_of_pos hc]
      have hc' : leadsN many p.2 = [k] := by simpa [okW] using hc
      have hk' : p.1 = k := hlp.uniq (leadOf_some (leadsN_one hc'))
      have hn : ks.find? (okW many k) = none := by
        rw [List.find?_eq_none]
        intro q hq hcq
        have hcq' : leadsN many q.2 = [k] := by simpa [okW] using hcq
        have hkq : q.1 = k := (hl q (by simp [hq])).uniq (leadOf_some (leadsN_one hcq'))
        exact (hp'.1 q hq).2.2 (by omega)
      rw [hn]
      dsimp only
      unfold putW
      rw [if_pos (by rw [hk']; exact hc'), hk']
      simp [hk]
    · rw [List.find?_cons_of_neg hc]
      cases ks.find? (okW many k) with
      | some q => rfl
      | none =>
        dsimp only
        unfold putW
        split
        · next h =>
          have hne : p.1 ≠ k := fun e => hc (by rw [e] at h; simpa [okW] using h)
          rw [List.getElem?_set_ne hne]
        · rfl
theorem fold_all {many : Nat} {ks : Kept} (h : Rref many ks) : D.lst (ks.foldl (putW many) (List.replicate many .non)) = worthsD many ks := by
  unfold worthsD
  congr 1
  apply List.ext_getElem?
  intro k
  by_cases hk : k < many
  · rw [fold_at ks _ (fun p hp => h.lead hp) h.pw (by simpa using hk), List.getElem?_map, List.getElem?_range hk]
    simp only [Option.map_some, worthD]
    cases ks.find? (okW many k) with
    | some p => rfl
    | none => simp [hk]
  · rw [List.getElem?_eq_none (by rw [fold_len]; simpa using hk), List.getElem?_eq_none (by simpa using hk)]
theorem fnd_loop {many w : Nat} (hm : many < w) (hw : w ≤ 100) {x0 x2 x3 x6 x7 x9 x10 : Sl} : ∀ (ks : Kept) (fd : List D) (s4 s5 : Sl), (∀ p ∈ ks, p.1 < many) → fd.length = many →
    ∃ s4' s5', forL (gTupF [gSet 5, gSet 4]) bFnd (ks.map fun p => .tup [.int (p.1 : Int), .lst (encL w p.2)]) [x0, .pv (.int (many : Int)), x2, x3, s4, s5, x6, x7, .ow fd, x9, x10] S = .ok (.nx [x0, .pv (.int (many : Int)), x2, x3, s4', s5', x6, x7, .ow (ks.foldl (putW many) fd), x9, x10]) S
  | [], fd, s4, s5, _, _ => ⟨s4, s5, rfl⟩
  | p :: ks, fd, s4, s5, h, hf => by
    obtain ⟨s4', s5', e⟩ := fnd_loop hm hw ks (putW many fd p) (.pv (.lst (encL w p.2))) (.pv (.int (p.1 : Int))) (fun q hq => h q (by simp [hq])) (by rw [putW_len, hf])
    refine ⟨s4', s5', ?_⟩
    have hp := h p (by simp)
    rw [List.map_cons, forL]
    simp only [gTupF_t, gAll_cons, gAll_nil, gSet_s, List.set_cons_zero, List.set_cons_succ, Option.bind_some]
    have e1 := lleads_s (S := S) (many := many) (r := p.2) (w := w) (by omega) hw x0 x2 x3 (.pv (.int (p.1 : Int))) x6 x7 (.ow fd) x9 x10
    have e4 : bFnd [x0, .pv (.int (many : Int)), x2, x3, .pv (.lst (encL w p.2)), .pv (.int (p.1 : Int)), x6, x7, .ow fd, x9, x10] S = .ok (.nx [x0, .pv (.int (many : Int)), x2, x3, .pv (.lst (encL w p.2)), .pv (.int (p.1 : Int)), x6, x7, .ow (putW many fd p), x9, x10]) S := by
      unfold bFnd
      have t : tOfE (eBin (oEq) eLeads (eFrz (fLst (aCons (eVar 5) (aNil))))) [x0, .pv (.int (many : Int)), x2, x3, .pv (.lst (encL w p.2)), .pv (.int (p.1 : Int)), x6, x7, .ow fd, x9, x10] S = .ok (decide (leadsN many p.2 = [p.1])) S := by
        rw [tOfE_s, eBin_s, e1]
        simp only [Res.bind_ok, eFrz_s, fLst_s, aCons_s, aNil_s, eVar_s, List.getElem?_cons_zero, List.getElem?_cons_succ, List.length_cons, List.length_nil]
        rw [iteC_pos (small_line (by omega))]
        simp only [Res.bind_ok]
        rw [show D.lst [.int (p.1 : Int)] = natsD [p.1] from rfl, oEq_nats]
        rfl
      rw [sIf_s, t]
      simp only [Res.bind_ok]
      unfold putW
      by_cases hc : leadsN many p.2 = [p.1]
      · rw [if_pos (by simpa using hc), if_pos hc]
        have i1 : ixN fd.length (p.1 : Int) = some p.1 := by
          unfold ixN
          rw [if_pos (by omega), if_pos (by omega)]
          simp
        simp [encL_at hm, i1]
      · rw [if_neg (by simpa using hc), if_neg hc]
        rfl
    rw [e4]
    exact e
def resL (many n : Nat) : StA → D
  | .kept ks => .tup [.str "kept", worthsD many ks]
  | .conf r => .tup [.str "conflict", .lst (idxs many n r)]
theorem end_s {many n : Nat} {ks : Kept} (hw : many + 1 + n ≤ 100) (hr : Rref many ks) (x0 x3 x4 x5 x6 x7 x8 x9 x10 : Sl) : bEnd [x0, .pv (.int (many : Int)), .pv (keptL (many + 1 + n) ks), x3, x4, x5, x6, x7, x8, x9, x10] S = .ok (.rt (resL many n (.kept ks))) S := by
  obtain ⟨s4', s5', e⟩ := fnd_loop (S := S) (many := many) (w := many + 1 + n) (by omega) hw (x0 := x0) (x2 := .pv (keptL (many + 1 + n) ks)) (x3 := x3) (x6 := x6) (x7 := x7) (x9 := x9) (x10 := x10) ks (List.replicate many .non) x4 x5 (fun p hp => (hr.each p hp).1) (by simp)
  unfold bEnd
  have c : -9223372036854775808 ≤ (many : Int) ∧ (many : Int) < 9223372036854775808 ∧ ([D.non].length) * (many : Int).toNat ≤ sizeLine := ⟨by omega, by omega, by simp [sizeLine_eq]; omega⟩
  have e1 : fRep (eFrz (fLst (aCons (eC .non) (aNil)))) (eVar 1) [x0, .pv (.int (many : Int)), .pv (keptL (many + 1 + n) ks), x3, x4, x5, x6, x7, x8, x9, x10] S = .ok (List.replicate many .non) S := by
    simp only [fRep_s, eFrz_s, fLst_s, aCons_s, aNil_s, eC_s, eVar_s, Res.bind_ok, List.length_cons, List.length_nil, List.getElem?_cons_zero, List.getElem?_cons_succ]
    rw [iteC_pos (small_line (by omega))]
    simp only [Res.bind_ok]
    rw [iteC_pos c]
    congr 1
    simp
  rw [sSeq_s, sOwn_s, e1]
  simp only [Res.bind_ok, List.set_cons_zero, List.set_cons_succ]
  have e2 : sFor (iSeq (eVar 2)) (gTupF [gSet 5, gSet 4]) bFnd [x0, .pv (.int (many : Int)), .pv (keptL (many + 1 + n) ks), x3, x4, x5, x6, x7, .ow (List.replicate many .non), x9, x10] S = .ok (.nx [x0, .pv (.int (many : Int)), .pv (keptL (many + 1 + n) ks), x3, s4', s5', x6, x7, .ow (ks.foldl (putW many) (List.replicate many .non)), x9, x10]) S := by
    simp only [sFor_s, iSeq_s, eVar_s, List.getElem?_cons_zero, List.getElem?_cons_succ, Res.bind_ok, keptL]
    simp only [keptL] at e
    exact e
  rw [sSeq_s, e2]
  simp only [Res.bind_ok, sFrz_s, List.getElem?_cons_zero, List.getElem?_cons_succ, List.set_cons_zero, List.set_cons_succ, fold_all hr]
  simp only [sRet_s, eTup_s, aCons_s, aNil_s, eC_s, eVar_s, Res.bind_ok, List.getElem?_cons_zero, List.getElem?_cons_succ, List.length_cons, List.length_nil]
  rw [iteC_pos (small_line (by omega))]
  rfl
theorem settled_s {many n : Nat} {cs : Nat → Row} (hw : many + 1 + n ≤ 100) (h : RunSz (many + 1 + n) many (fulls many n cs) []) : fn__law_settled [rowsD many n cs, .int (many : Int)] S = .ok (resL many n (runA many (fulls many n cs) [])) S := by
  rw [show fn__law_settled = fnOf _ _ b__law_settled from rfl, fnOf_2, law_split]
  have r1 : ∀ (l : List Sl), iRange1 (aCons (eApp bLen (aCons (eVar 0) (aNil))) (aNil)) (.pv (rowsD many n cs) :: l) S = .ok (rangeD 0 n) S := fun l => range_nat (by simp [rowsD]) (by omega)
  generalize hres : runA many (fulls many n cs) [] = res
  have loop := forL_inv (t := gSet 3) (b := bTL) (fun j ρ S' => S' = S ∧ ∃ ks s3 s4 s5 s6 s7, ρ = [.pv (rowsD many n cs), .pv (.int (many : Int)), .pv (keptL (many + 1 + n) ks), s3, s4, s5, s6, s7, .no, .no, .no] ∧ RunSz (many + 1 + n) many ((fulls many n cs).drop j) ks ∧ runA many ((fulls many n cs).drop j) ks = res)
    (Rr := fun X => match res with
      | .kept ks => ∃ s3 s4 s5 s6 s7, Rref many ks ∧ X = .ok (.nx [.pv (rowsD many n cs), .pv (.int (many : Int)), .pv (keptL (many + 1 + n) ks), s3, s4, s5, s6, s7, .no, .no, .no]) S
      | .conf r => X = .ok (.rt (resL many n (.conf r))) S)
    (rangeD 0 n) 0 [.pv (rowsD many n cs), .pv (.int (many : Int)), .pv (keptL (many + 1 + n) []), .no, .no, .no, .no, .no, .no, .no, .no] S ⟨rfl, [], _, _, _, _, _, rfl, by simpa using h, by simpa using hres⟩
    (fun j d ρ S' hd hI => by
      obtain ⟨rfl, ks, s3, s4, s5, s6, s7, rfl, hz, hq⟩ := hI
      rw [Nat.zero_add] at hz hq ⊢
      have hj : j < n := by have := (List.getElem?_eq_some_iff.mp hd).1; simpa [rangeD] using this
      rw [rangeD_get hj, Int.zero_add] at hd
      cases hd
      refine ⟨_, rfl, ?_⟩
      rw [fulls_drop hj] at hz hq
      obtain ⟨hr, hsr, hred, hm⟩ := hz
      obtain ⟨s4', s5', s6', s7', et⟩ := lturn_s (S := S') (cs := cs) hw hj hr hred (fun a ha => by rw [ha] at hm; exact hm.1) s4 s5 s6 s7 .no .no .no
      have es : ([Sl.pv (rowsD many n cs), .pv (.int (many : Int)), .pv (keptL (many + 1 + n) ks), s3, s4, s5, s6, s7, .no, .no, .no] : List Sl).set 3 (.pv (.int (j : Int))) = [Sl.pv (rowsD many n cs), .pv (.int (many : Int)), .pv (keptL (many + 1 + n) ks), .pv (.int (j : Int)), s4, s5, s6, s7, .no, .no, .no] := rfl
      rw [es, et]
      unfold runA at hq
      cases el : leadOf many (redR ks (full many j (cs j))) with
      | some a =>
        rw [el] at hq hm
        exact .inl ⟨_, _, .inl rfl, rfl, _, _, _, _, _, _, rfl, hm.2, hq⟩
      | none =>
        rw [el] at hq hm
        dsimp only at hq hm ⊢
        by_cases hc : redR ks (full many j (cs j)) many ≠ 0
        · rw [if_pos hc] at hq ⊢
          subst hq
          exact .inr (.inr ⟨_, _, rfl, rfl⟩)
        · rw [if_neg hc] at hq ⊢
          rcases hm with hm | hm
          · exact absurd hm hc
          · exact .inl ⟨_, _, .inl rfl, rfl, _, _, _, _, _, _, rfl, hm, hq⟩)
    (fun ρ S' hI => by
      obtain ⟨rfl, ks, s3, s4, s5, s6, s7, rfl, hz, hq⟩ := hI
      have hl : (rangeD 0 n).length = n := by simp [rangeD]
      rw [Nat.zero_add, hl, List.drop_eq_nil_of_le (by simp [fulls])] at hq hz
      unfold runA at hq
      subst hq
      exact ⟨_, _, _, _, _, hz.1, rfl⟩)
  have e0 : sAsg (gSet 2) (eFrz (fLst aNil)) (startR 11 [rowsD many n cs, .int (many : Int)]) S = .ok (.nx [.pv (rowsD many n cs), .pv (.int (many : Int)), .pv (keptL (many + 1 + n) []), .no, .no, .no, .no, .no, .no, .no, .no]) S := by
    simp [startR, keptL, sizeLine_eq]
  rw [sSeq_s, e0]
  simp only [Res.bind_ok, sSeq_s (f := sFor _ _ _), sFor_s, r1]
  cases res with
  | kept ks =>
    obtain ⟨s3, s4, s5, s6, s7, hr, e⟩ := loop
    rw [e]
    simp only [Res.bind_ok]
    rw [end_s hw hr]
    rfl
  | conf r =>
    have e : _ = _ := loop
    rw [e]
    rfl
/-! ### the program's worth_of -/
noncomputable def bWo : SF := sIf (tfAnd (tOfE (eBin (oEq) (eCall fn_leading (aCons (eVar 2) (aNil))) (eVar 1))) (tOfE (eBin (oEq) (eFrz (fComp [3] (iRange1 (aCons (eApp bLen (aCons (eBin oIx (eVar 2) (eC (.int 0))) (aNil))) (aNil))) (gSet 3) (tOfE (eBin (oNe) (eBin oIx (eBin oIx (eBin oIx (eVar 2) (eC (.int 0))) (eVar 3)) (eC (.int 0))) (eC (.int 0)))) (eVar 3))) (eFrz (fLst (aCons (eVar 1) (aNil))))))) (sRet (eBin oIx (eVar 2) (eC (.int 1)))) (sNext)
theorem wo_split : b_worth_of = sSeq (sFor (iSeq (eVar 0)) (gSet 2) bWo) (sRet (eC .non)) := rfl
theorem wo_body {many n k : Nat} {p : Nat × Row} {x0 s : Sl} (hw : many + 1 + n ≤ 100) (hp : IsLead many p.2 p.1) : bWo [x0, .pv (.int (k : Int)), .pv (prow many n p.2), s] S = .ok (if okW many k p = true then .rt (enc (p.2 many)) else .nx [x0, .pv (.int (k : Int)), .pv (prow many n p.2), s]) S := by
  have e1 := leading_s (S := S) (many := many) (n := n) (r := p.2) (by omega)
  rw [leadOf_eq hp] at e1
  dsimp only at e1
  have r1 : ∀ s' : Sl, iRange1 (aCons (eApp bLen (aCons (eBin oIx (eVar 2) (eC (.int 0))) (aNil))) (aNil)) [x0, .pv (.int (k : Int)), .pv (prow many n p.2), s'] S = .ok (rangeD 0 many) S := fun s' => range_nat (by simp) (by omega)
  have c1 : compL (gSet 3) (tOfE (eBin (oNe) (eBin oIx (eBin oIx (eBin oIx (eVar 2) (eC (.int 0))) (eVar 3)) (eC (.int 0))) (eC (.int 0)))) (eVar 3) [x0, .pv (.int (k : Int)), .pv (prow many n p.2), .no] (rangeD 0 many) S [] = .ok ((leadsN many p.2).map fun (k : Nat) => D.int (k : Int)) S :=
    compL_rangeIf (fun (k : Nat) => decide (p.2 k ≠ 0)) (fun (k : Nat) => D.int (k : Int)) many (small_line (by omega)) fun i hi => by
      refine ⟨_, rfl, ?_, fun _ => by simp⟩
      have hk' := encL_at (f := p.2) hi
      by_cases h : p.2 i = 0
      · simp [hk', h]
      · have : ¬ (p.2 i).num = 0 := fun e => h (Rat.num_eq_zero.mp e)
        simp [hk', h, this]
  unfold bWo
  simp only [sIf_s, tfAnd_s, tOfE_s, eBin_s, eCall_s, aCons_s, aNil_s, eVar_s, List.getElem?_cons_zero, List.getElem?_cons_succ, Res.bind_ok, e1, noex_ok, oEq_i]
  by_cases hk : p.1 = k
  · have hk' : ((p.1 : Int) = (k : Int)) := by omega
    rw [if_pos (by simpa using hk')]
    simp only [eFrz_s, fComp_s, r1, Res.bind_ok, wipeR_cons, wipeR_nil, List.set_cons_zero, List.set_cons_succ, c1, fLst_s, aCons_s, aNil_s, eVar_s, List.getElem?_cons_zero, List.getElem?_cons_succ, List.length_cons, List.length_nil]
    rw [iteC_pos (small_line (by omega))]
    simp only [Res.bind_ok]
    rw [show D.lst ((leadsN many p.2).map fun (k : Nat) => D.int (k : Int)) = natsD (leadsN many p.2) from rfl, show D.lst [.int (k : Int)] = natsD [k] from rfl, oEq_nats]
    simp only [Res.bind_ok, okW]
    by_cases hc : leadsN many p.2 = [k]
    · simp [hc]
    · simp [hc]
  · have hk' : ¬ ((p.1 : Int) = (k : Int)) := by omega
    have hn : okW many k p = false := by
      unfold okW
      rw [decide_eq_false_iff_not]
      intro e
      exact hk (hp.uniq (leadOf_some (leadsN_one e)))
    rw [if_neg (by simpa using hk'), hn]
    simp
theorem wo_loop {many n k : Nat} {x0 s : Sl} (hw : many + 1 + n ≤ 100) : ∀ (ks : Kept) (s2 : Sl), (∀ p ∈ ks, IsLead many p.2 p.1) → ∃ s2', forL (gSet 2) bWo (ks.map fun p => prow many n p.2) [x0, .pv (.int (k : Int)), s2, s] S = .ok (match ks.find? (okW many k) with | some p => .rt (enc (p.2 many)) | none => .nx [x0, .pv (.int (k : Int)), s2', s]) S
  | [], s2, _ => ⟨s2, rfl⟩
  | p :: ks, s2, h => by
    obtain ⟨s2', e⟩ := wo_loop (x0 := x0) (s := s) (k := k) hw ks (.pv (prow many n p.2)) (fun q hq => h q (by simp [hq]))
    refine ⟨s2', ?_⟩
    rw [List.map_cons, forL]
    simp only [gSet_s, List.set_cons_zero, List.set_cons_succ]
    rw [wo_body hw (h p (by simp))]
    by_cases hc : okW many k p = true
    · rw [List.find?_cons_of_pos hc, if_pos hc]
      rfl
    · rw [List.find?_cons_of_neg hc, if_neg hc]
      exact e
theorem worth_of_s {many n k : Nat} {ks : Kept} (hw : many + 1 + n ≤ 100) (hr : Rref many ks) : fn_worth_of [ksD many n ks, .int (k : Int)] S = .ok (worthD many ks k) S := by
  rw [show fn_worth_of = fnOf _ _ b_worth_of from rfl, fnOf_2, wo_split]
  obtain ⟨s2', e⟩ := wo_loop (S := S) (k := k) (x0 := .pv (ksD many n ks)) (s := .no) hw ks .no (fun p hp => hr.lead hp)
  have e0 : startR 4 [ksD many n ks, .int (k : Int)] = [.pv (ksD many n ks), .pv (.int (k : Int)), .no, .no] := by simp [startR]
  have e2 : sFor (iSeq (eVar 0)) (gSet 2) bWo [.pv (ksD many n ks), .pv (.int (k : Int)), .no, .no] S = forL (gSet 2) bWo (ks.map fun p => prow many n p.2) [.pv (ksD many n ks), .pv (.int (k : Int)), .no, .no] S := by
    simp only [sFor_s, iSeq_s, eVar_s, List.getElem?_cons_zero, List.getElem?_cons_succ, Res.bind_ok, ksD]
  rw [e0, sSeq_s, e2, e]
  unfold worthD
  cases ks.find? (okW many k) with
  | some p => rfl
  | none => rfl
/-- .. and all of them -/
theorem worths_s {many n : Nat} {ks : Kept} {ρ : List Sl} {t : GFn} {ef : EF} (hw : many + 1 + n ≤ 100) (hr : Rref many ks) (h : ∀ k, k < many → ∃ ρ1, t (.int (k : Int)) ρ = some ρ1 ∧ ef ρ1 S = (fn_worth_of [ksD many n ks, .int (k : Int)] S).noex) :
    compL t tfYes ef ρ (rangeD 0 many) S [] = .ok ((List.range many).map fun k => worthD many ks k) S :=
  compL_range _ many (small_line (by omega)) fun k hk => by
    obtain ⟨ρ1, h1, h2⟩ := h k hk
    exact ⟨ρ1, h1, by rw [h2, worth_of_s hw hr]; rfl⟩
end K43
/-! the rows that a script draws -/
namespace K43
open PySem PySem.Spec L2 L2.PL
variable {S : Stm}
/-- a comprehension whose elements touch the stream -/
theorem compL_ex {t : GFn} {ef : EF} {ρ : List Sl} (I : Nat → Stm → Prop) (V : Nat → D → Prop) : ∀ (ds : List D) (i : Nat) (acc : List D) (S : Stm), acc.length + ds.length ≤ sizeLine → I i S →
    (∀ (j : Nat) (d : D) S, ds[j]? = some d → I (i + j) S → ∃ ρ1 v S', t d ρ = some ρ1 ∧ ef ρ1 S = .ok v S' ∧ V (i + j) v ∧ I (i + j + 1) S') →
    ∃ vs S', compL t tfYes ef ρ ds S acc = .ok (acc ++ vs) S' ∧ vs.length = ds.length ∧ (∀ (j : Nat) (v : D), vs[j]? = some v → V (i + j) v) ∧ I (i + ds.length) S'
  | [], i, acc, S, _, hI, _ => ⟨[], S, by simp [compL], rfl, fun j v h => by simp at h, hI⟩
  | d :: ds, i, acc, S, hz, hI, h => by
    obtain ⟨ρ1, v, S1, h1, h2, h3, h4⟩ := h 0 d S rfl hI
    have hz' : acc.length + (ds.length + 1) ≤ sizeLine := by simpa using hz
    obtain ⟨vs, S', e1, e2, e3, e4⟩ := compL_ex I V ds (i + 1) (acc ++ [v]) S1 (by simp; omega) h4 (fun j d' S hd hI' => by
      have := h (j + 1) d' S (by simpa using hd) (by rw [show i + (j + 1) = i + 1 + j by omega]; exact hI')
      rw [show i + (j + 1) = i + 1 + j by omega] at this
      exact this)
    refine ⟨v :: vs, S', ?_, by simp [e2], ?_, by rw [show i + (d :: ds).length = i + 1 + ds.length by simp; omega]; exact e4⟩
    · rw [compL, h1]
      simp only [tfYes_s, noex_ok, Res.bind_ok, if_true, h2]
      rw [iteC_pos (by omega), e1]
      simp
    · intro j w hw
      cases j with
      | zero => simp at hw; subst hw; exact h3
      | succ j => rw [show i + (j + 1) = i + 1 + j by omega]; exact e3 j w (by simpa using hw)
/-! ### Good, put together -/
theorem good_snoc {w many : Nat} : ∀ (rs done : List Row) (r : Row), Good w many done rs → Half w (2 ^ 16) r → (Base w many r ∨ Comb many (done ++ rs) r) → Good w many done (rs ++ [r])
  | [], done, r, _, h1, h2 => ⟨h1, by simpa using h2, trivial⟩
  | x :: rs, done, r, h, h1, h2 => ⟨h.1, h.2.1, good_snoc rs (done ++ [x]) r h.2.2 h1 (by simpa using h2)⟩
theorem full_at {many k i : Nat} {r : Row} (h : i < many + 1) : full many k r i = r i := by
  unfold full; rw [if_pos (by omega)]
theorem half_full {many n k B : Nat} {r : Row} (h : Half (many + 1) B r) (hB : 2 ≤ B) : Half (many + 1 + n) B (full many k r) := fun i hi => by
  by_cases hi' : i < many + 1
  · rw [full_at hi']; exact h i hi'
  · unfold full
    rw [if_neg (show ¬ i ≤ many by omega)]
    by_cases e : i = many + 1 + k
    · rw [if_pos e]; exact ⟨2, by (have h2 : ((2 : Int) : Rat) = 2 := rfl); (rw [h2]; grind), by omega⟩
    · rw [if_neg e]; exact ⟨0, by (have h2 : ((0 : Int) : Rat) = 0 := rfl); (rw [h2]; grind), by omega⟩
theorem good_full {many n : Nat} {cs : Nat → Row} {L : List Row} (hL : L.length = n) (hc : ∀ j (h : j < L.length), cs j = L[j]) : ∀ (m j : Nat) (done doneF : List Row), j + m = n → (∀ a ∈ done, ∃ a' ∈ doneF, ∀ k, k < many → a k = a' k) →
    Good (many + 1) many done (L.drop j) → Good (many + 1 + n) many doneF ((fulls many n cs).drop j)
  | 0, j, done, doneF, hj, _, _ => by
    rw [List.drop_eq_nil_of_le (by simp [fulls]; omega)]
    trivial
  | m + 1, j, done, doneF, hj, hd, h => by
    have hlt : j < L.length := by omega
    rw [List.drop_eq_getElem_cons hlt] at h
    rw [fulls_drop (by omega), hc j hlt]
    obtain ⟨h1, h2, h3⟩ := h
    refine ⟨half_full h1 (by decide), ?_, ?_⟩
    · rcases h2 with h2 | ⟨a, ha, b, hb, f, hf⟩
      · exact .inl ⟨half_full h2.h6 (by decide), fun i hi => by rw [full_at (by omega)]; exact h2.h4 i hi⟩
      · obtain ⟨a', ha', ea⟩ := hd a ha
        obtain ⟨b', hb', eb⟩ := hd b hb
        refine .inr ⟨a', ha', b', hb', f, fun k hk => ?_⟩
        rw [full_at (by omega), hf k hk, ea k hk, eb k hk]
    · refine good_full hL hc m (j + 1) (done ++ [L[j]]) _ (by omega) ?_ h3
      intro a ha
      rcases List.mem_append.mp ha with ha | ha
      · obtain ⟨a', h1, h2⟩ := hd a ha
        exact ⟨a', by simp [h1], h2⟩
      · have e : a = L[j] := by simpa using ha
        subst e
        exact ⟨full many j L[j], by simp, fun k hk => by rw [full_at (by omega)]⟩
theorem run_start {many n : Nat} {cs : Nat → Row} {L : List Row} (hm : many ≤ 5) (hL : L.length = n) (hc : ∀ j (h : j < L.length), cs j = L[j]) (h : Good (many + 1) many [] L) : RunSz (many + 1 + n) many (fulls many n cs) [] := by
  have g := good_full hL hc n 0 [] [] (by omega) (by simp) (by simpa using h)
  refine run_sz hm (by omega) _ [] [] ⟨List.Pairwise.nil, by simp⟩ ⟨1, ?_⟩ (by simp) (by simpa using g)
  exact ⟨by decide, by decide, by simp⟩
/-! ### draws -/
def Q2 (C : Nat) (q : Rat) : Prop := ∃ n : Int, q = (n : Rat) / 2 ∧ n.natAbs ≤ C
theorem Q2.den {C : Nat} {q : Rat} (h : Q2 C q) : q.den ≤ 2 := by
  obtain ⟨n, e, _⟩ := h
  have := (divInt_size (n := n) (d := 2) (by decide)).2
  rw [e]
  simpa using this
theorem Q2.mono {C C' : Nat} {q : Rat} (h : Q2 C q) (l : C ≤ C') : Q2 C' q := by
  obtain ⟨n, e, h⟩ := h
  exact ⟨n, e, by omega⟩
theorem Q2.int {z : Int} {C : Nat} (h : 2 * z.natAbs ≤ C) : Q2 C (z : Rat) := ⟨2 * z, by (rw [Rat.intCast_mul]; (have h2 : ((2 : Int) : Rat) = 2 := rfl); rw [h2]; grind), by omega⟩
theorem divInt_one (z : Int) : Rat.divInt z 1 = (z : Rat) := by
  rw [Rat.divInt_eq_div]
  have h2 : ((1 : Int) : Rat) = 1 := rfl
  rw [h2]; grind
theorem divInt_two (z : Int) : Rat.divInt z 2 = (z : Rat) / 2 := by
  rw [Rat.divInt_eq_div]
  rfl
theorem ePick_s {ρ : List Sl} {f : EF} {k : Nat} {m : Int} (h : ρ[0]? = some (.pv .stm)) (hf : f ρ S = .ok (.int m) S) (g : Gd k S) (hk : k ≤ 1000000000) (hm : 0 < m) (hm2 : m < 18446744073709551616) :
    ∃ (d : Nat) (S' : Stm), eCall Lib.fn__law_pick (aCons (eVar 0) (aCons f aNil)) ρ S = .ok (.int d) S' ∧ (d : Int) < m ∧ Gd (k + 1) S' := by
  obtain ⟨d, S', e, h1, h2⟩ := pick_s g hk hm hm2
  refine ⟨d, S', ?_, h1, h2⟩
  simp only [eCall_s, aCons_s, aNil_s, eVar_s, h, hf, Res.bind_ok, e, noex_ok]
noncomputable abbrev ePk (m : Int) : EF := eCall Lib.fn__law_pick (aCons (eVar 0) (aCons (eC (.int m)) (aNil)))
theorem pk_s {ρ : List Sl} {k : Nat} (m : Int) (h : ρ[0]? = some (.pv .stm)) (g : Gd k S) (hk : k ≤ 1000000000) (hm : 0 < m) (hm2 : m < 1000) :
    ∃ (d : Nat) (S' : Stm), ePk m ρ S = .ok (.int d) S' ∧ (d : Int) < m ∧ Gd (k + 1) S' := ePick_s h rfl g hk hm (by omega)
noncomputable abbrev eCoef : EF := eCall Lib.fn__law_f (aCons (eBin oSub (ePk 5) (eC (.int 2))) (aCons (eBin oIx (eTup (aCons (eC (.int 1)) (aCons (eC (.int 1)) (aCons (eC (.int 2)) (aNil))))) (ePk 3)) (aNil)))
noncomputable abbrev eBnd : EF := eCall Lib.fn__law_f (aCons (eBin oSub (ePk 7) (eC (.int 3))) (aCons (eBin oAdd (eC (.int 1)) (ePk 2)) (aNil)))
noncomputable abbrev eFac : EF := eCall Lib.fn__law_f (aCons (eBin oSub (ePk 5) (eC (.int 2))) (aCons (eC (.int 1)) (aNil)))
theorem lt277 {x : Nat} (h : x ≤ 2 ^ 10) : x < 2 ^ 277 := Nat.lt_of_le_of_lt h (Nat.pow_lt_pow_right (by decide) (by decide))
theorem lawf1 (z : Int) : Lib.fn__law_f [.int z, .int 1] S = .ok (enc (z : Rat)) S := by
  rw [law_f_s (by decide) (lt277 (by decide)), divInt_one]
theorem lawf2 (z : Int) : Lib.fn__law_f [.int z, .int 2] S = .ok (enc ((z : Rat) / 2)) S := by
  rw [law_f_s (by decide) (lt277 (by decide)), divInt_two]
theorem coef_s {ρ : List Sl} {k : Nat} (h : ρ[0]? = some (.pv .stm)) (g : Gd k S) (hk : k ≤ 100000000) : ∃ q S', eCoef ρ S = .ok (enc q) S' ∧ Q2 4 q ∧ Gd (k + 2) S' := by
  obtain ⟨d, S1, e1, h1, g1⟩ := pk_s 5 h g (by omega) (by decide) (by decide)
  obtain ⟨d', S2, e2, h2, g2⟩ := pk_s 3 h g1 (by omega) (by decide) (by decide)
  have hd : ∀ x y z : D, ([x, y, z] : List D).length ≤ sizeLine := fun x y z => small_line (by simp)
  have ea : ∀ f : EF, eCoef ρ S = (Lib.fn__law_f [.int ((d : Int) - 2), ([D.int 1, .int 1, .int 2][d']?).getD .non] S2).noex := fun _ => by
    have h3 : d' < 3 := by omega
    unfold eCoef
    simp only [eCall_s (fn := Lib.fn__law_f), aCons_s, aNil_s, eBin_s, e1, Res.bind_ok, eC_s, oSub_i, eTup_s]
    rw [iteC_pos (hd _ _ _)]
    simp only [Res.bind_ok, e2, oIx_t, atI_n]
    rcases d' with _ | _ | _ | d'
    · rfl
    · rfl
    · rfl
    · omega
  have h3 : d' < 3 := by omega
  rcases d' with _ | _ | _ | d'
  · exact ⟨_, S2, by rw [ea (eVar 0)]; show (Lib.fn__law_f [.int _, .int 1] S2).noex = _; rw [lawf1]; rfl, Q2.int (by omega), g2⟩
  · exact ⟨_, S2, by rw [ea (eVar 0)]; show (Lib.fn__law_f [.int _, .int 1] S2).noex = _; rw [lawf1]; rfl, Q2.int (by omega), g2⟩
  · exact ⟨_, S2, by rw [ea (eVar 0)]; show (Lib.fn__law_f [.int _, .int 2] S2).noex = _; rw [lawf2]; rfl, ⟨_, rfl, by omega⟩, g2⟩
  · omega
theorem bnd_s {ρ : List Sl} {k : Nat} (h : ρ[0]? = some (.pv .stm)) (g : Gd k S) (hk : k ≤ 100000000) : ∃ q S', eBnd ρ S = .ok (enc q) S' ∧ Q2 6 q ∧ Gd (k + 2) S' := by
  obtain ⟨d, S1, e1, h1, g1⟩ := pk_s 7 h g (by omega) (by decide) (by decide)
  obtain ⟨d', S2, e2, h2, g2⟩ := pk_s 2 h g1 (by omega) (by decide) (by decide)
  have ea : eBnd ρ S = (Lib.fn__law_f [.int ((d : Int) - 3), .int (1 + (d' : Int))] S2).noex := by
    unfold eBnd
    simp only [eCall_s (fn := Lib.fn__law_f), aCons_s, aNil_s, eBin_s, e1, Res.bind_ok, eC_s, oSub_i, e2, oAdd_i]
  have h3 : d' < 2 := by omega
  rcases d' with _ | _ | d'
  · exact ⟨_, S2, by rw [ea]; show (Lib.fn__law_f [.int _, .int 1] S2).noex = _; rw [lawf1]; rfl, Q2.int (by omega), g2⟩
  · exact ⟨_, S2, by rw [ea]; show (Lib.fn__law_f [.int _, .int 2] S2).noex = _; rw [lawf2]; rfl, ⟨_, rfl, by omega⟩, g2⟩
  · omega
theorem fac_s {ρ : List Sl} {k : Nat} (h : ρ[0]? = some (.pv .stm)) (g : Gd k S) (hk : k ≤ 100000000) : ∃ (z : Int) (S' : Stm), eFac ρ S = .ok (enc (z : Rat)) S' ∧ z.natAbs ≤ 2 ∧ Gd (k + 1) S' := by
  obtain ⟨d, S1, e1, h1, g1⟩ := pk_s 5 h g (by omega) (by decide) (by decide)
  refine ⟨(d : Int) - 2, S1, ?_, by omega, g1⟩
  unfold eFac
  simp only [eCall_s (fn := Lib.fn__law_f), aCons_s, aNil_s, eBin_s, e1, Res.bind_ok, eC_s, oSub_i, lawf1]
  rfl
theorem row_of {many : Nat} {vs : List D} (hl : vs.length = many) (h : ∀ (j : Nat) (v : D), vs[j]? = some v → ∃ q, v = enc q ∧ Q2 4 q) (b : Rat) : ∃ r : Row, vs = encL many r ∧ r many = b ∧ Half many 4 r := by
  have h1 : ∀ k, ∃ q : Rat, k < many → vs[k]? = some (enc q) ∧ Q2 4 q := fun k => by
    by_cases hk : k < many
    · obtain ⟨q, e, hq⟩ := h k vs[k] (List.getElem?_eq_getElem (by omega))
      exact ⟨q, fun _ => ⟨by rw [List.getElem?_eq_getElem (by omega), e], hq⟩⟩
    · exact ⟨0, fun h => absurd h hk⟩
  obtain ⟨f, hf⟩ := Classical.axiomOfChoice h1
  refine ⟨fun k => if k < many then f k else b, ?_, ?_, ?_⟩
  · apply List.ext_getElem?
    intro k
    by_cases hk : k < many
    · rw [(hf k hk).1, encL_get hk, if_pos hk]
    · rw [List.getElem?_eq_none (by omega), List.getElem?_eq_none (by simpa using hk)]
  · simp
  · intro k hk
    simp only [hk, if_true]
    exact (hf k hk).2
theorem rowe_s {ρ : List Sl} {k many : Nat} (h : ∀ d, (ρ.set 10 d)[0]? = some (.pv .stm)) (hm : many ≤ 5) (h1 : ρ[1]? = some (.pv (.int (many : Int)))) (g : Gd k S) (hk : k ≤ 10000000) :
    ∃ vs S', eFrz (fComp [10] (iRange1 (aCons (eVar 1) (aNil))) (gSet 10) (tfYes) eCoef) ρ S = .ok (.lst vs) S' ∧ vs.length = many ∧ (∀ (j : Nat) (v : D), vs[j]? = some v → ∃ q, v = enc q ∧ Q2 4 q) ∧ Gd (k + 10) S' := by
  have r1 : iRange1 (aCons (eVar 1) (aNil)) ρ S = .ok (rangeD 0 many) S := range_nat (by simp [h1]) (by omega)
  obtain ⟨vs, S', e1, e2, e3, e4⟩ := compL_ex (t := gSet 10) (ef := eCoef) (ρ := ρ.set 10 .no) (fun j S => Gd (k + 2 * j) S) (fun _ v => ∃ q, v = enc q ∧ Q2 4 q) (rangeD 0 many) 0 [] S (by simp [rangeD]; exact small_line (by omega)) (by simpa using g) (fun j d S hd hg => by
    have hj : j < many := by have := (List.getElem?_eq_some_iff.mp hd).1; simpa [rangeD] using this
    rw [Nat.zero_add] at hg ⊢
    have hs : ((ρ.set 10 .no).set 10 (.pv d))[0]? = some (.pv .stm) := by rw [List.set_set]; exact h _
    obtain ⟨q, S', a, b, c⟩ := coef_s hs hg (by omega)
    exact ⟨_, _, S', rfl, a, ⟨q, rfl, b⟩, by rw [show k + 2 * (j + 1) = k + 2 * j + 2 by omega]; exact c⟩)
  refine ⟨vs, S', ?_, by simpa [rangeD] using e2, fun j v hv => e3 j v hv, e4.mono (by simp [rangeD]; omega)⟩
  simp only [eFrz_s, fComp_s, r1, Res.bind_ok, wipeR_cons, wipeR_nil, e1, List.nil_append]
end K43
/-! the rows that a script draws: the loop -/
namespace K43
open PySem PySem.Spec L2 L2.PL
variable {S : Stm}
noncomputable abbrev eRowC : EF := eFrz (fComp [10] (iRange1 (aCons (eVar 1) (aNil))) (gSet 10) (tfYes) eCoef)
noncomputable abbrev eIxP : EF := eIxOw 2 (eCall Lib.fn__law_pick (aCons (eVar 0) (aCons (eLenOw 2) (aNil))))
noncomputable def bComb : SF := sSeq (sPar 7 8 (aCons eIxP (aCons eIxP (aNil)))) (sSeq (sAsg (gSet 9) eFac) (sSeq (sAsg (gSet 5) (eCall fn__law_less_row (aCons (eBin oIx (eVar 7) (eC (.int 0))) (aCons (eVar 9) (aCons (eBin oIx (eVar 8) (eC (.int 0))) (aNil)))))) (sSeq (sAsg (gSet 6) (eCall Lib.fn__law_less_by (aCons (eBin oIx (eVar 7) (eC (.int 1))) (aCons (eCall Lib.fn__law_times (aCons (eVar 9) (aCons (eBin oIx (eVar 8) (eC (.int 1))) (aNil)))) (aNil))))) (sIf (tOfE (eBin (oEq) (ePk 6) (eC (.int 0)))) (sAsg (gSet 6) (eCall Lib.fn__law_sum (aCons (eVar 6) (aCons (eTup (aCons (eC (.int 1)) (aCons (eC (.int 1)) (aNil)))) (aNil))))) (sNext)))))
noncomputable abbrev tComb : TF := tfAnd (tOfE (eBin (oCmp (fun i j => decide (j < i))) (eVar 4) (eC (.int 1)))) (tOfE (eBin (oCmp (fun i j => decide (j < i))) (eLenOw 2) (eC (.int 1))))
noncomputable def bRow : SF := sSeq (sAsg (gSet 4) (ePk 4)) (sSeq (sAsg (gSet 5) eRowC) (sSeq (sAsg (gSet 6) eBnd) (sSeq (sIf tComb bComb (sNext)) (sApp 2 (eTup (aCons (eVar 5) (aCons (eVar 6) (aNil))))))))
theorem rows_split : b__law_rows = sSeq (sOwn 2 (fLst (aNil))) (sSeq (sFor (iRange1 (aCons (ePk 9) (aNil))) (gSet 3) bRow) (sFrz 2 (sRet (eVar 2)))) := rfl
theorem Half.q {w C k : Nat} {r : Row} (h : Half w C r) (hk : k < w) : Q2 C (r k) := h k hk
theorem half_step {w M : Nat} {a b : Row} {z : Int} (ha : Half w M a) (hb : Half w M b) (hz : z.natAbs ≤ 2) (hM : M ≤ 2 ^ 16) : StepSz w a (z : Rat) b := by
  refine ⟨ha.sz hM, ?_, hb.sz hM, fun k hk => ?_⟩
  · refine ⟨?_, ?_⟩
    · show ((z : Rat).num).natAbs < _
      rw [Rat.num_intCast]
      exact pow_1000 (by have : (2 : Nat) ≤ 2 ^ 200 := Nat.le_trans (by decide : 2 ≤ 2 ^ 1) (Nat.pow_le_pow_right (by decide) (by decide)); omega)
    · rw [Rat.den_intCast]
      exact Nat.one_lt_two_pow (by decide)
  · have d1 := (ha.q hk).den
    have d2 := (hb.q hk).den
    rw [Rat.den_intCast, Nat.one_mul]
    exact lt277 (Nat.le_trans (Nat.mul_le_mul d1 d2) (by decide))
theorem half_less {w M : Nat} {a b : Row} {z : Int} (ha : Half w M a) (hb : Half w M b) (hz : z.natAbs ≤ 2) : Half w (3 * M) (less a (z : Rat) b) := fun k hk => by
  obtain ⟨n, e1, h1⟩ := ha k hk
  obtain ⟨m, e2, h2⟩ := hb k hk
  refine ⟨n - z * m, ?_, ?_⟩
  · unfold less
    rw [e1, e2, Rat.intCast_sub, Rat.intCast_mul]
    grind
  · have : (z * m).natAbs ≤ 2 * M := by rw [Int.natAbs_mul]; exact Nat.mul_le_mul hz h2
    omega
theorem Half.mono {w C C' : Nat} {r : Row} (h : Half w C r) (l : C ≤ C') : Half w C' r := fun k hk => (h.q hk).mono l
theorem Half.sub {w w' C : Nat} {r : Row} (h : Half w C r) (l : w' ≤ w) : Half w' C r := fun k hk => h k (by omega)
def bump (many : Nat) (r : Row) : Row := fun k => if k = many then r k + 1 else r k
theorem half_bump {many C : Nat} {r : Row} (h : Half (many + 1) C r) : Half (many + 1) (C + 2) (bump many r) := fun k hk => by
  obtain ⟨n, e, hn⟩ := h k hk
  unfold bump
  by_cases hc : k = many
  · rw [if_pos hc, e]
    refine ⟨n + 2, ?_, by omega⟩
    rw [Rat.intCast_add]
    have h2 : ((2 : Int) : Rat) = 2 := rfl
    rw [h2]; grind
  · rw [if_neg hc, e]
    exact ⟨n, rfl, by omega⟩
theorem ixp_s {many k : Nat} {L : List Row} {ρ : List Sl} (h0 : ρ[0]? = some (.pv .stm)) (h2 : ρ[2]? = some (.ow (L.map (rowD many)))) (hL : 0 < L.length) (hL2 : L.length ≤ 100) (g : Gd k S) (hk : k ≤ 100000000) :
    ∃ a S', a ∈ L ∧ eIxP ρ S = .ok (rowD many a) S' ∧ Gd (k + 1) S' := by
  have hf : eLenOw 2 ρ S = .ok (.int (L.length : Int)) S := by simp [h2]
  obtain ⟨d, S', e, h1, g1⟩ := ePick_s h0 hf g (by omega) (by omega) (by omega)
  have hd : d < L.length := by omega
  refine ⟨L[d], S', List.getElem_mem hd, ?_, g1⟩
  unfold eIxP
  rw [eIxOw_s, h2]
  simp only [e, Res.bind_ok, atI_n]
  rw [List.getElem?_map, List.getElem?_eq_getElem hd]
  rfl
theorem comb_s {many k M : Nat} {L : List Row} {s3 s4 s5 s6 s7 s8 s9 s10 : Sl} (hm : many ≤ 5) (hL : 0 < L.length) (hL2 : L.length ≤ 100) (hM : M ≤ 2 ^ 16) (hh : ∀ r ∈ L, Half (many + 1) M r) (g : Gd k S) (hk : k ≤ 10000000) :
    ∃ r S' s7' s8' s9', bComb [.pv .stm, .pv (.int (many : Int)), .ow (L.map (rowD many)), s3, s4, s5, s6, s7, s8, s9, s10] S = .ok (.nx [.pv .stm, .pv (.int (many : Int)), .ow (L.map (rowD many)), s3, s4, .pv (.lst (encL many r)), .pv (enc (r many)), s7', s8', s9', s10]) S' ∧ Half (many + 1) (3 * M + 2) r ∧ Comb many L r ∧ Gd (k + 5) S' := by
  obtain ⟨a, S1, ha, e1, g1⟩ := ixp_s (ρ := [.pv .stm, .pv (.int (many : Int)), .ow (L.map (rowD many)), s3, s4, s5, s6, s7, s8, s9, s10]) rfl rfl hL hL2 g (by omega)
  obtain ⟨b, S2, hb, e2, g2⟩ := ixp_s (ρ := [.pv .stm, .pv (.int (many : Int)), .ow (L.map (rowD many)), s3, s4, s5, s6, s7, s8, s9, s10]) rfl rfl hL hL2 g1 (by omega)
  obtain ⟨z, S3, e3, hz, g3⟩ := fac_s (ρ := [.pv .stm, .pv (.int (many : Int)), .ow (L.map (rowD many)), s3, s4, s5, s6, .pv (rowD many a), .pv (rowD many b), s9, s10]) rfl g2 (by omega)
  have st := half_step (hh a ha) (hh b hb) hz hM
  have st' := half_step ((hh a ha).sub (Nat.le_succ many)) ((hh b hb).sub (Nat.le_succ many)) hz hM
  have e4 := less_row_s (S := S3) st' (by omega)
  obtain ⟨e5, e6⟩ := lawone_s (S := S3) st (Nat.lt_succ_self many)
  have hl := half_less (hh a ha) (hh b hb) hz
  have hc : Comb many L (less a (z : Rat) b) := ⟨a, ha, b, hb, z, fun k _ => rfl⟩
  obtain ⟨d, S4, e7, _, g4⟩ := pk_s (ρ := [.pv .stm, .pv (.int (many : Int)), .ow (L.map (rowD many)), s3, s4, .pv (.lst (encL many (less a (z : Rat) b))), .pv (enc (less a (z : Rat) b many)), .pv (rowD many a), .pv (rowD many b), .pv (enc (z : Rat)), s10]) 6 rfl g3 (by omega) (by decide) (by decide)
  have pre : ∀ o, (sIf (tOfE (eBin (oEq) (ePk 6) (eC (.int 0)))) (sAsg (gSet 6) (eCall Lib.fn__law_sum (aCons (eVar 6) (aCons (eTup (aCons (eC (.int 1)) (aCons (eC (.int 1)) (aNil)))) (aNil))))) (sNext)) [.pv .stm, .pv (.int (many : Int)), .ow (L.map (rowD many)), s3, s4, .pv (.lst (encL many (less a (z : Rat) b))), .pv (enc (less a (z : Rat) b many)), .pv (rowD many a), .pv (rowD many b), .pv (enc (z : Rat)), s10] S3 = o →
      bComb [.pv .stm, .pv (.int (many : Int)), .ow (L.map (rowD many)), s3, s4, s5, s6, s7, s8, s9, s10] S = o := fun o ho => by
    unfold bComb
    rw [sSeq_s, sPar_s]
    simp only [aCons_s (f := eIxP), aNil_s, e1, e2, Res.bind_ok, List.set_cons_zero, List.set_cons_succ]
    rw [sSeq_s, sAsg_s, e3]
    simp only [Res.bind_ok, gSet_s, List.set_cons_zero, List.set_cons_succ]
    rw [sSeq_s, sAsg_s]
    simp only [eCall_s (fn := fn__law_less_row), aCons_s, aNil_s, eBin_s oIx, eVar_s, eC_s, List.getElem?_cons_zero, List.getElem?_cons_succ, Res.bind_ok, rowD_0, e4, noex_ok, gSet_s, List.set_cons_zero, List.set_cons_succ]
    rw [sSeq_s, sAsg_s]
    simp only [eCall_s (fn := Lib.fn__law_less_by), eCall_s (fn := Lib.fn__law_times), aCons_s, aNil_s, eBin_s oIx, eVar_s, eC_s, List.getElem?_cons_zero, List.getElem?_cons_succ, Res.bind_ok, rowD_1, e5, e6, noex_ok, gSet_s, List.set_cons_zero, List.set_cons_succ]
    exact ho
  by_cases h0 : d = 0
  · have hs : Sz 4000 (less a (z : Rat) b many) := by
      obtain ⟨n, e, hn⟩ := hl many (Nat.lt_succ_self many)
      have e16 : (2 : Nat) ^ 16 = 65536 := by decide
      have := sz_of (n := n) (d := 2) (B := 4000) (by decide) (Nat.lt_of_le_of_lt (show n.natAbs ≤ 2 ^ 18 by rw [show (2 : Nat) ^ 18 = 262144 by decide]; omega) (Nat.pow_lt_pow_right (by decide) (by decide))) (Nat.lt_of_le_of_lt (show _ ≤ 2 ^ 1 by decide) (Nat.pow_lt_pow_right (by decide) (by decide)))
      rw [e]
      simpa using this
    have h1 : Sz 4000 (1 : Rat) := ⟨Nat.one_lt_two_pow (by decide), Nat.one_lt_two_pow (by decide)⟩
    have e8 := law_sum_s (S := S4) hs h1 (by
      have := (hl.q (Nat.lt_succ_self many)).den
      show _ * 1 < _
      exact lt277 (Nat.le_trans (Nat.mul_le_mul this (Nat.le_refl 1)) (by decide)))
    refine ⟨bump many (less a (z : Rat) b), S4, .pv (rowD many a), .pv (rowD many b), .pv (enc (z : Rat)), pre _ ?_, half_bump hl, ⟨a, ha, b, hb, z, fun k hk => by unfold bump; rw [if_neg (by omega)]; rfl⟩, g4.mono (by omega)⟩
    have q1 : encL many (bump many (less a (z : Rat) b)) = encL many (less a (z : Rat) b) := encL_congr fun k hk => by unfold bump; rw [if_neg (by omega)]
    have q2 : bump many (less a (z : Rat) b) many = less a (z : Rat) b many + 1 := by unfold bump; rw [if_pos rfl]
    rw [q1, q2, sIf_s, tOfE_s, eBin_s, e7]
    subst h0
    simp only [Res.bind_ok, eC_s]
    rw [oEq_i]
    have t0 : decide (((0 : Nat) : Int) = 0) = true := by decide
    simp only [Res.bind_ok, t0, if_true]
    rw [sAsg_s]
    simp only [eCall_s (fn := Lib.fn__law_sum), aCons_s, aNil_s, eTup_s, eC_s, eVar_s, Res.bind_ok, List.length_cons, List.length_nil, List.getElem?_cons_zero, List.getElem?_cons_succ]
    rw [iteC_pos (small_line (by omega))]
    simp only [Res.bind_ok]
    rw [← enc_one, e8]
    rfl
  · refine ⟨less a (z : Rat) b, S4, .pv (rowD many a), .pv (rowD many b), .pv (enc (z : Rat)), pre _ ?_, hl.mono (by omega), hc, g4.mono (by omega)⟩
    rw [sIf_s, tOfE_s, eBin_s, e7]
    simp only [Res.bind_ok, eC_s]
    rw [oEq_i]
    have t0 : decide ((d : Int) = 0) = false := by simpa using h0
    simp only [Res.bind_ok, t0, Bool.false_eq_true, if_false, sNext_s]
def Mh : Nat → Nat
  | 0 => 6
  | j + 1 => 3 * Mh j + 2
theorem Mh_mono {i j : Nat} (h : i ≤ j) : Mh i ≤ Mh j := by
  induction j with
  | zero => rw [Nat.le_zero.mp h]; exact Nat.le_refl _
  | succ j ih =>
    by_cases e : i = j + 1
    · rw [e]; exact Nat.le_refl _
    · have := ih (by omega)
      show _ ≤ 3 * Mh j + 2
      omega
theorem Mh_le {j : Nat} (h : j ≤ 8) : Mh j ≤ 2 ^ 16 := Nat.le_trans (Mh_mono h) (by decide)
theorem body_s {many k : Nat} {L : List Row} {s3 s4 s5 s6 s7 s8 s9 s10 : Sl} (hm : many ≤ 5) (hL : L.length < 8) (hg : Good (many + 1) many [] L) (hh : ∀ r ∈ L, Half (many + 1) (Mh L.length) r) (g : Gd k S) (hk : k ≤ 1000000) :
    ∃ r S' s4' s5' s6' s7' s8' s9', bRow [.pv .stm, .pv (.int (many : Int)), .ow (L.map (rowD many)), s3, s4, s5, s6, s7, s8, s9, s10] S = .ok (.nx [.pv .stm, .pv (.int (many : Int)), .ow ((L ++ [r]).map (rowD many)), s3, s4', s5', s6', s7', s8', s9', s10]) S' ∧ Good (many + 1) many [] (L ++ [r]) ∧ (∀ x ∈ L ++ [r], Half (many + 1) (Mh (L ++ [r]).length) x) ∧ Gd (k + 20) S' := by
  obtain ⟨d, S1, e1, _, g1⟩ := pk_s (ρ := [.pv .stm, .pv (.int (many : Int)), .ow (L.map (rowD many)), s3, s4, s5, s6, s7, s8, s9, s10]) 4 rfl g (by omega) (by decide) (by decide)
  obtain ⟨vs, S2, e2, hv1, hv2, g2⟩ := rowe_s (ρ := [.pv .stm, .pv (.int (many : Int)), .ow (L.map (rowD many)), s3, .pv (.int (d : Int)), s5, s6, s7, s8, s9, s10]) (fun d => rfl) hm rfl g1 (by omega)
  obtain ⟨b, S3, e3, hb, g3⟩ := bnd_s (ρ := [.pv .stm, .pv (.int (many : Int)), .ow (L.map (rowD many)), s3, .pv (.int (d : Int)), .pv (.lst vs), s6, s7, s8, s9, s10]) rfl g2 (by omega)
  obtain ⟨r0, hr1, hr2, hr3⟩ := row_of hv1 hv2 b
  subst hr1 hr2
  have hlen : (L ++ [r0]).length = L.length + 1 := by simp
  have up : ∀ r : Row, Half (many + 1) (Mh (L.length + 1)) r → ∀ x ∈ L ++ [r], Half (many + 1) (Mh (L ++ [r]).length) x := fun r hr x hx => by
    rw [show (L ++ [r]).length = L.length + 1 by simp]
    rcases List.mem_append.mp hx with hx | hx
    · exact (hh x hx).mono (Mh_mono (Nat.le_succ _))
    · rw [show x = r by simpa using hx]; exact hr
  have base : Base (many + 1) many r0 := ⟨fun k hk => by
    by_cases h : k < many
    · exact (hr3.q h).mono (by omega)
    · rw [show k = many by omega]; exact hb, hr3⟩
  have pre : ∀ o, (sSeq (sIf tComb bComb (sNext)) (sApp 2 (eTup (aCons (eVar 5) (aCons (eVar 6) (aNil)))))) [.pv .stm, .pv (.int (many : Int)), .ow (L.map (rowD many)), s3, .pv (.int (d : Int)), .pv (.lst (encL many r0)), .pv (enc (r0 many)), s7, s8, s9, s10] S3 = o → bRow [.pv .stm, .pv (.int (many : Int)), .ow (L.map (rowD many)), s3, s4, s5, s6, s7, s8, s9, s10] S = o := fun o ho => by
    unfold bRow
    rw [sSeq_s, sAsg_s, e1]
    simp only [Res.bind_ok, gSet_s, List.set_cons_zero, List.set_cons_succ]
    rw [sSeq_s, sAsg_s, show eRowC _ S1 = _ from e2]
    simp only [Res.bind_ok, gSet_s, List.set_cons_zero, List.set_cons_succ]
    rw [sSeq_s, sAsg_s, e3]
    simp only [Res.bind_ok, gSet_s, List.set_cons_zero, List.set_cons_succ]
    exact ho
  have app : ∀ (r : Row) (s7 s8 s9 : Sl) (S : Stm), (sApp 2 (eTup (aCons (eVar 5) (aCons (eVar 6) (aNil))))) [.pv .stm, .pv (.int (many : Int)), .ow (L.map (rowD many)), s3, .pv (.int (d : Int)), .pv (.lst (encL many r)), .pv (enc (r many)), s7, s8, s9, s10] S = .ok (.nx [.pv .stm, .pv (.int (many : Int)), .ow ((L ++ [r]).map (rowD many)), s3, .pv (.int (d : Int)), .pv (.lst (encL many r)), .pv (enc (r many)), s7, s8, s9, s10]) S := fun r s7 s8 s9 S => by
    rw [sApp_s]
    simp only [List.getElem?_cons_zero, List.getElem?_cons_succ, eTup_s, aCons_s, aNil_s, eVar_s, Res.bind_ok, List.length_cons, List.length_nil]
    rw [iteC_pos (small_line (by omega))]
    simp only [Res.bind_ok, List.length_map]
    rw [iteC_pos (by rw [sizeLine_eq]; omega)]
    simp only [List.set_cons_zero, List.set_cons_succ, List.map_append]
    rfl
  have ht : tComb [.pv .stm, .pv (.int (many : Int)), .ow (L.map (rowD many)), s3, .pv (.int (d : Int)), .pv (.lst (encL many r0)), .pv (enc (r0 many)), s7, s8, s9, s10] S3 = .ok (decide (1 < d ∧ 1 < L.length)) S3 := by
    simp only [tfAnd_s, tOfE_s, eBin_s, eVar_s, eC_s, eLenOw_s, List.getElem?_cons_zero, List.getElem?_cons_succ, Res.bind_ok, oCmp_i, List.length_map]
    by_cases h1 : 1 < d
    · have h1' : (1 : Int) < (d : Int) := by omega
      rw [if_pos (by simpa using h1')]
      congr 1
      by_cases h2 : 1 < L.length
      · have h2' : (1 : Int) < (L.length : Int) := by omega
        rw [decide_eq_true h2', decide_eq_true ⟨h1, h2⟩]
      · have h2' : ¬ (1 : Int) < (L.length : Int) := by omega
        rw [decide_eq_false h2', decide_eq_false (fun h => h2 h.2)]
    · have h1' : ¬ (1 : Int) < (d : Int) := by omega
      rw [if_neg (by simpa using h1'), decide_eq_false (fun h => h1 h.1)]
  by_cases hc : 1 < d ∧ 1 < L.length
  · obtain ⟨r, S4, s7', s8', s9', e4, h4, c4, g4⟩ := comb_s (S := S3) (s3 := s3) (s4 := .pv (.int (d : Int))) (s5 := .pv (.lst (encL many r0))) (s6 := .pv (enc (r0 many))) (s7 := s7) (s8 := s8) (s9 := s9) (s10 := s10) hm (by omega) (by omega) (Mh_le (by omega)) hh g3 (by omega)
    refine ⟨r, S4, .pv (.int (d : Int)), .pv (.lst (encL many r)), .pv (enc (r many)), s7', s8', s9', pre _ ?_, good_snoc L [] r hg (h4.mono (Mh_le (j := L.length + 1) (by omega))) (.inr (by simpa using c4)), up r h4, g4.mono (by omega)⟩
    rw [sSeq_s, sIf_s, ht, decide_eq_true hc]
    simp only [Res.bind_ok, if_true, e4]
    exact app r s7' s8' s9' S4
  · refine ⟨r0, S3, .pv (.int (d : Int)), .pv (.lst (encL many r0)), .pv (enc (r0 many)), s7, s8, s9, pre _ ?_, good_snoc L [] r0 hg (base.h6.mono (by decide)) (.inl base), up r0 (base.h6.mono (Mh_mono (Nat.zero_le _))), g3.mono (by omega)⟩
    rw [sSeq_s, sIf_s, ht, decide_eq_false hc]
    simp only [Res.bind_ok, Bool.false_eq_true, if_false, sNext_s]
    exact app r0 s7 s8 s9 S3
theorem rows_s {many k : Nat} (hm : many ≤ 5) (g : Gd k S) (hk : k ≤ 10000) : ∃ n cs S', n ≤ 8 ∧ fn__law_rows [.stm, .int (many : Int)] S = .ok (rowsD many n cs) S' ∧ RunSz (many + 1 + n) many (fulls many n cs) [] ∧ Gd (k + 200) S' := by
  rw [show fn__law_rows = fnOf _ _ b__law_rows from rfl]
  simp only [fnOf_2]
  rw [rows_split]
  have e0 : sOwn 2 (fLst (aNil)) (startR 11 [.stm, .int (many : Int)]) S = .ok (.nx [.pv .stm, .pv (.int (many : Int)), .ow [], .no, .no, .no, .no, .no, .no, .no, .no]) S := by
    simp [startR, sizeLine_eq]
  obtain ⟨n, S1, e1, hn, g1⟩ := pk_s (ρ := [.pv .stm, .pv (.int (many : Int)), .ow [], .no, .no, .no, .no, .no, .no, .no, .no]) 9 rfl g (by omega) (by decide) (by decide)
  have r1 : iRange1 (aCons (ePk 9) (aNil)) [.pv .stm, .pv (.int (many : Int)), .ow [], .no, .no, .no, .no, .no, .no, .no, .no] S = .ok (rangeD 0 n) S1 := range_nat (by rw [aCons_s, e1]; rfl) (by omega)
  have loop := forL_inv (t := gSet 3) (b := bRow) (fun j ρ S' => ∃ L s3 s4 s5 s6 s7 s8 s9 s10, L.length = j ∧ ρ = [.pv .stm, .pv (.int (many : Int)), .ow (L.map (rowD many)), s3, s4, s5, s6, s7, s8, s9, s10] ∧ Good (many + 1) many [] L ∧ (∀ r ∈ L, Half (many + 1) (Mh L.length) r) ∧ Gd (k + 1 + 20 * j) S')
    (Rr := fun X => ∃ L s3 s4 s5 s6 s7 s8 s9 s10 S', L.length = n ∧ X = .ok (.nx [.pv .stm, .pv (.int (many : Int)), .ow (L.map (rowD many)), s3, s4, s5, s6, s7, s8, s9, s10]) S' ∧ Good (many + 1) many [] L ∧ Gd (k + 200) S')
    (rangeD 0 n) 0 [.pv .stm, .pv (.int (many : Int)), .ow [], .no, .no, .no, .no, .no, .no, .no, .no] S1 ⟨[], _, _, _, _, _, _, _, _, rfl, rfl, trivial, by simp, g1⟩
    (fun j d ρ S' hd hI => by
      obtain ⟨L, s3, s4, s5, s6, s7, s8, s9, s10, hl, rfl, hg, hh, gg⟩ := hI
      rw [Nat.zero_add] at *
      have hj : j < n := by have := (List.getElem?_eq_some_iff.mp hd).1; simpa [rangeD] using this
      refine ⟨_, rfl, .inl ?_⟩
      obtain ⟨r, S2, s4', s5', s6', s7', s8', s9', eb, hg', hh', gg'⟩ := body_s (S := S') (s3 := .pv d) (s4 := s4) (s5 := s5) (s6 := s6) (s7 := s7) (s8 := s8) (s9 := s9) (s10 := s10) hm (by omega) hg hh gg (by omega)
      exact ⟨_, _, .inl eb, L ++ [r], _, _, _, _, _, _, _, _, by simp [hl], rfl, hg', hh', by rw [show k + 1 + 20 * (j + 1) = k + 1 + 20 * j + 20 by omega]; exact gg'⟩)
    (fun ρ S' hI => by
      obtain ⟨L, s3, s4, s5, s6, s7, s8, s9, s10, hl, rfl, hg, hh, gg⟩ := hI
      have hl' : (rangeD 0 n).length = n := by simp [rangeD]
      rw [Nat.zero_add, hl'] at hl gg
      exact ⟨L, _, _, _, _, _, _, _, _, S', hl, rfl, hg, gg.mono (by omega)⟩)
  obtain ⟨L, s3, s4, s5, s6, s7, s8, s9, s10, S2, hl, e2, hg, g2⟩ := loop
  refine ⟨n, fun j => L.getD j (fun _ => 0), S2, by omega, ?_, run_start hm hl (fun j hj => by simp [hj]) hg, g2⟩
  rw [sSeq_s, e0]
  simp only [Res.bind_ok]
  rw [sSeq_s, sFor_s, r1]
  simp only [Res.bind_ok]
  rw [e2]
  simp only [Res.bind_ok, sFrz_s, List.getElem?_cons_zero, List.getElem?_cons_succ, List.set_cons_zero, List.set_cons_succ, sRet_s, eVar_s, fnEnd_rt]
  congr 1
  unfold rowsD
  congr 1
  apply List.ext_getElem?
  intro i
  by_cases hi : i < n
  · rw [List.getElem?_map, List.getElem?_map, List.getElem?_range hi, List.getElem?_eq_getElem (by omega)]
    simp [hl ▸ hi]
  · rw [List.getElem?_eq_none (by simp; omega), List.getElem?_eq_none (by simp; omega)]
end K43
/-! the law itself -/
namespace K43
open PySem PySem.Spec L2 L2.PL
variable {S : Stm}
theorem oEq_dec {d e : D} {b : Bool} (h1 : SeqAt.shaped d.py = true) (h2 : SeqAt.shaped e.py = true) (h : D.eqv d e = b) : oEq d e S = .ok (.bl b) S := by
  unfold oEq
  rw [iteC_pos ⟨h1, h2⟩, h]
theorem oNe_dec {d e : D} {b : Bool} (h1 : SeqAt.shaped d.py = true) (h2 : SeqAt.shaped e.py = true) (h : D.eqv d e = b) : oNe d e S = .ok (.bl (!b)) S := by
  unfold oNe
  rw [iteC_pos ⟨h1, h2⟩, h]
theorem kk : oEq (.str "kept") (.str "kept") S = .ok (.bl true) S := oEq_dec (by decide +kernel) (by decide +kernel) (by decide +kernel)
theorem cc : oEq (.str "conflict") (.str "conflict") S = .ok (.bl true) S := oEq_dec (by decide +kernel) (by decide +kernel) (by decide +kernel)
theorem kc : oEq (.str "kept") (.str "conflict") S = .ok (.bl false) S := oEq_dec (by decide +kernel) (by decide +kernel) (by decide +kernel)
theorem ck : oEq (.str "conflict") (.str "kept") S = .ok (.bl false) S := oEq_dec (by decide +kernel) (by decide +kernel) (by decide +kernel)
theorem nkk : oNe (.str "kept") (.str "kept") S = .ok (.bl false) S := oNe_dec (b := true) (by decide +kernel) (by decide +kernel) (by decide +kernel)
theorem ncc : oNe (.str "conflict") (.str "conflict") S = .ok (.bl false) S := oNe_dec (b := true) (by decide +kernel) (by decide +kernel) (by decide +kernel)
noncomputable abbrev eRows : EF := eFrz (fComp [8, 9] (iSeq (eVar 4)) (gTupF [gSet 8, gSet 9]) (tfYes) (eTup (aCons (eFrz (fListOf (aCons (eVar 8) (aNil)))) (aCons (eVar 9) (aNil)))))
noncomputable abbrev sSet : SF := sAsg (gTupF [gSet 5, gSet 6]) (eCall fn_settle (aCons eRows (aCons (eVar 3) (aNil))))
noncomputable abbrev sOne : SF := sIf (tfOr (tOfE (eBin (oNe) (eVar 5) (eBin oIx (eVar 7) (eC (.int 0))))) (tfAnd (tOfE (eBin (oEq) (eVar 5) (eC (.str "conflict")))) (tOfE (eBin (oNe) (eFrz (fListOf (aCons (eVar 6) (aNil)))) (eBin oIx (eVar 7) (eC (.int 1))))))) (sRet (eC (.bl false))) (sNext)
noncomputable abbrev sTwo : SF := sIf (tOfE (eBin (oEq) (eVar 5) (eC (.str "kept")))) (sIf (tOfE (eBin (oNe) (eFrz (fComp [10] (iRange1 (aCons (eVar 3) (aNil))) (gSet 10) (tfYes) (eCall fn_worth_of (aCons (eVar 6) (aCons (eVar 10) (aNil)))))) (eBin oIx (eVar 7) (eC (.int 1))))) (sRet (eC (.bl false))) (sNext)) (sNext)
noncomputable def bLaw : SF := sSeq (sAsg (gSet 3) (eBin oAdd (eC (.int 1)) (ePickAt 1 5))) (sSeq (sAsg (gSet 4) (eCall fn__law_rows (aCons (eVar 1) (aCons (eVar 3) (aNil))))) (sSeq sSet (sSeq (sAsg (gSet 7) (eCall fn__law_settled (aCons (eVar 4) (aCons (eVar 3) (aNil))))) (sSeq sOne sTwo))))
  where ePickAt (i : Nat) (m : Int) : EF := eCall Lib.fn__law_pick (aCons (eVar i) (aCons (eC (.int m)) (aNil)))
theorem law_body : b_law = sSeq (sFor (iRange1 (aCons (eC (.int 4)) (aNil))) (gSet 2) bLaw) (sRet (eBin (oEq) (eBin oIx (eCall fn_settle (aCons (eFrz (fLst (aNil))) (aCons (eC (.int 2)) (aNil)))) (eC (.int 0))) (eC (.str "kept")))) := rfl
theorem erows_s {many n : Nat} {cs : Nat → Row} (hn : n ≤ 8) (hm : many ≤ 5) (x0 x1 x2 x3 x5 x6 x7 x8 x9 x10 : Sl) : eRows [x0, x1, x2, x3, .pv (rowsD many n cs), x5, x6, x7, x8, x9, x10] S = .ok (rowsD many n cs) S := by
  have c1 : compL (gTupF [gSet 8, gSet 9]) tfYes (eTup (aCons (eFrz (fListOf (aCons (eVar 8) (aNil)))) (aCons (eVar 9) (aNil)))) [x0, x1, x2, x3, .pv (rowsD many n cs), x5, x6, x7, .no, .no, x10] ((List.range n).map fun k => rowD many (cs k)) S [] = .ok ((List.range n).map fun k => rowD many (cs k)) S :=
    compL_map (fun k => rowD many (cs k)) (fun k => rowD many (cs k)) (List.range n) (by simpa using small_line (by omega)) fun k hk => ⟨_, rfl, by simp [rowD, sizeLine_eq]⟩
  unfold eRows
  simp only [eFrz_s, fComp_s, iSeq_s, eVar_s, List.getElem?_cons_zero, List.getElem?_cons_succ, Res.bind_ok, rowsD, wipeR_cons, wipeR_nil, List.set_cons_zero, List.set_cons_succ]
  simp only [rowsD] at c1
  rw [c1]
  rfl
theorem lay_idxs (many n : Nat) (r : Row) : Lay 1 (.lst (idxs many n r)) := lay_lst fun d hd => by
  unfold idxs at hd
  obtain ⟨k, _, rfl⟩ := List.mem_map.mp hd
  exact lay_int _
theorem lay_worths (many : Nat) (ks : Kept) : Lay 2 (worthsD many ks) := lay_lst fun d hd => by
  obtain ⟨k, _, rfl⟩ := List.mem_map.mp hd
  unfold worthD
  split
  · exact lay_enc _
  · exact lay_non.mono (by decide)
theorem runA_rref {many w : Nat} : ∀ (rs : List Row) (ks ks' : Kept), RunSz w many rs ks → runA many rs ks = .kept ks' → Rref many ks'
  | [], ks, ks', h, e => by
    unfold runA at e
    cases e
    exact h.1
  | r :: rs, ks, ks', h, e => by
    obtain ⟨h1, h2, h3, h4⟩ := h
    unfold runA at e
    cases el : leadOf many (redR ks r) with
    | some a => rw [el] at h4 e; exact runA_rref rs _ ks' h4.2 e
    | none =>
      rw [el] at h4 e
      dsimp only at h4 e
      by_cases hc : redR ks r many ≠ 0
      · rw [if_pos hc] at e; cases e
      · rw [if_neg hc] at e
        rcases h4 with h4 | h4
        · exact absurd h4 hc
        · exact runA_rref rs ks ks' h4 e
theorem turn_law {k : Nat} {s2 s3 s4 s5 s6 s7 s8 s9 s10 : Sl} (g : Gd k S) (hk : k ≤ 5000) : ∃ s3' s4' s5' s6' s7' S', bLaw [.no, .pv .stm, s2, s3, s4, s5, s6, s7, s8, s9, s10] S = .ok (.nx [.no, .pv .stm, s2, s3', s4', s5', s6', s7', s8, s9, s10]) S' ∧ Gd (k + 201) S' := by
  obtain ⟨d, S1, e1, h1, g1⟩ := pick_s g (by omega) (by decide : (0 : Int) < 5) (by decide)
  have hm : 1 + d ≤ 5 := by omega
  obtain ⟨n, cs, S2, hn, e2, hz, g2⟩ := rows_s hm g1 (by omega)
  have hw : (1 + d) + 1 + n ≤ 100 := by omega
  have e3 := settle_s (S := S2) hw hz
  have e4 := settled_s (S := S2) hw hz
  have hr := fun ks => runA_rref (many := 1 + d) (fulls (1 + d) n cs) [] ks hz
  generalize runA (1 + d) (fulls (1 + d) n cs) [] = st at *
  have p1 : eBin oAdd (eC (.int 1)) (bLaw.ePickAt 1 5) [.no, .pv .stm, s2, s3, s4, s5, s6, s7, s8, s9, s10] S = .ok (.int ((1 + d : Nat) : Int)) S1 := by
    unfold bLaw.ePickAt
    simp only [eBin_s, eC_s, eCall_s, aCons_s, aNil_s, eVar_s, List.getElem?_cons_zero, List.getElem?_cons_succ, Res.bind_ok, e1, noex_ok, oAdd_i]
    rw [show (1 : Int) + (d : Int) = ((1 + d : Nat) : Int) by omega]
  generalize hM : 1 + d = many at *
  cases st with
  | kept ks =>
    have hr' := hr ks rfl
    refine ⟨.pv (.int (many : Int)), .pv (rowsD many n cs), .pv (.str "kept"), .pv (ksD many n ks), .pv (resL many n (.kept ks)), S2, ?_, g2.mono (by omega)⟩
    unfold bLaw
    rw [sSeq_s, sAsg_s, p1]
    simp only [Res.bind_ok, gSet_s, List.set_cons_zero, List.set_cons_succ]
    rw [sSeq_s, sAsg_s]
    simp only [eCall_s (fn := fn__law_rows), aCons_s, aNil_s, eVar_s, List.getElem?_cons_zero, List.getElem?_cons_succ, Res.bind_ok, e2, noex_ok, gSet_s, List.set_cons_zero, List.set_cons_succ]
    rw [sSeq_s, show sSet = sAsg (gTupF [gSet 5, gSet 6]) (eCall fn_settle (aCons eRows (aCons (eVar 3) (aNil)))) from rfl, sAsg_s]
    simp only [eCall_s (fn := fn_settle), aCons_s (f := eRows), aCons_s (f := eVar 3), aNil_s, erows_s hn hm, eVar_s, List.getElem?_cons_zero, List.getElem?_cons_succ, Res.bind_ok, e3, noex_ok, resD, gTupF_t, gAll_cons, gAll_nil, Option.bind_some, gSet_s, List.set_cons_zero, List.set_cons_succ]
    rw [sSeq_s, sAsg_s]
    simp only [eCall_s (fn := fn__law_settled), aCons_s, aNil_s, eVar_s, List.getElem?_cons_zero, List.getElem?_cons_succ, Res.bind_ok, e4, noex_ok, gSet_s, List.set_cons_zero, List.set_cons_succ]
    have o1 : sOne [.no, .pv .stm, s2, .pv (.int (many : Int)), .pv (rowsD many n cs), .pv (.str "kept"), .pv (ksD many n ks), .pv (resL many n (.kept ks)), s8, s9, s10] S2 = .ok (.nx [.no, .pv .stm, s2, .pv (.int (many : Int)), .pv (rowsD many n cs), .pv (.str "kept"), .pv (ksD many n ks), .pv (resL many n (.kept ks)), s8, s9, s10]) S2 := by
      simp [resL, nkk, kc]
    have r1 : ∀ (a b c : Sl) (l : List Sl), iRange1 (aCons (eVar 3) (aNil)) (a :: b :: c :: .pv (.int (many : Int)) :: l) S2 = .ok (rangeD 0 many) S2 := fun a b c l => range_nat (by simp) (by omega)
    have c1 : compL (gSet 10) tfYes (eCall fn_worth_of (aCons (eVar 6) (aCons (eVar 10) (aNil)))) [.no, .pv .stm, s2, .pv (.int (many : Int)), .pv (rowsD many n cs), .pv (.str "kept"), .pv (ksD many n ks), .pv (resL many n (.kept ks)), s8, s9, .no] (rangeD 0 many) S2 [] = .ok ((List.range many).map fun k => worthD many ks k) S2 :=
      worths_s hw hr' fun k hk => ⟨_, rfl, by simp⟩
    have o2 : sTwo [.no, .pv .stm, s2, .pv (.int (many : Int)), .pv (rowsD many n cs), .pv (.str "kept"), .pv (ksD many n ks), .pv (resL many n (.kept ks)), s8, s9, s10] S2 = .ok (.nx [.no, .pv .stm, s2, .pv (.int (many : Int)), .pv (rowsD many n cs), .pv (.str "kept"), .pv (ksD many n ks), .pv (resL many n (.kept ks)), s8, s9, s10]) S2 := by
      have e5 := oNe_rfl (S := S2) (lay_worths many ks) (by decide)
      have e6 : eBin oIx (eVar 7) (eC (.int 1)) [.no, .pv .stm, s2, .pv (.int (many : Int)), .pv (rowsD many n cs), .pv (.str "kept"), .pv (ksD many n ks), .pv (resL many n (.kept ks)), s8, s9, s10] S2 = .ok (worthsD many ks) S2 := by simp [resL]
      unfold sTwo
      rw [sIf_s]
      simp only [tOfE_s, eBin_s oEq, eVar_s, eC_s, List.getElem?_cons_zero, List.getElem?_cons_succ, Res.bind_ok, kk, if_true]
      rw [sIf_s, tOfE_s, eBin_s oNe]
      simp only [e6, eFrz_s, fComp_s, r1, Res.bind_ok, wipeR_cons, wipeR_nil, List.set_cons_zero, List.set_cons_succ, c1]
      rw [show D.lst ((List.range many).map fun k => worthD many ks k) = worthsD many ks from rfl, e5]
      simp
    rw [sSeq_s, o1]
    simp only [Res.bind_ok]
    exact o2
  | conf r =>
    refine ⟨.pv (.int (many : Int)), .pv (rowsD many n cs), .pv (.str "conflict"), .pv (.lst (idxs many n r)), .pv (resL many n (.conf r)), S2, ?_, g2.mono (by omega)⟩
    unfold bLaw
    rw [sSeq_s, sAsg_s, p1]
    simp only [Res.bind_ok, gSet_s, List.set_cons_zero, List.set_cons_succ]
    rw [sSeq_s, sAsg_s]
    simp only [eCall_s (fn := fn__law_rows), aCons_s, aNil_s, eVar_s, List.getElem?_cons_zero, List.getElem?_cons_succ, Res.bind_ok, e2, noex_ok, gSet_s, List.set_cons_zero, List.set_cons_succ]
    rw [sSeq_s, show sSet = sAsg (gTupF [gSet 5, gSet 6]) (eCall fn_settle (aCons eRows (aCons (eVar 3) (aNil)))) from rfl, sAsg_s]
    simp only [eCall_s (fn := fn_settle), aCons_s (f := eRows), aCons_s (f := eVar 3), aNil_s, erows_s hn hm, eVar_s, List.getElem?_cons_zero, List.getElem?_cons_succ, Res.bind_ok, e3, noex_ok, resD, gTupF_t, gAll_cons, gAll_nil, Option.bind_some, gSet_s, List.set_cons_zero, List.set_cons_succ]
    rw [sSeq_s, sAsg_s]
    simp only [eCall_s (fn := fn__law_settled), aCons_s, aNil_s, eVar_s, List.getElem?_cons_zero, List.getElem?_cons_succ, Res.bind_ok, e4, noex_ok, gSet_s, List.set_cons_zero, List.set_cons_succ]
    have e5 := oNe_rfl (S := S2) (lay_idxs many n r) (by decide)
    have o1 : sOne [.no, .pv .stm, s2, .pv (.int (many : Int)), .pv (rowsD many n cs), .pv (.str "conflict"), .pv (.lst (idxs many n r)), .pv (resL many n (.conf r)), s8, s9, s10] S2 = .ok (.nx [.no, .pv .stm, s2, .pv (.int (many : Int)), .pv (rowsD many n cs), .pv (.str "conflict"), .pv (.lst (idxs many n r)), .pv (resL many n (.conf r)), s8, s9, s10]) S2 := by
      simp [resL, ncc, cc, e5]
    have o2 : sTwo [.no, .pv .stm, s2, .pv (.int (many : Int)), .pv (rowsD many n cs), .pv (.str "conflict"), .pv (.lst (idxs many n r)), .pv (resL many n (.conf r)), s8, s9, s10] S2 = .ok (.nx [.no, .pv .stm, s2, .pv (.int (many : Int)), .pv (rowsD many n cs), .pv (.str "conflict"), .pv (.lst (idxs many n r)), .pv (resL many n (.conf r)), s8, s9, s10]) S2 := by
      simp [ck]
    rw [sSeq_s, o1]
    simp only [Res.bind_ok]
    exact o2
theorem end_law : fn_settle [.lst [], .int 2] S = .ok (.tup [.str "kept", .lst []]) S := by
  have h : RunSz (2 + 1 + 0) 2 (fulls 2 0 fun _ _ => 0) [] := by
    refine ⟨⟨List.Pairwise.nil, by simp⟩, by simp⟩
  have := settle_s (S := S) (many := 2) (n := 0) (cs := fun _ _ => 0) (by decide) h
  exact this
theorem plain : Plain := fun ns _ hb => by
  have g := gd_start hb
  rw [law_body]
  have loop := forL_inv (t := gSet 2) (b := bLaw) (fun j ρ S' => (∃ s2 s3 s4 s5 s6 s7 s8 s9 s10, ρ = [.no, .pv .stm, s2, s3, s4, s5, s6, s7, s8, s9, s10]) ∧ Gd (201 * j) S')
    (Rr := fun X => ∃ ρ S', X = .ok (.nx ρ) S')
    (rangeD 0 4) 0 (.no :: .pv .stm :: List.replicate 9 .no) ⟨ns, 0, 0, 40503⟩ ⟨⟨_, _, _, _, _, _, _, _, _, rfl⟩, by simpa using g⟩
    (fun j d ρ S' hd hI => by
      obtain ⟨⟨s2, s3, s4, s5, s6, s7, s8, s9, s10, rfl⟩, gg⟩ := hI
      rw [Nat.zero_add] at *
      have hj : j < 4 := by have := (List.getElem?_eq_some_iff.mp hd).1; simpa [rangeD] using this
      obtain ⟨s3', s4', s5', s6', s7', S2, e, g2⟩ := turn_law (S := S') (s2 := .pv d) (s3 := s3) (s4 := s4) (s5 := s5) (s6 := s6) (s7 := s7) (s8 := s8) (s9 := s9) (s10 := s10) gg (by omega)
      exact ⟨_, rfl, .inl ⟨_, _, .inl e, ⟨_, _, _, _, _, _, _, _, _, rfl⟩, by rw [show 201 * (j + 1) = 201 * j + 201 by omega]; exact g2⟩⟩)
    (fun ρ S' _ => ⟨ρ, S', rfl⟩)
  obtain ⟨ρ, S', e⟩ := loop
  refine ⟨S', ?_⟩
  have r1 : iRange1 (aCons (eC (.int 4)) (aNil)) (.no :: .pv .stm :: List.replicate 9 .no) ⟨ns, 0, 0, 40503⟩ = .ok (rangeD 0 4) ⟨ns, 0, 0, 40503⟩ := range_nat (n := 4) rfl (by decide)
  rw [sSeq_s, sFor_s, r1]
  simp only [Res.bind_ok]
  rw [e]
  simp only [Res.bind_ok, sRet_s, eBin_s, eCall_s, aCons_s, aNil_s, eC_s, eFrz_s, fLst_s, List.length_nil]
  rw [iteC_pos (small_line (by omega))]
  simp only [Res.bind_ok, end_law, noex_ok, oIx_t, atI_0, List.getElem?_cons_zero, kk]
end K43
open PySem PySem.W PyProof.Rows
set_option maxRecDepth 100000 in
set_option maxHeartbeats 0 in
theorem PySem.Challenge.cw_trueshop_k43_equations_kept_and_contradi_holds : PySem.Challenge.rw_trueshop_k43_equations_kept_and_contradi.Holds := by
  w_on; o_law; k_head; (case hw => w_witness2)
  k_fill
  refine K43.walk (l := PySem.Challenge.rw_trueshop_k43_equations_kept_and_contradi) rfl rfl (fun w h Y => PySem.W.kIn_of Y) ?F
  case F =>
    intro w mg fa h KX G hmg
    refine' K43.all_mk K43.plain KX G hmg ?a0 ?l0 ?c0 ?k0 ?a1 ?l1 ?c1 ?k1 ?t1 ?a2 ?l2 ?c2 ?k2 ?a3 ?l3 ?c3 ?k3 ?a4 ?l4 ?c4 ?k4 ?a5 ?l5 ?c5 ?k5 ?a6 ?l6 ?c6 ?k6 ?a7 ?l7 ?c7 ?k7 ?a8 ?l8 ?c8 ?k8 ?a9 ?l9 ?c9 ?k9 ?a10 ?l10 ?c10 ?k10 ?a11 ?l11 ?c11 ?k11 ?a12 ?l12 ?c12 ?k12 ?a13 ?l13 ?c13 ?k13 ?a14 ?l14 ?c14 ?k14 ?a15 ?l15 ?c15 ?k15 ?a16 ?l16 ?c16 ?k16 ?a17 ?l17 ?c17 ?k17 ?a18 ?l18 ?c18 ?k18 ?a19 ?l19 ?c19 ?k19 ?a20 ?l20 ?c20 ?k20 ?a21 ?l21 ?c21 ?k21 ?a22 ?l22 ?c22 ?k22 ?a23 ?l23 ?c23 ?k23 ?z0 ?z1 ?z2 ?z3 ?z4
    (case a0 => k_is)
    (case l0 => k_is)
    (case c0 => k_is)
    (case k0 => k_is)
    (case a1 => k_is)
    (case l1 => k_is)
    (case c1 => k_is)
    (case k1 => k_is)
    (case t1 => k_is)
    (case a2 => k_is)
    (case l2 => k_is)
    (case c2 => k_is)
    (case k2 => k_is)
    (case a3 => k_is)
    (case l3 => k_is)
    (case c3 => k_is)
    (case k3 => k_is)
    (case a4 => k_is)
    (case l4 => k_is)
    (case c4 => k_is)
    (case k4 => k_is)
    (case a5 => k_is)
    (case l5 => k_is)
    (case c5 => k_is)
    (case k5 => k_is)
    (case a6 => k_is)
    (case l6 => k_is)
    (case c6 => k_is)
    (case k6 => k_is)
    (case a7 => k_is)
    (case l7 => k_is)
    (case c7 => k_is)
    (case k7 => k_is)
    (case a8 => k_is)
    (case l8 => k_is)
    (case c8 => k_is)
    (case k8 => k_is)
    (case a9 => k_is)
    (case l9 => k_is)
    (case c9 => k_is)
    (case k9 => k_is)
    (case a10 => k_is)
    (case l10 => k_is)
    (case c10 => k_is)
    (case k10 => k_is)
    (case a11 => k_is)
    (case l11 => k_is)
    (case c11 => k_is)
    (case k11 => k_is)
    (case a12 => k_is)
    (case l12 => k_is)
    (case c12 => k_is)
    (case k12 => k_is)
    (case a13 => k_is)
    (case l13 => k_is)
    (case c13 => k_is)
    (case k13 => k_is)
    (case a14 => k_is)
    (case l14 => k_is)
    (case c14 => k_is)
    (case k14 => k_is)
    (case a15 => k_is)
    (case l15 => k_is)
    (case c15 => k_is)
    (case k15 => k_is)
    (case a16 => k_is)
    (case l16 => k_is)
    (case c16 => k_is)
    (case k16 => k_is)
    (case a17 => k_is)
    (case l17 => k_is)
    (case c17 => k_is)
    (case k17 => k_is)
    (case a18 => k_is)
    (case l18 => k_is)
    (case c18 => k_is)
    (case k18 => k_is)
    (case a19 => k_is)
    (case l19 => k_is)
    (case c19 => k_is)
    (case k19 => k_is)
    (case a20 => k_is)
    (case l20 => k_is)
    (case c20 => k_is)
    (case k20 => k_is)
    (case a21 => k_is)
    (case l21 => k_is)
    (case c21 => k_is)
    (case k21 => k_is)
    (case a22 => k_is)
    (case l22 => k_is)
    (case c22 => k_is)
    (case k22 => k_is)
    (case a23 => k_is)
    (case l23 => k_is)
    (case c23 => k_is)
    (case k23 => k_is)
    (case z0 => k_is)
    (case z1 => k_is)
    (case z2 => k_is)
    (case z3 => k_is)
    (case z4 => k_is)
