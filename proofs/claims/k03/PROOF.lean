import PyProof.Rows.All
import Wide.All
import OpenK.AllK
import Wide.FinOn
import HandS.ForMost
import HandS.ForExc
import HandS.HeadHook2
import HandS.CallSlots
import HandS.Wide
import HandS.WideBits
import HandS.TupAny
import HandS.Style
import HandS.IsInst
import HandS.Gcd
import KE.KMathGC
import HandS.ExcInit
import HandS.ExcField
import HandS.TryOnly
import KE.KExcSuper
import HandS.Ends
import HandS.Defaults
import HandS.HeadEnd
import HandS.HeadHook1
import HandS.Head2
import HandS.ExcIs
import HandS.Dict
import KE.GoesEnum
import PyProof.RulesMatch
import KE.KSuper
import HandS.ClsMeth
import HandS.NestedK
import HandS.SortInts
import HandS.SetFor
import HandS.Strs
import HandS.Conv
import HandS.Deep
import KE.KStateDown
import HandS.Head3
import PySem.Challenge.RW_unseenfolds_k03_narrower_kinds
set_option Elab.async false
set_option linter.all false
set_option maxRecDepth 100000
set_option maxHeartbeats 2000000
/-! data without a heap: D, how it lies in an abstract heap (Dq), locals (L), the frame's relation (Rel), steps (Stp) -/
namespace DL
open PySem L2
/-- the most items of a list, signs of a text -/
def mx : Nat := 1000000
theorem mx_eq : mx = 1000000 := rfl
/-- the class that the module calls nm -/
abbrev cA (K : PySem.W.Frag) (nm : Str) : Addr := He.ga K nm
inductive D where
  | non | bl (b : Bool) | int (i : Int) | str (x : Str)
  | lst (ds : List D) | ro (ds : List D) | tup (ds : List D)
  | dct (kvs : List (Key × D))
  | ins (C : Str) (fs : List (Str × D))
mutual
inductive Dq (K : PySem.W.Frag) (G : Hp) : V → D → Prop
  | non : Dq K G .non .non
  | bl (b : Bool) : Dq K G (.bl b) (.bl b)
  | int (i : Int) : Dq K G (.int i) (.int i)
  | str (x : Str) : Dq K G (.str x) (.str x)
  | lst {a : Addr} {xs : List V} {ds : List D} : G a = some (.lst xs) → DqA K G xs ds → Dq K G (.ref a) (.lst ds)
  | ro {a : Addr} {xs : List V} {ds : List D} : SqL K G a xs → DqA K G xs ds → Dq K G (.ref a) (.ro ds)
  | tup {a : Addr} {xs : List V} {ds : List D} : SqT K G a xs → DqA K G xs ds → Dq K G (.ref a) (.tup ds)
  | dct {a : Addr} {kvs : List (Key × V)} {ds : List (Key × D)} : G a = some (.dK kvs) → DqK K G kvs ds → Dq K G (.ref a) (.dct ds)
  | ins {a dx : Addr} {C : Str} {fs : List (Str × V)} {ds : List (Str × D)} : G a = some (.ins (cA K C) dx fs) → G dx = some (.own a) → DqF K G fs ds → Dq K G (.ref a) (.ins C ds)
inductive DqA (K : PySem.W.Frag) (G : Hp) : List V → List D → Prop
  | nil : DqA K G [] []
  | cons {v : V} {vs : List V} {d : D} {ds : List D} : Dq K G v d → DqA K G vs ds → DqA K G (v :: vs) (d :: ds)
inductive DqK (K : PySem.W.Frag) (G : Hp) : List (Key × V) → List (Key × D) → Prop
  | nil : DqK K G [] []
  | cons {k : Key} {v : V} {vs : List (Key × V)} {d : D} {ds : List (Key × D)} : Dq K G v d → DqK K G vs ds → DqK K G ((k, v) :: vs) ((k, d) :: ds)
inductive DqF (K : PySem.W.Frag) (G : Hp) : List (Str × V) → List (Str × D) → Prop
  | nil : DqF K G [] []
  | cons {k : Str} {v : V} {vs : List (Str × V)} {d : D} {ds : List (Str × D)} : Dq K G v d → DqF K G vs ds → DqF K G ((k, v) :: vs) ((k, d) :: ds)
end
theorem Same.seqT {K : PySem.W.Frag} {H H' : Hp} {a : Addr} {xs : List V} (e : Same H H') (h : SqT K H a xs) : SqT K H' a xs := by
  rcases h with (h | ⟨o, h⟩) | h
  · exact .inl (.inl (e _ _ h))
  · exact .inl (.inr ⟨o, e _ _ h⟩)
  · exact .inr h
section
variable {K : PySem.W.Frag} {G G' : Hp} (s : Same G G')
include s
mutual
theorem Dq.mono {v : V} {d : D} : Dq K G v d → Dq K G' v d
  | .non => .non
  | .bl b => .bl b
  | .int i => .int i
  | .str x => .str x
  | .lst h a => .lst (s _ _ h) (DqA.mono a)
  | .ro h a => .ro (s.seq h) (DqA.mono a)
  | .tup h a => .tup (Same.seqT s h) (DqA.mono a)
  | .dct h a => .dct (s _ _ h) (DqK.mono a)
  | .ins h h2 a => .ins (s _ _ h) (s _ _ h2) (DqF.mono a)
theorem DqA.mono {v : List V} {d : List D} : DqA K G v d → DqA K G' v d
  | .nil => .nil
  | .cons h t => .cons (Dq.mono h) (DqA.mono t)
theorem DqK.mono {v : List (Key × V)} {d : List (Key × D)} : DqK K G v d → DqK K G' v d
  | .nil => .nil
  | .cons h t => .cons (Dq.mono h) (DqK.mono t)
theorem DqF.mono {v : List (Str × V)} {d : List (Str × D)} : DqF K G v d → DqF K G' v d
  | .nil => .nil
  | .cons h t => .cons (Dq.mono h) (DqF.mono t)
end
end
section
variable {K : PySem.W.Frag} {G : Hp}
theorem DqA.length : ∀ {vs : List V} {ds : List D}, DqA K G vs ds → vs.length = ds.length
  | _, _, .nil => rfl
  | _, _, .cons _ t => by simp [DqA.length t]
theorem DqA.get : ∀ {vs : List V} {ds : List D} {i : Nat} {d : D}, DqA K G vs ds → ds[i]? = some d → ∃ v, vs[i]? = some v ∧ Dq K G v d
  | _, _, _, _, .nil, e => by simp at e
  | _, _, 0, _, .cons r _, e => by simp at e; subst e; exact ⟨_, rfl, r⟩
  | _, _, i + 1, d, .cons _ t, e => by
    obtain ⟨u, h1, h2⟩ := DqA.get (i := i) (d := d) t (by simpa using e)
    exact ⟨u, by simpa using h1, h2⟩
theorem DqA.append : ∀ {vs us : List V} {ds es : List D}, DqA K G vs ds → DqA K G us es → DqA K G (vs ++ us) (ds ++ es)
  | _, _, _, _, .nil, b => b
  | _, _, _, _, .cons h t, b => .cons h (DqA.append t b)
theorem DqA.one {v : V} {d : D} (h : Dq K G v d) : DqA K G [v] [d] := .cons h .nil
theorem DqA.take : ∀ {vs : List V} {ds : List D} (n : Nat), DqA K G vs ds → DqA K G (vs.take n) (ds.take n)
  | _, _, 0, _ => by simpa using DqA.nil
  | _, _, _ + 1, .nil => .nil
  | _, _, n + 1, .cons h t => .cons h (DqA.take n t)
theorem DqA.drop : ∀ {vs : List V} {ds : List D} (n : Nat), DqA K G vs ds → DqA K G (vs.drop n) (ds.drop n)
  | _, _, 0, h => by simpa using h
  | _, _, _ + 1, .nil => .nil
  | _, _, n + 1, .cons _ t => by simpa using DqA.drop n t
theorem DqA.reverse : ∀ {vs : List V} {ds : List D}, DqA K G vs ds → DqA K G vs.reverse ds.reverse
  | _, _, .nil => .nil
  | _, _, .cons h t => by simpa using (DqA.reverse t).append (.one h)
theorem DqA.dropLast {vs : List V} {ds : List D} (h : DqA K G vs ds) : DqA K G vs.dropLast ds.dropLast := by
  rw [List.dropLast_eq_take, List.dropLast_eq_take, h.length]
  exact h.take _
theorem DqA.set : ∀ {vs : List V} {ds : List D} {v : V} {d : D} (i : Nat), DqA K G vs ds → Dq K G v d → DqA K G (vs.set i v) (ds.set i d)
  | _, _, _, _, _, .nil, _ => .nil
  | _, _, _, _, 0, .cons _ t, h => .cons h t
  | _, _, _, _, i + 1, .cons r t, h => .cons r (DqA.set i t h)
theorem DqA.eraseIdx : ∀ {vs : List V} {ds : List D} (i : Nat), DqA K G vs ds → DqA K G (vs.eraseIdx i) (ds.eraseIdx i)
  | _, _, _, .nil => by simpa using DqA.nil
  | _, _, 0, .cons _ t => t
  | _, _, i + 1, .cons r t => .cons r (DqA.eraseIdx i t)
theorem DqA.getv : ∀ {vs : List V} {ds : List D} {i : Nat} {v : V}, DqA K G vs ds → vs[i]? = some v → ∃ d, ds[i]? = some d ∧ Dq K G v d
  | _, _, _, _, .nil, e => by simp at e
  | _, _, 0, _, .cons r _, e => by simp at e; subst e; exact ⟨_, rfl, r⟩
  | _, _, i + 1, d, .cons _ t, e => by
    obtain ⟨u, h1, h2⟩ := DqA.getv (i := i) (v := d) t (by simpa using e)
    exact ⟨u, by simpa using h1, h2⟩
theorem DqA.ints : ∀ {vs : List V} {ns : List Int}, DqA K G vs (ns.map D.int) → vs = ns.map V.int
  | _, [], h => by cases h; rfl
  | _, n :: r, h => by
    cases h with
    | cons h t =>
      cases h
      rw [DqA.ints t]
      rfl
theorem DqA.of_ints (ns : List Int) : DqA K G (ns.map V.int) (ns.map D.int) := by
  induction ns with
  | nil => exact .nil
  | cons n r ih => exact .cons (.int n) ih
end
/-! ### views: the object itself read in H, what it holds in G -/
def Vw (K : PySem.W.Frag) (G H : Hp) (v : V) : D → Prop
  | .lst ds => ∃ a xs, v = .ref a ∧ H a = some (.lst xs) ∧ DqA K G xs ds
  | .dct ds => ∃ a kvs, v = .ref a ∧ H a = some (.dK kvs) ∧ DqK K G kvs ds
  | d => Dq K G v d
theorem Dq.vw {K : PySem.W.Frag} {G H : Hp} {v : V} {d : D} (s : Same G H) (h : Dq K G v d) : Vw K G H v d := by
  cases h with
  | lst h a => exact ⟨_, _, rfl, s _ _ h, a⟩
  | dct h a => exact ⟨_, _, rfl, s _ _ h, a⟩
  | non => exact .non
  | bl b => exact .bl b
  | int i => exact .int i
  | str x => exact .str x
  | ro h a => exact .ro h a
  | tup h a => exact .tup h a
  | ins h h2 a => exact .ins h h2 a
/-! ### exceptions -/
structure Exn where
  cls : Str
  fs : Option (List (Str × D))
def ExOk (K : PySem.W.Frag) (G : Hp) (c : Value) (d : Option Addr) (e : Exn) : Prop :=
  c = .ref (cA K e.cls) ∧ match e.fs with
    | none => True
    | some fs => ∃ dd vs, d = some dd ∧ G dd = some (.xd vs) ∧ DqF K G vs fs
theorem ExOk.mono {K : PySem.W.Frag} {G G' : Hp} {c : Value} {d : Option Addr} {e : Exn} (s : Same G G') (h : ExOk K G c d e) : ExOk K G' c d e := by
  refine ⟨h.1, ?_⟩
  have h2 := h.2
  split at h2
  · trivial
  · obtain ⟨dd, vs, h3, h4, h5⟩ := h2
    exact ⟨dd, vs, h3, s _ _ h4, h5.mono s⟩
/-- the exception that an except suite holds: where it lies, its class, its dict, what it is -/
structure XA where
  a : Addr
  c : Value
  d : Option Addr
  e : Exn
/-- the written part; the exception held -/
structure Kx where
  k : PySem.W.Frag
  xa : Option XA
instance : Coe Kx PySem.W.Frag := ⟨Kx.k⟩
/-! ### locals -/
inductive L where
  | d (x : D) | m (x : D) | r (x : D) | xh
def L.own : L → Bool
  | .m _ => true
  | .r _ => true
  | _ => false
def L.ism : L → Bool
  | .m _ => true
  | _ => false
def L.dat : L → Option D
  | .d x => some x
  | .m x => some x
  | .r x => some x
  | .xh => none
def MOk (K : Kx) (G H : Hp) (v : V) : D → Prop
  | .lst ds => ∃ a xs, v = .ref a ∧ G a = none ∧ H a = some (.lst xs) ∧ DqA K G xs ds
  | .dct ds => ∃ a kvs, v = .ref a ∧ G a = none ∧ H a = some (.dK kvs) ∧ DqK K G kvs ds
  | _ => False
def LOk (K : Kx) (G H : Hp) (v : V) : L → Prop
  | .d x => Dq K G v x
  | .m x => MOk K G H v x
  | .r x => MOk K G H v x
  | .xh => ∀ y, K.xa = some y → v = .ref y.a
theorem MOk.ref {K : Kx} {G H : Hp} {v : V} {x : D} (h : MOk K G H v x) : ∃ a, v = .ref a ∧ G a = none ∧ H a ≠ none := by
  cases x <;> first | exact h.elim | skip
  · obtain ⟨a, xs, rfl, h1, h2, _⟩ := h
    exact ⟨a, rfl, h1, by rw [h2]; exact fun z => nomatch z⟩
  · obtain ⟨a, xs, rfl, h1, h2, _⟩ := h
    exact ⟨a, rfl, h1, by rw [h2]; exact fun z => nomatch z⟩
theorem MOk.vw {K : Kx} {G H : Hp} {v : V} {x : D} (h : MOk K G H v x) : Vw K G H v x := by
  cases x <;> first | exact h.elim | skip
  · obtain ⟨a, xs, rfl, h1, h2, h3⟩ := h
    exact ⟨a, xs, rfl, h2, h3⟩
  · obtain ⟨a, xs, rfl, h1, h2, h3⟩ := h
    exact ⟨a, xs, rfl, h2, h3⟩
theorem LOk.vw {K : Kx} {G H : Hp} {v : V} {l : L} {x : D} (s : Same G H) (h : LOk K G H v l) (e : l.dat = some x) : Vw K G H v x := by
  cases l with
  | d y =>
    cases Option.some.inj e
    exact Dq.vw s h
  | m y =>
    cases Option.some.inj e
    exact MOk.vw h
  | r y =>
    cases Option.some.inj e
    exact MOk.vw h
  | xh => cases e
/-- an owned object as it stands where the rest has grown -/
theorem MOk.mono {K : Kx} {G H G' H' : Hp} {v : V} {x : D} (s : Same G G') (h : MOk K G H v x) (k : ∀ a, v = .ref a → G' a = none ∧ ∀ o, H a = some o → H' a = some o) : MOk K G' H' v x := by
  cases x <;> first | exact h.elim | skip
  · obtain ⟨a, xs, rfl, h1, h2, h3⟩ := h
    exact ⟨a, xs, rfl, (k a rfl).1, (k a rfl).2 _ h2, h3.mono s⟩
  · obtain ⟨a, xs, rfl, h1, h2, h3⟩ := h
    exact ⟨a, xs, rfl, (k a rfl).1, (k a rfl).2 _ h2, h3.mono s⟩
abbrev Env := List (Option L)
structure Rel (K : Kx) (σ : St) (G H : Hp) (ρ : Env) : Prop where
  same : Same G H
  len : σ.length = ρ.length
  at_ : ∀ (i : Nat) (l : L), ρ[i]? = some (some l) → ∃ v, σ[i]? = some (some v) ∧ LOk K G H v l
  exo : ∀ y, K.xa = some y → ExOk K G y.c y.d y.e
  sep : ∀ (i j : Nat) (l l' : L) (a : Addr), i ≠ j → ρ[i]? = some (some l) → ρ[j]? = some (some l') → l.own = true → l'.own = true → σ[i]? = some (some (.ref a)) → σ[j]? ≠ some (some (.ref a))
def Own (σ : St) (ρ : Env) (a : Addr) : Prop := ∃ (i : Nat) (l : L), ρ[i]? = some (some l) ∧ l.own = true ∧ σ[i]? = some (some (.ref a))
def OwnM (σ : St) (ρ : Env) (a : Addr) : Prop := ∃ (i : Nat) (l : L), ρ[i]? = some (some l) ∧ l.ism = true ∧ σ[i]? = some (some (.ref a))
theorem OwnM.own {σ : St} {ρ : Env} {a : Addr} (h : OwnM σ ρ a) : Own σ ρ a := by
  obtain ⟨i, l, h1, h2, h3⟩ := h
  refine ⟨i, l, h1, ?_, h3⟩
  cases l <;> first | rfl | cases h2
/-- what a piece of the run has done -/
structure Stp (σ : St) (ρ : Env) (G H : Hp) (σ' : St) (ρ' : Env) (G' H' : Hp) : Prop where
  g : Same G G'
  gf : ∀ a o, G' a = some o → G a = some o ∨ H a = none ∨ OwnM σ ρ a
  fr : ∀ a o, H a = some o → ¬ Own σ ρ a → H' a = some o
  hn : ∀ a, H a ≠ none → H' a ≠ none
  ow : ∀ a, Own σ' ρ' a → Own σ ρ a ∨ H a = none
  om : ∀ a, OwnM σ' ρ' a → OwnM σ ρ a ∨ H a = none
  pin : ∀ (i : Nat) (x : D), ρ[i]? = some (some (.r x)) → σ'[i]? = σ[i]? ∧ ∃ y, ρ'[i]? = some (some (.r y))
theorem Stp.refl (σ : St) (ρ : Env) (G H : Hp) : Stp σ ρ G H σ ρ G H :=
  ⟨Same.refl _, fun _ _ h => .inl h, fun _ _ h _ => h, fun _ h => h, fun _ h => .inl h, fun _ h => .inl h, fun _ x h => ⟨rfl, x, h⟩⟩
theorem Stp.trans {σ σ1 σ2 : St} {ρ ρ1 ρ2 : Env} {G H G1 H1 G2 H2 : Hp} (a : Stp σ ρ G H σ1 ρ1 G1 H1) (b : Stp σ1 ρ1 G1 H1 σ2 ρ2 G2 H2) : Stp σ ρ G H σ2 ρ2 G2 H2 where
  g := a.g.trans b.g
  gf := fun x o h => by
    have back : H1 x = none → H x = none := fun z => by
      cases e : H x with
      | none => rfl
      | some u => exact absurd z (a.hn x (by rw [e]; exact fun q => nomatch q))
    rcases b.gf x o h with h | h | h
    · exact a.gf x o h
    · exact .inr (.inl (back h))
    · rcases a.om x h with h | h
      · exact .inr (.inr h)
      · exact .inr (.inl h)
  fr := fun x o h n => by
    have h1 := a.fr x o h n
    refine b.fr x o h1 fun q => ?_
    rcases a.ow x q with q | q
    · exact n q
    · rw [h] at q; cases q
  hn := fun x h => b.hn x (a.hn x h)
  ow := fun x h => by
    rcases b.ow x h with h | h
    · exact a.ow x h
    · refine .inr ?_
      cases e : H x with
      | none => rfl
      | some u => exact absurd h (a.hn x (by rw [e]; exact fun q => nomatch q))
  om := fun x h => by
    rcases b.om x h with h | h
    · exact a.om x h
    · refine .inr ?_
      cases e : H x with
      | none => rfl
      | some u => exact absurd h (a.hn x (by rw [e]; exact fun q => nomatch q))
  pin := fun i x h => by
    obtain ⟨e1, y, h1⟩ := a.pin i x h
    obtain ⟨e2, z, h2⟩ := b.pin i y h1
    exact ⟨e2.trans e1, z, h2⟩
/-- the heap has grown; nothing that stood has changed -/
structure Gro (G H G' H' : Hp) : Prop where
  g : Same G G'
  s : Same G' H'
  h : Same H H'
  gf : ∀ a o, G' a = some o → G a = some o ∨ H a = none
theorem Gro.refl {G H : Hp} (s : Same G H) : Gro G H G H := ⟨Same.refl _, s, Same.refl _, fun _ _ h => .inl h⟩
theorem Gro.trans {G H G1 H1 G2 H2 : Hp} (a : Gro G H G1 H1) (b : Gro G1 H1 G2 H2) : Gro G H G2 H2 := by
  refine ⟨a.g.trans b.g, b.s, a.h.trans b.h, fun x o h => ?_⟩
  rcases b.gf x o h with h | h
  · exact a.gf x o h
  · exact .inr (a.h.free h)
theorem Gro.stp {σ : St} {ρ : Env} {G H G' H' : Hp} (e : Gro G H G' H') : Stp σ ρ G H σ ρ G' H' where
  g := e.g
  gf := fun a o h => (e.gf a o h).elim .inl fun z => .inr (.inl z)
  fr := fun a o h _ => e.h a o h
  hn := fun a h z => by
    cases q : H a with
    | none => exact h q
    | some o =>
      rw [e.h a o q] at z
      cases z
  ow := fun _ h => .inl h
  om := fun _ h => .inl h
  pin := fun _ x h => ⟨rfl, x, h⟩
theorem LOk.gro {K : Kx} {G H G' H' : Hp} {v : V} {l : L} (e : Gro G H G' H') (h : LOk K G H v l) : LOk K G' H' v l := by
  have own : ∀ x, MOk K G H v x → MOk K G' H' v x := fun x h => by
    refine h.mono e.g fun a ea => ?_
    obtain ⟨b, eb, h1, h2⟩ := h.ref
    rw [ea] at eb
    cases eb
    refine ⟨?_, fun o ho => e.h a o ho⟩
    cases q : G' a with
    | none => rfl
    | some o =>
      rcases e.gf a o q with z | z
      · rw [h1] at z; cases z
      · exact absurd z h2
  cases l with
  | d x => exact Dq.mono e.g h
  | m x => exact own x h
  | r x => exact own x h
  | xh => exact h
theorem Rel.gro {K : Kx} {σ : St} {ρ : Env} {G H G' H' : Hp} (R : Rel K σ G H ρ) (e : Gro G H G' H') : Rel K σ G' H' ρ :=
  ⟨e.s, R.len, fun i l h => let ⟨v, h1, h2⟩ := R.at_ i l h; ⟨v, h1, h2.gro e⟩, fun y h => (R.exo y h).mono e.g, R.sep⟩
theorem Gro.new {G H : Hp} {p : Addr} {o : HO} (s : Same G H) (h : H p = none) : Gro G H (upd G p o) (upd H p o) := by
  have hg : G p = none := s.free h
  refine ⟨fun b x e => ?_, fun b x e => ?_, fun b x e => ?_, fun b x e => ?_⟩
  · rw [upd_ne (ne_of_none e hg)]; exact e
  · by_cases q : b = p
    · subst q
      rw [upd_same] at e ⊢
      exact e
    · rw [upd_ne q] at e ⊢
      exact s b x e
  · rw [upd_ne (ne_of_none e h)]; exact e
  · by_cases q : b = p
    · subst q
      exact .inr h
    · rw [upd_ne q] at e
      exact .inl e
/-- grown in H alone -/
theorem Gro.newH {G H : Hp} {p : Addr} {o : HO} (s : Same G H) (h : H p = none) : Gro G H G (upd H p o) :=
  ⟨Same.refl _, fun b x e => by rw [upd_ne (ne_of_none e (s.free h))]; exact s b x e, fun b x e => by rw [upd_ne (ne_of_none e h)]; exact e, fun _ _ e => .inl e⟩
end DL
set_option Elab.async false
set_option linter.all false
set_option maxRecDepth 100000
set_option maxHeartbeats 2000000
/-! what code does, without a heap: expressions EM, statements SM; their ties with the layer's readings -/
namespace DL
open PySem L2
/-- a value at hand: data, or the object that the slot i holds -/
inductive X where
  | d (x : D) | s (i : Nat)
inductive Res (α : Type) where
  | ok (a : α) (ρ : Env) | ex (e : Exn) (ρ : Env) | bad
abbrev EM := Env → Res X
abbrev TM := Env → Res Bool
abbrev AM := Env → Res (List X)
abbrev FM := Env → Res D
inductive Fl where
  | nx | bk | ct | rt (l : L)
abbrev SM := Env → Res Fl
def bindR {α β : Type} (r : Res α) (k : α → Env → Res β) : Res β := match r with
  | .ok a ρ => k a ρ
  | .ex e ρ => .ex e ρ
  | .bad => .bad
def look (ρ : Env) : X → Option D
  | .d x => some x
  | .s i => match ρ[i]? with
    | some (some l) => l.dat
    | _ => none
def fz (ρ : Env) : X → Option (D × Env)
  | .d x => some (x, ρ)
  | .s i => match ρ[i]? with
    | some (some (.m x)) => some (x, ρ.set i (some (.d x)))
    | some (some (.d x)) => some (x, ρ)
    | _ => none
def fzs (ρ : Env) : List X → Option (List D × Env)
  | [] => some ([], ρ)
  | x :: xs => match fz ρ x with
    | some (d, ρ1) => match fzs ρ1 xs with
      | some (ds, ρ2) => some (d :: ds, ρ2)
      | none => none
    | none => none
def XOk (K : Kx) (σ : St) (G : Hp) (v : V) : X → Prop
  | .d x => Dq K G v x
  | .s i => σ[i]? = some (some v)
theorem XOk.mono {K : Kx} {σ : St} {G G' : Hp} {v : V} {x : X} (s : Same G G') (h : XOk K σ G v x) : XOk K σ G' v x := by
  cases x with
  | d x => exact Dq.mono s h
  | s i => exact h
section
variable {K : Kx} {σ : St} {G H : Hp} {ρ : Env}
theorem look_vw {v : V} {x : X} {a : D} (R : Rel K σ G H ρ) (h : XOk K σ G v x) (e : look ρ x = some a) : Vw K G H v a := by
  cases x with
  | d x =>
    have e : x = a := Option.some.inj e
    subst e
    exact Dq.vw R.same h
  | s i =>
    unfold look at e
    simp only at e
    split at e
    · rename_i l hl
      obtain ⟨u, h1, h2⟩ := R.at_ i l hl
      have hv : σ[i]? = some (some v) := h
      rw [hv] at h1
      have h1 : v = u := Option.some.inj (Option.some.inj h1)
      subst h1
      exact LOk.vw R.same h2 e
    · cases e
theorem Rel.lt {i : Nat} {l : Option L} (R : Rel K σ G H ρ) (h : ρ[i]? = some l) : i < σ.length := by
  rw [R.len]
  exact (List.getElem?_eq_some_iff.mp h).1
theorem set_get {α : Type} {xs : List α} {i j : Nat} {a b : α} (h : (xs.set i a)[j]? = some b) : (i = j ∧ a = b) ∨ (i ≠ j ∧ xs[j]? = some b) := by
  by_cases e : i = j
  · subst e
    by_cases hl : i < xs.length
    · rw [List.getElem?_set_self hl] at h
      exact .inl ⟨rfl, Option.some.inj h⟩
    · rw [List.getElem?_eq_none (by simpa using hl)] at h
      cases h
  · rw [List.getElem?_set_ne e] at h
    exact .inr ⟨e, h⟩
/-- the object of the slot i locked for good -/
theorem fz_slot {i : Nat} {x : D} {v : V} (R : Rel K σ G H ρ) (h : ρ[i]? = some (some (.m x))) (hv : σ[i]? = some (some v)) :
    ∃ G', Stp σ ρ G H σ (ρ.set i (some (.d x))) G' H ∧ Rel K σ G' H (ρ.set i (some (.d x))) ∧ Dq K G' v x := by
  obtain ⟨u, h1, h2⟩ := R.at_ i _ h
  rw [hv] at h1
  have h1 : v = u := Option.some.inj (Option.some.inj h1)
  subst h1
  have h2 : MOk K G H v x := h2
  obtain ⟨a, rfl, ga, ha⟩ := h2.ref
  obtain ⟨o, ho⟩ : ∃ o, H a = some o := by
    cases q : H a with
    | none => exact absurd q ha
    | some o => exact ⟨o, rfl⟩
  have hown : OwnM σ ρ a := ⟨i, _, h, rfl, hv⟩
  have sG : Same G (upd G a o) := fun b u e => by rw [upd_ne (ne_of_none e ga)]; exact e
  have sGH : Same (upd G a o) H := fun b u e => by
    by_cases q : b = a
    · subst q
      rw [upd_same] at e
      rw [ho, e]
    · rw [upd_ne q] at e
      exact R.same b u e
  have ow : ∀ b, Own σ (ρ.set i (some (.d x))) b → Own σ ρ b := fun b ⟨j, l, e1, e2, e3⟩ => by
    rcases set_get e1 with ⟨rfl, e⟩ | ⟨_, e⟩
    · have e : L.d x = l := Option.some.inj e
      subst e
      cases e2
    · exact ⟨j, l, e, e2, e3⟩
  have om : ∀ b, OwnM σ (ρ.set i (some (.d x))) b → OwnM σ ρ b := fun b ⟨j, l, e1, e2, e3⟩ => by
    rcases set_get e1 with ⟨rfl, e⟩ | ⟨_, e⟩
    · have e : L.d x = l := Option.some.inj e
      subst e
      cases e2
    · exact ⟨j, l, e, e2, e3⟩
  have dq : Dq K (upd G a o) (.ref a) x := by
    cases x <;> first | exact h2.elim | skip
    · obtain ⟨b, xs, e, _, hb, hx⟩ := h2
      cases e
      rw [ho] at hb
      cases hb
      exact .lst upd_same (hx.mono sG)
    · obtain ⟨b, xs, e, _, hb, hx⟩ := h2
      cases e
      rw [ho] at hb
      cases hb
      exact .dct upd_same (hx.mono sG)
  refine ⟨upd G a o, ⟨sG, fun b u e => ?_, fun b u e _ => e, fun b e => e, fun b e => .inl (ow b e), fun b e => .inl (om b e), fun j y e => ⟨rfl, ?_⟩⟩, ⟨sGH, ?_, fun j l e => ?_, fun y h => (R.exo y h).mono sG, fun j k l l' b hjk e1 e2 o1 o2 => ?_⟩, dq⟩
  · by_cases q : b = a
    · subst q
      exact .inr (.inr hown)
    · rw [upd_ne q] at e
      exact .inl e
  · refine ⟨y, ?_⟩
    have hji : i ≠ j := fun q => by
      subst q
      rw [h] at e
      cases e
    rw [List.getElem?_set_ne hji]
    exact e
  · rw [List.length_set]
    exact R.len
  · rcases set_get e with ⟨hij, e'⟩ | ⟨hne, e⟩
    · subst hij
      have e' : L.d x = l := Option.some.inj e'
      subst e'
      exact ⟨_, hv, dq⟩
    · obtain ⟨u, e1, e2⟩ := R.at_ j l e
      refine ⟨u, e1, ?_⟩
      have own : ∀ y, l.own = true → MOk K G H u y → MOk K (upd G a o) H u y := fun y hlo hm => by
        refine hm.mono sG fun b eb => ⟨?_, fun o e => e⟩
        subst eb
        have nb : b ≠ a := fun q => by
          subst q
          exact R.sep i j _ _ b hne h e rfl hlo hv e1
        rw [upd_ne nb]
        obtain ⟨c, ec, hc, _⟩ := hm.ref
        cases ec
        exact hc
      cases l with
      | d y => exact Dq.mono sG e2
      | m y => exact own y rfl e2
      | r y => exact own y rfl e2
      | xh => exact e2
  · rcases set_get e1 with ⟨rfl, e⟩ | ⟨_, e1⟩
    · have e : L.d x = l := Option.some.inj e
      subst e
      cases o1
    · rcases set_get e2 with ⟨rfl, e⟩ | ⟨_, e2⟩
      · have e : L.d x = l' := Option.some.inj e
        subst e
        cases o2
      · exact R.sep j k l l' b hjk e1 e2 o1 o2
theorem fz_ok {v : V} {x : X} {d : D} {ρ' : Env} (R : Rel K σ G H ρ) (h : XOk K σ G v x) (e : fz ρ x = some (d, ρ')) : ∃ G', Stp σ ρ G H σ ρ' G' H ∧ Rel K σ G' H ρ' ∧ Dq K G' v d := by
  cases x with
  | d x =>
    have e : (x, ρ) = (d, ρ') := Option.some.inj e
    cases e
    exact ⟨G, Stp.refl _ _ _ _, R, h⟩
  | s i =>
    unfold fz at e
    simp only at e
    split at e
    · rename_i y hy
      cases Option.some.inj e
      exact fz_slot R hy h
    · rename_i y hy
      cases Option.some.inj e
      obtain ⟨u, h1, h2⟩ := R.at_ i _ hy
      have h : σ[i]? = some (some v) := h
      rw [h] at h1
      have h1 : v = u := Option.some.inj (Option.some.inj h1)
      subst h1
      exact ⟨G, Stp.refl _ _ _ _, R, h2⟩
    · cases e
def XsOk (K : Kx) (σ : St) (G : Hp) : List V → List X → Prop := Paired (XOk K σ G)
theorem XsOk.mono {G' : Hp} (s : Same G G') : ∀ {vs : List V} {xs : List X}, XsOk K σ G vs xs → XsOk K σ G' vs xs
  | _, _, .nil => .nil
  | _, _, .cons h t => .cons (XOk.mono s h) (XsOk.mono s t)
theorem fzs_ok : ∀ {xs : List X} {vs : List V} {G : Hp} {ρ : Env} {ds : List D} {ρ' : Env}, Rel K σ G H ρ → XsOk K σ G vs xs → fzs ρ xs = some (ds, ρ') → ∃ G', Stp σ ρ G H σ ρ' G' H ∧ Rel K σ G' H ρ' ∧ DqA K G' vs ds
  | [], _, G, ρ, _, _, R, h, e => by
    cases h
    cases Option.some.inj e
    exact ⟨G, Stp.refl _ _ _ _, R, .nil⟩
  | x :: xs, _, G, ρ, ds, ρ', R, h, e => by
    cases h with
    | cons hx ht =>
      unfold fzs at e
      split at e
      · rename_i d ρ1 e1
        split at e
        · rename_i es ρ2 e2
          cases Option.some.inj e
          obtain ⟨G1, S1, R1, q1⟩ := fz_ok R hx e1
          obtain ⟨G2, S2, R2, q2⟩ := fzs_ok R1 (XsOk.mono S1.g ht) e2
          exact ⟨G2, S1.trans S2, R2, .cons (q1.mono S2.g) q2⟩
        · cases e
      · cases e
end
/-! ### the ends -/
section
variable (K : Kx) (W : WX) (σ : St) (G H : Hp) (ρ : Env)
def XPost (e : Exn) (ρ' : Env) : Prop := ∀ c d G' H', Stp σ ρ G H σ ρ' G' H' → Rel K σ G' H' ρ' → ExOk K G' c d e → W c d σ H'
/-- of an expression -/
def EPost (Q : VK) : Res X → Prop
  | .ok x ρ' => ∀ v G' H', Stp σ ρ G H σ ρ' G' H' → Rel K σ G' H' ρ' → XOk K σ G' v x → Q v H'
  | .ex e ρ' => XPost K W σ G H ρ e ρ'
  | .bad => False
def TPost (Q : Bool → Hp → Prop) : Res Bool → Prop
  | .ok b ρ' => ∀ G' H', Stp σ ρ G H σ ρ' G' H' → Rel K σ G' H' ρ' → Q b H'
  | .ex e ρ' => XPost K W σ G H ρ e ρ'
  | .bad => False
def APost (Q : List V → Hp → Prop) : Res (List X) → Prop
  | .ok xs ρ' => ∀ vs G' H', Stp σ ρ G H σ ρ' G' H' → Rel K σ G' H' ρ' → XsOk K σ G' vs xs → Q vs H'
  | .ex e ρ' => XPost K W σ G H ρ e ρ'
  | .bad => False
/-- a new object that nobody else holds -/
def Frs (ρ' : Env) (G' H' : Hp) (v : V) (x : D) : Prop := MOk K G' H' v x ∧ ∀ a, v = .ref a → H a = none ∧ ¬ Own σ ρ' a
def FPost (Q : VK) : Res D → Prop
  | .ok x ρ' => ∀ v G' H', Stp σ ρ G H σ ρ' G' H' → Rel K σ G' H' ρ' → Frs K σ H ρ' G' H' v x → Q v H'
  | .ex e ρ' => XPost K W σ G H ρ e ρ'
  | .bad => False
end
def EvOk (K : Kx) (W : WX) (t : TE) (m : EM) : Prop := ∀ σ G H ρ, Rel K σ G H ρ → ∀ Q, EPost K W σ G H ρ Q (m ρ) → t σ H Q
def TvOk (K : Kx) (W : WX) (t : TT) (m : TM) : Prop := ∀ σ G H ρ, Rel K σ G H ρ → ∀ Q, TPost K W σ G H ρ Q (m ρ) → t σ H Q
def AvOk (K : Kx) (W : WX) (t : TA) (m : AM) : Prop := ∀ σ G H ρ, Rel K σ G H ρ → ∀ Q, APost K W σ G H ρ Q (m ρ) → t σ H Q
def FvOk (K : Kx) (W : WX) (t : TE) (m : FM) : Prop := ∀ σ G H ρ, Rel K σ G H ρ → ∀ Q, FPost K W σ G H ρ Q (m ρ) → t σ H Q
section
variable {K : Kx} {W : WX} {σ : St} {G H G1 H1 : Hp} {ρ ρ1 : Env}
theorem XPost.step {e : Exn} {ρ' : Env} (S : Stp σ ρ G H σ ρ1 G1 H1) (h : XPost K W σ G H ρ e ρ') : XPost K W σ G1 H1 ρ1 e ρ' := fun c d G' H' S' => h c d G' H' (S.trans S')
theorem EPost.step {Q : VK} (S : Stp σ ρ G H σ ρ1 G1 H1) : ∀ {r : Res X}, EPost K W σ G H ρ Q r → EPost K W σ G1 H1 ρ1 Q r
  | .ok _ _, h => fun v G' H' S' => h v G' H' (S.trans S')
  | .ex _ _, h => XPost.step S h
  | .bad, h => h
theorem TPost.step {Q : Bool → Hp → Prop} (S : Stp σ ρ G H σ ρ1 G1 H1) : ∀ {r : Res Bool}, TPost K W σ G H ρ Q r → TPost K W σ G1 H1 ρ1 Q r
  | .ok _ _, h => fun G' H' S' => h G' H' (S.trans S')
  | .ex _ _, h => XPost.step S h
  | .bad, h => h
theorem APost.step {Q : List V → Hp → Prop} (S : Stp σ ρ G H σ ρ1 G1 H1) : ∀ {r : Res (List X)}, APost K W σ G H ρ Q r → APost K W σ G1 H1 ρ1 Q r
  | .ok _ _, h => fun v G' H' S' => h v G' H' (S.trans S')
  | .ex _ _, h => XPost.step S h
  | .bad, h => h
theorem Stp.back (S : Stp σ ρ G H σ ρ1 G1 H1) {a : Addr} (h : H1 a = none) : H a = none := by
  cases e : H a with
  | none => rfl
  | some u => exact absurd h (S.hn a (by rw [e]; exact fun q => nomatch q))
theorem FPost.step {Q : VK} (S : Stp σ ρ G H σ ρ1 G1 H1) : ∀ {r : Res D}, FPost K W σ G H ρ Q r → FPost K W σ G1 H1 ρ1 Q r
  | .ok _ _, h => fun v G' H' S' R' F => h v G' H' (S.trans S') R' ⟨F.1, fun a e => ⟨S.back (F.2 a e).1, (F.2 a e).2⟩⟩
  | .ex _ _, h => XPost.step S h
  | .bad, h => h
/-! ### the first part of a row: what follows is shown for what it gives -/
theorem EvOk.fst {t : TE} {m : EM} (h : EvOk K W t m) (R : Rel K σ G H ρ) {T : VK}
    (k : ∀ x ρ1, m ρ = .ok x ρ1 → ∀ v G1 H1, Stp σ ρ G H σ ρ1 G1 H1 → Rel K σ G1 H1 ρ1 → XOk K σ G1 v x → T v H1) (kx : ∀ e ρ1, m ρ = .ex e ρ1 → XPost K W σ G H ρ e ρ1) (kb : m ρ ≠ .bad) : t σ H T := by
  refine h σ G H ρ R T ?_
  cases e : m ρ with
  | ok x ρ1 => exact fun v G1 H1 S R X => k x ρ1 e v G1 H1 S R X
  | ex e' ρ1 => exact kx e' ρ1 e
  | bad => exact absurd e kb
theorem AvOk.fst {t : TA} {m : AM} (h : AvOk K W t m) (R : Rel K σ G H ρ) {T : List V → Hp → Prop}
    (k : ∀ x ρ1, m ρ = .ok x ρ1 → ∀ v G1 H1, Stp σ ρ G H σ ρ1 G1 H1 → Rel K σ G1 H1 ρ1 → XsOk K σ G1 v x → T v H1) (kx : ∀ e ρ1, m ρ = .ex e ρ1 → XPost K W σ G H ρ e ρ1) (kb : m ρ ≠ .bad) : t σ H T := by
  refine h σ G H ρ R T ?_
  cases e : m ρ with
  | ok x ρ1 => exact fun v G1 H1 S R X => k x ρ1 e v G1 H1 S R X
  | ex e' ρ1 => exact kx e' ρ1 e
  | bad => exact absurd e kb
theorem TvOk.fst {t : TT} {m : TM} (h : TvOk K W t m) (R : Rel K σ G H ρ) {T : Bool → Hp → Prop}
    (k : ∀ x ρ1, m ρ = .ok x ρ1 → ∀ G1 H1, Stp σ ρ G H σ ρ1 G1 H1 → Rel K σ G1 H1 ρ1 → T x H1) (kx : ∀ e ρ1, m ρ = .ex e ρ1 → XPost K W σ G H ρ e ρ1) (kb : m ρ ≠ .bad) : t σ H T := by
  refine h σ G H ρ R T ?_
  cases e : m ρ with
  | ok x ρ1 => exact fun G1 H1 S R => k x ρ1 e G1 H1 S R
  | ex e' ρ1 => exact kx e' ρ1 e
  | bad => exact absurd e kb
theorem FvOk.fst {t : TE} {m : FM} (h : FvOk K W t m) (R : Rel K σ G H ρ) {T : VK}
    (k : ∀ x ρ1, m ρ = .ok x ρ1 → ∀ v G1 H1, Stp σ ρ G H σ ρ1 G1 H1 → Rel K σ G1 H1 ρ1 → Frs K σ H ρ1 G1 H1 v x → T v H1) (kx : ∀ e ρ1, m ρ = .ex e ρ1 → XPost K W σ G H ρ e ρ1) (kb : m ρ ≠ .bad) : t σ H T := by
  refine h σ G H ρ R T ?_
  cases e : m ρ with
  | ok x ρ1 => exact fun v G1 H1 S R X => k x ρ1 e v G1 H1 S R X
  | ex e' ρ1 => exact kx e' ρ1 e
  | bad => exact absurd e kb
/-- a new object, locked -/
theorem Frs.lock {σ : St} {ρ' : Env} {G' H' : Hp} {v : V} {x : D} (S : Stp σ ρ G H σ ρ' G' H') (R : Rel K σ G' H' ρ') (F : Frs K σ H ρ' G' H' v x) : ∃ G'', Stp σ ρ G H σ ρ' G'' H' ∧ Rel K σ G'' H' ρ' ∧ Dq K G'' v x := by
  obtain ⟨hm, hf⟩ := F
  obtain ⟨a, rfl, ga, ha⟩ := hm.ref
  obtain ⟨o, ho⟩ : ∃ o, H' a = some o := by
    cases q : H' a with
    | none => exact absurd q ha
    | some o => exact ⟨o, rfl⟩
  obtain ⟨hna, hno⟩ := hf a rfl
  have sG : Same G' (upd G' a o) := fun b u e => by rw [upd_ne (ne_of_none e ga)]; exact e
  have sGH : Same (upd G' a o) H' := fun b u e => by
    by_cases q : b = a
    · subst q
      rw [upd_same] at e
      rw [ho, e]
    · rw [upd_ne q] at e
      exact R.same b u e
  have dq : Dq K (upd G' a o) (.ref a) x := by
    cases x <;> first | exact hm.elim | skip
    · obtain ⟨b, xs, e, _, hb, hx⟩ := hm
      cases e
      rw [ho] at hb
      cases hb
      exact .lst upd_same (hx.mono sG)
    · obtain ⟨b, xs, e, _, hb, hx⟩ := hm
      cases e
      rw [ho] at hb
      cases hb
      exact .dct upd_same (hx.mono sG)
  refine ⟨upd G' a o, ⟨S.g.trans sG, fun b u e => ?_, S.fr, S.hn, S.ow, S.om, S.pin⟩, ⟨sGH, R.len, fun j l e => ?_, fun y h => (R.exo y h).mono sG, R.sep⟩, dq⟩
  · by_cases q : b = a
    · subst q
      exact .inr (.inl hna)
    · rw [upd_ne q] at e
      exact S.gf b u e
  · obtain ⟨u, e1, e2⟩ := R.at_ j l e
    refine ⟨u, e1, ?_⟩
    have own : ∀ y, l.own = true → MOk K G' H' u y → MOk K (upd G' a o) H' u y := fun y hl hm => by
      refine hm.mono sG fun b eb => ⟨?_, fun o e => e⟩
      subst eb
      have nb : b ≠ a := fun q => by
        subst q
        exact hno ⟨j, l, e, hl, e1⟩
      rw [upd_ne nb]
      obtain ⟨c, ec, hc, _⟩ := hm.ref
      cases ec
      exact hc
    cases l with
    | d y => exact Dq.mono sG e2
    | m y => exact own y rfl e2
    | r y => exact own y rfl e2
    | xh => exact e2
end
def eF (m : FM) : EM := fun ρ => bindR (m ρ) fun d ρ' => .ok (.d d) ρ'
theorem FvOk.ev {K : Kx} {W : WX} {t : TE} {m : FM} (h : FvOk K W t m) : EvOk K W t (eF m) := fun σ G H ρ R Q hq => by
  unfold eF bindR at hq
  refine h.fst R (fun x ρ1 e v G1 H1 S1 R1 F => ?_) (fun e ρ1 q => by rw [q] at hq; exact hq) (fun q => by rw [q] at hq; exact hq)
  rw [e] at hq
  obtain ⟨G2, S2, R2, q2⟩ := Frs.lock S1 R1 F
  exact hq v G2 H1 S2 R2 q2
end DL
set_option Elab.async false
set_option linter.all false
set_option maxRecDepth 100000
set_option maxHeartbeats 2000000
/-! the constructs: expressions, tests, arguments, calls -/
namespace DL
open PySem L2
variable {K : Kx} {W : WX}
theorem bad_ne {α : Type} {r : Res α} {P : Res α → Prop} (h : P r) (hb : P .bad → False) : r ≠ .bad := fun e => hb (e ▸ h)
/-! ### expressions -/
def eVar (i : Nat) : EM := fun ρ => match ρ[i]? with
  | some (some (.d x)) => .ok (.d x) ρ
  | some (some _) => .ok (.s i) ρ
  | _ => .bad
theorem ev_var (i : Nat) : EvOk K W (tVar i) (eVar i) := fun σ G H ρ R Q h => by
  unfold eVar at h
  split at h
  · rename_i x hx
    obtain ⟨v, h1, h2⟩ := R.at_ i _ hx
    exact ⟨v, h1, h v G H (Stp.refl _ _ _ _) R h2⟩
  · rename_i l hl _ _
    obtain ⟨v, h1, h2⟩ := R.at_ i _ (by assumption)
    exact ⟨v, h1, h v G H (Stp.refl _ _ _ _) R h1⟩
  · exact h.elim
def eC (x : D) : EM := fun ρ => .ok (.d x) ρ
theorem ev_int (i : Int) : EvOk K W (tC (.int i)) (eC (.int i)) := fun σ G H ρ R Q h => h _ G H (Stp.refl _ _ _ _) R (.int i)
theorem ev_bl (b : Bool) : EvOk K W (tC (.bl b)) (eC (.bl b)) := fun σ G H ρ R Q h => h _ G H (Stp.refl _ _ _ _) R (.bl b)
theorem ev_str (x : Str) : EvOk K W (tC (.str x)) (eC (.str x)) := fun σ G H ρ R Q h => h _ G H (Stp.refl _ _ _ _) R (.str x)
theorem ev_non : EvOk K W (tC .non) (eC .non) := fun σ G H ρ R Q h => h _ G H (Stp.refl _ _ _ _) R .non
/-- the end of an operation on data -/
def DEnd (K : PySem.W.Frag) (G H : Hp) (d : D) (Q : VK) : Prop := ∀ w G' H', Gro G H G' H' → Dq K G' w d → Q w H'
def rD2 (K : PySem.W.Frag) (g : D → D → Option D) : R2 := fun x y H Q => ∃ G a b d, Same G H ∧ Vw K G H x a ∧ Vw K G H y b ∧ g a b = some d ∧ DEnd K G H d Q
def rD1 (K : PySem.W.Frag) (g : D → Option D) : V → Hp → VK → Prop := fun x H Q => ∃ G a d, Same G H ∧ Vw K G H x a ∧ g a = some d ∧ DEnd K G H d Q
def rDn (K : PySem.W.Frag) (g : List D → Option D) : List V → Hp → VK → Prop := fun xs H Q => ∃ G as d, Same G H ∧ Paired (Vw K G H) xs as ∧ g as = some d ∧ DEnd K G H d Q
def oD (r : Option D) (ρ : Env) : Res X := match r with
  | some d => .ok (.d d) ρ
  | none => .bad
theorem DEnd.of {σ : St} {G H : Hp} {ρ : Env} {d : D} {Q : VK} (R : Rel K σ G H ρ) (h : EPost K W σ G H ρ Q (.ok (.d d) ρ)) : DEnd K G H d Q := fun w G' H' g q => h w G' H' g.stp (R.gro g) q
def eOp (g : D → D → Option D) (ma mb : EM) : EM := fun ρ => bindR (ma ρ) fun x ρ1 => bindR (mb ρ1) fun y ρ2 => match look ρ2 x, look ρ2 y with
  | some a, some b => oD (g a b) ρ2
  | _, _ => .bad
theorem ev_op {g : D → D → Option D} {ta tb : TE} {ma mb : EM} (ha : EvOk K W ta ma) (hb : EvOk K W tb mb) : EvOk K W (tOp (rD2 K g) ta tb) (eOp g ma mb) := fun σ G H ρ R Q h => by
  unfold eOp bindR at h
  refine ha.fst R (fun x ρ1 e v G1 H1 S1 R1 x1 => ?_) (fun e ρ1 q => by rw [q] at h; exact h) (fun q => by rw [q] at h; exact h)
  rw [e] at h
  have h := EPost.step S1 h
  simp only at h
  refine hb.fst R1 (fun y ρ2 e2 u G2 H2 S2 R2 x2 => ?_) (fun e ρ1 q => by rw [q] at h; exact h) (fun q => by rw [q] at h; exact h)
  rw [e2] at h
  have h := EPost.step S2 h
  simp only at h
  split at h
  · rename_i a b ea eb
    unfold oD at h
    split at h
    · rename_i d hd
      exact ⟨G2, a, b, d, R2.same, look_vw R2 (x1.mono S2.g) ea, look_vw R2 x2 eb, hd, DEnd.of R2 h⟩
    · exact h.elim
  · exact h.elim
def eUn (g : D → Option D) (ma : EM) : EM := fun ρ => bindR (ma ρ) fun x ρ1 => match look ρ1 x with
  | some a => oD (g a) ρ1
  | _ => .bad
theorem ev_un {g : D → Option D} {ta : TE} {ma : EM} (ha : EvOk K W ta ma) : EvOk K W (tUn (rD1 K g) ta) (eUn g ma) := fun σ G H ρ R Q h => by
  unfold eUn bindR at h
  refine ha.fst R (fun x ρ1 e v G1 H1 S1 R1 x1 => ?_) (fun e ρ1 q => by rw [q] at h; exact h) (fun q => by rw [q] at h; exact h)
  rw [e] at h
  have h := EPost.step S1 h
  simp only at h
  split at h
  · rename_i a ea
    unfold oD at h
    split at h
    · rename_i d hd
      exact ⟨G1, a, d, R1.same, look_vw R1 x1 ea, hd, DEnd.of R1 h⟩
    · exact h.elim
  · exact h.elim
def looks (ρ : Env) : List X → Option (List D)
  | [] => some []
  | x :: xs => match look ρ x, looks ρ xs with
    | some a, some as => some (a :: as)
    | _, _ => none
theorem looks_vw {σ : St} {G H : Hp} {ρ : Env} (R : Rel K σ G H ρ) : ∀ {xs : List X} {vs : List V} {as : List D}, XsOk K σ G vs xs → looks ρ xs = some as → Paired (Vw K G H) vs as
  | [], _, _, h, e => by
    cases h
    cases Option.some.inj e
    exact .nil
  | x :: xs, _, _, h, e => by
    cases h with
    | cons hx ht =>
      unfold looks at e
      split at e
      · rename_i a as e1 e2
        cases Option.some.inj e
        exact .cons (look_vw R hx e1) (looks_vw R ht e2)
      · cases e
def eCB (g : List D → Option D) (ma : AM) : EM := fun ρ => bindR (ma ρ) fun xs ρ1 => match looks ρ1 xs with
  | some as => oD (g as) ρ1
  | _ => .bad
theorem ev_cb {g : List D → Option D} {ta : TA} {ma : AM} (ha : AvOk K W ta ma) : EvOk K W (tCB (rDn K g) ta) (eCB g ma) := fun σ G H ρ R Q h => by
  unfold eCB bindR at h
  refine ha.fst R (fun x ρ1 e v G1 H1 S1 R1 x1 => ?_) (fun e ρ1 q => by rw [q] at h; exact h) (fun q => by rw [q] at h; exact h)
  rw [e] at h
  have h := EPost.step S1 h
  simp only at h
  split at h
  · rename_i a ea
    unfold oD at h
    split at h
    · rename_i d hd
      exact ⟨G1, a, d, R1.same, looks_vw R1 x1 ea, hd, DEnd.of R1 h⟩
    · exact h.elim
  · exact h.elim
/-! ### argument lists and displays -/
def aNil : AM := fun ρ => .ok [] ρ
def aCons (ma : EM) (mr : AM) : AM := fun ρ => bindR (ma ρ) fun x ρ1 => bindR (mr ρ1) fun xs ρ2 => .ok (x :: xs) ρ2
theorem av_nil : AvOk K W tNil aNil := fun σ G H ρ R Q h => h [] G H (Stp.refl _ _ _ _) R .nil
theorem av_cons {ta : TE} {tr : TA} {ma : EM} {mr : AM} (ha : EvOk K W ta ma) (hr : AvOk K W tr mr) : AvOk K W (tCons ta tr) (aCons ma mr) := fun σ G H ρ R Q h => by
  unfold aCons bindR at h
  refine ha.fst R (fun x ρ1 e v G1 H1 S1 R1 x1 => ?_) (fun e ρ1 q => by rw [q] at h; exact h) (fun q => by rw [q] at h; exact h)
  rw [e] at h
  have h := APost.step S1 h
  simp only at h
  refine hr.fst R1 (fun xs ρ2 e2 us G2 H2 S2 R2 x2 => ?_) (fun e ρ1 q => by rw [q] at h; exact h) (fun q => by rw [q] at h; exact h)
  rw [e2] at h
  have h := APost.step S2 h
  exact h (v :: us) G2 H2 (Stp.refl _ _ _ _) R2 (.cons (x1.mono S2.g) x2)
theorem small_size {n : Nat} (h : n ≤ mx) : n ≤ sizeLine := Nat.le_trans h (by decide)
/-- a tuple -/
def eTup (ma : AM) : EM := fun ρ => bindR (ma ρ) fun xs ρ1 => match fzs ρ1 xs with
  | some (ds, ρ2) => if ds.length ≤ mx then .ok (.d (.tup ds)) ρ2 else .bad
  | none => .bad
theorem ev_tup {ta : TA} {ma : AM} (ha : AvOk K W ta ma) : EvOk K W (tTup ta) (eTup ma) := fun σ G H ρ R Q h => by
  unfold eTup bindR at h
  refine ha.fst R (fun x ρ1 e v G1 H1 S1 R1 x1 => ?_) (fun e ρ1 q => by rw [q] at h; exact h) (fun q => by rw [q] at h; exact h)
  rw [e] at h
  have h := EPost.step S1 h
  simp only at h
  split at h
  · rename_i ds ρ2 e2
    split at h
    · rename_i hl
      obtain ⟨G2, S2, R2, q2⟩ := fzs_ok R1 x1 e2
      have h := EPost.step S2 h
      refine ⟨by rw [q2.length]; exact small_size hl, fun p hp => ?_⟩
      have g := Gro.new (o := .tup v) R2.same hp
      exact h _ _ _ g.stp (R2.gro g) (.tup (.inl (.inl upd_same)) (q2.mono g.g))
    · exact h.elim
  · exact h.elim
/-- a list -/
def fLst (ma : AM) : FM := fun ρ => bindR (ma ρ) fun xs ρ1 => match fzs ρ1 xs with
  | some (ds, ρ2) => if ds.length ≤ mx then .ok (.lst ds) ρ2 else .bad
  | none => .bad
/-- a new list in H alone -/
theorem Frs.new {σ : St} {G H : Hp} {ρ : Env} {p : Addr} {xs : List V} {ds : List D} (R : Rel K σ G H ρ) (hp : H p = none) (q : DqA K G xs ds) : Frs K σ H ρ G (upd H p (.lst xs)) (.ref p) (.lst ds) := by
  refine ⟨⟨p, xs, rfl, R.same.free hp, upd_same, q⟩, fun a e => ?_⟩
  cases e
  refine ⟨hp, fun ⟨i, l, h1, h2, h3⟩ => ?_⟩
  obtain ⟨v, h4, h5⟩ := R.at_ i l h1
  rw [h3] at h4
  have h4 : V.ref p = v := Option.some.inj (Option.some.inj h4)
  subst h4
  have own : ∀ x, MOk K G H (.ref p) x → False := fun x hm => by
    obtain ⟨a, ea, _, h⟩ := hm.ref
    cases ea
    exact h hp
  cases l with
  | d x => cases h2
  | m x => exact own x h5
  | r x => exact own x h5
  | xh => cases h2
theorem fv_lst {ta : TA} {ma : AM} (ha : AvOk K W ta ma) : FvOk K W (tLst ta) (fLst ma) := fun σ G H ρ R Q h => by
  unfold fLst bindR at h
  refine ha.fst R (fun x ρ1 e v G1 H1 S1 R1 x1 => ?_) (fun e ρ1 q => by rw [q] at h; exact h) (fun q => by rw [q] at h; exact h)
  rw [e] at h
  have h := FPost.step S1 h
  simp only at h
  split at h
  · rename_i ds ρ2 e2
    split at h
    · rename_i hl
      obtain ⟨G2, S2, R2, q2⟩ := fzs_ok R1 x1 e2
      have h := FPost.step S2 h
      refine ⟨by rw [q2.length]; exact small_size hl, fun p hp => ?_⟩
      have g := Gro.newH (o := .lst v) R2.same hp
      exact h _ _ _ g.stp (R2.gro g) (Frs.new R2 hp q2)
    · exact h.elim
  · exact h.elim
/-- what makes a new list by values -/
def FEnd (K : PySem.W.Frag) (G H : Hp) (ds : List D) (Q : VK) : Prop := ∀ p xs, H p = none → DqA K G xs ds → Q (.ref p) (upd H p (.lst xs))
def rF1 (K : PySem.W.Frag) (g : D → Option (List D)) : V → Hp → VK → Prop := fun x H Q => ∃ G a ds, Same G H ∧ Vw K G H x a ∧ g a = some ds ∧ FEnd K G H ds Q
def rF2 (K : PySem.W.Frag) (g : D → D → Option (List D)) : R2 := fun x y H Q => ∃ G a b ds, Same G H ∧ Vw K G H x a ∧ Vw K G H y b ∧ g a b = some ds ∧ FEnd K G H ds Q
def rFn (K : PySem.W.Frag) (g : List D → Option (List D)) : List V → Hp → VK → Prop := fun xs H Q => ∃ G as ds, Same G H ∧ Paired (Vw K G H) xs as ∧ g as = some ds ∧ FEnd K G H ds Q
def oF (r : Option (List D)) (ρ : Env) : Res D := match r with
  | some ds => .ok (.lst ds) ρ
  | none => .bad
theorem FEnd.of {σ : St} {G H : Hp} {ρ : Env} {ds : List D} {Q : VK} (R : Rel K σ G H ρ) (h : FPost K W σ G H ρ Q (.ok (.lst ds) ρ)) : FEnd K G H ds Q := fun p xs hp q => by
  have g := Gro.newH (o := .lst xs) R.same hp
  exact h _ _ _ g.stp (R.gro g) (Frs.new R hp q)
/-- as data at once -/
theorem rF1.d {g : D → Option (List D)} {x : V} {H : Hp} {Q : VK} (h : rD1 K (fun a => (g a).map .lst) x H Q) : rF1 K g x H Q := by
  obtain ⟨G, a, d, s, v, e, q⟩ := h
  obtain ⟨ds, e1, rfl⟩ := Option.map_eq_some_iff.mp e
  refine ⟨G, a, ds, s, v, e1, fun p xs hp hq => ?_⟩
  have g := Gro.new (o := .lst xs) s hp
  exact q _ _ _ g (.lst upd_same (hq.mono g.g))
def fUn (g : D → Option (List D)) (ma : EM) : FM := fun ρ => bindR (ma ρ) fun x ρ1 => match look ρ1 x with
  | some a => oF (g a) ρ1
  | _ => .bad
theorem fv_un {g : D → Option (List D)} {ta : TE} {ma : EM} (ha : EvOk K W ta ma) : FvOk K W (tUn (rF1 K g) ta) (fUn g ma) := fun σ G H ρ R Q h => by
  unfold fUn bindR at h
  refine ha.fst R (fun x ρ1 e v G1 H1 S1 R1 x1 => ?_) (fun e ρ1 q => by rw [q] at h; exact h) (fun q => by rw [q] at h; exact h)
  rw [e] at h
  have h := FPost.step S1 h
  simp only at h
  split at h
  · rename_i a ea
    unfold oF at h
    split at h
    · rename_i d hd
      exact ⟨G1, a, d, R1.same, look_vw R1 x1 ea, hd, FEnd.of R1 h⟩
    · exact h.elim
  · exact h.elim
def fOp (g : D → D → Option (List D)) (ma mb : EM) : FM := fun ρ => bindR (ma ρ) fun x ρ1 => bindR (mb ρ1) fun y ρ2 => match look ρ2 x, look ρ2 y with
  | some a, some b => oF (g a b) ρ2
  | _, _ => .bad
theorem fv_op {g : D → D → Option (List D)} {ta tb : TE} {ma mb : EM} (ha : EvOk K W ta ma) (hb : EvOk K W tb mb) : FvOk K W (tOp (rF2 K g) ta tb) (fOp g ma mb) := fun σ G H ρ R Q h => by
  unfold fOp bindR at h
  refine ha.fst R (fun x ρ1 e v G1 H1 S1 R1 x1 => ?_) (fun e ρ1 q => by rw [q] at h; exact h) (fun q => by rw [q] at h; exact h)
  rw [e] at h
  have h := FPost.step S1 h
  simp only at h
  refine hb.fst R1 (fun y ρ2 e2 u G2 H2 S2 R2 x2 => ?_) (fun e ρ1 q => by rw [q] at h; exact h) (fun q => by rw [q] at h; exact h)
  rw [e2] at h
  have h := FPost.step S2 h
  simp only at h
  split at h
  · rename_i a b ea eb
    unfold oF at h
    split at h
    · rename_i d hd
      exact ⟨G2, a, b, d, R2.same, look_vw R2 (x1.mono S2.g) ea, look_vw R2 x2 eb, hd, FEnd.of R2 h⟩
    · exact h.elim
  · exact h.elim
def fCB (g : List D → Option (List D)) (ma : AM) : FM := fun ρ => bindR (ma ρ) fun xs ρ1 => match looks ρ1 xs with
  | some as => oF (g as) ρ1
  | _ => .bad
theorem fv_cb {g : List D → Option (List D)} {ta : TA} {ma : AM} (ha : AvOk K W ta ma) : FvOk K W (tCB (rFn K g) ta) (fCB g ma) := fun σ G H ρ R Q h => by
  unfold fCB bindR at h
  refine ha.fst R (fun x ρ1 e v G1 H1 S1 R1 x1 => ?_) (fun e ρ1 q => by rw [q] at h; exact h) (fun q => by rw [q] at h; exact h)
  rw [e] at h
  have h := FPost.step S1 h
  simp only at h
  split at h
  · rename_i a ea
    unfold oF at h
    split at h
    · rename_i d hd
      exact ⟨G1, a, d, R1.same, looks_vw R1 x1 ea, hd, FEnd.of R1 h⟩
    · exact h.elim
  · exact h.elim
/-! ### slices -/
abbrev OM := Env → Res (Option Int)
def OPost (K : Kx) (W : WX) (σ : St) (G H : Hp) (ρ : Env) (Q : Option Int → Hp → Prop) : Res (Option Int) → Prop
  | .ok b ρ' => ∀ G' H', Stp σ ρ G H σ ρ' G' H' → Rel K σ G' H' ρ' → Q b H'
  | .ex e ρ' => XPost K W σ G H ρ e ρ'
  | .bad => False
def OvOk (K : Kx) (W : WX) (t : TO) (m : OM) : Prop := ∀ σ G H ρ, Rel K σ G H ρ → ∀ Q, OPost K W σ G H ρ Q (m ρ) → t σ H Q
theorem OPost.step {σ : St} {G H G1 H1 : Hp} {ρ ρ1 : Env} {Q : Option Int → Hp → Prop} (S : Stp σ ρ G H σ ρ1 G1 H1) : ∀ {r : Res (Option Int)}, OPost K W σ G H ρ Q r → OPost K W σ G1 H1 ρ1 Q r
  | .ok _ _, h => fun G' H' S' => h G' H' (S.trans S')
  | .ex _ _, h => XPost.step S h
  | .bad, h => h
theorem OvOk.fst {σ : St} {G H : Hp} {ρ : Env} {t : TO} {m : OM} (h : OvOk K W t m) (R : Rel K σ G H ρ) {T : Option Int → Hp → Prop}
    (k : ∀ x ρ1, m ρ = .ok x ρ1 → ∀ G1 H1, Stp σ ρ G H σ ρ1 G1 H1 → Rel K σ G1 H1 ρ1 → T x H1) (kx : ∀ e ρ1, m ρ = .ex e ρ1 → XPost K W σ G H ρ e ρ1) (kb : m ρ ≠ .bad) : t σ H T := by
  refine h σ G H ρ R T ?_
  cases e : m ρ with
  | ok x ρ1 => exact fun G1 H1 S R => k x ρ1 e G1 H1 S R
  | ex e' ρ1 => exact kx e' ρ1 e
  | bad => exact absurd e kb
def oNone : OM := fun ρ => .ok none ρ
theorem ov_none : OvOk K W tNoPart oNone := fun σ G H ρ R Q h => h G H (Stp.refl _ _ _ _) R
def oSome (ma : EM) : OM := fun ρ => bindR (ma ρ) fun x ρ1 => match x with
  | .d (.int i) => .ok (some i) ρ1
  | _ => .bad
theorem ov_some {ta : TE} {ma : EM} (ha : EvOk K W ta ma) : OvOk K W (tPart ta) (oSome ma) := fun σ G H ρ R Q h => by
  unfold oSome bindR at h
  refine ha.fst R (fun x ρ1 e v G1 H1 S1 R1 x1 => ?_) (fun e ρ1 q => by rw [q] at h; exact h) (fun q => by rw [q] at h; exact h)
  rw [e] at h
  have h := OPost.step S1 h
  simp only at h
  split at h
  · cases x1 with
    | int => exact ⟨_, rfl, h G1 H1 (Stp.refl _ _ _ _) R1⟩
  · exact h.elim
def rSl (K : PySem.W.Frag) (g : D → Option Int → Option Int → Option D) : V → Option Int → Option Int → Hp → VK → Prop := fun x lo hi H Q => ∃ G a d, Same G H ∧ Vw K G H x a ∧ g a lo hi = some d ∧ DEnd K G H d Q
def eSl (g : D → Option Int → Option Int → Option D) (ma : EM) (ml mh : OM) : EM := fun ρ => bindR (ma ρ) fun x ρ1 => bindR (ml ρ1) fun lo ρ2 => bindR (mh ρ2) fun hi ρ3 => match look ρ3 x with
  | some a => oD (g a lo hi) ρ3
  | none => .bad
theorem ev_sl {g : D → Option Int → Option Int → Option D} {ta : TE} {tl th : TO} {ma : EM} {ml mh : OM} (ha : EvOk K W ta ma) (hl : OvOk K W tl ml) (hh : OvOk K W th mh) : EvOk K W (tSl (rSl K g) ta tl th) (eSl g ma ml mh) := fun σ G H ρ R Q h => by
  unfold eSl bindR at h
  refine ha.fst R (fun x ρ1 e v G1 H1 S1 R1 x1 => ?_) (fun e ρ1 q => by rw [q] at h; exact h) (fun q => by rw [q] at h; exact h)
  rw [e] at h
  have h := EPost.step S1 h
  simp only at h
  refine hl.fst R1 (fun lo ρ2 e2 G2 H2 S2 R2 => ?_) (fun e ρ1 q => by rw [q] at h; exact h) (fun q => by rw [q] at h; exact h)
  rw [e2] at h
  have h := EPost.step S2 h
  simp only at h
  refine hh.fst R2 (fun hi ρ3 e3 G3 H3 S3 R3 => ?_) (fun e ρ1 q => by rw [q] at h; exact h) (fun q => by rw [q] at h; exact h)
  rw [e3] at h
  have h := EPost.step S3 h
  simp only at h
  split at h
  · rename_i a ea
    unfold oD at h
    split at h
    · rename_i d hd
      exact ⟨G3, a, d, R3.same, look_vw R3 ((x1.mono S2.g).mono S3.g) ea, hd, DEnd.of R3 h⟩
    · exact h.elim
  · exact h.elim
def rSlF (K : PySem.W.Frag) (g : D → Option Int → Option Int → Option (List D)) : V → Option Int → Option Int → Hp → VK → Prop := fun x lo hi H Q => ∃ G a d, Same G H ∧ Vw K G H x a ∧ g a lo hi = some d ∧ FEnd K G H d Q
def fSl (g : D → Option Int → Option Int → Option (List D)) (ma : EM) (ml mh : OM) : FM := fun ρ => bindR (ma ρ) fun x ρ1 => bindR (ml ρ1) fun lo ρ2 => bindR (mh ρ2) fun hi ρ3 => match look ρ3 x with
  | some a => oF (g a lo hi) ρ3
  | none => .bad
theorem fv_sl {g : D → Option Int → Option Int → Option (List D)} {ta : TE} {tl th : TO} {ma : EM} {ml mh : OM} (ha : EvOk K W ta ma) (hl : OvOk K W tl ml) (hh : OvOk K W th mh) : FvOk K W (tSl (rSlF K g) ta tl th) (fSl g ma ml mh) := fun σ G H ρ R Q h => by
  unfold fSl bindR at h
  refine ha.fst R (fun x ρ1 e v G1 H1 S1 R1 x1 => ?_) (fun e ρ1 q => by rw [q] at h; exact h) (fun q => by rw [q] at h; exact h)
  rw [e] at h
  have h := FPost.step S1 h
  simp only at h
  refine hl.fst R1 (fun lo ρ2 e2 G2 H2 S2 R2 => ?_) (fun e ρ1 q => by rw [q] at h; exact h) (fun q => by rw [q] at h; exact h)
  rw [e2] at h
  have h := FPost.step S2 h
  simp only at h
  refine hh.fst R2 (fun hi ρ3 e3 G3 H3 S3 R3 => ?_) (fun e ρ1 q => by rw [q] at h; exact h) (fun q => by rw [q] at h; exact h)
  rw [e3] at h
  have h := FPost.step S3 h
  simp only at h
  split at h
  · rename_i a ea
    unfold oF at h
    split at h
    · rename_i d hd
      exact ⟨G3, a, d, R3.same, look_vw R3 ((x1.mono S2.g).mono S3.g) ea, hd, FEnd.of R3 h⟩
    · exact h.elim
  · exact h.elim
/-! ### tests -/
def tTru (K : PySem.W.Frag) (ta : TE) : TT := fun σ H Q => ta σ H fun x H' => ∃ k, TruV K x H' k ∧ Q k H'
def tBl (ma : EM) : TM := fun ρ => bindR (ma ρ) fun x ρ1 => match x with
  | .d (.bl b) => .ok b ρ1
  | _ => .bad
theorem tv_test {ta : TE} {ma : EM} (ha : EvOk K W ta ma) : TvOk K W (tTest ta) (tBl ma) := fun σ G H ρ R Q h => by
  unfold tBl bindR at h
  refine ha.fst R (fun x ρ1 e v G1 H1 S1 R1 x1 => ?_) (fun e ρ1 q => by rw [q] at h; exact h) (fun q => by rw [q] at h; exact h)
  rw [e] at h
  have h := TPost.step S1 h
  simp only at h
  split at h
  · cases x1 with
    | bl => exact ⟨_, rfl, h G1 H1 (Stp.refl _ _ _ _) R1⟩
  · exact h.elim
theorem tv_B {ta : TE} {ma : EM} (ha : EvOk K W ta ma) : TvOk K W (tB ta) (tBl ma) := fun σ G H ρ R Q h => by
  unfold tBl bindR at h
  refine ha.fst R (fun x ρ1 e v G1 H1 S1 R1 x1 => ?_) (fun e ρ1 q => by rw [q] at h; exact h) (fun q => by rw [q] at h; exact h)
  rw [e] at h
  have h := TPost.step S1 h
  simp only at h
  split at h
  · cases x1 with
    | bl => exact ⟨_, rfl, h G1 H1 (Stp.refl _ _ _ _) R1⟩
  · exact h.elim
def mAnd (mt mu : TM) : TM := fun ρ => bindR (mt ρ) fun b ρ1 => if b = true then mu ρ1 else .ok false ρ1
def mOr (mt mu : TM) : TM := fun ρ => bindR (mt ρ) fun b ρ1 => if b = true then .ok true ρ1 else mu ρ1
def mNot (mt : TM) : TM := fun ρ => bindR (mt ρ) fun b ρ1 => .ok (!b) ρ1
theorem tv_and {t u : TT} {mt mu : TM} (ht : TvOk K W t mt) (hu : TvOk K W u mu) : TvOk K W (tAnd t u) (mAnd mt mu) := fun σ G H ρ R Q h => by
  unfold mAnd bindR at h
  refine ht.fst R (fun b ρ1 e G1 H1 S1 R1 => ?_) (fun e ρ1 q => by rw [q] at h; exact h) (fun q => by rw [q] at h; exact h)
  rw [e] at h
  have h := TPost.step S1 h
  simp only at h
  split at h
  · rename_i hb
    rw [if_pos hb]
    exact hu _ _ _ _ R1 _ h
  · rename_i hb
    rw [if_neg hb]
    exact h G1 H1 (Stp.refl _ _ _ _) R1
theorem tv_or {t u : TT} {mt mu : TM} (ht : TvOk K W t mt) (hu : TvOk K W u mu) : TvOk K W (tOr t u) (mOr mt mu) := fun σ G H ρ R Q h => by
  unfold mOr bindR at h
  refine ht.fst R (fun b ρ1 e G1 H1 S1 R1 => ?_) (fun e ρ1 q => by rw [q] at h; exact h) (fun q => by rw [q] at h; exact h)
  rw [e] at h
  have h := TPost.step S1 h
  simp only at h
  split at h
  · rename_i hb
    rw [if_pos hb]
    exact h G1 H1 (Stp.refl _ _ _ _) R1
  · rename_i hb
    rw [if_neg hb]
    exact hu _ _ _ _ R1 _ h
theorem tv_not {t : TT} {mt : TM} (ht : TvOk K W t mt) : TvOk K W (tNot t) (mNot mt) := fun σ G H ρ R Q h => by
  unfold mNot bindR at h
  refine ht.fst R (fun b ρ1 e G1 H1 S1 R1 => ?_) (fun e ρ1 q => by rw [q] at h; exact h) (fun q => by rw [q] at h; exact h)
  rw [e] at h
  have h := TPost.step S1 h
  exact h G1 H1 (Stp.refl _ _ _ _) R1
/-- and, or, not as values: all but the last a bool -/
def eAnd (ma mb : EM) : EM := fun ρ => bindR (tBl ma ρ) fun b ρ1 => if b = true then mb ρ1 else .ok (.d (.bl false)) ρ1
def eOr (ma mb : EM) : EM := fun ρ => bindR (tBl ma ρ) fun b ρ1 => if b = true then .ok (.d (.bl true)) ρ1 else mb ρ1
def eNot (ma : EM) : EM := fun ρ => bindR (tBl ma ρ) fun b ρ1 => .ok (.d (.bl (!b))) ρ1
theorem ev_and {ta tb : TE} {ma mb : EM} (ha : EvOk K W ta ma) (hb : EvOk K W tb mb) : EvOk K W (tAndV ta tb) (eAnd ma mb) := fun σ G H ρ R Q h => by
  refine tv_B ha σ G H ρ R (fun c H1 => if c = true then tb σ H1 Q else Q (.bl false) H1) ?_
  unfold eAnd bindR at h
  cases e : tBl ma ρ with
  | ok b ρ1 =>
    rw [e] at h
    intro G1 H1 S1 R1
    have h := EPost.step S1 h
    cases b with
    | true =>
      simp only [if_true] at h ⊢
      exact hb _ _ _ _ R1 _ h
    | false =>
      simp only [Bool.false_eq_true, if_false] at h ⊢
      exact h _ G1 H1 (Stp.refl _ _ _ _) R1 (.bl _)
  | ex x ρ1 => rw [e] at h; exact h
  | bad => rw [e] at h; exact h
theorem ev_or {ta tb : TE} {ma mb : EM} (ha : EvOk K W ta ma) (hb : EvOk K W tb mb) : EvOk K W (tOrV ta tb) (eOr ma mb) := fun σ G H ρ R Q h => by
  refine tv_B ha σ G H ρ R (fun c H1 => if c = true then Q (.bl true) H1 else tb σ H1 Q) ?_
  unfold eOr bindR at h
  cases e : tBl ma ρ with
  | ok b ρ1 =>
    rw [e] at h
    intro G1 H1 S1 R1
    have h := EPost.step S1 h
    cases b with
    | true =>
      simp only [if_true] at h ⊢
      exact h _ G1 H1 (Stp.refl _ _ _ _) R1 (.bl _)
    | false =>
      simp only [Bool.false_eq_true, if_false] at h ⊢
      exact hb _ _ _ _ R1 _ h
  | ex x ρ1 => rw [e] at h; exact h
  | bad => rw [e] at h; exact h
theorem ev_not {ta : TE} {ma : EM} (ha : EvOk K W ta ma) : EvOk K W (tNotV ta) (eNot ma) := fun σ G H ρ R Q h => by
  refine tv_B ha σ G H ρ R (fun c H1 => Q (.bl (!c)) H1) ?_
  unfold eNot bindR at h
  cases e : tBl ma ρ with
  | ok b ρ1 =>
    rw [e] at h
    intro G1 H1 S1 R1
    have h := EPost.step S1 h
    exact h _ G1 H1 (Stp.refl _ _ _ _) R1 (.bl _)
  | ex x ρ1 => rw [e] at h; exact h
  | bad => rw [e] at h; exact h
def eIf (mt : TM) (ma mb : EM) : EM := fun ρ => bindR (mt ρ) fun b ρ1 => if b = true then ma ρ1 else mb ρ1
theorem ev_if {t : TT} {ta tb : TE} {mt : TM} {ma mb : EM} (ht : TvOk K W t mt) (ha : EvOk K W ta ma) (hb : EvOk K W tb mb) : EvOk K W (tIf t ta tb) (eIf mt ma mb) := fun σ G H ρ R Q h => by
  unfold eIf bindR at h
  refine ht.fst R (fun b ρ1 e G1 H1 S1 R1 => ?_) (fun e ρ1 q => by rw [q] at h; exact h) (fun q => by rw [q] at h; exact h)
  rw [e] at h
  have h := EPost.step S1 h
  simp only at h
  split at h
  · rename_i hb'
    rw [if_pos hb']
    exact ha _ _ _ _ R1 _ h
  · rename_i hb'
    rw [if_neg hb']
    exact hb _ _ _ _ R1 _ h
end DL
set_option Elab.async false
set_option linter.all false
set_option maxRecDepth 100000
set_option maxHeartbeats 4000000
/-! statements, loops, comprehensions -/
namespace DL
open PySem L2
variable {K : Kx} {W : WX}
/-! ### slots stored -/
def setS (ρ : Env) (i : Nat) (l : L) : Option Env := match ρ[i]? with
  | some (some (.r _)) => none
  | some _ => some (ρ.set i (some l))
  | none => none
section
variable {σ σ1 : St} {G H G0 H0 : Hp} {ρ ρ0 : Env}
theorem setS_some {i : Nat} {l : L} {ρ' : Env} (h : setS ρ i l = some ρ') : ρ' = ρ.set i (some l) ∧ i < ρ.length ∧ ∀ x, ρ[i]? ≠ some (some (.r x)) := by
  unfold setS at h
  split at h
  · cases h
  · rename_i o hn ho
    cases Option.some.inj h
    refine ⟨rfl, (List.getElem?_eq_some_iff.mp ho).1, fun x e => ?_⟩
    rw [ho] at e
    exact hn x (Option.some.inj e)
  · cases h
theorem setD_ok {i : Nat} {v : V} {x : D} {ρ' : Env} (R : Rel K σ G H ρ) (q : Dq K G v x) (h : setS ρ i (.d x) = some ρ') : Stp σ ρ G H (σ.set i (some v)) ρ' G H ∧ Rel K (σ.set i (some v)) G H ρ' := by
  obtain ⟨rfl, hi, hr⟩ := setS_some h
  have hi' : i < σ.length := by rw [R.len]; exact hi
  have own : ∀ {j : Nat} {l : L} {b : Addr}, (ρ.set i (some (.d x)))[j]? = some (some l) → l.own = true → (σ.set i (some v))[j]? = some (some (.ref b)) → ρ[j]? = some (some l) ∧ σ[j]? = some (some (.ref b)) := fun {j l b} e1 o e3 => by
    rcases set_get e1 with ⟨rfl, e⟩ | ⟨hne, e⟩
    · cases Option.some.inj e
      cases o
    · rw [List.getElem?_set_ne hne] at e3
      exact ⟨e, e3⟩
  refine ⟨⟨Same.refl _, fun _ _ h => .inl h, fun _ _ h _ => h, fun _ h => h, fun a ⟨j, l, e1, e2, e3⟩ => ?_, fun a ⟨j, l, e1, e2, e3⟩ => ?_, fun j y e => ?_⟩, ⟨R.same, ?_, fun j l e => ?_, R.exo, fun j k l l' b hjk e1 e2 o1 o2 e3 e4 => ?_⟩⟩
  · obtain ⟨h1, h2⟩ := own e1 e2 e3
    exact .inl ⟨j, l, h1, e2, h2⟩
  · have o : l.own = true := by cases l <;> first | rfl | cases e2
    obtain ⟨h1, h2⟩ := own e1 o e3
    exact .inl ⟨j, l, h1, e2, h2⟩
  · have hne : i ≠ j := fun q => by subst q; exact hr y e
    rw [List.getElem?_set_ne hne, List.getElem?_set_ne hne]
    exact ⟨rfl, y, e⟩
  · rw [List.length_set, List.length_set]
    exact R.len
  · rcases set_get e with ⟨hij, e'⟩ | ⟨hne, e⟩
    · subst hij
      cases Option.some.inj e'
      exact ⟨v, List.getElem?_set_self hi', q⟩
    · rw [List.getElem?_set_ne hne]
      exact R.at_ j l e
  · have hbk : ∃ c, (σ.set i (some v))[k]? = some (some (V.ref c)) := ⟨b, e4⟩
    obtain ⟨h1, h2⟩ := own e1 o1 e3
    obtain ⟨h3, h4⟩ := own e2 o2 e4
    exact R.sep j k l l' b hjk h1 h3 o1 o2 h2 h4
/-- a new object stored -/
theorem setM_ok {i : Nat} {v : V} {x : D} {ρ' : Env} (S : Stp σ ρ0 G0 H0 σ ρ G H) (R : Rel K σ G H ρ) (F : Frs K σ H0 ρ G H v x) (h : setS ρ i (.m x) = some ρ') : Stp σ ρ0 G0 H0 (σ.set i (some v)) ρ' G H ∧ Rel K (σ.set i (some v)) G H ρ' := by
  obtain ⟨rfl, hi, hr⟩ := setS_some h
  have hi' : i < σ.length := by rw [R.len]; exact hi
  obtain ⟨hm, hf⟩ := F
  obtain ⟨a, rfl, ga, ha⟩ := hm.ref
  obtain ⟨na, no⟩ := hf a rfl
  have own : ∀ {j : Nat} {l : L} {b : Addr}, (ρ.set i (some (.m x)))[j]? = some (some l) → (σ.set i (some (.ref a)))[j]? = some (some (.ref b)) → (i = j ∧ b = a) ∨ (i ≠ j ∧ ρ[j]? = some (some l) ∧ σ[j]? = some (some (.ref b))) := fun {j l b} e1 e3 => by
    rcases set_get e1 with ⟨hij, e⟩ | ⟨hne, e⟩
    · subst hij
      rw [List.getElem?_set_self hi'] at e3
      cases Option.some.inj (Option.some.inj e3)
      exact .inl ⟨rfl, rfl⟩
    · rw [List.getElem?_set_ne hne] at e3
      exact .inr ⟨hne, e, e3⟩
  refine ⟨⟨S.g, S.gf, S.fr, S.hn, fun b ⟨j, l, e1, e2, e3⟩ => ?_, fun b ⟨j, l, e1, e2, e3⟩ => ?_, fun j y e => ?_⟩, ⟨R.same, ?_, fun j l e => ?_, R.exo, fun j k l l' b hjk e1 e2 o1 o2 e3 e4 => ?_⟩⟩
  · rcases own e1 e3 with ⟨_, rfl⟩ | ⟨_, h1, h2⟩
    · exact .inr na
    · exact S.ow b ⟨j, l, h1, e2, h2⟩
  · rcases own e1 e3 with ⟨_, rfl⟩ | ⟨_, h1, h2⟩
    · exact .inr na
    · exact S.om b ⟨j, l, h1, e2, h2⟩
  · obtain ⟨p1, z, p2⟩ := S.pin j y e
    have hne : i ≠ j := fun q => by subst q; exact hr z p2
    rw [List.getElem?_set_ne hne, List.getElem?_set_ne hne]
    exact ⟨p1, z, p2⟩
  · rw [List.length_set, List.length_set]
    exact R.len
  · rcases set_get e with ⟨hij, e'⟩ | ⟨hne, e⟩
    · subst hij
      cases Option.some.inj e'
      exact ⟨_, List.getElem?_set_self hi', hm⟩
    · rw [List.getElem?_set_ne hne]
      exact R.at_ j l e
  · rcases own e1 e3 with ⟨q1, rfl⟩ | ⟨_, h1, h2⟩
    · rcases own e2 e4 with ⟨q2, _⟩ | ⟨_, h3, h4⟩
      · exact hjk (q1.symm.trans q2)
      · exact no ⟨k, l', h3, o2, h4⟩
    · rcases own e2 e4 with ⟨q2, rfl⟩ | ⟨_, h3, h4⟩
      · exact no ⟨j, l, h1, o1, h2⟩
      · exact R.sep j k l l' b hjk h1 h3 o1 o2 h2 h4
/-- an owned object changed in place -/
def L.put : L → D → L
  | .d _, x => .d x
  | .m _, x => .m x
  | .r _, x => .r x
  | .xh, _ => .xh
theorem L.put_own (l : L) (x : D) : (l.put x).own = l.own := by cases l <;> rfl
theorem L.put_ism (l : L) (x : D) : (l.put x).ism = l.ism := by cases l <;> rfl
theorem put_ok {i : Nat} {l : L} {a : Addr} {o : HO} {x' : D} (R : Rel K σ G H ρ) (hl : ρ[i]? = some (some l)) (ho : l.own = true) (hv : σ[i]? = some (some (.ref a))) (hm : MOk K G (upd H a o) (.ref a) x') :
    Stp σ ρ G H σ (ρ.set i (some (l.put x'))) G (upd H a o) ∧ Rel K σ G (upd H a o) (ρ.set i (some (l.put x'))) := by
  have hi : i < ρ.length := (List.getElem?_eq_some_iff.mp hl).1
  obtain ⟨b, eb, ga, _⟩ := hm.ref
  cases eb
  have own : ∀ {j : Nat} {l' : L} {b : Addr}, (ρ.set i (some (l.put x')))[j]? = some (some l') → σ[j]? = some (some (.ref b)) → (i = j ∧ l' = l.put x' ∧ b = a) ∨ (i ≠ j ∧ ρ[j]? = some (some l')) := fun {j l' b} e1 e3 => by
    rcases set_get e1 with ⟨hij, e⟩ | ⟨hne, e⟩
    · subst hij
      rw [hv] at e3
      cases Option.some.inj (Option.some.inj e3)
      exact .inl ⟨rfl, (Option.some.inj e).symm, rfl⟩
    · exact .inr ⟨hne, e⟩
  refine ⟨⟨Same.refl _, fun _ _ h => .inl h, fun b u e n => ?_, fun b e => ?_, fun b ⟨j, l', e1, e2, e3⟩ => ?_, fun b ⟨j, l', e1, e2, e3⟩ => ?_, fun j y e => ?_⟩, ⟨fun b u e => ?_, ?_, fun j l' e => ?_, R.exo, fun j k l1 l2 b hjk e1 e2 o1 o2 e3 e4 => ?_⟩⟩
  · have nb : b ≠ a := fun q => by subst q; exact n ⟨i, l, hl, ho, hv⟩
    rw [upd_ne nb]
    exact e
  · by_cases q : b = a
    · subst q
      rw [upd_same]
      exact fun z => nomatch z
    · rw [upd_ne q]
      exact e
  · rcases own e1 e3 with ⟨rfl, rfl, rfl⟩ | ⟨_, h1⟩
    · exact .inl ⟨i, l, hl, ho, hv⟩
    · exact .inl ⟨j, l', h1, e2, e3⟩
  · rcases own e1 e3 with ⟨rfl, rfl, rfl⟩ | ⟨_, h1⟩
    · rw [L.put_ism] at e2
      exact .inl ⟨i, l, hl, e2, hv⟩
    · exact .inl ⟨j, l', h1, e2, e3⟩
  · refine ⟨rfl, ?_⟩
    by_cases q : i = j
    · subst q
      rw [hl] at e
      cases Option.some.inj (Option.some.inj e)
      exact ⟨x', List.getElem?_set_self hi⟩
    · rw [List.getElem?_set_ne q]
      exact ⟨y, e⟩
  · by_cases q : b = a
    · subst q
      rw [ga] at e
      cases e
    · rw [upd_ne q]
      exact R.same b u e
  · rw [List.length_set]
    exact R.len
  · rcases set_get e with ⟨hij, e'⟩ | ⟨hne, e⟩
    · subst hij
      cases Option.some.inj e'
      refine ⟨_, hv, ?_⟩
      cases l with
      | d _ => cases ho
      | m _ => exact hm
      | r _ => exact hm
      | xh => cases ho
    · obtain ⟨u, e1, e2⟩ := R.at_ j l' e
      refine ⟨u, e1, ?_⟩
      have ow : ∀ y, l'.own = true → MOk K G H u y → MOk K G (upd H a o) u y := fun y ol hm => by
        refine hm.mono (Same.refl _) fun c ec => ?_
        subst ec
        obtain ⟨c', ec', gc, _⟩ := hm.ref
        cases ec'
        refine ⟨gc, fun u eu => ?_⟩
        have nc : c ≠ a := fun q => by
          subst q
          exact R.sep i j _ _ c hne hl e ho ol hv e1
        rw [upd_ne nc]
        exact eu
      cases l' with
      | d y => exact e2
      | m y => exact ow y rfl e2
      | r y => exact ow y rfl e2
      | xh => exact e2
  · rcases own e1 e3 with ⟨q1, rfl, rfl⟩ | ⟨h0, h1⟩
    · rcases own e2 e4 with ⟨q2, _, _⟩ | ⟨h2, h3⟩
      · exact hjk (q1.symm.trans q2)
      · exact R.sep i k l l2 b h2 hl h3 ho o2 hv e4
    · rcases own e2 e4 with ⟨q2, rfl, rfl⟩ | ⟨h2, h3⟩
      · exact R.sep i j l l1 b h0 hl h1 ho o1 hv e3
      · exact R.sep j k l1 l2 b hjk h1 h3 o1 o2 e3 e4
/-- a slot forgotten -/
theorem forget_ok {i : Nat} (R : Rel K σ G H ρ) (hr : ∀ x, ρ[i]? ≠ some (some (.r x))) : Stp σ ρ G H σ (ρ.set i none) G H ∧ Rel K σ G H (ρ.set i none) := by
  have own : ∀ {j : Nat} {l : L}, (ρ.set i none)[j]? = some (some l) → ρ[j]? = some (some l) := fun {j l} e1 => by
    rcases set_get e1 with ⟨_, e⟩ | ⟨_, e⟩
    · cases e
    · exact e
  refine ⟨⟨Same.refl _, fun _ _ h => .inl h, fun _ _ h _ => h, fun _ h => h, fun a ⟨j, l, e1, e2, e3⟩ => .inl ⟨j, l, own e1, e2, e3⟩, fun a ⟨j, l, e1, e2, e3⟩ => .inl ⟨j, l, own e1, e2, e3⟩, fun j y e => ⟨rfl, y, ?_⟩⟩, ⟨R.same, by rw [List.length_set]; exact R.len, fun j l e => R.at_ j l (own e), R.exo, fun j k l l' b hjk e1 e2 o1 o2 => R.sep j k l l' b hjk (own e1) (own e2) o1 o2⟩⟩
  have hne : i ≠ j := fun q => by subst q; exact hr y e
  rw [List.getElem?_set_ne hne]
  exact e
end
/-! ### the ends of statements -/
def RtOk (K : Kx) (σ : St) (ρ : Env) (H G' H' : Hp) (v : V) : L → Prop
  | .d x => Dq K G' v x
  | .m x => MOk K G' H' v x ∧ ∀ a, v = .ref a → H a = none ∨ OwnM σ ρ a
  | _ => False
def SPost (K : Kx) (W : WX) (σ : St) (G H : Hp) (ρ : Env) (D : Ends) : Res Fl → Prop
  | .ok .nx ρ' => ∀ σ' G' H', Stp σ ρ G H σ' ρ' G' H' → Rel K σ' G' H' ρ' → D.nx σ' H'
  | .ok .bk ρ' => ∀ σ' G' H', Stp σ ρ G H σ' ρ' G' H' → Rel K σ' G' H' ρ' → D.bk σ' H'
  | .ok .ct ρ' => ∀ σ' G' H', Stp σ ρ G H σ' ρ' G' H' → Rel K σ' G' H' ρ' → D.ct σ' H'
  | .ok (.rt l) ρ' => ∀ σ' v G' H', Stp σ ρ G H σ' ρ' G' H' → Rel K σ' G' H' ρ' → RtOk K σ ρ H G' H' v l → D.rt v H'
  | .ex e ρ' => ∀ c d σ' G' H', Stp σ ρ G H σ' ρ' G' H' → Rel K σ' G' H' ρ' → ExOk K G' c d e → W c d σ' H'
  | .bad => False
def StOk (K : Kx) (W : WX) (t : TS) (m : SM) : Prop := ∀ σ G H ρ, Rel K σ G H ρ → ∀ D, SPost K W σ G H ρ D (m ρ) → t D σ H
section
variable {σ σ1 : St} {G H G1 H1 : Hp} {ρ ρ1 : Env} {D : Ends}
theorem Stp.backS (S : Stp σ ρ G H σ1 ρ1 G1 H1) {a : Addr} (h : H1 a = none) : H a = none := by
  cases e : H a with
  | none => rfl
  | some u => exact absurd h (S.hn a (by rw [e]; exact fun q => nomatch q))
theorem RtOk.step {G' H' : Hp} {v : V} (S : Stp σ ρ G H σ1 ρ1 G1 H1) : ∀ {l : L}, RtOk K σ1 ρ1 H1 G' H' v l → RtOk K σ ρ H G' H' v l
  | .d _, h => h
  | .m _, h => ⟨h.1, fun a e => (h.2 a e).elim (fun z => .inl (S.backS z)) fun z => (S.om a z).elim .inr .inl⟩
  | .r _, h => h
  | .xh, h => h
theorem SPost.step (S : Stp σ ρ G H σ1 ρ1 G1 H1) : ∀ {r : Res Fl}, SPost K W σ G H ρ D r → SPost K W σ1 G1 H1 ρ1 D r
  | .ok .nx _, h => fun σ' G' H' S' => h σ' G' H' (S.trans S')
  | .ok .bk _, h => fun σ' G' H' S' => h σ' G' H' (S.trans S')
  | .ok .ct _, h => fun σ' G' H' S' => h σ' G' H' (S.trans S')
  | .ok (.rt _) _, h => fun σ' v G' H' S' R' q => h σ' v G' H' (S.trans S') R' (RtOk.step S q)
  | .ex _ _, h => fun c d σ' G' H' S' => h c d σ' G' H' (S.trans S')
  | .bad, h => h
theorem SPost.x {e : Exn} {ρ' : Env} (h : SPost K W σ G H ρ D (.ex e ρ')) : XPost K W σ G H ρ e ρ' := fun c d G' H' S R q => h c d σ G' H' S R q
end
theorem SPost.nxEq {σ : St} {G H : Hp} {ρ : Env} {D : Ends} {ρ' : Env} : SPost K W σ G H ρ D (.ok .nx ρ') = ∀ σ' G' H', Stp σ ρ G H σ' ρ' G' H' → Rel K σ' G' H' ρ' → D.nx σ' H' := rfl
def sNop : SM := fun ρ => .ok .nx ρ
theorem st_nop : StOk K W tNext sNop := fun σ G H ρ R D h => h σ G H (Stp.refl _ _ _ _) R
def sBrk : SM := fun ρ => .ok .bk ρ
theorem st_brk : StOk K W tBreak sBrk := fun σ G H ρ R D h => h σ G H (Stp.refl _ _ _ _) R
def sCnt : SM := fun ρ => .ok .ct ρ
theorem st_cnt : StOk K W tCont sCnt := fun σ G H ρ R D h => h σ G H (Stp.refl _ _ _ _) R
def sSeq (m n : SM) : SM := fun ρ => match m ρ with
  | .ok .nx ρ1 => n ρ1
  | r => r
theorem st_seq {t u : TS} {m n : SM} (ht : StOk K W t m) (hu : StOk K W u n) : StOk K W (tSeq t u) (sSeq m n) := fun σ G H ρ R D h => by
  refine ht σ G H ρ R { D with nx := u D } ?_
  unfold sSeq at h
  cases e : m ρ with
  | bad => rw [e] at h; exact h
  | ex x ρ1 => rw [e] at h; exact h
  | ok f ρ1 =>
    rw [e] at h
    cases f with
    | nx => exact fun σ' G' H' S' R' => hu σ' G' H' ρ1 R' D (SPost.step S' h)
    | bk => exact h
    | ct => exact h
    | rt l => exact h
def sIf (c : TM) (m n : SM) : SM := fun ρ => bindR (c ρ) fun b ρ1 => if b = true then m ρ1 else n ρ1
theorem st_if {tc : TT} {t u : TS} {c : TM} {m n : SM} (hc : TvOk K W tc c) (ht : StOk K W t m) (hu : StOk K W u n) : StOk K W (tIfS tc t u) (sIf c m n) := fun σ G H ρ R D h => by
  unfold sIf bindR at h
  refine hc.fst R (fun b ρ1 e G1 H1 S1 R1 => ?_) (fun e ρ1 q => by rw [q] at h; exact SPost.x h) (fun q => by rw [q] at h; exact h)
  rw [e] at h
  have h := SPost.step S1 h
  simp only at h
  split at h
  · rename_i hb
    rw [if_pos hb]
    exact ht _ _ _ _ R1 _ h
  · rename_i hb
    rw [if_neg hb]
    exact hu _ _ _ _ R1 _ h
/-- e as a statement -/
def sDrop (m : EM) : SM := fun ρ => bindR (m ρ) fun _ ρ1 => .ok .nx ρ1
theorem st_drop {t : TE} {m : EM} (ht : EvOk K W t m) : StOk K W (tDrop t) (sDrop m) := fun σ G H ρ R D h => by
  unfold sDrop bindR at h
  refine ht.fst R (fun b ρ1 e v G1 H1 S1 R1 x1 => ?_) (fun e ρ1 q => by rw [q] at h; exact SPost.x h) (fun q => by rw [q] at h; exact h)
  rw [e] at h
  have h := SPost.step S1 h
  exact h σ G1 H1 (Stp.refl _ _ _ _) R1
/-- return e: an object of one's own is handed out -/
def sRet (m : EM) : SM := fun ρ => bindR (m ρ) fun x ρ1 => match x with
  | .d x => .ok (.rt (.d x)) ρ1
  | .s i => match ρ1[i]? with
    | some (some (.m x)) => .ok (.rt (.m x)) (ρ1.set i none)
    | some (some (.d x)) => .ok (.rt (.d x)) ρ1
    | _ => .bad
theorem st_ret {t : TE} {m : EM} (ht : EvOk K W t m) : StOk K W (tRet t) (sRet m) := fun σ G H ρ R D h => by
  unfold sRet bindR at h
  refine ht.fst R (fun b ρ1 e v G1 H1 S1 R1 x1 => ?_) (fun e ρ1 q => by rw [q] at h; exact SPost.x h) (fun q => by rw [q] at h; exact h)
  rw [e] at h
  have h := SPost.step S1 h
  cases b with
  | d y => exact h σ v G1 H1 (Stp.refl _ _ _ _) R1 x1
  | s i =>
    have hv : σ[i]? = some (some v) := x1
    simp only at h
    split at h
    · rename_i x hx
      obtain ⟨u, h1, h2⟩ := R1.at_ i _ hx
      rw [hv] at h1
      cases Option.some.inj (Option.some.inj h1)
      obtain ⟨S2, R2⟩ := forget_ok (i := i) R1 fun y q => by rw [hx] at q; cases q
      refine h σ v G1 H1 S2 R2 ⟨h2, fun a ea => ?_⟩
      subst ea
      exact .inr ⟨i, _, hx, rfl, hv⟩
    · rename_i x hx
      obtain ⟨u, h1, h2⟩ := R1.at_ i _ hx
      rw [hv] at h1
      cases Option.some.inj (Option.some.inj h1)
      exact h σ v G1 H1 (Stp.refl _ _ _ _) R1 h2
    · exact h.elim
def sRetF (m : FM) : SM := fun ρ => bindR (m ρ) fun x ρ1 => .ok (.rt (.m x)) ρ1
theorem st_retF {t : TE} {m : FM} (ht : FvOk K W t m) : StOk K W (tRet t) (sRetF m) := fun σ G H ρ R D h => by
  unfold sRetF bindR at h
  refine ht.fst R (fun b ρ1 e v G1 H1 S1 R1 F => ?_) (fun e ρ1 q => by rw [q] at h; exact SPost.x h) (fun q => by rw [q] at h; exact h)
  rw [e] at h
  exact h σ v G1 H1 S1 R1 ⟨F.1, fun a ea => .inl (F.2 a ea).1⟩
def sRetN : SM := fun ρ => .ok (.rt (.d .non)) ρ
theorem st_retN : StOk K W tRetN sRetN := fun σ G H ρ R D h => h σ _ G H (Stp.refl _ _ _ _) R .non
/-! ### targets -/
abbrev GM := D → Env → Option Env
structure Tg (js : List Nat) (σ σ' : St) (ρ ρ' : Env) : Prop where
  len : σ'.length = σ.length
  out : ∀ i, i ∉ js → σ'[i]? = σ[i]?
  oue : ∀ i, i ∉ js → ρ'[i]? = ρ[i]?
  own : ∀ (i : Nat) (l : L), ρ'[i]? = some (some l) → l.own = true → ρ[i]? = some (some l)
theorem Tg.refl (js : List Nat) (σ : St) (ρ : Env) : Tg js σ σ ρ ρ := ⟨rfl, fun _ _ => rfl, fun _ _ => rfl, fun _ _ h _ => h⟩
theorem Tg.trans {js ks : List Nat} {σ σ1 σ2 : St} {ρ ρ1 ρ2 : Env} (a : Tg js σ σ1 ρ ρ1) (b : Tg ks σ1 σ2 ρ1 ρ2) : Tg (js ++ ks) σ σ2 ρ ρ2 :=
  ⟨b.len.trans a.len, fun i h => (b.out i fun z => h (List.mem_append_right _ z)).trans (a.out i fun z => h (List.mem_append_left _ z)),
    fun i h => (b.oue i fun z => h (List.mem_append_right _ z)).trans (a.oue i fun z => h (List.mem_append_left _ z)), fun i l h o => a.own i l (b.own i l h o) o⟩
def GOk (K : Kx) (js : List Nat) (g : TG) (gm : GM) : Prop := ∀ σ G H ρ v d ρ', Rel K σ G H ρ → Dq K G v d → gm d ρ = some ρ' →
  ∀ Q : St → Hp → Prop, (∀ σ', Tg js σ σ' ρ ρ' → Stp σ ρ G H σ' ρ' G H → Rel K σ' G H ρ' → Q σ' H) → g v σ H Q
def gmName (i : Nat) : GM := fun d ρ => setS ρ i (.d d)
theorem go_name (i : Nat) : GOk K [i] (gName i) (gmName i) := fun σ G H ρ v d ρ' R q e Q h => by
  obtain ⟨S, R'⟩ := setD_ok R q e
  obtain ⟨e', _, hr⟩ := setS_some e
  refine h _ ⟨List.length_set, fun j hj => List.getElem?_set_ne (fun z => hj (by rw [z]; exact List.mem_singleton.mpr rfl)), fun j hj => ?_, fun j l hj ho => ?_⟩ S R'
  · rw [e']
    exact List.getElem?_set_ne (fun z => hj (by rw [z]; exact List.mem_singleton.mpr rfl))
  · rw [e'] at hj
    rcases set_get hj with ⟨_, e⟩ | ⟨_, e⟩
    · cases Option.some.inj e
      cases ho
    · exact e
abbrev GMs := List D → Env → Option Env
def GsOk (K : Kx) (js : List Nat) (g : TGs) (gm : GMs) : Prop := ∀ σ G H ρ vs ds ρ', Rel K σ G H ρ → DqA K G vs ds → gm ds ρ = some ρ' →
  ∀ Q : St → Hp → Prop, (∀ σ', Tg js σ σ' ρ ρ' → Stp σ ρ G H σ' ρ' G H → Rel K σ' G H ρ' → Q σ' H) → g vs σ H Q
def gmNil : GMs := fun ds ρ => match ds with
  | [] => some ρ
  | _ => none
def gmCons (g : GM) (gs : GMs) : GMs := fun ds ρ => match ds with
  | d :: ds => (match g d ρ with
    | some ρ1 => gs ds ρ1
    | none => none)
  | [] => none
theorem gs_nil : GsOk K [] gNil gmNil := fun σ G H ρ vs ds ρ' R q e Q h => by
  cases q with
  | nil =>
    cases Option.some.inj e
    exact ⟨rfl, h σ (Tg.refl _ _ _) (Stp.refl _ _ _ _) R⟩
  | cons _ _ => cases e
theorem gs_cons {js ks : List Nat} {g : TG} {gs : TGs} {gm : GM} {gms : GMs} (hg : GOk K js g gm) (hs : GsOk K ks gs gms) : GsOk K (js ++ ks) (gCons g gs) (gmCons gm gms) := fun σ G H ρ vs ds ρ' R q e Q h => by
  cases q with
  | nil => cases e
  | cons q1 q2 =>
    unfold gmCons at e
    simp only at e
    split at e
    · rename_i ρ1 e1
      refine ⟨_, _, rfl, hg _ _ _ _ _ _ _ R q1 e1 _ fun σ1 T1 S1 R1 => ?_⟩
      refine hs _ _ _ _ _ _ _ R1 q2 e _ fun σ2 T2 S2 R2 => ?_
      exact h σ2 (T1.trans T2) (S1.trans S2) R2
    · cases e
def gmTup (n : Nat) (gs : GMs) : GM := fun d ρ => match d with
  | .tup ds => if ds.length = n then gs ds ρ else none
  | _ => none
theorem go_tup {js : List Nat} {n : Nat} {gs : TGs} {gms : GMs} (hs : GsOk K js gs gms) : GOk K js (gTup K n gs) (gmTup n gms) := fun σ G H ρ v d ρ' R q e Q h => by
  unfold gmTup at e
  split at e
  · rename_i ds
    split at e
    · rename_i hl
      cases q with
      | tup hq qa =>
        exact ⟨_, _, rfl, Same.seqT R.same hq, by rw [qa.length]; exact hl, hs _ _ _ _ _ _ _ R qa e Q h⟩
    · cases e
  · cases e
/-! ### assignments -/
def sAsg (gm : GM) (m : EM) : SM := fun ρ => bindR (m ρ) fun x ρ1 => match fz ρ1 x with
  | some (d, ρ2) => (match gm d ρ2 with
    | some ρ3 => .ok .nx ρ3
    | none => .bad)
  | none => .bad
theorem st_asg {js : List Nat} {t : TE} {g : TG} {m : EM} {gm : GM} (ht : EvOk K W t m) (hg : GOk K js g gm) : StOk K W (tAsg t g) (sAsg gm m) := fun σ G H ρ R D h => by
  unfold sAsg bindR at h
  refine ht.fst R (fun x ρ1 e v G1 H1 S1 R1 x1 => ?_) (fun e ρ1 q => by rw [q] at h; exact SPost.x h) (fun q => by rw [q] at h; exact h)
  rw [e] at h
  have h := SPost.step S1 h
  simp only at h
  split at h
  · rename_i d ρ2 e2
    obtain ⟨G2, S2, R2, q2⟩ := fz_ok R1 x1 e2
    have h := SPost.step S2 h
    split at h
    · rename_i ρ3 e3
      exact hg _ _ _ _ _ _ _ R2 q2 e3 _ fun σ' T S R' => h σ' G2 H1 S R'
    · exact h.elim
  · exact h.elim
/-- a new object that the name will change -/
def sAsgM (i : Nat) (m : FM) : SM := fun ρ => bindR (m ρ) fun x ρ1 => match setS ρ1 i (.m x) with
  | some ρ2 => .ok .nx ρ2
  | none => .bad
theorem st_asgM {i : Nat} {t : TE} {m : FM} (ht : FvOk K W t m) : StOk K W (tAsg t (gName i)) (sAsgM i m) := fun σ G H ρ R D h => by
  unfold sAsgM bindR at h
  refine ht.fst R (fun x ρ1 e v G1 H1 S1 R1 F => ?_) (fun e ρ1 q => by rw [q] at h; exact SPost.x h) (fun q => by rw [q] at h; exact h)
  rw [e] at h
  simp only at h
  split at h
  · rename_i ρ2 e2
    obtain ⟨S2, R2⟩ := setM_ok S1 R1 F e2
    exact h _ G1 H1 S2 R2
  · exact h.elim
/-- a, b = e, f, two names of the def -/
def sPar (i j : Nat) (ma : AM) : SM := fun ρ => bindR (ma ρ) fun xs ρ1 => match fzs ρ1 xs with
  | some ([d, e], ρ2) => (match setS ρ2 i (.d d) with
    | some ρ3 => (match setS ρ3 j (.d e) with
      | some ρ4 => .ok .nx ρ4
      | none => .bad)
    | none => .bad)
  | _ => .bad
theorem st_par {i j : Nat} {t : TA} {m : AM} (ht : AvOk K W t m) : StOk K W (tPar i j t) (sPar i j m) := fun σ G H ρ R D h => by
  unfold sPar bindR at h
  refine ht.fst R (fun x ρ1 e v G1 H1 S1 R1 x1 => ?_) (fun e ρ1 q => by rw [q] at h; exact SPost.x h) (fun q => by rw [q] at h; exact h)
  rw [e] at h
  have h := SPost.step S1 h
  simp only at h
  split at h
  · rename_i d d' ρ2 e2
    obtain ⟨G2, S2, R2, q2⟩ := fzs_ok R1 x1 e2
    have h := SPost.step S2 h
    cases q2 with
    | cons q3 q4 =>
      cases q4 with
      | cons q4 q5 =>
        cases q5
        split at h
        · rename_i ρ3 e3
          obtain ⟨S3, R3⟩ := setD_ok R2 q3 e3
          have h := SPost.step S3 h
          split at h
          · rename_i ρ4 e4
            obtain ⟨S4, R4⟩ := setD_ok R3 q4 e4
            exact ⟨_, _, rfl, h _ G2 H1 S4 R4⟩
          · exact h.elim
        · exact h.elim
  · exact h.elim
/-- x op= e -/
def sAug (i : Nat) (g : D → D → Option D) (m : EM) : SM := fun ρ => match ρ[i]? with
  | some (some (.d a)) => bindR (m ρ) fun y ρ1 => (match look ρ1 y with
    | some b => (match g a b with
      | some d => (match setS ρ1 i (.d d) with
        | some ρ2 => .ok .nx ρ2
        | none => .bad)
      | none => .bad)
    | none => .bad)
  | _ => .bad
theorem st_aug {i : Nat} {g : D → D → Option D} {t : TE} {m : EM} (ht : EvOk K W t m) : StOk K W (tAug i t (rD2 K g)) (sAug i g m) := fun σ G H ρ R D h => by
  unfold sAug at h
  split at h
  · rename_i a ha
    obtain ⟨v, h1, h2⟩ := R.at_ i _ ha
    have h2 : Dq K G v a := h2
    refine ⟨v, h1, ?_⟩
    unfold bindR at h
    refine ht.fst R (fun x ρ1 e u G1 H1 S1 R1 x1 => ?_) (fun e ρ1 q => by rw [q] at h; exact SPost.x h) (fun q => by rw [q] at h; exact h)
    rw [e] at h
    have h := SPost.step S1 h
    simp only at h
    split at h
    · rename_i b eb
      split at h
      · rename_i d hd
        refine ⟨G1, a, b, d, R1.same, Dq.vw R1.same (h2.mono S1.g), look_vw R1 x1 eb, hd, fun w G' H' g q => ?_⟩
        have h := SPost.step (g.stp (σ := σ) (ρ := ρ1)) h
        split at h
        · rename_i ρ2 e2
          obtain ⟨S3, R3⟩ := setD_ok (R1.gro g) q e2
          exact h _ _ _ S3 R3
        · exact h.elim
      · exact h.elim
    · exact h.elim
  · exact h.elim
/-! ### lists changed in place: the object in a slot -/
def ownL (ρ : Env) (i : Nat) : Option (L × List D) := match ρ[i]? with
  | some (some (.m (.lst ds))) => some (.m (.lst ds), ds)
  | some (some (.r (.lst ds))) => some (.r (.lst ds), ds)
  | _ => none
theorem ownL_ok {σ : St} {G H : Hp} {ρ : Env} {i : Nat} {l : L} {ds : List D} (R : Rel K σ G H ρ) (h : ownL ρ i = some (l, ds)) :
    ρ[i]? = some (some l) ∧ l.own = true ∧ ∃ a xs, σ[i]? = some (some (.ref a)) ∧ G a = none ∧ H a = some (.lst xs) ∧ DqA K G xs ds := by
  unfold ownL at h
  split at h
  · rename_i es he
    cases Option.some.inj h
    obtain ⟨v, h1, h2⟩ := R.at_ i _ he
    obtain ⟨a, xs, rfl, h3, h4, h5⟩ := (show MOk K G H v (.lst ds) from h2)
    exact ⟨he, rfl, a, xs, h1, h3, h4, h5⟩
  · rename_i es he
    cases Option.some.inj h
    obtain ⟨v, h1, h2⟩ := R.at_ i _ he
    obtain ⟨a, xs, rfl, h3, h4, h5⟩ := (show MOk K G H v (.lst ds) from h2)
    exact ⟨he, rfl, a, xs, h1, h3, h4, h5⟩
  · cases h
theorem small_lt {n : Nat} (h : n < mx) : n < sizeLine := Nat.lt_of_lt_of_le h (by decide)
/-- xs.append(e) -/
def eApp (i : Nat) (m : EM) : EM := fun ρ => if (ownL ρ i).isSome = true then bindR (m ρ) fun x ρ1 => match fz ρ1 x with
  | some (d, ρ2) => (match ownL ρ2 i with
    | some (l, ds) => if ds.length < mx then .ok (.d .non) (ρ2.set i (some (l.put (.lst (ds ++ [d]))))) else .bad
    | none => .bad)
  | none => .bad
  else .bad
theorem ty_list {a : Addr} {xs : List V} {H : Hp} (h : H a = some (.lst xs)) : tyV K "list" (.ref a) H := .inl ⟨rfl, xs, .inl (.inl h)⟩
/-- the object at a slot: something is there -/
theorem slot_there {σ : St} {G H : Hp} {ρ ρ1 : Env} {G1 H1 : Hp} {i : Nat} {l : L} {ds : List D} (S : Stp σ ρ G H σ ρ1 G1 H1) (R1 : Rel K σ G1 H1 ρ1) (h : ownL ρ1 i = some (l, ds)) : ∃ a, σ[i]? = some (some (.ref a)) ∧ Own σ ρ1 a := by
  obtain ⟨h1, h2, a, xs, h3, _⟩ := ownL_ok R1 h
  exact ⟨a, h3, i, l, h1, h2, h3⟩
theorem ev_app {i : Nat} {t : TE} {m : EM} (ht : EvOk K W t m) : EvOk K W (tBM K "list" rAppend (tVar i) (tCons t tNil)) (eApp i m) := fun σ G H ρ R Q h => by
  unfold eApp at h
  split at h
  · rename_i hh
    obtain ⟨⟨l0, ds0⟩, hl0⟩ := Option.isSome_iff_exists.mp hh
    obtain ⟨_, _, a, xs, hv, _, hH, _⟩ := ownL_ok R hl0
    refine ⟨_, hv, ty_list hH, ?_⟩
    unfold bindR at h
    refine ht.fst R (fun x ρ1 e v G1 H1 S1 R1 x1 => ?_) (fun e ρ1 q => by rw [q] at h; exact h) (fun q => by rw [q] at h; exact h)
    rw [e] at h
    have h := EPost.step S1 h
    simp only at h
    split at h
    · rename_i d ρ2 e2
      obtain ⟨G2, S2, R2, q2⟩ := fz_ok R1 x1 e2
      have h := EPost.step S2 h
      split at h
      · rename_i l ds hl
        split at h
        · rename_i hz
          obtain ⟨k1, k2, b, ys, kv, kG, kH, kq⟩ := ownL_ok R2 hl
          rw [hv] at kv
          cases Option.some.inj (Option.some.inj kv)
          refine ⟨a, ys, v, rfl, rfl, kH, by rw [kq.length]; exact small_lt hz, ?_⟩
          obtain ⟨S3, R3⟩ := put_ok (x' := .lst (ds ++ [d])) (o := .lst (ys ++ [v])) R2 k1 k2 hv ⟨a, _, rfl, kG, upd_same, kq.append (.one q2)⟩
          exact h _ _ _ S3 R3 .non
        · exact h.elim
      · exact h.elim
    · exact h.elim
  · exact h.elim
/-- xs.pop() -/
def ePop (i : Nat) : EM := fun ρ => match ownL ρ i with
  | some (l, ds) => (match ds.getLast? with
    | some d => .ok (.d d) (ρ.set i (some (l.put (.lst ds.dropLast))))
    | none => .bad)
  | none => .bad
theorem ev_pop {i : Nat} : EvOk K W (tBM0 K "list" rPop (tVar i)) (ePop i) := fun σ G H ρ R Q h => by
  unfold ePop at h
  split at h
  · rename_i l ds hl
    obtain ⟨k1, k2, a, ys, hv, kG, kH, kq⟩ := ownL_ok R hl
    split at h
    · rename_i d hd
      rw [List.getLast?_eq_getElem?] at hd
      obtain ⟨v, h1, h2⟩ := kq.get hd
      refine ⟨_, hv, ty_list kH, a, ys, v, rfl, rfl, kH, by rw [kq.length]; exact h1, ?_⟩
      obtain ⟨S3, R3⟩ := put_ok (x' := .lst ds.dropLast) (o := .lst ys.dropLast) R k1 k2 hv ⟨a, _, rfl, kG, upd_same, kq.dropLast⟩
      exact h _ _ _ S3 R3 h2
    · exact h.elim
  · exact h.elim
/-- xs.pop(e) -/
def ePopAt (i : Nat) (m : EM) : EM := fun ρ => if (ownL ρ i).isSome = true then bindR (m ρ) fun x ρ1 => match x, ownL ρ1 i with
  | .d (.int j), some (l, ds) => if -(2 ^ 63) ≤ j ∧ j < 2 ^ 63 then (match seqIndex? j ds.length with
    | some k => (match ds[k]? with
      | some d => .ok (.d d) (ρ1.set i (some (l.put (.lst (ds.eraseIdx k)))))
      | none => .bad)
    | none => .bad) else .bad
  | _, _ => .bad
  else .bad
theorem ev_popAt {i : Nat} {t : TE} {m : EM} (ht : EvOk K W t m) : EvOk K W (tBM K "list" rPopAt (tVar i) (tCons t tNil)) (ePopAt i m) := fun σ G H ρ R Q h => by
  unfold ePopAt at h
  split at h
  · rename_i hh
    obtain ⟨⟨l0, ds0⟩, hl0⟩ := Option.isSome_iff_exists.mp hh
    obtain ⟨_, _, a, xs, hv, _, hH, _⟩ := ownL_ok R hl0
    refine ⟨_, hv, ty_list hH, ?_⟩
    unfold bindR at h
    refine ht.fst R (fun x ρ1 e v G1 H1 S1 R1 x1 => ?_) (fun e ρ1 q => by rw [q] at h; exact h) (fun q => by rw [q] at h; exact h)
    rw [e] at h
    have h := EPost.step S1 h
    simp only at h
    rcases hl : ownL ρ1 i with _ | ⟨l, ds⟩
    · rw [hl] at h
      cases x with
      | s _ => exact h.elim
      | d z => cases z <;> exact h.elim
    rw [hl] at h
    cases x with
    | s _ => exact h.elim
    | d z =>
      cases z <;> first | exact h.elim | skip
      simp only at h
      split at h
      · rename_i hz
        split at h
        · rename_i k hk
          split at h
          · rename_i d hd
            obtain ⟨k1, k2, b, ys, kv, kG, kH, kq⟩ := ownL_ok R1 hl
            rw [hv] at kv
            cases Option.some.inj (Option.some.inj kv)
            cases x1
            obtain ⟨v, h1, h2⟩ := kq.get hd
            refine ⟨a, ys, _, k, v, rfl, rfl, kH, hz.1, hz.2, by rw [kq.length]; exact hk, h1, ?_⟩
            obtain ⟨S3, R3⟩ := put_ok (x' := .lst (ds.eraseIdx k)) (o := .lst (ys.eraseIdx k)) R1 k1 k2 hv ⟨a, _, rfl, kG, upd_same, kq.eraseIdx k⟩
            exact h _ _ _ S3 R3 h2
          · exact h.elim
        · exact h.elim
      · exact h.elim
  · exact h.elim
/-- xs[e] = f -/
def sSetL (i : Nat) (mi mv : EM) : SM := fun ρ => bindR (mv ρ) fun x ρ1 => match fz ρ1 x with
  | some (d, ρ2) => if (ownL ρ2 i).isSome = true then bindR (mi ρ2) fun y ρ3 => (match y, ownL ρ3 i with
    | .d (.int j), some (l, ds) => (match ixN ds.length j with
      | some k => .ok .nx (ρ3.set i (some (l.put (.lst (ds.set k d)))))
      | none => .bad)
    | _, _ => .bad) else .bad
  | none => .bad
theorem st_setL {i : Nat} {tv ti : TE} {mv mi : EM} (hv : EvOk K W tv mv) (hi : EvOk K W ti mi) : StOk K W (tAsg tv (gSub (tVar i) ti rSetL)) (sSetL i mi mv) := fun σ G H ρ R D h => by
  unfold sSetL bindR at h
  refine hv.fst R (fun x ρ1 e v G1 H1 S1 R1 x1 => ?_) (fun e ρ1 q => by rw [q] at h; exact SPost.x h) (fun q => by rw [q] at h; exact h)
  rw [e] at h
  have h := SPost.step S1 h
  simp only at h
  split at h
  · rename_i d ρ2 e2
    obtain ⟨G2, S2, R2, q2⟩ := fz_ok R1 x1 e2
    have h := SPost.step S2 h
    split at h
    · rename_i hh
      obtain ⟨⟨l0, ds0⟩, hl0⟩ := Option.isSome_iff_exists.mp hh
      obtain ⟨_, _, a, xs, hv, _, _, _⟩ := ownL_ok R2 hl0
      refine ⟨_, hv, ?_⟩
      refine hi.fst R2 (fun y ρ3 e3 u G3 H3 S3 R3 x3 => ?_) (fun e ρ1 q => by rw [q] at h; exact SPost.x h) (fun q => by rw [q] at h; exact h)
      rw [e3] at h
      have h := SPost.step S3 h
      simp only at h
      rcases hl : ownL ρ3 i with _ | ⟨l, ds⟩
      · rw [hl] at h
        cases y with
        | s _ => exact h.elim
        | d z => cases z <;> exact h.elim
      rw [hl] at h
      cases y with
      | s _ => exact h.elim
      | d z =>
        cases z <;> first | exact h.elim | skip
        simp only at h
        split at h
        · rename_i k hk
          obtain ⟨k1, k2, b, ys, kv, kG, kH, kq⟩ := ownL_ok R3 hl
          rw [hv] at kv
          cases Option.some.inj (Option.some.inj kv)
          cases x3
          refine ⟨a, ys, _, k, rfl, rfl, kH, by rw [kq.length]; exact hk, ?_⟩
          obtain ⟨S4, R4⟩ := put_ok (x' := .lst (ds.set k d)) (o := .lst (ys.set k v)) R3 k1 k2 hv ⟨a, _, rfl, kG, upd_same, kq.set k (q2.mono S3.g)⟩
          exact h _ _ _ S4 R4
        · exact h.elim
    · exact h.elim
  · exact h.elim
end DL
set_option Elab.async false
set_option linter.all false
set_option maxRecDepth 100000
set_option maxHeartbeats 4000000
/-! ranges of any size -/
namespace L2
open PySem PySem.Spec PyProof.Rows
theorem long_turn {P : Program} {w : World} {K : PySem.W.Frag} {tg : Expr} (it : Addr) (lo : Int) (n : Nat) : Turn P w K tg (Itr lo n) [it] it (fun i g => IsLongIter g it (lo + (i : Nat) * 1) ((n : Int) - (i : Nat)) 1) where
  mem := List.mem_singleton.mpr rfl
  obj := fun i g st b hb => by
    cases List.mem_singleton.mp hb
    exact ⟨_, st, fun v z => by
      have z' : Data.fields _ = Data.cell v := z
      cases z'⟩
  keep := fun i g g' st k => k it (List.mem_singleton.mpr rfl) _ st
  item := by
    intro X hP hw hK hc i pins s σ H E I hf st hg
    subst hP hw hK
    have hf1 := hf it (List.mem_singleton.mpr rfl)
    have W := Walks.longrange (prog := X.prog) (w := X.w) (I.ok.hd hc) it lo 1 n
    refine W.item i s _ _ hg st fun v g' tk hv st' kk => ?_
    obtain ⟨t, rfl⟩ := hv
    have I1 : Inv X pins σ H { s with heap := g', toks := tk } := I.turned (fun b o hb e => kk b o (fun z => hb (List.mem_singleton.mp z)) e) hf1.1 hf1.2.1 hf1.2.2.2.1 hf1.2.2.2.2.1 hf1.2.2.2.2.2
    refine ⟨_, rfl, go_of (s := { s with heap := g', toks := tk }) (n := "longrange_iterator") st' rfl rfl (by decide) ⟨.int (lo + i), H, I1, ⟨t, ?_⟩, ⟨rfl, rfl⟩, st', fun b hb => (hf b hb).1⟩⟩
    rw [Int.mul_one]
  done := by
    intro X hP hw hK hc i pins s σ H E I hf st hg
    subst hP hw hK
    have hf1 := hf it (List.mem_singleton.mpr rfl)
    exact wpAny_pyNext_long_end (I.ok.hd hc) st (by have : n ≤ i := hg; omega) fun g' eb => ⟨rfl, I.turned (t' := s.toks) (fun b o hb e => eb b o hb e) hf1.1 hf1.2.1 hf1.2.2.2.1 hf1.2.2.2.2.1 hf1.2.2.2.2.2⟩
  self := fun _ _ _ _ _ st q => wpAny_pyIter_longiter st q
section
variable {X : Cx} {tg : Expr}
theorem rg_it {pins : List (Addr × Obj)} {σ : St} {H : Hp} {s : Shared} {R : It → Hp → Prop} {E : Value → Shared → Prop} {lo hi : Int} {t u v : Tok} {tk : Nat} (I : Inv X pins σ H s) (q : R (Itr lo (hi - lo).toNat) H) :
    wpAny (model X.prog X.w) X.A (pyIter (.ref s.heap.objs.size)) (PIE X pins σ tg R) E { s with heap := s.heap.push { cls := .type "range", data := .fields #[.int lo t, .int hi u, .int 1 v] }, toks := tk } := by
  have I1 : Inv X pins σ H { s with heap := s.heap.push { cls := .type "range", data := .fields #[.int lo t, .int hi u, .int 1 v] }, toks := tk } := I.kept fun b o e => Heap.get?_push_of_some _ e
  have e1 : lo + ((0 : Nat) : Int) * 1 = lo := by omega
  have e2 : (((hi - lo).toNat : Nat) : Int) - ((0 : Nat) : Int) = Builtin.Range.rangeSize lo hi 1 := by rw [rangeSize_one]; split <;> omega
  cases hs : Builtin.Range.small lo hi 1 with
  | true =>
    refine wpAny_pyIter_range (IsRange.new ..) hs ?_
    refine ⟨_, [_], _, _, H, rfl, I1.kept (t' := tk) fun b o e => Heap.get?_push_of_some _ e, turn_range _ lo (hi - lo).toNat, ?_, fun b hb => ?_, q⟩
    · show IsRangeIter _ _ (lo + ((0 : Nat) : Int) * 1) ((((hi - lo).toNat : Nat) : Int) - ((0 : Nat) : Int)) 1
      rw [e1, e2]
      exact Heap.get?_push_size _ rfl
    · cases List.mem_singleton.mp hb
      exact I1.fpOk (Nat.le_refl _) (I1.hok.fresh (Nat.le_refl _))
  | false =>
    refine wpAny_pyIter_longrange (IsRange.new ..) hs ?_
    refine ⟨_, [_], _, _, H, rfl, I1.kept (t' := tk) fun b o e => Heap.get?_push_of_some _ e, long_turn _ lo (hi - lo).toNat, ?_, fun b hb => ?_, q⟩
    · show IsLongIter _ _ (lo + ((0 : Nat) : Int) * 1) ((((hi - lo).toNat : Nat) : Int) - ((0 : Nat) : Int)) 1
      rw [e1, e2]
      exact Heap.get?_push_size _ rfl
    · cases List.mem_singleton.mp hb
      exact I1.fpOk (Nat.le_refl _) (I1.hok.fresh (Nat.le_refl _))
def jRng1 (ta : TA) : TI := fun σ H R => ta σ H fun vs H1 => ∃ j : Int, vs = [.int j] ∧ R (Itr 0 j.toNat) H1
def jRng2 (ta : TA) : TI := fun σ H R => ta σ H fun vs H1 => ∃ i j : Int, vs = [.int i, .int j] ∧ R (Itr i (j - i).toNat) H1
theorem pj_range1 {a : Expr} {ta : TA} {p pos : Pos} (hg : Gl X "range") (hm : X.mg "range" = none) (ha : PA X [a] ta) (hs : starEach [a] X.env = [(false, eval a X.env)] := by rfl) : PI X tg (.Call (.Name "range" p) [a] [] pos) (jRng1 ta) := by
  refine ⟨fun pins s σ H R I g => ?_⟩
  refine Call_ (ld_blt I hg hm boot_range (PyProof.Rows.callWith_type1 (thn (ha.run pos pins s σ H _ I g) fun us s1 ⟨vs, H1, I1, r1, j, e, q⟩ => ?_) hs rfl))
  subst e
  cases r1 with
  | cons r rr =>
    cases rr
    obtain ⟨t, rfl⟩ := r
    exact call_range_1 (rg_it I1 (by simpa using q))
theorem pj_range2 {a b : Expr} {ta : TA} {p pos : Pos} (hg : Gl X "range") (hm : X.mg "range" = none) (ha : PA X [a, b] ta) (hs : starEach [a, b] X.env = [(false, eval a X.env), (false, eval b X.env)] := by rfl) (hs2 : starEach [b] X.env = [(false, eval b X.env)] := by rfl) :
    PI X tg (.Call (.Name "range" p) [a, b] [] pos) (jRng2 ta) := by
  refine ⟨fun pins s σ H R I g => ?_⟩
  refine Call_ (ld_blt I hg hm boot_range (PyProof.Rows.callWith_type1 (thn (ha.run pos pins s σ H _ I g) fun us s1 ⟨vs, H1, I1, r1, i, j, e, q⟩ => ?_) (by rw [hs, hs2]) (by rw [hs2]; rfl)))
  subst e
  cases r1 with
  | cons r rr =>
    cases rr with
    | cons r' rr =>
      cases rr
      obtain ⟨t, rfl⟩ := r
      obtain ⟨t', rfl⟩ := r'
      exact call_range_2 (rg_it I1 q)
end
end L2
set_option Elab.async false
set_option linter.all false
set_option maxRecDepth 100000
set_option maxHeartbeats 4000000
/-! loops, comprehensions -/
namespace DL
open PySem L2
variable {K : Kx} {W : WX}
/-! ### what is walked -/
abbrev IM := Env → Res (List D)
def Walk (K : Kx) (G : Hp) (J : It) (ds : List D) : Prop := ∀ G1 H1, Same G G1 → Same G1 H1 →
  (∀ i d, ds[i]? = some d → J.go i H1 ∧ ∀ x H', J.yld i H1 x H' → ∃ G2, Gro G1 H1 G2 H' ∧ Dq K G2 x d) ∧ J.stop ds.length H1
def IPost (K : Kx) (W : WX) (σ : St) (G H : Hp) (ρ : Env) (Q : It → Hp → Prop) : Res (List D) → Prop
  | .ok ds ρ' => ∀ J G' H', Stp σ ρ G H σ ρ' G' H' → Rel K σ G' H' ρ' → Walk K G' J ds → Q J H'
  | .ex e ρ' => XPost K W σ G H ρ e ρ'
  | .bad => False
def IvOk (K : Kx) (W : WX) (t : TI) (m : IM) : Prop := ∀ σ G H ρ, Rel K σ G H ρ → ∀ Q, IPost K W σ G H ρ Q (m ρ) → t σ H Q
theorem IPost.step {σ : St} {G H G1 H1 : Hp} {ρ ρ1 : Env} {Q : It → Hp → Prop} (S : Stp σ ρ G H σ ρ1 G1 H1) : ∀ {r : Res (List D)}, IPost K W σ G H ρ Q r → IPost K W σ G1 H1 ρ1 Q r
  | .ok _ _, h => fun J G' H' S' => h J G' H' (S.trans S')
  | .ex _ _, h => XPost.step S h
  | .bad, h => h
theorem IvOk.fst {σ : St} {G H : Hp} {ρ : Env} {t : TI} {m : IM} (h : IvOk K W t m) (R : Rel K σ G H ρ) {T : It → Hp → Prop}
    (k : ∀ x ρ1, m ρ = .ok x ρ1 → ∀ J G1 H1, Stp σ ρ G H σ ρ1 G1 H1 → Rel K σ G1 H1 ρ1 → Walk K G1 J x → T J H1) (kx : ∀ e ρ1, m ρ = .ex e ρ1 → XPost K W σ G H ρ e ρ1) (kb : m ρ ≠ .bad) : t σ H T := by
  refine h σ G H ρ R T ?_
  cases e : m ρ with
  | ok x ρ1 => exact fun J G1 H1 S R X => k x ρ1 e J G1 H1 S R X
  | ex e' ρ1 => exact kx e' ρ1 e
  | bad => exact absurd e kb
/-- a list or a tuple -/
def iSeq (K : PySem.W.Frag) (tl : TE) : TI := fun σ H R => tl σ H fun x H1 => (∃ a, x = .ref a ∧ (∃ xs, SqL K H1 a xs) ∧ R (Itl K a) H1) ∨ (∃ a, x = .ref a ∧ (∃ xs, SqT K H1 a xs) ∧ R (Itt K a) H1)
theorem pi_seq {X : Cx} {tg l : Expr} {tl : TE} (hl : PE X l tl) : PI X tg l (iSeq X.K tl) := by
  refine ⟨fun pins s σ H R I h => ?_⟩
  refine thn (hl.run pins s σ H _ I h) fun v s1 ⟨x, H1, I1, r1, q1⟩ => ?_
  rcases q1 with ⟨a, e, ⟨xs, hq⟩, q⟩ | ⟨a, e, ⟨xs, hq⟩, q⟩
  · subst e
    cases r1
    obtain ⟨its, rv, p, hz⟩ := I1.list hq
    refine wpAny_pyIter_list p.isList ?_
    refine ⟨s1.heap.objs.size, [s1.heap.objs.size], _, _, H1, rfl, I1.kept (t' := s1.toks) fun b o e => Heap.get?_push_of_some _ e, turn_list a _, ⟨_, Heap.get?_push_size _ rfl, rfl, rfl⟩, fun b hb => ?_, q⟩
    have e : b = s1.heap.objs.size := by simpa using hb
    subst e
    exact I1.fpOk (Nat.le_refl _) (I1.hok.fresh (Nat.le_refl _))
  · subst e
    cases r1
    obtain ⟨its, rv, p, hz⟩ := I1.tuple hq
    refine wpAny_pyIter_tuple (show s1.heap.IsTuple a its.toArray from p) ?_
    refine ⟨s1.heap.objs.size, [s1.heap.objs.size], _, _, H1, rfl, I1.kept (t' := s1.toks) fun b o e => Heap.get?_push_of_some _ e, turn_tuple a _, ⟨_, Heap.get?_push_size _ rfl, rfl, rfl⟩, fun b hb => ?_, q⟩
    have e : b = s1.heap.objs.size := by simpa using hb
    subst e
    exact I1.fpOk (Nat.le_refl _) (I1.hok.fresh (Nat.le_refl _))
def mSeq (m : EM) : IM := fun ρ => bindR (m ρ) fun x ρ1 => match fz ρ1 x with
  | some (.lst ds, ρ2) => .ok ds ρ2
  | some (.ro ds, ρ2) => .ok ds ρ2
  | some (.tup ds, ρ2) => .ok ds ρ2
  | _ => .bad
theorem sq_uniqL {H : Hp} {a : Addr} {xs ys : List V} (h : H a = some (.lst xs)) (h' : H a = some (.lst ys)) : xs = ys := by
  rw [h] at h'
  cases h'
  rfl
theorem iv_seq {t : TE} {m : EM} (ht : EvOk K W t m) : IvOk K W (iSeq K t) (mSeq m) := fun σ G H ρ R Q h => by
  unfold mSeq bindR at h
  refine ht.fst R (fun x ρ1 e v G1 H1 S1 R1 x1 => ?_) (fun e ρ1 q => by rw [q] at h; exact h) (fun q => by rw [q] at h; exact h)
  rw [e] at h
  have h := IPost.step S1 h
  simp only at h
  split at h
  · rename_i ds ρ2 e2
    obtain ⟨G2, S2, R2, q2⟩ := fz_ok R1 x1 e2
    have h := IPost.step S2 h
    cases q2 with
    | lst hq' ha =>
      rename_i a xs
      have hq : SqL K.k G2 a xs := .inl (.inl hq')
      refine .inl ⟨a, rfl, ⟨xs, R2.same.seq hq⟩, h _ G2 H1 (Stp.refl _ _ _ _) R2 fun G3 H3 s1 s2 => ⟨fun i d hd => ?_, ?_⟩⟩
      · obtain ⟨u, h1, h2⟩ := ha.get hd
        refine ⟨⟨xs, u, s2.seq (s1.seq hq), h1⟩, fun y H' ⟨e1, e2⟩ => ?_⟩
        subst e1
        have e3 := e2 xs (s2.seq (s1.seq hq))
        rw [h1] at e3
        cases Option.some.inj e3
        exact ⟨G3, Gro.refl s2, h2.mono s1⟩
      · exact ⟨xs, s2.seq (s1.seq hq), by rw [ha.length]; exact Nat.le_refl _⟩
  · rename_i ds ρ2 e2
    obtain ⟨G2, S2, R2, q2⟩ := fz_ok R1 x1 e2
    have h := IPost.step S2 h
    cases q2 with
    | ro hq ha =>
      rename_i a xs
      refine .inl ⟨a, rfl, ⟨xs, R2.same.seq hq⟩, h _ G2 H1 (Stp.refl _ _ _ _) R2 fun G3 H3 s1 s2 => ⟨fun i d hd => ?_, ?_⟩⟩
      · obtain ⟨u, h1, h2⟩ := ha.get hd
        refine ⟨⟨xs, u, s2.seq (s1.seq hq), h1⟩, fun y H' ⟨e1, e2⟩ => ?_⟩
        subst e1
        have e3 := e2 xs (s2.seq (s1.seq hq))
        rw [h1] at e3
        cases Option.some.inj e3
        exact ⟨G3, Gro.refl s2, h2.mono s1⟩
      · exact ⟨xs, s2.seq (s1.seq hq), by rw [ha.length]; exact Nat.le_refl _⟩
  · rename_i ds ρ2 e2
    obtain ⟨G2, S2, R2, q2⟩ := fz_ok R1 x1 e2
    have h := IPost.step S2 h
    cases q2 with
    | tup hq ha =>
      rename_i a xs
      refine .inr ⟨a, rfl, ⟨xs, Same.seqT R2.same hq⟩, h _ G2 H1 (Stp.refl _ _ _ _) R2 fun G3 H3 s1 s2 => ⟨fun i d hd => ?_, ?_⟩⟩
      · obtain ⟨u, h1, h2⟩ := ha.get hd
        refine ⟨⟨xs, u, Same.seqT s2 (Same.seqT s1 hq), h1⟩, fun y H' ⟨e1, e2⟩ => ?_⟩
        subst e1
        have e3 := e2 xs (Same.seqT s2 (Same.seqT s1 hq))
        rw [h1] at e3
        cases Option.some.inj e3
        exact ⟨G3, Gro.refl s2, h2.mono s1⟩
      · exact ⟨xs, Same.seqT s2 (Same.seqT s1 hq), by rw [ha.length]; exact Nat.le_refl _⟩
  · exact h.elim
/-- ranges -/
def rangeD (lo : Int) (n : Nat) : List D := (List.range n).map fun (k : Nat) => D.int (lo + (k : Int))
theorem walk_range {G : Hp} (lo : Int) (n : Nat) : Walk K G (Itr lo n) (rangeD lo n) := fun G1 H1 _ s2 => by
  refine ⟨fun i d hd => ?_, ?_⟩
  · unfold rangeD at hd
    rw [List.getElem?_map] at hd
    by_cases hi : i < n
    · rw [List.getElem?_range hi] at hd
      cases Option.some.inj hd
      refine ⟨hi, fun x H' ⟨e1, e2⟩ => ?_⟩
      subst e1
      subst e2
      exact ⟨G1, Gro.refl s2, .int _⟩
    · rw [List.getElem?_eq_none (by simpa using hi)] at hd
      cases hd
  · show n ≤ (rangeD lo n).length
    unfold rangeD
    simp
/-- a bound of a range: any number -/
def rgOk (j : Int) : Prop := j = j
instance (j : Int) : Decidable (rgOk j) := inferInstanceAs (Decidable (_ = _))
def mRng1 (ma : AM) : IM := fun ρ => bindR (ma ρ) fun xs ρ1 => match xs with
  | [.d (.int j)] => if rgOk j then .ok (rangeD 0 j.toNat) ρ1 else .bad
  | _ => .bad
theorem iv_rng1 {t : TA} {m : AM} (ht : AvOk K W t m) : IvOk K W (jRng1 t) (mRng1 m) := fun σ G H ρ R Q h => by
  unfold mRng1 bindR at h
  refine ht.fst R (fun x ρ1 e v G1 H1 S1 R1 x1 => ?_) (fun e ρ1 q => by rw [q] at h; exact h) (fun q => by rw [q] at h; exact h)
  rw [e] at h
  have h := IPost.step S1 h
  simp only at h
  split at h
  · split at h
    · rename_i hz
      cases x1 with
      | cons y1 y2 =>
        cases y2
        cases y1
        exact ⟨_, rfl, h _ G1 H1 (Stp.refl _ _ _ _) R1 (walk_range _ _)⟩
    · exact h.elim
  · exact h.elim
def mRng2 (ma : AM) : IM := fun ρ => bindR (ma ρ) fun xs ρ1 => match xs with
  | [.d (.int i), .d (.int j)] => if rgOk i ∧ rgOk j then .ok (rangeD i (j - i).toNat) ρ1 else .bad
  | _ => .bad
theorem iv_rng2 {t : TA} {m : AM} (ht : AvOk K W t m) : IvOk K W (jRng2 t) (mRng2 m) := fun σ G H ρ R Q h => by
  unfold mRng2 bindR at h
  refine ht.fst R (fun x ρ1 e v G1 H1 S1 R1 x1 => ?_) (fun e ρ1 q => by rw [q] at h; exact h) (fun q => by rw [q] at h; exact h)
  rw [e] at h
  have h := IPost.step S1 h
  simp only at h
  split at h
  · split at h
    · rename_i hz
      cases x1 with
      | cons y1 y2 =>
        cases y2 with
        | cons y2 y3 =>
          cases y3
          cases y1
          cases y2
          exact ⟨_, _, rfl, h _ G1 H1 (Stp.refl _ _ _ _) R1 (walk_range _ _)⟩
    · exact h.elim
  · exact h.elim
/-! ### for -/
def forGo (gm : GM) (b : SM) : List D → SM
  | [] => fun ρ => .ok .nx ρ
  | d :: ds => fun ρ => match gm d ρ with
    | none => .bad
    | some ρ1 => (match b ρ1 with
      | .ok .nx ρ2 => forGo gm b ds ρ2
      | .ok .ct ρ2 => forGo gm b ds ρ2
      | .ok .bk ρ2 => .ok .nx ρ2
      | r => r)
def sFor (im : IM) (gm : GM) (b : SM) : SM := fun ρ => bindR (im ρ) fun ds ρ1 => forGo gm b ds ρ1
theorem drop_get {α : Type} {xs : List α} {i : Nat} {x : α} (h : xs[i]? = some x) : xs.drop i = x :: xs.drop (i + 1) := by
  obtain ⟨hi, e⟩ := List.getElem?_eq_some_iff.mp h
  rw [List.drop_eq_getElem_cons hi, e]
theorem st_for {js : List Nat} {wi : TI} {g : TG} {tb : TS} {im : IM} {gm : GM} {b : SM} (hi : IvOk K W wi im) (hg : GOk K js g gm) (hb : StOk K W tb b) : StOk K W (tFor wi g tb) (sFor im gm b) := fun σ G H ρ R D h => by
  unfold sFor bindR at h
  refine hi.fst R (fun ds ρ1 e J G1 H1 S1 R1 wk => ?_) (fun e ρ1 q => by rw [q] at h; exact SPost.x h) (fun q => by rw [q] at h; exact h)
  rw [e] at h
  have h := SPost.step S1 h
  simp only at h
  refine ⟨fun i m σ' H' => m = ds.length - i ∧ i ≤ ds.length ∧ ∃ G' ρ', Same G1 G' ∧ Rel K σ' G' H' ρ' ∧ SPost K W σ' G' H' ρ' D (forGo gm b (ds.drop i) ρ'), ⟨ds.length, by simp, Nat.zero_le _, G1, ρ1, Same.refl _, R1, by simpa using h⟩, ?_⟩
  rintro i m σ' H' ⟨rfl, hi, G', ρ', sG, R', h'⟩
  obtain ⟨go, stop⟩ := wk G' H' sG R'.same
  by_cases hlt : i < ds.length
  · obtain ⟨d, hd⟩ : ∃ d, ds[i]? = some d := ⟨ds[i], List.getElem?_eq_getElem hlt⟩
    obtain ⟨hgo, hy⟩ := go i d hd
    refine .inr ⟨hgo, fun σ2 H2 => ∃ G2 ρ2, Same G1 G2 ∧ Rel K σ2 G2 H2 ρ2 ∧ SPost K W σ2 G2 H2 ρ2 D (forGo gm b (ds.drop (i + 1)) ρ2), fun σ2 H2 ⟨G2, ρ2, s2, R2, h2⟩ => ⟨ds.length - (i + 1), by omega, rfl, hlt, G2, ρ2, s2, R2, h2⟩, fun x H2 y => ?_⟩
    obtain ⟨G2, gr, q2⟩ := hy x H2 y
    rw [drop_get hd] at h'
    unfold forGo at h'
    have h' := SPost.step gr.stp h'
    have R2 := R'.gro gr
    split at h'
    · exact h'.elim
    · rename_i ρ2 e2
      refine hg _ _ _ _ _ _ _ R2 q2 e2 _ fun σ2 T S3 R3 => ?_
      have h' := SPost.step S3 h'
      refine hb σ2 G2 H2 ρ2 R3 _ ?_
      have sg : Same G1 G2 := sG.trans gr.g
      cases eb : b ρ2 with
      | bad => rw [eb] at h'; exact h'
      | ex x ρ3 => rw [eb] at h'; exact h'
      | ok f ρ3 =>
        rw [eb] at h'
        cases f with
        | nx => exact fun σ4 G4 H4 S4 R4 => ⟨G4, ρ3, sg.trans S4.g, R4, SPost.step S4 h'⟩
        | ct => exact fun σ4 G4 H4 S4 R4 => ⟨G4, ρ3, sg.trans S4.g, R4, SPost.step S4 h'⟩
        | bk => exact fun σ4 G4 H4 S4 R4 => h' σ4 G4 H4 S4 R4
        | rt l => exact h'
  · have ei : i = ds.length := by omega
    subst ei
    rw [List.drop_length] at h'
    exact .inl ⟨stop, h' σ' G' H' (Stp.refl _ _ _ _) R'⟩
/-! ### while: n bounds the turns -/
def whGo (c : TM) (b : SM) : Nat → SM
  | 0 => fun _ => .bad
  | n + 1 => fun ρ => bindR (c ρ) fun t ρ1 => if t = true then (match b ρ1 with
      | .ok .nx ρ2 => whGo c b n ρ2
      | .ok .ct ρ2 => whGo c b n ρ2
      | .ok .bk ρ2 => .ok .nx ρ2
      | r => r) else .ok .nx ρ1
def sWhile (n : Nat) (c : TM) (b : SM) : SM := whGo c b n
theorem st_while {n : Nat} {tc : TT} {tb : TS} {c : TM} {b : SM} (hc : TvOk K W tc c) (hb : StOk K W tb b) : StOk K W (tWhile tc tb) (sWhile n c b) := fun σ G H ρ R D h => by
  refine ⟨fun m σ' H' => ∃ G' ρ', Rel K σ' G' H' ρ' ∧ SPost K W σ' G' H' ρ' D (whGo c b m ρ'), ⟨n, G, ρ, R, h⟩, ?_⟩
  rintro m σ' H' ⟨G', ρ', R', h'⟩
  cases m with
  | zero => exact h'.elim
  | succ m =>
    unfold whGo bindR at h'
    refine hc.fst R' (fun t ρ1 e G1 H1 S1 R1 => ?_) (fun e ρ1 q => by rw [q] at h'; exact SPost.x h') (fun q => by rw [q] at h'; exact h')
    rw [e] at h'
    have h' := SPost.step S1 h'
    simp only at h'
    split at h'
    · rename_i ht
      rw [if_pos ht]
      refine ⟨fun σ2 H2 => ∃ G2 ρ2, Rel K σ2 G2 H2 ρ2 ∧ SPost K W σ2 G2 H2 ρ2 D (whGo c b m ρ2), fun σ2 H2 z => ⟨m, Nat.lt_succ_self _, z⟩, hb σ' G1 H1 ρ1 R1 _ ?_⟩
      cases eb : b ρ1 with
      | bad => rw [eb] at h'; exact h'
      | ex x ρ3 => rw [eb] at h'; exact h'
      | ok f ρ3 =>
        rw [eb] at h'
        cases f with
        | nx => exact fun σ4 G4 H4 S4 R4 => ⟨G4, ρ3, R4, SPost.step S4 h'⟩
        | ct => exact fun σ4 G4 H4 S4 R4 => ⟨G4, ρ3, R4, SPost.step S4 h'⟩
        | bk => exact fun σ4 G4 H4 S4 R4 => h' σ4 G4 H4 S4 R4
        | rt l => exact h'
    · rename_i ht
      rw [if_neg ht]
      exact h' σ' G1 H1 (Stp.refl _ _ _ _) R1
/-! ### list comprehensions -/
def wipeE (ρ : Env) : List Nat → Env
  | [] => ρ
  | j :: js => (wipeE ρ js).set j none
/-- the slots js as they were in ρ0 -/
def restE (ρ0 ρ : Env) : List Nat → Env
  | [] => ρ
  | j :: js => match ρ0[j]? with
    | some o => (restE ρ0 ρ js).set j o
    | none => restE ρ0 ρ js
def clean (ρ : Env) : List Nat → Bool
  | [] => true
  | j :: js => (match ρ[j]? with
    | some none => true
    | some (some (.d _)) => true
    | _ => false) && clean ρ js
def lcGo (js : List Nat) (gm : GM) (mt : TM) (me : EM) (ρ0 : Env) : List D → List D → Env → Res (List D)
  | [], acc, ρ => .ok acc ρ
  | d :: ds, acc, ρ => match gm d (wipeE ρ js) with
    | none => .bad
    | some ρ1 => bindR (mt ρ1) fun t ρ2 => if t = true then bindR (me ρ2) fun x ρ3 => (match fz ρ3 x with
        | some (y, ρ4) => if acc.length < mx then lcGo js gm mt me ρ0 ds (acc ++ [y]) (restE ρ0 ρ4 js) else .bad
        | none => .bad)
      else lcGo js gm mt me ρ0 ds acc (restE ρ0 ρ2 js)
def fLc (im : IM) (js : List Nat) (gm : GM) (mt : TM) (me : EM) : FM := fun ρ => bindR (im ρ) fun ds ρ1 => if clean ρ1 js = true then (match lcGo js gm mt me ρ1 ds [] ρ1 with
    | .ok acc ρ2 => .ok (.lst acc) ρ2
    | _ => .bad) else .bad
theorem wipeE_get {ρ : Env} {i : Nat} : ∀ {js : List Nat}, i ∉ js → (wipeE ρ js)[i]? = ρ[i]?
  | [], _ => rfl
  | j :: js, h => by
    unfold wipeE
    rw [List.getElem?_set_ne (fun z => h (by rw [z]; exact List.mem_cons_self))]
    exact wipeE_get fun z => h (List.mem_cons_of_mem _ z)
theorem wipeE_len {ρ : Env} : ∀ {js : List Nat}, (wipeE ρ js).length = ρ.length
  | [] => rfl
  | j :: js => by unfold wipeE; rw [List.length_set, wipeE_len]
theorem wipeE_some {ρ : Env} {i : Nat} {l : L} : ∀ {js : List Nat}, (wipeE ρ js)[i]? = some (some l) → ρ[i]? = some (some l) ∧ i ∉ js
  | [], h => ⟨h, by simp⟩
  | j :: js, h => by
    unfold wipeE at h
    rcases set_get h with ⟨_, e⟩ | ⟨hne, e⟩
    · cases e
    · obtain ⟨h1, h2⟩ := wipeE_some e
      exact ⟨h1, by simp only [List.mem_cons, not_or]; exact ⟨fun e => hne e.symm, h2⟩⟩
theorem wipe_get {σ : St} {i : Nat} : ∀ {js : List Nat}, i ∉ js → (wipe σ js)[i]? = σ[i]?
  | [], _ => rfl
  | j :: js, h => by
    unfold wipe
    rw [List.getElem?_set_ne (fun z => h (by rw [z]; exact List.mem_cons_self))]
    exact wipe_get fun z => h (List.mem_cons_of_mem _ z)
theorem wipe_in {σ : St} {i : Nat} : ∀ {js : List Nat}, i ∈ js → i < σ.length → (wipe σ js)[i]? = some none
  | [], h, _ => by cases h
  | j :: js, h, hl => by
    unfold wipe
    by_cases e : j = i
    · subst e
      rw [List.getElem?_set_self (by rw [wipe_length]; exact hl)]
    · rw [List.getElem?_set_ne e]
      rcases List.mem_cons.mp h with q | q
      · exact absurd q.symm e
      · exact wipe_in q hl
theorem wipe_eq {σ σ' : St} {js : List Nat} (hl : σ'.length = σ.length) (h : ∀ i, i ∉ js → σ'[i]? = σ[i]?) : wipe σ' js = wipe σ js := by
  apply List.ext_getElem?
  intro i
  by_cases hi : i ∈ js
  · by_cases hlt : i < σ.length
    · rw [wipe_in hi hlt, wipe_in hi (by rw [hl]; exact hlt)]
    · rw [List.getElem?_eq_none (by rw [wipe_length, hl]; omega), List.getElem?_eq_none (by rw [wipe_length]; omega)]
  · rw [wipe_get hi, wipe_get hi, h i hi]
theorem restE_len {ρ0 ρ : Env} : ∀ {js : List Nat}, (restE ρ0 ρ js).length = ρ.length
  | [] => rfl
  | j :: js => by
    unfold restE
    split
    · rw [List.length_set, restE_len]
    · exact restE_len
theorem restE_out {ρ0 ρ : Env} {i : Nat} : ∀ {js : List Nat}, i ∉ js → (restE ρ0 ρ js)[i]? = ρ[i]?
  | [], _ => rfl
  | j :: js, h => by
    have h2 : i ∉ js := fun z => h (List.mem_cons_of_mem _ z)
    unfold restE
    split
    · rw [List.getElem?_set_ne (fun z => h (by rw [z]; exact List.mem_cons_self))]
      exact restE_out h2
    · exact restE_out h2
theorem restE_in {ρ0 ρ : Env} {i : Nat} (hl : ρ.length = ρ0.length) : ∀ {js : List Nat}, i ∈ js → (restE ρ0 ρ js)[i]? = ρ0[i]?
  | [], h => by cases h
  | j :: js, h => by
    unfold restE
    by_cases e : j = i
    · subst e
      split
      · rename_i o ho
        rw [List.getElem?_set_self (by rw [restE_len, hl]; exact (List.getElem?_eq_some_iff.mp ho).1), ho]
      · rename_i ho
        rw [ho, List.getElem?_eq_none (by rw [restE_len, hl]; exact List.getElem?_eq_none_iff.mp ho)]
    · have h2 : i ∈ js := by
        rcases List.mem_cons.mp h with q | q
        · exact absurd q.symm e
        · exact q
      split
      · rw [List.getElem?_set_ne e]
        exact restE_in hl h2
      · exact restE_in hl h2
theorem clean_at {ρ : Env} {i : Nat} {l : L} : ∀ {js : List Nat}, clean ρ js = true → i ∈ js → ρ[i]? = some (some l) → l.own = false
  | [], _, h, _ => by cases h
  | j :: js, hc, h, hl => by
    unfold clean at hc
    rw [Bool.and_eq_true] at hc
    rcases List.mem_cons.mp h with q | q
    · subst q
      rw [hl] at hc
      cases l with
      | d _ => rfl
      | m _ => exact absurd hc.1 (by simp)
      | r _ => exact absurd hc.1 (by simp)
      | xh => rfl
    · exact clean_at hc.2 q hl
/-- into the block -/
theorem Rel.block {σ : St} {G H : Hp} {ρ : Env} (R : Rel K σ G H ρ) (js : List Nat) : Rel K (wipe σ js) G H (wipeE ρ js) := by
  refine ⟨R.same, by rw [wipe_length, wipeE_len]; exact R.len, fun i l e => ?_, R.exo, fun i j l l' a hij e1 e2 o1 o2 e3 e4 => ?_⟩
  · obtain ⟨e1, h⟩ := wipeE_some e
    rw [wipe_get h]
    exact R.at_ i l e1
  · obtain ⟨f1, h1⟩ := wipeE_some e1
    obtain ⟨f2, h2⟩ := wipeE_some e2
    rw [wipe_get h1] at e3
    rw [wipe_get h2] at e4
    exact R.sep i j l l' a hij f1 f2 o1 o2 e3 e4
/-- out of a turn: σ2, ρ3 within, σ, ρ around -/
theorem Rel.turn {σ σ2 : St} {G H G3 H3 : Hp} {ρ0 ρ ρ2 ρ3 : Env} {js : List Nat} (R : Rel K σ G H ρ) (hz : ρ.length = ρ0.length) (h0 : ∀ i ∈ js, ρ[i]? = ρ0[i]?) (hc : clean ρ0 js = true)
    (ks : List Nat) (hks : ∀ i ∈ ks, i ∈ js) (T : Tg ks (wipe σ js) σ2 (wipeE ρ js) ρ2) (S : Stp σ2 ρ2 G H σ2 ρ3 G3 H3) (R3 : Rel K σ2 G3 H3 ρ3) :
    Stp σ ρ G H σ (restE ρ0 ρ3 js) G3 H3 ∧ Rel K σ G3 H3 (restE ρ0 ρ3 js) := by
  have l3 : ρ3.length = ρ0.length := by
    have e1 := R3.len
    have e2 := T.len
    rw [wipe_length] at e2
    have e3 := R.len
    omega
  have out : ∀ {i : Nat}, i ∉ js → σ2[i]? = σ[i]? := fun {i} h => by
    rw [T.out i fun z => h (hks i z), wipe_get h]
  -- what is owned around
  have cl : ∀ {i : Nat} {l : L}, (restE ρ0 ρ3 js)[i]? = some (some l) → l.own = true → i ∉ js ∧ ρ3[i]? = some (some l) := fun {i l} e o => by
    by_cases hi : i ∈ js
    · rw [restE_in l3 hi] at e
      rw [clean_at hc hi e] at o
      cases o
    · rw [restE_out hi] at e
      exact ⟨hi, e⟩
  have ow : ∀ a, Own σ2 ρ2 a → Own σ ρ a := fun a ⟨i, l, e1, o, e3⟩ => by
    obtain ⟨e4, hi⟩ := wipeE_some (T.own i l e1 o)
    rw [out hi] at e3
    exact ⟨i, l, e4, o, e3⟩
  have om : ∀ a, OwnM σ2 ρ2 a → OwnM σ ρ a := fun a ⟨i, l, e1, o, e3⟩ => by
    have o' : l.own = true := by cases l <;> first | rfl | cases o
    obtain ⟨e4, hi⟩ := wipeE_some (T.own i l e1 o')
    rw [out hi] at e3
    exact ⟨i, l, e4, o, e3⟩
  refine ⟨⟨S.g, fun a o e => ?_, fun a o e n => S.fr a o e fun z => n (ow a z), S.hn, fun a ⟨i, l, e1, o, e3⟩ => ?_, fun a ⟨i, l, e1, o, e3⟩ => ?_, fun i x e => ?_⟩, ⟨R3.same, ?_, fun i l e => ?_, R3.exo, fun i j l l' a hij e1 e2 o1 o2 e3 e4 => ?_⟩⟩
  · rcases S.gf a o e with h | h | h
    · exact .inl h
    · exact .inr (.inl h)
    · exact .inr (.inr (om a h))
  · obtain ⟨hi, e⟩ := cl e1 o
    rcases S.ow a ⟨i, l, e, o, by rw [out hi]; exact e3⟩ with h | h
    · exact .inl (ow a h)
    · exact .inr h
  · have o' : l.own = true := by cases l <;> first | rfl | cases o
    obtain ⟨hi, e⟩ := cl e1 o'
    rcases S.om a ⟨i, l, e, o, by rw [out hi]; exact e3⟩ with h | h
    · exact .inl (om a h)
    · exact .inr h
  · refine ⟨rfl, ?_⟩
    have hi : i ∉ js := fun z => by
      have e' := e
      rw [h0 i z] at e'
      have q := clean_at hc z e'
      cases q
    rw [restE_out hi]
    have e2 : ρ2[i]? = some (some (.r x)) := by
      rw [T.oue i fun z => hi (hks i z), wipeE_get hi]
      exact e
    exact (S.pin i x e2).2
  · rw [restE_len]
    have e1 := R3.len
    have e2 := T.len
    rw [wipe_length] at e2
    omega
  · by_cases hi : i ∈ js
    · rw [restE_in l3 hi] at e
      have o := clean_at hc hi e
      rw [← h0 i hi] at e
      obtain ⟨v, e1, e2⟩ := R.at_ i l e
      refine ⟨v, e1, ?_⟩
      cases l with
      | d x => exact Dq.mono S.g e2
      | m x => cases o
      | r x => cases o
      | xh => exact e2
    · rw [restE_out hi] at e
      rw [← out hi]
      exact R3.at_ i l e
  · obtain ⟨h1, f1⟩ := cl e1 o1
    obtain ⟨h2, f2⟩ := cl e2 o2
    rw [← out h1] at e3
    rw [← out h2] at e4
    exact R3.sep i j l l' a hij f1 f2 o1 o2 e3 e4
theorem restE_self {ρ : Env} : ∀ {js : List Nat}, restE ρ ρ js = ρ
  | [] => rfl
  | j :: js => by
    unfold restE
    rw [restE_self]
    split
    · rename_i o ho
      apply List.ext_getElem?
      intro i
      by_cases e : j = i
      · subst e
        rw [List.getElem?_set_self (List.getElem?_eq_some_iff.mp ho).1, ho]
      · rw [List.getElem?_set_ne e]
    · rfl
/-- an object that nobody names, in H alone -/
theorem Rel.side {σ : St} {G H : Hp} {ρ : Env} {D : Addr} {o : HO} (R : Rel K σ G H ρ) (g : G D = none) (n : ¬ Own σ ρ D) : Rel K σ G (upd H D o) ρ := by
  refine ⟨fun b u e => ?_, R.len, fun i l e => ?_, R.exo, R.sep⟩
  · rw [upd_ne (ne_of_none e g)]
    exact R.same b u e
  · obtain ⟨v, e1, e2⟩ := R.at_ i l e
    refine ⟨v, e1, ?_⟩
    have ow : ∀ y, l.own = true → MOk K G H v y → MOk K G (upd H D o) v y := fun y ol hm => by
      refine hm.mono (Same.refl _) fun c ec => ?_
      subst ec
      obtain ⟨c', ec', gc, _⟩ := hm.ref
      cases ec'
      refine ⟨gc, fun u eu => ?_⟩
      have nc : c ≠ D := fun q => by
        subst q
        exact n ⟨i, l, e, ol, e1⟩
      rw [upd_ne nc]
      exact eu
    cases l with
    | d y => exact e2
    | m y => exact ow y rfl e2
    | r y => exact ow y rfl e2
    | xh => exact e2
theorem Stp.side {σ σ' : St} {G H G' H' : Hp} {ρ ρ' : Env} {D : Addr} {o : HO} (S : Stp σ ρ G H σ' ρ' G' H') (h : H D = none) : Stp σ ρ G H σ' ρ' G' (upd H' D o) := by
  refine ⟨S.g, S.gf, fun a u e n => ?_, fun a e => ?_, S.ow, S.om, S.pin⟩
  · rw [upd_ne (ne_of_none e h)]
    exact S.fr a u e n
  · by_cases q : a = D
    · subst q
      exact absurd h e
    · rw [upd_ne q]
      exact S.hn a e
theorem fv_lc {js ks : List Nat} {wi : TI} {g : TG} {tt : TT} {te : TE} {im : IM} {gm : GM} {mt : TM} {me : EM} (hi : IvOk K W wi im) (hg : GOk K ks g gm) (hks : ∀ i ∈ ks, i ∈ js)
    (ht : TvOk K (fun _ _ _ _ => False) tt mt) (he : EvOk K (fun _ _ _ _ => False) te me) : FvOk K W (tLc wi g tt te js) (fLc im js gm mt me) := fun σ G H ρ R Q h => by
  unfold fLc bindR at h
  refine hi.fst R (fun ds ρ1 e J G1 H1 S1 R1 wk => ?_) (fun e ρ1 q => by rw [q] at h; exact h) (fun q => by rw [q] at h; exact h)
  rw [e] at h
  have h := FPost.step S1 h
  simp only at h
  split at h
  · rename_i hcl
    intro D hD
    have g1 : G1 D = none := R1.same.free hD
    have notOwn : ∀ {σ' : St} {ρ' : Env} {G' H' : Hp}, Stp σ ρ1 G1 H1 σ' ρ' G' H' → ¬ Own σ ρ1 D := fun _ ⟨i, l, e1, o, e3⟩ => by
      obtain ⟨v, e4, e5⟩ := R1.at_ i l e1
      rw [e3] at e4
      cases Option.some.inj (Option.some.inj e4)
      have : ∀ y, MOk K G1 H1 (.ref D) y → False := fun y hm => by
        obtain ⟨a, ea, _, hn⟩ := hm.ref
        cases ea
        exact hn hD
      cases l with
      | d y => cases o
      | m y => exact this y e5
      | r y => exact this y e5
      | xh => cases o
    have nD1 : ¬ Own σ ρ1 D := notOwn (Stp.refl _ _ _ _)
    refine ⟨fun i m H' => m = ds.length - i ∧ i ≤ ds.length ∧ ∃ G' ρ' acc accV, Stp σ ρ1 G1 H1 σ ρ' G' H' ∧ Rel K σ G' H' ρ' ∧ H' D = some (.lst accV) ∧ G' D = none ∧ ¬ Own σ ρ' D ∧ DqA K G' accV acc ∧ ρ'.length = ρ1.length ∧ (∀ i ∈ js, ρ'[i]? = ρ1[i]?) ∧
        FPost K W σ G1 H1 ρ1 Q (match lcGo js gm mt me ρ1 (ds.drop i) acc ρ' with | .ok acc ρ2 => .ok (.lst acc) ρ2 | _ => .bad), ⟨ds.length, ?_⟩, ?_⟩
    · refine ⟨by simp, Nat.zero_le _, G1, ρ1, [], [], (Stp.refl _ _ _ _).side hD, R1.side g1 nD1, upd_same, g1, nD1, .nil, rfl, fun _ _ => rfl, by simpa using h⟩
    · rintro i m H' ⟨rfl, hil, G', ρ', acc, accV, S', R', hH, gD, nO, qa, hlen, hsame, h'⟩
      obtain ⟨go, stop⟩ := wk G' H' S'.g R'.same
      by_cases hlt : i < ds.length
      · obtain ⟨d, hd⟩ : ∃ d, ds[i]? = some d := ⟨ds[i], List.getElem?_eq_getElem hlt⟩
        obtain ⟨hgo, hy⟩ := go i d hd
        rw [drop_get hd] at h'
        refine .inr ⟨hgo, fun H2 => ∃ G2 ρ2 acc2 accV2, Stp σ ρ1 G1 H1 σ ρ2 G2 H2 ∧ Rel K σ G2 H2 ρ2 ∧ H2 D = some (.lst accV2) ∧ G2 D = none ∧ ¬ Own σ ρ2 D ∧ DqA K G2 accV2 acc2 ∧ ρ2.length = ρ1.length ∧ (∀ i ∈ js, ρ2[i]? = ρ1[i]?) ∧
          FPost K W σ G1 H1 ρ1 Q (match lcGo js gm mt me ρ1 (ds.drop (i + 1)) acc2 ρ2 with | .ok acc ρ2 => .ok (.lst acc) ρ2 | _ => .bad), fun H2 z => ⟨ds.length - (i + 1), by omega, rfl, hlt, z⟩, fun x H2 y => ?_⟩
        obtain ⟨G2, gr, q2⟩ := hy x H2 y
        have R2 := R'.gro gr
        have S2 := S'.trans (gr.stp (σ := σ) (ρ := ρ'))
        have hH2 : H2 D = some (.lst accV) := gr.h D _ hH
        have gD2 : G2 D = none := by
          cases q : G2 D with
          | none => rfl
          | some o =>
            rcases gr.gf D o q with z | z
            · rw [gD] at z; cases z
            · rw [hH] at z; cases z
        unfold lcGo at h'
        split at h'
        · rename_i e2
          split at e2
          · cases e2
          · rename_i ρ2 e3
            refine hg _ _ _ _ _ _ _ (R2.block js) q2 e3 _ fun σ2 T S3 R3 => ?_
            have wEq : wipe σ2 js = wipe σ js := by
              rw [wipe_eq (σ := wipe σ js) T.len fun i hi => T.out i fun z => hi (hks i z)]
              exact wipe_eq (wipe_length _ _) fun i hi => wipe_get hi
            refine ⟨wEq, ?_⟩
            -- from the block to the def
            have leave : ∀ {ρ3 : Env} {G3 H3 : Hp}, Stp σ2 ρ2 G2 H2 σ2 ρ3 G3 H3 → Rel K σ2 G3 H3 ρ3 → Stp σ ρ1 G1 H1 σ (restE ρ1 ρ3 js) G3 H3 ∧ Rel K σ G3 H3 (restE ρ1 ρ3 js) ∧ H3 D = some (.lst accV) ∧ G3 D = none ∧ ¬ Own σ (restE ρ1 ρ3 js) D ∧ DqA K G3 accV acc ∧ (restE ρ1 ρ3 js).length = ρ1.length ∧ (∀ i ∈ js, (restE ρ1 ρ3 js)[i]? = ρ1[i]?) := fun {ρ3 G3 H3} S4 R4 => by
              obtain ⟨S5, R5⟩ := Rel.turn R2 hlen hsame hcl ks hks T S4 R4
              have l3 : ρ3.length = ρ1.length := by
                have e1 := R4.len
                have e2 := T.len
                rw [wipe_length] at e2
                have e3 := R2.len
                omega
              refine ⟨S2.trans S5, R5, S5.fr D _ hH2 nO, ?_, fun z => ?_, (qa.mono gr.g).mono S5.g, by rw [restE_len]; exact l3, fun i hi => restE_in l3 hi⟩
              · cases q : G3 D with
                | none => rfl
                | some o =>
                  rcases S5.gf D o q with z | z | z
                  · rw [gD2] at z; cases z
                  · rw [hH2] at z; cases z
                  · exact absurd z.own nO
              · rcases S5.ow D z with z | z
                · exact nO z
                · rw [hH2] at z; cases z
            refine ht σ2 G2 H2 ρ2 R3 _ ?_
            unfold bindR at e2
            cases et : mt ρ2 with
            | bad => rw [et] at e2; cases e2
            | ex x ρ3 => rw [et] at e2; cases e2
            | ok t ρ3 =>
              rw [et] at e2
              intro G3 H3 S4 R4
              cases t with
              | false =>
                simp only [Bool.false_eq_true, if_false] at e2 ⊢
                obtain ⟨a1, a2, a3, a4, a5, a6, a7, a8⟩ := leave S4 R4
                exact ⟨G3, _, acc, accV, a1, a2, a3, a4, a5, a6, a7, a8, by rw [e2]; exact h'⟩
              | true =>
                simp only [if_true] at e2 ⊢
                refine he σ2 G3 H3 ρ3 R4 _ ?_
                cases ee : me ρ3 with
                | bad => rw [ee] at e2; cases e2
                | ex x ρ3 => rw [ee] at e2; cases e2
                | ok z ρ4 =>
                  rw [ee] at e2
                  intro v G4 H4 S5 R5 x5
                  simp only at e2
                  split at e2
                  · rename_i y' ρ5 e5
                    obtain ⟨G5, S6, R6, q6⟩ := fz_ok R5 x5 e5
                    split at e2
                    · rename_i hz
                      obtain ⟨a1, a2, a3, a4, a5, a6, a7, a8⟩ := leave ((S4.trans S5).trans S6) R6
                      refine ⟨accV, a3, by rw [a6.length]; exact small_lt hz, G5, _, acc ++ [y'], accV ++ [v], a1.side hD, a2.side a4 a5, upd_same, a4, a5, a6.append (.one q6), a7, a8, by rw [e2]; exact h'⟩
                    · cases e2
                  · cases e2
        · exact h'.elim
      · have ei : i = ds.length := by omega
        subst ei
        rw [List.drop_length] at h'
        refine .inl ⟨stop, h' _ G' H' S' R' ⟨⟨D, accV, rfl, gD, hH, qa⟩, fun a ea => ?_⟩⟩
        cases ea
        exact ⟨hD, nO⟩
  · exact h.elim
end DL
set_option Elab.async false
set_option linter.all false
set_option maxRecDepth 100000
set_option maxHeartbeats 4000000
/-! defs: their promises on data, their calls -/
namespace DL
open PySem PySem.Spec PyProof.Rows L2
inductive FRes where
  | ok (l : L) (as : List L) | ex (e : Exn) (as : List L) | bad
def RetOk (K : Kx) (H G' H' : Hp) (v : V) : L → Prop
  | .d x => Dq K G' v x
  | .m x => MOk K G' H' v x ∧ ∀ a, v = .ref a → H a = none
  | _ => False
def ArgOk (K : Kx) (G H : Hp) (vs : List V) (as : List L) : Prop := Rel K (vs.map some) G H (as.map some) ∧ ∀ l ∈ as, l.ism = false
def FnPost (K : Kx) (vs : List V) (as : List L) (G H : Hp) (Q : VK) (E : XK) : FRes → Prop
  | .ok l as' => ∀ v G' H', Stp (vs.map some) (as.map some) G H (vs.map some) (as'.map some) G' H' → Rel K (vs.map some) G' H' (as'.map some) → RetOk K H G' H' v l → Q v H'
  | .ex e as' => ∀ c d G' H', Stp (vs.map some) (as.map some) G H (vs.map some) (as'.map some) G' H' → Rel K (vs.map some) G' H' (as'.map some) → ExOk K G' c d e → E c d H'
  | .bad => False
/-- what a def promises: F of the arguments -/
def spF (K : PySem.W.Frag) (n : Nat) (F : List L → FRes) : Sp := fun vs H Q E => vs.length = n ∧ ∃ G as, ArgOk ⟨K, none⟩ G H vs as ∧ FnPost ⟨K, none⟩ vs as G H Q E (F as)
def back1 (a : L) (o : Option (Option L)) : L := match a, o with
  | .r _, some (some l) => l
  | a, _ => a
def backL (ρ' : Env) : Nat → List L → List L
  | _, [] => []
  | i, a :: as => back1 a ρ'[i]? :: backL ρ' (i + 1) as
def runFn (n : Nat) (body : SM) (as : List L) : FRes := match body (as.map some ++ List.replicate (n - as.length) none) with
  | .ok .nx ρ' => .ok (.d .non) (backL ρ' 0 as)
  | .ok (.rt l) ρ' => .ok l (backL ρ' 0 as)
  | .ex e ρ' => .ex e (backL ρ' 0 as)
  | _ => .bad
theorem backL_get {ρ' : Env} {i : Nat} : ∀ {k : Nat} {as : List L}, (backL ρ' k as)[i]? = (as[i]?).map fun a => back1 a ρ'[k + i]?
  | k, [] => by simp [backL]
  | k, a :: as => by
    unfold backL
    cases i with
    | zero => simp
    | succ i =>
      rw [List.getElem?_cons_succ, List.getElem?_cons_succ, backL_get]
      rw [show k + 1 + i = k + (i + 1) by omega]
theorem backL_len {ρ' : Env} : ∀ {k : Nat} {as : List L}, (backL ρ' k as).length = as.length
  | k, [] => rfl
  | k, a :: as => by unfold backL; rw [List.length_cons, List.length_cons, backL_len]
section
variable {K : Kx} {G H G' H' : Hp} {vs : List V} {as : List L} {n : Nat} {σ' : L2.St} {ρ' : Env}
theorem map_get {α : Type} {xs : List α} {i : Nat} {o : Option α} (h : (xs.map some)[i]? = some o) : ∃ x, xs[i]? = some x ∧ o = some x := by
  rw [List.getElem?_map] at h
  cases e : xs[i]? with
  | none => rw [e] at h; cases h
  | some x => rw [e] at h; exact ⟨x, rfl, (Option.some.inj h).symm⟩
theorem get_map {α : Type} {xs : List α} {i : Nat} {x : α} (h : xs[i]? = some x) : (xs.map some)[i]? = some (some x) := by
  rw [List.getElem?_map, h]
  rfl
theorem pad_get {α : Type} {xs : List α} {i m : Nat} {x : α} (h : (xs.map some ++ List.replicate m none)[i]? = some (some x)) : xs[i]? = some x := by
  by_cases hi : i < xs.length
  · rw [List.getElem?_append_left (by simpa using hi)] at h
    obtain ⟨y, e1, e2⟩ := map_get h
    cases Option.some.inj e2
    exact e1
  · rw [List.getElem?_append_right (by simpa using hi)] at h
    rw [List.getElem?_replicate] at h
    split at h
    · cases Option.some.inj h
    · cases h
theorem pad_of {α : Type} {xs : List α} {i m : Nat} {x : α} (h : xs[i]? = some x) : (xs.map some ++ List.replicate m none)[i]? = some (some x) := by
  rw [List.getElem?_append_left (by simpa using (List.getElem?_eq_some_iff.mp h).1)]
  exact get_map h
/-- at the entry -/
theorem Rel.enter (A : ArgOk K G H vs as) : Rel K (vs.map some ++ List.replicate n none) G H (as.map some ++ List.replicate n none) := by
  obtain ⟨R, _⟩ := A
  refine ⟨R.same, ?_, fun i l e => ?_, R.exo, fun i j l l' a hij e1 e2 o1 o2 e3 e4 => ?_⟩
  · rw [List.length_append, List.length_append, R.len, List.length_replicate, List.length_replicate]
  · obtain ⟨v, h1, h2⟩ := R.at_ i l (get_map (pad_get e))
    obtain ⟨u, e1, e2⟩ := map_get h1
    cases Option.some.inj e2
    exact ⟨v, pad_of e1, h2⟩
  · exact R.sep i j l l' a hij (get_map (pad_get e1)) (get_map (pad_get e2)) o1 o2 (get_map (pad_get e3)) (get_map (pad_get e4))
theorem own_r {l : L} (h : l.own = true) (h2 : l.ism = false) : ∃ x, l = .r x := by
  cases l with
  | d _ => cases h
  | m _ => cases h2
  | r x => exact ⟨x, rfl⟩
  | xh => cases h
/-- at the end -/
theorem Rel.leave (A : ArgOk K G H vs as) (S : Stp (vs.map some ++ List.replicate n none) (as.map some ++ List.replicate n none) G H σ' ρ' G' H') (R : Rel K σ' G' H' ρ') :
    Stp (vs.map some) (as.map some) G H (vs.map some) ((backL ρ' 0 as).map some) G' H' ∧ Rel K (vs.map some) G' H' ((backL ρ' 0 as).map some) := by
  obtain ⟨R0, hm⟩ := A
  have om0 : ∀ a, ¬ OwnM (vs.map some ++ List.replicate n none) (as.map some ++ List.replicate n none) a := fun a ⟨i, l, e1, o, _⟩ => by
    have := hm l (List.mem_of_getElem? (pad_get e1))
    rw [o] at this
    cases this
  have owU : ∀ a, Own (vs.map some ++ List.replicate n none) (as.map some ++ List.replicate n none) a → Own (vs.map some) (as.map some) a := fun a ⟨i, l, e1, o, e3⟩ => ⟨i, l, get_map (pad_get e1), o, get_map (pad_get e3)⟩
  -- a place of the result
  have at' : ∀ {i : Nat} {l : L}, ((backL ρ' 0 as).map some)[i]? = some (some l) → (∃ x y, as[i]? = some (.r x) ∧ l = .r y ∧ ρ'[i]? = some (some (.r y)) ∧ σ'[i]? = (vs.map some)[i]?) ∨ (as[i]? = some l ∧ ∀ x, l ≠ .r x) := fun {i l} e => by
    obtain ⟨l', e1, e2⟩ := map_get e
    cases Option.some.inj e2
    rw [backL_get] at e1
    cases ea : as[i]? with
    | none => rw [ea] at e1; cases e1
    | some a =>
      rw [ea] at e1
      have e1 : back1 a ρ'[0 + i]? = l := Option.some.inj e1
      rw [Nat.zero_add] at e1
      cases a with
      | r x =>
        obtain ⟨h1, y, h2⟩ := S.pin i x (pad_of ea)
        rw [h2] at e1
        refine .inl ⟨x, y, rfl, e1.symm, h2, ?_⟩
        rw [h1]
        obtain ⟨v, h3, _⟩ := R0.at_ i _ (get_map ea)
        obtain ⟨u, h4, h5⟩ := map_get h3
        rw [pad_of h4, get_map h4]
      | d x => exact .inr ⟨by rw [← e1]; rfl, fun y => by rw [← e1]; exact fun z => nomatch z⟩
      | m x => exact .inr ⟨by rw [← e1]; rfl, fun y => by rw [← e1]; exact fun z => nomatch z⟩
      | xh => exact .inr ⟨by rw [← e1]; rfl, fun y => by rw [← e1]; exact fun z => nomatch z⟩
  have own' : ∀ {i : Nat} {l : L}, ((backL ρ' 0 as).map some)[i]? = some (some l) → l.own = true → (∃ x, as[i]? = some (.r x)) ∧ ρ'[i]? = some (some l) ∧ σ'[i]? = (vs.map some)[i]? ∧ l.ism = false := fun {i l} e o => by
    rcases at' e with ⟨x, y, h1, rfl, h2, h3⟩ | ⟨h1, h2⟩
    · exact ⟨⟨x, h1⟩, h2, h3, rfl⟩
    · obtain ⟨x, rfl⟩ := own_r o (hm l (List.mem_of_getElem? h1))
      exact absurd rfl (h2 x)
  refine ⟨⟨S.g, fun a o e => ?_, fun a o e nn => S.fr a o e fun z => nn (owU a z), S.hn, fun a ⟨i, l, e1, o, e3⟩ => ?_, fun a ⟨i, l, e1, o, e3⟩ => ?_, fun i x e => ?_⟩, ⟨R.same, ?_, fun i l e => ?_, R.exo, fun i j l l' a hij e1 e2 o1 o2 e3 e4 => ?_⟩⟩
  · rcases S.gf a o e with h | h | h
    · exact .inl h
    · exact .inr (.inl h)
    · exact absurd h (om0 a)
  · obtain ⟨⟨x, h1⟩, h2, h3, _⟩ := own' e1 o
    exact .inl ⟨i, _, get_map h1, rfl, e3⟩
  · have o' : l.own = true := by cases l <;> first | rfl | cases o
    obtain ⟨_, _, _, h⟩ := own' e1 o'
    rw [o] at h
    cases h
  · refine ⟨rfl, ?_⟩
    obtain ⟨l, e1, e2⟩ := map_get e
    cases Option.some.inj e2
    obtain ⟨_, y, h2⟩ := S.pin i x (pad_of e1)
    refine ⟨y, get_map ?_⟩
    rw [backL_get, e1, Nat.zero_add, h2]
    rfl
  · rw [List.length_map, List.length_map, backL_len]
    simpa using R0.len
  · rcases at' e with ⟨x, y, h1, rfl, h2, h3⟩ | ⟨h1, h2⟩
    · rw [← h3]
      exact R.at_ i _ h2
    · obtain ⟨v, h3, h4⟩ := R0.at_ i l (get_map h1)
      refine ⟨v, h3, ?_⟩
      have hm1 := hm l (List.mem_of_getElem? h1)
      cases l with
      | d x => exact Dq.mono S.g h4
      | m x => cases hm1
      | r x => exact absurd rfl (h2 x)
      | xh => exact h4
  · obtain ⟨_, f1, g1, _⟩ := own' e1 o1
    obtain ⟨_, f2, g2, _⟩ := own' e2 o2
    rw [← g1] at e3
    rw [← g2] at e4
    exact R.sep i j l l' a hij f1 f2 o1 o2 e3 e4
end
/-! ### the body of a def -/
def JSs (X : Cx) (xa : Option XA) (W : WX) (st : List Stmt) (m : SM) : Prop := ∃ t, PSs X st t ∧ StOk ⟨X.K, xa⟩ W t m
theorem fn_ok {P : Program} {w : World} {K : PySem.W.Frag} {mg : Str → Option Value} {base : Heap} {x qual : Str} {st : Stmt} {f : Addr} {fd : FuncData} {N ps : List Str} {k : Nat} {body : SM} (F : Fun K x qual st f fd) (S : FnScope N ps (defScope st))
    (hb : ∀ (cdv : Value) (A : Around) (outer : List PySem.Env) (s : Shared) (H : Hp) (E : XK), Room k (A.deeper (envOfC qual (defScope st) s.heap.objs.size f cdv)) →
      JSs (cxOf (L2.CX P w) P w K mg base N qual (defScope st) f cdv A outer s H E) none (fun cls d _ H => E cls d H) (defBody st) body) :
    FnOk P w K mg base (L2.CX P w) (k + 1) f fd ps (spF K ps.length (runFn N.length body)) := by
  refine F.okX S (fun vs H Q E h => h.1) (fun cdv A outer s H vs Q E hr h => ?_)
  obtain ⟨hl, G, as, Aok, hp⟩ := h
  obtain ⟨t, h1, h2⟩ := hb cdv A outer s H E hr
  refine ⟨t, h1, ?_⟩
  have len : as.length = vs.length := by
    have := Aok.1.len
    simpa using this.symm
  have est : L2.start N vs = vs.map some ++ List.replicate (N.length - as.length) none := by
    unfold L2.start
    rw [len]
  rw [est]
  refine h2 _ G H (as.map some ++ List.replicate (N.length - as.length) none) (Rel.enter Aok) _ ?_
  unfold runFn at hp
  cases e : body (as.map some ++ List.replicate (N.length - as.length) none) with
  | bad => rw [e] at hp; exact hp
  | ex x ρ' =>
    rw [e] at hp
    intro c d σ' G' H' S' R' q
    obtain ⟨a, b⟩ := Rel.leave Aok S' R'
    exact hp c d G' H' a b q
  | ok fl ρ' =>
    rw [e] at hp
    cases fl with
    | nx =>
      intro σ' G' H' S' R'
      obtain ⟨a, b⟩ := Rel.leave Aok S' R'
      exact hp _ G' H' a b .non
    | bk => exact hp.elim
    | ct => exact hp.elim
    | rt l =>
      intro σ' v G' H' S' R' q
      obtain ⟨a, b⟩ := Rel.leave Aok S' R'
      refine hp v G' H' a b ?_
      cases l with
      | d x => exact q
      | r x => exact q.elim
      | xh => exact q.elim
      | m x =>
        refine ⟨q.1, fun b eb => ?_⟩
        rcases q.2 b eb with h | ⟨i, l, e1, o, _⟩
        · exact h
        · have := Aok.2 l (List.mem_of_getElem? (pad_get e1))
          rw [o] at this
          cases this
/-! ### calls -/
def mkArg (ρ : Env) : X → Option L
  | .d x => some (.d x)
  | .s i => match ρ[i]? with
    | some (some (.m x)) => some (.r x)
    | some (some (.r x)) => some (.r x)
    | some (some (.d x)) => some (.d x)
    | _ => none
def mkArgs (ρ : Env) : List X → Option (List L)
  | [] => some []
  | x :: xs => match mkArg ρ x, mkArgs ρ xs with
    | some a, some as => some (a :: as)
    | _, _ => none
def slots : List X → List Nat
  | [] => []
  | .d _ :: xs => slots xs
  | .s i :: xs => i :: slots xs
def putS (ρ : Env) (i : Nat) (y : D) : Env := match ρ[i]? with
  | some (some l) => ρ.set i (some (l.put y))
  | _ => ρ
/-- the objects handed over come back -/
def putA : Env → List X → List L → List L → Env
  | ρ, .s i :: xs, .r _ :: as, .r y :: bs => putA (putS ρ i y) xs as bs
  | ρ, _ :: xs, _ :: as, _ :: bs => putA ρ xs as bs
  | ρ, _, _, _ => ρ
theorem mkArgs_get {ρ : Env} : ∀ {xs : List X} {as : List L}, mkArgs ρ xs = some as → as.length = xs.length ∧ ∀ (k : Nat) (x : X), xs[k]? = some x → ∃ a, as[k]? = some a ∧ mkArg ρ x = some a
  | [], as, e => by
    cases Option.some.inj e
    exact ⟨rfl, fun k x h => by simp at h⟩
  | x :: xs, as, e => by
    unfold mkArgs at e
    split at e
    · rename_i a as' e1 e2
      cases Option.some.inj e
      obtain ⟨h1, h2⟩ := mkArgs_get e2
      refine ⟨by rw [List.length_cons, List.length_cons, h1], fun k y h => ?_⟩
      cases k with
      | zero =>
        cases Option.some.inj h
        exact ⟨a, rfl, e1⟩
      | succ k => exact h2 k y h
    · cases e
theorem slots_mem {xs : List X} {i : Nat} : i ∈ slots xs ↔ ∃ k : Nat, xs[k]? = some (X.s i) := by
  induction xs with
  | nil => simp [slots]
  | cons x xs ih =>
    cases x with
    | d y =>
      show i ∈ slots xs ↔ _
      rw [ih]
      constructor
      · rintro ⟨k, h⟩
        exact ⟨k + 1, h⟩
      · rintro ⟨k, h⟩
        cases k with
        | zero => cases Option.some.inj h
        | succ k => exact ⟨k, h⟩
    | s j =>
      show i ∈ j :: slots xs ↔ _
      rw [List.mem_cons, ih]
      constructor
      · rintro (rfl | ⟨k, h⟩)
        · exact ⟨0, rfl⟩
        · exact ⟨k + 1, h⟩
      · rintro ⟨k, h⟩
        cases k with
        | zero =>
          cases Option.some.inj h
          exact .inl rfl
        | succ k => exact .inr ⟨k, h⟩
theorem slots_inj {xs : List X} (hn : (slots xs).Nodup) {k k' i : Nat} (h : xs[k]? = some (.s i)) (h' : xs[k']? = some (.s i)) : k = k' := by
  induction xs generalizing k k' with
  | nil => simp at h
  | cons x xs ih =>
    cases x with
    | d y =>
      cases k with
      | zero => cases Option.some.inj h
      | succ k =>
        cases k' with
        | zero => cases Option.some.inj h'
        | succ k' => rw [ih hn h h']
    | s j =>
      have hn : (j :: slots xs).Nodup := hn
      rw [List.nodup_cons] at hn
      cases k with
      | zero =>
        cases Option.some.inj h
        cases k' with
        | zero => rfl
        | succ k' => exact absurd (slots_mem.mpr ⟨k', h'⟩) hn.1
      | succ k =>
        cases k' with
        | zero =>
          cases Option.some.inj h'
          exact absurd (slots_mem.mpr ⟨k, h⟩) hn.1
        | succ k' => rw [ih hn.2 h h']
theorem putS_get {ρ : Env} {i j : Nat} {y : D} : (putS ρ i y)[j]? = if i = j then (ρ[j]?).map (fun o => o.map fun l => l.put y) else ρ[j]? := by
  unfold putS
  by_cases e : i = j
  · subst e
    rw [if_pos rfl]
    split
    · rename_i l hl
      rw [List.getElem?_set_self (List.getElem?_eq_some_iff.mp hl).1, hl]
      rfl
    · rename_i hn
      cases h : ρ[i]? with
      | none => rfl
      | some o =>
        cases o with
        | none => rfl
        | some l => exact absurd h (hn l)
  · rw [if_neg e]
    split
    · rw [List.getElem?_set_ne e]
    · rfl
theorem putA_get {j : Nat} : ∀ {xs : List X} {as bs : List L} {ρ : Env}, (slots xs).Nodup → as.length = xs.length → bs.length = xs.length →
    (∃ (k : Nat) (x y : D), xs[k]? = some (X.s j) ∧ as[k]? = some (.r x) ∧ bs[k]? = some (.r y) ∧ (putA ρ xs as bs)[j]? = (ρ[j]?).map (fun o => o.map fun l => l.put y)) ∨
    ((∀ (k : Nat) (x y : D), xs[k]? = some (X.s j) → as[k]? = some (.r x) → bs[k]? ≠ some (.r y)) ∧ (putA ρ xs as bs)[j]? = ρ[j]?)
  | [], as, bs, ρ, _, _, _ => .inr ⟨fun k x y h => by simp at h, by unfold putA; rfl⟩
  | x :: xs, [], _, _, _, h, _ => by cases h
  | x :: xs, _ :: _, [], _, _, _, h => by cases h
  | x :: xs, a :: as, b :: bs, ρ, hn, ha, hb => by
    have ha' : as.length = xs.length := Nat.succ.inj ha
    have hb' : bs.length = xs.length := Nat.succ.inj hb
    have hn' : (slots xs).Nodup := by
      cases x with
      | d _ => exact hn
      | s i => exact (List.nodup_cons.mp (show (i :: slots xs).Nodup from hn)).2
    -- the head does nothing
    have skip : (∀ x' y, x = .s j → a = .r x' → b ≠ .r y) → putA ρ (x :: xs) (a :: as) (b :: bs) = putA ρ xs as bs →
        (∃ (k : Nat) (x' y : D), (x :: xs)[k]? = some (.s j) ∧ (a :: as)[k]? = some (.r x') ∧ (b :: bs)[k]? = some (.r y) ∧ (putA ρ (x :: xs) (a :: as) (b :: bs))[j]? = (ρ[j]?).map (fun o => o.map fun l => l.put y)) ∨
        ((∀ (k : Nat) (x' y : D), (x :: xs)[k]? = some (.s j) → (a :: as)[k]? = some (.r x') → (b :: bs)[k]? ≠ some (.r y)) ∧ (putA ρ (x :: xs) (a :: as) (b :: bs))[j]? = ρ[j]?) := fun h0 h1 => by
      rw [h1]
      rcases putA_get (j := j) (ρ := ρ) hn' ha' hb' with ⟨k, x', y, e1, e2, e3, e4⟩ | ⟨e1, e2⟩
      · exact .inl ⟨k + 1, x', y, e1, e2, e3, e4⟩
      · refine .inr ⟨fun k x' y f1 f2 f3 => ?_, e2⟩
        cases k with
        | zero => exact h0 x' y (Option.some.inj f1) (Option.some.inj f2) (Option.some.inj f3)
        | succ k => exact e1 k x' y f1 f2 f3
    cases x with
    | d z => exact skip (fun _ _ q => nomatch q) (by cases a <;> cases b <;> rfl)
    | s i =>
      cases a with
      | r u =>
        cases b with
        | r y =>
          have e0 : putA ρ (.s i :: xs) (.r u :: as) (.r y :: bs) = putA (putS ρ i y) xs as bs := rfl
          rw [e0]
          have hni := (List.nodup_cons.mp (show (i :: slots xs).Nodup from hn)).1
          by_cases e : i = j
          · subst e
            rcases putA_get (j := i) (ρ := putS ρ i y) hn' ha' hb' with ⟨k, x', y', e1, e2, e3, e4⟩ | ⟨e1, e2⟩
            · exact absurd (slots_mem.mpr ⟨k, e1⟩) hni
            · refine .inl ⟨0, u, y, rfl, rfl, rfl, ?_⟩
              rw [e2, putS_get, if_pos rfl]
          · rcases putA_get (j := j) (ρ := putS ρ i y) hn' ha' hb' with ⟨k, x', y', e1, e2, e3, e4⟩ | ⟨e1, e2⟩
            · refine .inl ⟨k + 1, x', y', e1, e2, e3, ?_⟩
              rw [e4, putS_get, if_neg e]
            · refine .inr ⟨fun k x' y f1 f2 f3 => ?_, ?_⟩
              · cases k with
                | zero =>
                  cases Option.some.inj f1
                  exact e rfl
                | succ k => exact e1 k x' y f1 f2 f3
              · rw [e2, putS_get, if_neg e]
        | d _ => exact skip (fun _ _ _ _ q => nomatch q) rfl
        | m _ => exact skip (fun _ _ _ _ q => nomatch q) rfl
        | xh => exact skip (fun _ _ _ _ q => nomatch q) rfl
      | d _ => exact skip (fun _ _ _ q => nomatch q) (by cases b <;> rfl)
      | m _ => exact skip (fun _ _ _ q => nomatch q) (by cases b <;> rfl)
      | xh => exact skip (fun _ _ _ q => nomatch q) (by cases b <;> rfl)
section
variable {K : Kx} {σ : L2.St} {G H G' H' : Hp} {ρ : Env} {vs : List V} {xs : List X} {as bs : List L}
theorem XsOk.get : ∀ {xs : List X} {vs : List V} {k : Nat} {x : X}, XsOk K σ G vs xs → xs[k]? = some x → ∃ v, vs[k]? = some v ∧ XOk K σ G v x
  | _, _, _, _, .nil, e => by simp at e
  | _, _, 0, _, .cons h _, e => by cases Option.some.inj e; exact ⟨_, rfl, h⟩
  | _, _, k + 1, x, .cons _ t, e => XsOk.get (k := k) t e
theorem XsOk.len : ∀ {xs : List X} {vs : List V}, XsOk K σ G vs xs → vs.length = xs.length
  | _, _, .nil => rfl
  | _, _, .cons _ t => by rw [List.length_cons, List.length_cons, XsOk.len t]
/-- what an argument is -/
theorem mkArg_ok {v : V} {x : X} {a : L} (R : Rel K σ G H ρ) (h : XOk K σ G v x) (e : mkArg ρ x = some a) :
    LOk K G H v a ∧ a.ism = false ∧ (a.own = true → ∃ i l, x = .s i ∧ ρ[i]? = some (some l) ∧ l.own = true ∧ σ[i]? = some (some v)) := by
  cases x with
  | d y =>
    cases Option.some.inj e
    exact ⟨h, rfl, fun z => nomatch z⟩
  | s i =>
    have hv : σ[i]? = some (some v) := h
    unfold mkArg at e
    simp only at e
    split at e
    · rename_i y hy
      cases Option.some.inj e
      obtain ⟨u, h1, h2⟩ := R.at_ i _ hy
      rw [hv] at h1
      cases Option.some.inj (Option.some.inj h1)
      exact ⟨h2, rfl, fun _ => ⟨i, _, rfl, hy, rfl, hv⟩⟩
    · rename_i y hy
      cases Option.some.inj e
      obtain ⟨u, h1, h2⟩ := R.at_ i _ hy
      rw [hv] at h1
      cases Option.some.inj (Option.some.inj h1)
      exact ⟨h2, rfl, fun _ => ⟨i, _, rfl, hy, rfl, hv⟩⟩
    · rename_i y hy
      cases Option.some.inj e
      obtain ⟨u, h1, h2⟩ := R.at_ i _ hy
      rw [hv] at h1
      cases Option.some.inj (Option.some.inj h1)
      exact ⟨h2, rfl, fun z => nomatch z⟩
    · cases e
theorem sub_ok (R : Rel K σ G H ρ) (X1 : XsOk K σ G vs xs) (e : mkArgs ρ xs = some as) (hn : (slots xs).Nodup) : ArgOk ⟨K.k, none⟩ G H vs as := by
  obtain ⟨hl, hg⟩ := mkArgs_get e
  have at' : ∀ {k : Nat} {a : L}, as[k]? = some a → ∃ x v, xs[k]? = some x ∧ vs[k]? = some v ∧ XOk K σ G v x ∧ mkArg ρ x = some a := fun {k a} ha => by
    have hk : k < xs.length := by rw [← hl]; exact (List.getElem?_eq_some_iff.mp ha).1
    obtain ⟨a', h1, h2⟩ := hg k xs[k] (List.getElem?_eq_getElem hk)
    rw [ha] at h1
    cases Option.some.inj h1
    obtain ⟨v, h3, h4⟩ := X1.get (List.getElem?_eq_getElem hk)
    exact ⟨_, v, List.getElem?_eq_getElem hk, h3, h4, h2⟩
  refine ⟨⟨R.same, ?_, fun k a e1 => ?_, (fun y h => nomatch h), fun k k' a a' b hkk e1 e2 o1 o2 e3 e4 => ?_⟩, fun a ha => ?_⟩
  · rw [List.length_map, List.length_map, X1.len, hl]
  · obtain ⟨a', e2, e3⟩ := map_get e1
    cases Option.some.inj e3
    obtain ⟨x, v, h1, h2, h3, h4⟩ := at' e2
    obtain ⟨q, q2, _⟩ := mkArg_ok R h3 h4
    refine ⟨v, get_map h2, ?_⟩
    cases a with
    | d x => exact q
    | m x => exact q
    | r x => exact q
    | xh =>
      unfold mkArg at h4
      split at h4
      · cases h4
      · split at h4 <;> cases h4
  · obtain ⟨c, f1, f2⟩ := map_get e1
    cases Option.some.inj f2
    obtain ⟨c', g1, g2⟩ := map_get e2
    cases Option.some.inj g2
    obtain ⟨x, v, h1, h2, h3, h4⟩ := at' f1
    obtain ⟨x', v', h1', h2', h3', h4'⟩ := at' g1
    obtain ⟨_, _, q⟩ := mkArg_ok R h3 h4
    obtain ⟨_, _, q'⟩ := mkArg_ok R h3' h4'
    obtain ⟨i, l, rfl, p1, p2, p3⟩ := q o1
    obtain ⟨i', l', rfl, p1', p2', p3'⟩ := q' o2
    have hii : i ≠ i' := fun z => by
      subst z
      exact hkk (slots_inj hn h1 h1')
    rw [get_map h2] at e3
    cases Option.some.inj (Option.some.inj e3)
    rw [get_map h2'] at e4
    cases Option.some.inj (Option.some.inj e4)
    exact R.sep i i' l l' b hii p1 p1' p2 p2' p3 p3'
  · obtain ⟨k, hk⟩ := List.getElem?_of_mem ha
    obtain ⟨x, v, h1, h2, h3, h4⟩ := at' hk
    exact (mkArg_ok R h3 h4).2.1
theorem sup_ok (R : Rel K σ G H ρ) (X1 : XsOk K σ G vs xs) (e : mkArgs ρ xs = some as) (hn : (slots xs).Nodup)
    (S : Stp (vs.map some) (as.map some) G H (vs.map some) (bs.map some) G' H') (R' : Rel ⟨K.k, none⟩ (vs.map some) G' H' (bs.map some)) : Stp σ ρ G H σ (putA ρ xs as bs) G' H' ∧ Rel K σ G' H' (putA ρ xs as bs) ∧ ∀ a, Own σ (putA ρ xs as bs) a → Own σ ρ a := by
  obtain ⟨hl, hg⟩ := mkArgs_get e
  have hb : bs.length = xs.length := by
    have := R'.len
    rw [List.length_map, List.length_map, X1.len] at this
    exact this.symm
  -- an argument that is an object
  have arg : ∀ {k : Nat} {x : D}, as[k]? = some (.r x) → ∃ i l v, xs[k]? = some (.s i) ∧ vs[k]? = some v ∧ ρ[i]? = some (some l) ∧ l.own = true ∧ σ[i]? = some (some v) := fun {k x} ha => by
    have hk : k < xs.length := by rw [← hl]; exact (List.getElem?_eq_some_iff.mp ha).1
    obtain ⟨a', h1, h2⟩ := hg k xs[k] (List.getElem?_eq_getElem hk)
    rw [ha] at h1
    cases Option.some.inj h1
    obtain ⟨v, h3, h4⟩ := X1.get (List.getElem?_eq_getElem hk)
    obtain ⟨i, l, e1, e2, e3, e4⟩ := (mkArg_ok R h4 h2).2.2 rfl
    exact ⟨i, l, v, by rw [List.getElem?_eq_getElem hk, e1], h3, e2, e3, e4⟩
  have asm : ∀ a ∈ as, a.ism = false := (sub_ok R X1 e hn).2
  have ow0 : ∀ a, Own (vs.map some) (as.map some) a → Own σ ρ a := fun a ⟨k, l, e1, o, e3⟩ => by
    obtain ⟨l', f1, f2⟩ := map_get e1
    cases Option.some.inj f2
    obtain ⟨x, rfl⟩ := own_r o (asm l (List.mem_of_getElem? f1))
    obtain ⟨i, l2, v, h1, h2, h3, h4, h5⟩ := arg f1
    rw [get_map h2] at e3
    cases Option.some.inj (Option.some.inj e3)
    exact ⟨i, l2, h3, h4, h5⟩
  have om0 : ∀ a, ¬ OwnM (vs.map some) (as.map some) a := fun a ⟨k, l, e1, o, e3⟩ => by
    obtain ⟨l', f1, f2⟩ := map_get e1
    cases Option.some.inj f2
    rw [asm l (List.mem_of_getElem? f1)] at o
    cases o
  -- a slot behind the call
  have at' : ∀ {j : Nat} {l : L}, (putA ρ xs as bs)[j]? = some (some l) → (∃ (k : Nat) (x y : D) (l0 : L) (v : V), xs[k]? = some (X.s j) ∧ as[k]? = some (.r x) ∧ bs[k]? = some (.r y) ∧ ρ[j]? = some (some l0) ∧ l0.own = true ∧ l = l0.put y ∧ vs[k]? = some v ∧ σ[j]? = some (some v)) ∨
      (ρ[j]? = some (some l) ∧ ∀ (k : Nat) (x y : D), xs[k]? = some (X.s j) → as[k]? = some (.r x) → bs[k]? ≠ some (.r y)) := fun {j l} hj => by
    rcases putA_get (j := j) (ρ := ρ) hn hl hb with ⟨k, x, y, e1, e2, e3, e4⟩ | ⟨e1, e2⟩
    · rw [e4] at hj
      obtain ⟨i, l0, v, h1, h2, h3, h4, h5⟩ := arg e2
      rw [e1] at h1
      cases Option.some.inj h1
      rw [h3] at hj
      exact .inl ⟨k, x, y, l0, v, e1, e2, e3, h3, h4, (Option.some.inj (Option.some.inj hj)).symm, h2, h5⟩
    · rw [e2] at hj
      exact .inr ⟨hj, e1⟩
  have own' : ∀ {j : Nat} {l : L}, (putA ρ xs as bs)[j]? = some (some l) → l.own = true → ∃ l0, ρ[j]? = some (some l0) ∧ l0.own = true ∧ l0.ism = l.ism := fun {j l} hj o => by
    rcases at' hj with ⟨k, x, y, l0, v, _, _, _, h4, h5, rfl, _⟩ | ⟨h, _⟩
    · exact ⟨l0, h4, h5, (L.put_ism l0 y).symm⟩
    · exact ⟨l, h, o, rfl⟩
  -- an object that was not handed over
  have apart : ∀ {j : Nat} {l : L} {a : Addr}, ρ[j]? = some (some l) → l.own = true → σ[j]? = some (some (.ref a)) → (∀ (k : Nat) (x y : D), xs[k]? = some (X.s j) → as[k]? = some (.r x) → bs[k]? ≠ some (.r y)) → ¬ Own (vs.map some) (as.map some) a := fun {j l a} h1 h2 h3 h4 ⟨k, l', e1, o, e3⟩ => by
    obtain ⟨l'', f1, f2⟩ := map_get e1
    cases Option.some.inj f2
    obtain ⟨x, rfl⟩ := own_r o (asm l' (List.mem_of_getElem? f1))
    obtain ⟨i, l2, v, g1, g2, g3, g4, g5⟩ := arg f1
    rw [get_map g2] at e3
    cases Option.some.inj (Option.some.inj e3)
    by_cases q : i = j
    · subst q
      obtain ⟨_, y, p2⟩ := S.pin k x e1
      obtain ⟨z, p3, p4⟩ := map_get p2
      cases Option.some.inj p4
      exact h4 k x y g1 f1 p3
    · exact R.sep i j l2 l a q g3 h1 g4 h2 g5 h3
  refine ⟨⟨S.g, fun a o h => ?_, fun a o h n => S.fr a o h fun z => n (ow0 a z), S.hn, fun a ⟨j, l, e1, o, e3⟩ => ?_, fun a ⟨j, l, e1, o, e3⟩ => ?_, fun j x h => ?_⟩, ⟨R'.same, ?_, fun j l h => ?_, fun y h => (R.exo y h).mono S.g, fun j j' l l' a hjj e1 e2 o1 o2 e3 e4 => ?_⟩, fun a ⟨j, l, e1, o, e3⟩ => ?_⟩
  · rcases S.gf a o h with h | h | h
    · exact .inl h
    · exact .inr (.inl h)
    · exact absurd h (om0 a)
  · obtain ⟨l0, h1, h2, _⟩ := own' e1 o
    exact .inl ⟨j, l0, h1, h2, e3⟩
  · have o' : l.own = true := by cases l <;> first | rfl | cases o
    obtain ⟨l0, h1, h2, h3⟩ := own' e1 o'
    exact .inl ⟨j, l0, h1, by rw [h3]; exact o, e3⟩
  · refine ⟨rfl, ?_⟩
    rcases putA_get (j := j) (ρ := ρ) hn hl hb with ⟨k, x', y, _, _, _, e4⟩ | ⟨_, e2⟩
    · rw [e4, h]
      exact ⟨y, rfl⟩
    · rw [e2]
      exact ⟨x, h⟩
  · have : ∀ {xs : List X} {as bs : List L} {ρ : Env}, (putA ρ xs as bs).length = ρ.length := fun {xs} => by
      induction xs with
      | nil => intro as bs ρ; unfold putA; rfl
      | cons x xs ih =>
        intro as bs ρ
        have lp : ∀ {ρ : Env} {i : Nat} {y : D}, (putS ρ i y).length = ρ.length := fun {ρ i y} => by
          unfold putS
          split
          · rw [List.length_set]
          · rfl
        cases as with
        | nil => cases x <;> rfl
        | cons a as =>
          cases bs with
          | nil => cases x <;> cases a <;> rfl
          | cons b bs =>
            cases x with
            | d _ => exact (show (putA ρ xs as bs).length = _ from ih)
            | s i =>
              cases a with
              | r u =>
                cases b with
                | r y => exact (show (putA (putS ρ i y) xs as bs).length = _ from ih.trans lp)
                | d _ => exact (show (putA ρ xs as bs).length = _ from ih)
                | m _ => exact (show (putA ρ xs as bs).length = _ from ih)
                | xh => exact (show (putA ρ xs as bs).length = _ from ih)
              | d _ => exact (show (putA ρ xs as bs).length = _ from by cases b <;> exact ih)
              | m _ => exact (show (putA ρ xs as bs).length = _ from by cases b <;> exact ih)
              | xh => exact (show (putA ρ xs as bs).length = _ from by cases b <;> exact ih)
    rw [this]
    exact R.len
  · rcases at' h with ⟨k, x, y, l0, v, h1, h2, h3, h4, h5, rfl, h7, h8⟩ | ⟨h1, h2⟩
    · obtain ⟨u, q1, q2⟩ := R'.at_ k _ (get_map h3)
      rw [get_map h7] at q1
      cases Option.some.inj (Option.some.inj q1)
      refine ⟨v, h8, ?_⟩
      cases l0 with
      | d _ => cases h5
      | xh => cases h5
      | m _ => exact q2
      | r _ => exact q2
    · obtain ⟨v, q1, q2⟩ := R.at_ j l h1
      refine ⟨v, q1, ?_⟩
      have ow : ∀ y, l.own = true → MOk K G H v y → MOk K G' H' v y := fun y ol hm => by
        refine hm.mono S.g fun a ea => ?_
        subst ea
        obtain ⟨a', ea', ga, ha⟩ := hm.ref
        cases ea'
        have np := apart h1 ol q1 h2
        refine ⟨?_, fun o ho => S.fr a o ho np⟩
        cases q : G' a with
        | none => rfl
        | some o =>
          rcases S.gf a o q with z | z | z
          · rw [ga] at z; cases z
          · exact absurd z ha
          · exact absurd z (om0 a)
      cases l with
      | d y => exact Dq.mono S.g q2
      | m y => exact ow y rfl q2
      | r y => exact ow y rfl q2
      | xh => exact q2
  · obtain ⟨l0, h1, h2, _⟩ := own' e1 o1
    obtain ⟨l0', h1', h2', _⟩ := own' e2 o2
    exact R.sep j j' l0 l0' a hjj h1 h1' h2 h2' e3 e4
  · obtain ⟨l0, h1, h2, _⟩ := own' e1 o
    exact ⟨j, l0, h1, h2, e3⟩
end
/-- f(..): what comes back is locked -/
def eCall (n : Nat) (F : List L → FRes) (ma : AM) : EM := fun ρ => bindR (ma ρ) fun xs ρ1 => match mkArgs ρ1 xs with
  | none => .bad
  | some as => if xs.length = n ∧ (slots xs).Nodup then (match F as with
    | .ok (.d x) bs => .ok (.d x) (putA ρ1 xs as bs)
    | .ok (.m x) bs => .ok (.d x) (putA ρ1 xs as bs)
    | .ok _ _ => .bad
    | .ex e bs => .ex e (putA ρ1 xs as bs)
    | .bad => .bad) else .bad
/-- f(..): a new object comes back -/
def fCall (n : Nat) (F : List L → FRes) (ma : AM) : FM := fun ρ => bindR (ma ρ) fun xs ρ1 => match mkArgs ρ1 xs with
  | none => .bad
  | some as => if xs.length = n ∧ (slots xs).Nodup then (match F as with
    | .ok (.m x) bs => .ok x (putA ρ1 xs as bs)
    | .ok _ _ => .bad
    | .ex e bs => .ex e (putA ρ1 xs as bs)
    | .bad => .bad) else .bad
/-- the arguments given, then the defaults -/
def aApp (ma : AM) (ds : List D) : AM := fun ρ => bindR (ma ρ) fun xs ρ1 => .ok (xs ++ ds.map .d) ρ1
def tApp (t : TA) (dvs : List V) : TA := fun σ H Q => t σ H fun vs H1 => Q (vs ++ dvs) H1
theorem DqA.xs {K : Kx} {σ : L2.St} {G : Hp} : ∀ {vs : List V} {ds : List D}, DqA K G vs ds → XsOk K σ G vs (ds.map .d)
  | _, _, .nil => .nil
  | _, _, .cons h t => .cons h (DqA.xs t)
theorem XsOk.app {K : Kx} {σ : L2.St} {G : Hp} : ∀ {vs us : List V} {xs ys : List X}, XsOk K σ G vs xs → XsOk K σ G us ys → XsOk K σ G (vs ++ us) (xs ++ ys)
  | _, _, _, _, .nil, h => h
  | _, _, _, _, .cons h t, u => .cons h (XsOk.app t u)
theorem av_app {K : Kx} {W : WX} {t : TA} {ma : AM} {dvs : List V} {ds : List D} (ht : AvOk K W t ma) (hd : ∀ G, DqA K G dvs ds) : AvOk K W (tApp t dvs) (aApp ma ds) := fun σ G H ρ R Q h => by
  unfold aApp bindR at h
  refine ht.fst R (fun x ρ1 e v G1 H1 S1 R1 x1 => ?_) (fun e ρ1 q => by rw [q] at h; exact h) (fun q => by rw [q] at h; exact h)
  rw [e] at h
  have h := APost.step S1 h
  exact h _ G1 H1 (Stp.refl _ _ _ _) R1 (x1.app (hd G1).xs)
/-- an owned object stands -/
theorem Own.there {K : Kx} {σ : L2.St} {G H : Hp} {ρ : Env} {a : Addr} (R : Rel K σ G H ρ) (h : Own σ ρ a) : H a ≠ none := by
  obtain ⟨i, l, h1, h2, h3⟩ := h
  obtain ⟨v, h4, h5⟩ := R.at_ i l h1
  rw [h3] at h4
  cases Option.some.inj (Option.some.inj h4)
  have own : ∀ x, MOk K G H (.ref a) x → H a ≠ none := fun x hm => by
    obtain ⟨b, eb, _, h⟩ := hm.ref
    cases eb
    exact h
  cases l with
  | d x => cases h2
  | m x => exact own x h5
  | r x => exact own x h5
  | xh => cases h2
variable {K : Kx} {W : WX}
theorem ev_call {n : Nat} {F : List L → FRes} {t : TA} {ma : AM} (ht : AvOk K W t ma) : EvOk K W (tCallSD (spF K.k n F) [] (WE W) t) (eCall n F ma) := fun σ G H ρ R Q h => by
  unfold eCall bindR at h
  refine ht.fst R (fun xs ρ1 e vs G1 H1 S1 R1 x1 => ?_) (fun e ρ1 q => by rw [q] at h; exact h) (fun q => by rw [q] at h; exact h)
  rw [e] at h
  have h := EPost.step S1 h
  simp only at h
  split at h
  · exact h.elim
  · rename_i as ea
    split at h
    · rename_i hnn
      have hnd := hnn.2
      have A := sub_ok R1 x1 ea hnd
      rw [List.append_nil]
      refine ⟨x1.len.trans hnn.1, G1, as, A, ?_⟩
      cases eF : F as with
      | bad => rw [eF] at h; exact h
      | ex x bs =>
        rw [eF] at h
        intro c d G' H' S' R' q
        obtain ⟨a, b, _⟩ := sup_ok R1 x1 ea hnd S' R'
        exact h c d G' H' a b q
      | ok l bs =>
        rw [eF] at h
        intro v G' H' S' R' q
        obtain ⟨a, b, o⟩ := sup_ok R1 x1 ea hnd S' R'
        cases l with
        | d x => exact h v G' H' a b q
        | m x =>
          have F : Frs K σ H1 (putA ρ1 xs as bs) G' H' v x := ⟨q.1, fun a ea => ⟨q.2 a ea, fun z => Own.there R1 (o a z) (q.2 a ea)⟩⟩
          obtain ⟨G2, S2, R2, q2⟩ := Frs.lock a b F
          exact h v G2 H' S2 R2 q2
        | r x => exact h.elim
        | xh => exact h.elim
    · exact h.elim
theorem fv_call {n : Nat} {F : List L → FRes} {t : TA} {ma : AM} (ht : AvOk K W t ma) : FvOk K W (tCallSD (spF K.k n F) [] (WE W) t) (fCall n F ma) := fun σ G H ρ R Q h => by
  unfold fCall bindR at h
  refine ht.fst R (fun xs ρ1 e vs G1 H1 S1 R1 x1 => ?_) (fun e ρ1 q => by rw [q] at h; exact h) (fun q => by rw [q] at h; exact h)
  rw [e] at h
  have h := FPost.step S1 h
  simp only at h
  split at h
  · exact h.elim
  · rename_i as ea
    split at h
    · rename_i hnn
      have hnd := hnn.2
      have A := sub_ok R1 x1 ea hnd
      rw [List.append_nil]
      refine ⟨x1.len.trans hnn.1, G1, as, A, ?_⟩
      cases eF : F as with
      | bad => rw [eF] at h; exact h
      | ex x bs =>
        rw [eF] at h
        intro c d G' H' S' R' q
        obtain ⟨a, b, _⟩ := sup_ok R1 x1 ea hnd S' R'
        exact h c d G' H' a b q
      | ok l bs =>
        rw [eF] at h
        intro v G' H' S' R' q
        obtain ⟨a, b, o⟩ := sup_ok R1 x1 ea hnd S' R'
        cases l with
        | m x => exact h v G' H' a b ⟨q.1, fun a ea => ⟨q.2 a ea, fun z => Own.there R1 (o a z) (q.2 a ea)⟩⟩
        | d x => exact h.elim
        | r x => exact h.elim
        | xh => exact h.elim
    · exact h.elim
end DL
set_option Elab.async false
set_option linter.all false
set_option maxRecDepth 100000
set_option maxHeartbeats 4000000
/-! the operations on data -/
namespace DL
open PySem PySem.Spec PyProof.Rows L2
variable {X : Cx}
/-! ### what a view says -/
section
variable {K : PySem.W.Frag} {G H : Hp} {v : V}
theorem Vw.int {i : Int} (h : Vw K G H v (.int i)) : v = .int i := by cases h; rfl
theorem Vw.bl {i : Bool} (h : Vw K G H v (.bl i)) : v = .bl i := by cases h; rfl
theorem Vw.str {i : Str} (h : Vw K G H v (.str i)) : v = .str i := by cases h; rfl
theorem Vw.non (h : Vw K G H v .non) : v = .non := by cases h; rfl
theorem Vw.tup {ds : List D} (h : Vw K G H v (.tup ds)) : ∃ p xs, v = .ref p ∧ SqT K G p xs ∧ DqA K G xs ds := by
  cases h with
  | tup h a => exact ⟨_, _, rfl, h, a⟩
theorem Vw.lst {ds : List D} (h : Vw K G H v (.lst ds)) : ∃ p xs, v = .ref p ∧ H p = some (.lst xs) ∧ DqA K G xs ds := h
theorem dend {d : D} {Q : VK} {w : V} (s : Same G H) (h : DEnd K G H d Q) (q : Dq K G w d) : Q w H := h w G H (Gro.refl s) q
theorem dend_int {i : Int} {Q : VK} (s : Same G H) (h : DEnd K G H (.int i) Q) : Q (.int i) H := dend s h (.int i)
theorem dend_bl {b : Bool} {Q : VK} (s : Same G H) (h : DEnd K G H (.bl b) Q) : Q (.bl b) H := dend s h (.bl b)
theorem dend_str {b : Str} {Q : VK} (s : Same G H) (h : DEnd K G H (.str b) Q) : Q (.str b) H := dend s h (.str b)
theorem dend_lst {ds : List D} {xs : List V} {Q : VK} {p : Addr} (s : Same G H) (hp : H p = none) (q : DqA K G xs ds) (h : DEnd K G H (.lst ds) Q) : Q (.ref p) (upd H p (.lst xs)) := by
  have g := Gro.new (o := .lst xs) s hp
  exact h _ _ _ g (.lst upd_same (q.mono g.g))
theorem dend_tup {ds : List D} {xs : List V} {Q : VK} {p : Addr} (s : Same G H) (hp : H p = none) (q : DqA K G xs ds) (h : DEnd K G H (.tup ds) Q) : Q (.ref p) (upd H p (.tup xs)) := by
  have g := Gro.new (o := .tup xs) s hp
  exact h _ _ _ g (.tup (.inl (.inl upd_same)) (q.mono g.g))
/-- lists of any standing; lists and tuples -/
def seqL : D → Option (List D)
  | .lst ds => some ds
  | .ro ds => some ds
  | _ => none
def seqD : D → Option (List D)
  | .lst ds => some ds
  | .ro ds => some ds
  | .tup ds => some ds
  | _ => none
theorem seqL_vw {a : D} {ds : List D} (s : Same G H) (h : Vw K G H v a) (e : seqL a = some ds) : ∃ p xs, v = .ref p ∧ SqL K H p xs ∧ DqA K G xs ds := by
  cases a with
  | lst es =>
    cases Option.some.inj e
    obtain ⟨p, xs, e, h, q⟩ := h
    exact ⟨p, xs, e, .inl (.inl h), q⟩
  | ro es =>
    cases Option.some.inj e
    cases h with
    | ro h a => exact ⟨_, _, rfl, s.seq h, a⟩
  | _ => cases e
theorem seqD_vw {a : D} {ds : List D} (s : Same G H) (h : Vw K G H v a) (e : seqD a = some ds) : ∃ p xs, v = .ref p ∧ (SqL K H p xs ∨ SqT K H p xs) ∧ DqA K G xs ds := by
  cases a with
  | lst es =>
    obtain ⟨p, xs, h1, h2, h3⟩ := seqL_vw s h (show seqL (.lst es) = some ds from e)
    exact ⟨p, xs, h1, .inl h2, h3⟩
  | ro es =>
    obtain ⟨p, xs, h1, h2, h3⟩ := seqL_vw s h (show seqL (.ro es) = some ds from e)
    exact ⟨p, xs, h1, .inl h2, h3⟩
  | tup es =>
    cases Option.some.inj e
    obtain ⟨p, xs, h1, h2, h3⟩ := Vw.tup h
    exact ⟨p, xs, h1, .inr (Same.seqT s h2), h3⟩
  | _ => cases e
theorem DqA.isNil {xs : List V} {ds : List D} (q : DqA K G xs ds) : xs = [] ↔ ds = [] := by
  cases q with
  | nil => simp
  | cons _ _ => simp
end
/-! ### + - * // % ** -/
def addD : D → D → Option D
  | .int i, .int j => some (.int (i + j))
  | .str x, .str y => if x.length + y.length ≤ mx then some (.str (x ++ y)) else none
  | .lst x, .lst y => if x.length + y.length ≤ mx then some (.lst (x ++ y)) else none
  | .tup x, .tup y => if x.length + y.length ≤ mx then some (.tup (x ++ y)) else none
  | _, _ => none
theorem op_addD : OpR X (binaryOp .Add) (rD2 X.K addD) := by
  intro pins s σ H x y v u Q I rx ry h
  obtain ⟨G, a, b, d, sG, va, vb, e, q⟩ := h
  unfold addD at e
  split at e
  · cases Option.some.inj e
    rw [va.int] at rx
    rw [vb.int] at ry
    exact op_add pins s σ H _ _ v u Q I rx ry ⟨_, _, rfl, rfl, dend_int sG q⟩
  · split at e
    · rename_i hz
      cases Option.some.inj e
      rw [va.str] at rx
      rw [vb.str] at ry
      exact op_add_str pins s σ H _ _ v u Q I rx ry ⟨_, _, rfl, rfl, small_size hz, dend_str sG q⟩
    · cases e
  · split at e
    · rename_i hz
      cases Option.some.inj e
      obtain ⟨p, xs, rfl, h1, h2⟩ := va.lst
      obtain ⟨p', ys, rfl, h1', h2'⟩ := vb.lst
      exact op_cat pins s σ H _ _ v u Q I rx ry ⟨p, p', xs, ys, rfl, rfl, h1, h1', by rw [h2.length, h2'.length]; exact small_size hz, fun r hr => dend_lst sG hr (h2.append h2') q⟩
    · cases e
  · split at e
    · rename_i hz
      cases Option.some.inj e
      obtain ⟨p, xs, rfl, h1, h2⟩ := va.tup
      obtain ⟨p', ys, rfl, h1', h2'⟩ := vb.tup
      refine op_catA pins s σ H _ _ v u Q I rx ry ⟨p, p', xs, ys, rfl, rfl, Same.seqT sG h1, Same.seqT sG h1', by rw [h2.length, h2'.length]; exact small_size hz, fun z => ?_, fun _ z => ?_, fun _ _ r hr => dend_tup sG hr (h2.append h2') q⟩
      · rw [h2.isNil] at z
        subst z
        exact dend sG q (.tup h1' h2')
      · rw [h2'.isNil] at z
        subst z
        rw [List.append_nil] at q
        exact dend sG q (.tup h1 h2)
    · cases e
  · cases e
/-- list + list, new -/
def catF : D → D → Option (List D)
  | .lst x, .lst y => if x.length + y.length ≤ mx then some (x ++ y) else none
  | _, _ => none
theorem op_catF : OpR X (binaryOp .Add) (rF2 X.K catF) := by
  intro pins s σ H x y v u Q I rx ry h
  obtain ⟨G, a, b, d, sG, va, vb, e, q⟩ := h
  unfold catF at e
  split at e
  · split at e
    · rename_i hz
      cases Option.some.inj e
      obtain ⟨p, xs, rfl, h1, h2⟩ := va.lst
      obtain ⟨p', ys, rfl, h1', h2'⟩ := vb.lst
      exact op_cat pins s σ H _ _ v u Q I rx ry ⟨p, p', xs, ys, rfl, rfl, h1, h1', by rw [h2.length, h2'.length]; exact small_size hz, fun r hr => q r _ hr (h2.append h2')⟩
    · cases e
  · cases e
def subD : D → D → Option D
  | .int i, .int j => some (.int (i - j))
  | _, _ => none
theorem op_subD : OpR X (binaryOp .Sub) (rD2 X.K subD) := by
  intro pins s σ H x y v u Q I rx ry h
  obtain ⟨G, a, b, d, sG, va, vb, e, q⟩ := h
  unfold subD at e
  split at e
  · cases Option.some.inj e
    rw [va.int] at rx
    rw [vb.int] at ry
    exact op_sub pins s σ H _ _ v u Q I rx ry ⟨_, _, rfl, rfl, dend_int sG q⟩
  · cases e
/-- a great number -/
def big : Nat := 2 ^ 5000
theorem log2_big {i : Nat} (h : i < big) : i.log2 < 5000 := PySem.Flt.log2_lt_of (by decide) h
def mulOk (i j : Int) : Prop := i.natAbs < 2 ^ 64 ∨ j.natAbs < 2 ^ 64 ∨ (i.natAbs < big ∧ j.natAbs < big)
instance (i j : Int) : Decidable (mulOk i j) := inferInstanceAs (Decidable (_ ∨ _ ∨ _))
theorem mulOk.ok {i j : Int} (h : mulOk i j) : IntMulOk i j := by
  rcases h with h | h | ⟨h1, h2⟩
  · exact CMul.ok (.inl ⟨by omega, by omega⟩)
  · exact CMul.ok (.inr ⟨by omega, by omega⟩)
  · refine CMulW.ok ?_
    have a := log2_big h1
    have b := log2_big h2
    unfold CMulW
    omega
def repL (k : Int) (ds : List D) : Option (List D) := if -(2 ^ 63) ≤ k ∧ k < 2 ^ 63 ∧ ds.length * k.toNat ≤ mx then some (List.replicate k.toNat ds).flatten else none
theorem DqA.rep {K : PySem.W.Frag} {G : Hp} {xs : List V} {ds : List D} (q : DqA K G xs ds) : ∀ n : Nat, DqA K G (List.replicate n xs).flatten (List.replicate n ds).flatten
  | 0 => .nil
  | n + 1 => by
    rw [List.replicate_succ, List.replicate_succ, List.flatten_cons, List.flatten_cons]
    exact q.append (DqA.rep q n)
def mulD : D → D → Option D
  | .int i, .int j => if mulOk i j then some (.int (i * j)) else none
  | .lst x, .int k => (repL k x).map .lst
  | _, _ => none
theorem op_mulD : OpR X (binaryOp .Mult) (rD2 X.K mulD) := by
  intro pins s σ H x y v u Q I rx ry h
  obtain ⟨G, a, b, d, sG, va, vb, e, q⟩ := h
  unfold mulD at e
  split at e
  · split at e
    · rename_i hz
      cases Option.some.inj e
      rw [va.int] at rx
      rw [vb.int] at ry
      obtain ⟨t, rfl⟩ := rx
      obtain ⟨t', rfl⟩ := ry
      exact mul_int ⟨.int _, H, I.tok _, ⟨_, rfl⟩, dend_int sG q⟩ hz.ok
    · cases e
  · obtain ⟨es, e1, rfl⟩ := Option.map_eq_some_iff.mp e
    unfold repL at e1
    split at e1
    · rename_i hz
      cases Option.some.inj e1
      obtain ⟨p, xs, rfl, h1, h2⟩ := va.lst
      rw [vb.int] at ry
      exact op_rep pins s σ H _ _ v u Q I rx ry ⟨p, _, xs, rfl, rfl, h1, hz.1, hz.2.1, by rw [h2.length]; exact small_size hz.2.2, fun r hr => dend_lst sG hr (h2.rep _) q⟩
    · cases e1
  · cases e
def repF : D → D → Option (List D)
  | .lst x, .int k => repL k x
  | _, _ => none
theorem op_repF : OpR X (binaryOp .Mult) (rF2 X.K repF) := by
  intro pins s σ H x y v u Q I rx ry h
  obtain ⟨G, a, b, d, sG, va, vb, e, q⟩ := h
  unfold repF at e
  split at e
  · unfold repL at e
    split at e
    · rename_i hz
      cases Option.some.inj e
      obtain ⟨p, xs, rfl, h1, h2⟩ := va.lst
      rw [vb.int] at ry
      exact op_rep pins s σ H _ _ v u Q I rx ry ⟨p, _, xs, rfl, rfl, h1, hz.1, hz.2.1, by rw [h2.length]; exact small_size hz.2.2, fun r hr => q r _ hr (h2.rep _)⟩
    · cases e
  · cases e
def divOk (j : Int) : Prop := j ≠ 0 ∧ j.natAbs < big
instance (j : Int) : Decidable (divOk j) := inferInstanceAs (Decidable (_ ∧ _))
theorem divOk.ok {i j : Int} (h : divOk j) : Builtin.divisionGoesByPylong i j = false := PyProof.noPylong_of_log2 (Nat.lt_trans (log2_big h.2) (by decide))
def fdivD : D → D → Option D
  | .int i, .int j => if divOk j then some (.int (i.fdiv j)) else none
  | _, _ => none
theorem op_fdivD : OpR X (binaryOp .FloorDiv) (rD2 X.K fdivD) := by
  intro pins s σ H x y v u Q I rx ry h
  obtain ⟨G, a, b, d, sG, va, vb, e, q⟩ := h
  unfold fdivD at e
  split at e
  · split at e
    · rename_i hz
      cases Option.some.inj e
      rw [va.int] at rx
      rw [vb.int] at ry
      obtain ⟨t, rfl⟩ := rx
      obtain ⟨t', rfl⟩ := ry
      exact floordiv_int hz.1 ⟨.int _, H, I.tok _, ⟨_, rfl⟩, dend_int sG q⟩ (.inl hz.ok)
    · cases e
  · cases e
def modD : D → D → Option D
  | .int i, .int j => if j ≠ 0 then some (.int (i.fmod j)) else none
  | _, _ => none
theorem op_modD : OpR X (binaryOp .Mod) (rD2 X.K modD) := by
  intro pins s σ H x y v u Q I rx ry h
  obtain ⟨G, a, b, d, sG, va, vb, e, q⟩ := h
  unfold modD at e
  split at e
  · split at e
    · rename_i hz
      cases Option.some.inj e
      rw [va.int] at rx
      rw [vb.int] at ry
      exact op_modN pins s σ H _ _ v u Q I rx ry ⟨_, _, rfl, rfl, hz, dend_int sG q⟩
    · cases e
  · cases e
def powD : D → D → Option D
  | .int i, .int j => if 0 ≤ j ∧ j ≤ 1000000 ∧ i.natAbs < 2 ^ 64 then some (.int (i ^ j.toNat)) else none
  | _, _ => none
theorem op_powD : OpR X (binaryOp .Pow) (rD2 X.K powD) := by
  intro pins s σ H x y v u Q I rx ry h
  obtain ⟨G, a, b, d, sG, va, vb, e, q⟩ := h
  unfold powD at e
  split at e
  · split at e
    · rename_i hz
      cases Option.some.inj e
      rw [va.int] at rx
      rw [vb.int] at ry
      exact op_pow pins s σ H _ _ v u Q I rx ry ⟨_, _, rfl, rfl, hz, dend_int sG q⟩
    · cases e
  · cases e
def negD : D → Option D
  | .int i => some (.int (-i))
  | _ => none
theorem un_negD : UnR X (unaryOp .USub) (rD1 X.K negD) := by
  intro pins s σ H x v Q I rx h
  obtain ⟨G, a, d, sG, va, e, q⟩ := h
  unfold negD at e
  split at e
  · cases Option.some.inj e
    rw [va.int] at rx
    exact un_neg pins s σ H _ v Q I rx ⟨_, rfl, dend_int sG q⟩
  · cases e
/-! ### comparisons -/
def cmpD (f : Int → Int → Bool) : D → D → Option D
  | .int i, .int j => some (.bl (f i j))
  | _, _ => none
theorem op_cmpD {op : CmpOp} {f : Int → Int → Bool} (ho : OpR X (compareOp op) (rI0 fun i j => .bl (f i j))) : OpR X (compareOp op) (rD2 X.K (cmpD f)) := by
  intro pins s σ H x y v u Q I rx ry h
  obtain ⟨G, a, b, d, sG, va, vb, e, q⟩ := h
  unfold cmpD at e
  split at e
  · cases Option.some.inj e
    rw [va.int] at rx
    rw [vb.int] at ry
    exact ho pins s σ H _ _ v u Q I rx ry ⟨_, _, rfl, rfl, dend_bl sG q⟩
  · cases e
abbrev ltD : D → D → Option D := cmpD fun i j => decide (i < j)
abbrev leD : D → D → Option D := cmpD fun i j => decide (i ≤ j)
abbrev gtD : D → D → Option D := cmpD fun i j => decide (j < i)
abbrev geD : D → D → Option D := cmpD fun i j => decide (j ≤ i)
theorem op_ltD : OpR X (compareOp .Lt) (rD2 X.K ltD) := op_cmpD op_lt
theorem op_leD : OpR X (compareOp .LtE) (rD2 X.K leD) := op_cmpD op_le
theorem op_gtD : OpR X (compareOp .Gt) (rD2 X.K gtD) := op_cmpD op_gt
theorem op_geD : OpR X (compareOp .GtE) (rD2 X.K geD) := op_cmpD op_ge
mutual
def toP : D → Option PyData
  | .non => some .none
  | .bl b => some (.bool b)
  | .int i => some (.int i)
  | .str x => some (.str x)
  | .lst ds => (toPs ds).map .list
  | .ro ds => (toPs ds).map .list
  | .tup ds => (toPs ds).map .tuple
  | .dct _ => none
  | .ins _ _ => none
def toPs : List D → Option (List PyData)
  | [] => some []
  | d :: ds => match toP d, toPs ds with
    | some p, some ps => some (p :: ps)
    | _, _ => none
end
section
variable {K : PySem.W.Frag} {G H : Hp} (s : Same G H)
include s
mutual
theorem Dq.dp : ∀ {d : D} {v : V} {p : PyData}, Dq K G v d → toP d = some p → Dp K H v p
  | .non, _, _, h, e => by cases h; unfold toP at e; cases Option.some.inj e; exact .non
  | .bl b, _, _, h, e => by cases h; unfold toP at e; cases Option.some.inj e; exact .bl b
  | .int b, _, _, h, e => by cases h; unfold toP at e; cases Option.some.inj e; exact .int b
  | .str b, _, _, h, e => by cases h; unfold toP at e; cases Option.some.inj e; exact .str b
  | .lst ds, _, _, h, e => by
    cases h with
    | lst hq ha =>
      unfold toP at e
      obtain ⟨ps, e1, rfl⟩ := Option.map_eq_some_iff.mp e
      exact .lst (.inl (.inl (s _ _ hq))) (DqA.dp ha e1)
  | .ro ds, _, _, h, e => by
    cases h with
    | ro hq ha =>
      unfold toP at e
      obtain ⟨ps, e1, rfl⟩ := Option.map_eq_some_iff.mp e
      exact .lst (s.seq hq) (DqA.dp ha e1)
  | .tup ds, _, _, h, e => by
    cases h with
    | tup hq ha =>
      unfold toP at e
      obtain ⟨ps, e1, rfl⟩ := Option.map_eq_some_iff.mp e
      exact .tup (Same.seqT s hq) (DqA.dp ha e1)
  | .dct ds, _, _, h, e => by unfold toP at e; cases e
  | .ins _ ds, _, _, h, e => by unfold toP at e; cases e
theorem DqA.dp : ∀ {ds : List D} {vs : List V} {ps : List PyData}, DqA K G vs ds → toPs ds = some ps → DpAll K H vs ps
  | [], _, _, h, e => by cases h; unfold toPs at e; cases Option.some.inj e; exact .nil
  | d :: ds, _, _, h, e => by
    cases h with
    | cons h1 h2 =>
      unfold toPs at e
      split at e
      · rename_i p ps e1 e2
        cases Option.some.inj e
        exact .cons (Dq.dp h1 e1) (DqA.dp h2 e2)
      · cases e
end
theorem Vw.dp {d : D} {v : V} {p : PyData} (h : Vw K G H v d) (e : toP d = some p) : Dp K H v p := by
  cases d with
  | lst ds =>
    obtain ⟨a, xs, rfl, h1, h2⟩ := h
    unfold toP at e
    obtain ⟨ps, e1, rfl⟩ := Option.map_eq_some_iff.mp e
    exact .lst (.inl (.inl h1)) (DqA.dp s h2 e1)
  | dct ds => unfold toP at e; cases e
  | non => exact Dq.dp s h e
  | bl _ => exact Dq.dp s h e
  | int _ => exact Dq.dp s h e
  | str _ => exact Dq.dp s h e
  | ro _ => exact Dq.dp s h e
  | tup _ => exact Dq.dp s h e
  | ins _ _ => exact Dq.dp s h e
end
/-- == by value -/
def eqB : D → D → Option Bool
  | .int i, .int j => some (decide (i = j))
  | a, b => match toP a, toP b with
    | some p, some q => if SeqAt.shaped p = true ∧ SeqAt.shaped q = true then some (PyData.eqv p q) else none
    | _, _ => none
def eqD (a b : D) : Option D := (eqB a b).map .bl
def neD (a b : D) : Option D := (eqB a b).map fun c => .bl (!c)
theorem op_eqD' (hu : X.A.units + 64 < cLine) : OpR X (compareOp .Eq) (rD2 X.K eqD) := by
  intro pins s σ H x y v u Q I rx ry h
  obtain ⟨G, a, b, d, sG, va, vb, e, q⟩ := h
  obtain ⟨c, e1, rfl⟩ := Option.map_eq_some_iff.mp e
  have q := dend_bl sG q
  unfold eqB at e1
  split at e1
  · cases Option.some.inj e1
    rw [va.int] at rx
    rw [vb.int] at ry
    refine op_eq pins s σ H _ _ v u Q I rx ry ⟨rfl, ?_⟩
    rw [dec_int, show ∀ i j : Int, (i == j) = decide (i = j) from fun i j => by by_cases z : i = j <;> simp [z]]
    exact q
  · split at e1
    · rename_i p p' ep ep'
      split at e1
      · rename_i hz
        cases Option.some.inj e1
        exact op_eqD hu pins s σ H _ _ v u Q I rx ry ⟨p, p', Vw.dp sG va ep, Vw.dp sG vb ep', hz.1, hz.2, q⟩
      · cases e1
    · cases e1
theorem op_neD' (hu : X.A.units + 64 < cLine) : OpR X (compareOp .NotEq) (rD2 X.K neD) := by
  intro pins s σ H x y v u Q I rx ry h
  obtain ⟨G, a, b, d, sG, va, vb, e, q⟩ := h
  obtain ⟨c, e1, rfl⟩ := Option.map_eq_some_iff.mp e
  have q := dend_bl sG q
  unfold eqB at e1
  split at e1
  · cases Option.some.inj e1
    rw [va.int] at rx
    rw [vb.int] at ry
    refine op_ne pins s σ H _ _ v u Q I rx ry ⟨rfl, ?_⟩
    rw [dec_int, show ∀ i j : Int, (i == j) = decide (i = j) from fun i j => by by_cases z : i = j <;> simp [z]]
    exact q
  · split at e1
    · rename_i p p' ep ep'
      split at e1
      · rename_i hz
        cases Option.some.inj e1
        exact op_neD hu pins s σ H _ _ v u Q I rx ry ⟨p, p', Vw.dp sG va ep, Vw.dp sG vb ep', hz.1, hz.2, q⟩
      · cases e1
    · cases e1
/-- is: None, True, False on the right -/
def isNone : D → Bool
  | .non => true
  | _ => false
def isD : D → D → Option D
  | a, .non => some (.bl (isNone a))
  | .bl x, .bl y => some (.bl (decide (x = y)))
  | _, _ => none
def isnD : D → D → Option D
  | a, .non => some (.bl (!isNone a))
  | .bl x, .bl y => some (.bl (!decide (x = y)))
  | _, _ => none
theorem Vw.isNone {K : PySem.W.Frag} {G H : Hp} {v : V} {a : D} (h : Vw K G H v a) : decide (v = .non) = DL.isNone a := by
  cases a with
  | lst _ => obtain ⟨p, xs, rfl, _⟩ := h; rfl
  | dct _ => obtain ⟨p, xs, rfl, _⟩ := h; rfl
  | non => cases h; rfl
  | bl _ => cases h; rfl
  | int _ => cases h; rfl
  | str _ => cases h; rfl
  | ro _ => cases h; rfl
  | tup _ => cases h; rfl
  | ins _ _ => cases h; rfl
theorem op_isD : OpR X (compareOp .Is) (rD2 X.K isD) := by
  intro pins s σ H x y v u Q I rx ry h
  obtain ⟨G, a, b, d, sG, va, vb, e, q⟩ := h
  unfold isD at e
  split at e
  · cases Option.some.inj e
    rw [vb.non] at ry
    refine op_isN pins s σ H _ _ v u Q I rx ry ⟨rfl, ?_⟩
    rw [va.isNone]
    exact dend_bl sG q
  · cases Option.some.inj e
    rw [va.bl] at rx
    rw [vb.bl] at ry
    exact op_isBl pins s σ H _ _ v u Q I rx ry ⟨_, _, rfl, rfl, dend_bl sG q⟩
  · cases e
theorem op_isnD : OpR X (compareOp .IsNot) (rD2 X.K isnD) := by
  intro pins s σ H x y v u Q I rx ry h
  obtain ⟨G, a, b, d, sG, va, vb, e, q⟩ := h
  unfold isnD at e
  split at e
  · cases Option.some.inj e
    rw [vb.non] at ry
    refine op_notN pins s σ H _ _ v u Q I rx ry ⟨rfl, ?_⟩
    rw [va.isNone]
    exact dend_bl sG q
  · cases Option.some.inj e
    rw [va.bl] at rx
    rw [vb.bl] at ry
    exact op_notBl pins s σ H _ _ v u Q I rx ry ⟨_, _, rfl, rfl, dend_bl sG q⟩
  · cases e
/-- in: flat things -/
def flatD : D → Bool
  | .non => true
  | .bl _ => true
  | .int _ => true
  | .str _ => true
  | _ => false
def eqF : D → D → Bool
  | .non, .non => true
  | .bl a, .bl b => a == b
  | .bl a, .int b => (if a then 1 else 0) == b
  | .int a, .bl b => a == (if b then 1 else 0)
  | .int a, .int b => a == b
  | .str a, .str b => a == b
  | _, _ => false
theorem flat_vw {K : PySem.W.Frag} {G H : Hp} {v : V} {a : D} (h : Vw K G H v a) (f : flatD a = true) : flatV v = true ∧ ∀ w b, Dq K G w b → flatD b = true → eqV w v = eqF b a := by
  cases a <;> first | cases f | skip
  all_goals
    cases h
    refine ⟨rfl, fun w b hw fb => ?_⟩
    cases hw <;> first | rfl | cases fb
theorem flat_all {K : PySem.W.Frag} {G : Hp} : ∀ {xs : List V} {ds : List D}, DqA K G xs ds → ds.all flatD = true → xs.all flatV = true
  | _, _, .nil, _ => rfl
  | _, _, .cons h t, f => by
    rw [List.all_cons, Bool.and_eq_true] at f ⊢
    refine ⟨?_, flat_all t f.2⟩
    cases h <;> first | rfl | cases f.1
theorem in_all {K : PySem.W.Frag} {G H : Hp} {v : V} {a : D} (h : Vw K G H v a) (f : flatD a = true) : ∀ {xs : List V} {ds : List D}, DqA K G xs ds → ds.all flatD = true → inV v xs = ds.any fun d => eqF d a
  | _, _, .nil, _ => rfl
  | _, _, .cons hd t, g => by
    rw [List.all_cons, Bool.and_eq_true] at g
    unfold inV
    rw [List.any_cons, List.any_cons, (flat_vw h f).2 _ _ hd g.1]
    exact congrArg _ (in_all h f t g.2)
def inB (a b : D) : Option Bool := match seqD b with
  | some ds => if flatD a = true ∧ ds.all flatD = true then some (ds.any fun d => eqF d a) else none
  | none => none
def inD (a b : D) : Option D := (inB a b).map .bl
def ninD (a b : D) : Option D := (inB a b).map fun c => .bl (!c)
theorem op_inD : OpR X (compareOp .In) (rD2 X.K inD) := by
  intro pins s σ H x y v u Q I rx ry h
  obtain ⟨G, a, b, d, sG, va, vb, e, q⟩ := h
  obtain ⟨c, e1, rfl⟩ := Option.map_eq_some_iff.mp e
  have q := dend_bl sG q
  unfold inB at e1
  split at e1
  · rename_i ds es
    split at e1
    · rename_i hz
      cases Option.some.inj e1
      obtain ⟨p, xs, rfl, h1, h2⟩ := seqD_vw sG vb es
      refine op_in_seq pins s σ H _ _ v u Q I rx ry ⟨p, xs, rfl, h1, (flat_vw va hz.1).1, flat_all h2 hz.2, ?_⟩
      rw [in_all va hz.1 h2 hz.2]
      exact q
    · cases e1
  · cases e1
theorem op_ninD : OpR X (compareOp .NotIn) (rD2 X.K ninD) := by
  intro pins s σ H x y v u Q I rx ry h
  obtain ⟨G, a, b, d, sG, va, vb, e, q⟩ := h
  obtain ⟨c, e1, rfl⟩ := Option.map_eq_some_iff.mp e
  have q := dend_bl sG q
  unfold inB at e1
  split at e1
  · rename_i ds es
    split at e1
    · rename_i hz
      cases Option.some.inj e1
      obtain ⟨p, xs, rfl, h1, h2⟩ := seqD_vw sG vb es
      refine op_notIn_seq pins s σ H _ _ v u Q I rx ry ⟨p, xs, rfl, h1, (flat_vw va hz.1).1, flat_all h2 hz.2, ?_⟩
      rw [in_all va hz.1 h2 hz.2]
      exact q
    · cases e1
  · cases e1
/-! ### subscripts -/
theorem DqA.atI {K : PySem.W.Frag} {G : Hp} {xs : List V} {ds : List D} {i : Int} {d : D} (q : DqA K G xs ds) (h : L2.atI ds i = some d) : ∃ v, L2.atI xs i = some v ∧ Dq K G v d := by
  unfold L2.atI at h ⊢
  rw [q.length]
  obtain ⟨j, h1, h2⟩ := Option.bind_eq_some_iff.mp h
  obtain ⟨v, h3, h4⟩ := q.get h2
  exact ⟨v, by rw [h1]; exact h3, h4⟩
def ixD : D → D → Option D
  | a, .int i => match seqD a with
    | some ds => atI ds i
    | none => none
  | _, _ => none
theorem ix_D : IxR X (rD2 X.K ixD) := by
  intro value slice pins s σ H x y v u Q I rx ry h hs
  obtain ⟨G, a, b, d, sG, va, vb, e, q⟩ := h
  unfold ixD at e
  split at e
  · split at e
    · rename_i i ds es
      obtain ⟨p, xs, rfl, h1, h2⟩ := seqD_vw sG va es
      obtain ⟨w, h3, h4⟩ := h2.atI e
      rw [vb.int] at ry
      rcases h1 with h1 | h1
      · exact ix_list value slice pins s σ H _ _ v u Q I rx ry ⟨p, xs, _, w, rfl, rfl, h1, h3, dend sG q h4⟩ hs
      · exact ix_tup value slice pins s σ H _ _ v u Q I rx ry ⟨p, xs, _, w, rfl, rfl, h1, h3, dend sG q h4⟩ hs
    · cases e
  · cases e
def cutD (ds : List D) (lo hi : Option Int) : List D := (ds.drop (HT.sIx ds.length 0 lo)).take (HT.sIx ds.length ds.length hi - HT.sIx ds.length 0 lo)
theorem DqA.cut {K : PySem.W.Frag} {G : Hp} {xs : List V} {ds : List D} (q : DqA K G xs ds) (lo hi : Option Int) : DqA K G (cutV xs lo hi) (cutD ds lo hi) := by
  unfold cutV cutD
  rw [q.length]
  exact (q.drop _).take _
def slD : D → Option Int → Option Int → Option D
  | .lst ds, lo, hi => some (.lst (cutD ds lo hi))
  | .ro ds, lo, hi => some (.lst (cutD ds lo hi))
  | .tup ds, lo, hi => some (.tup (cutD ds lo hi))
  | _, _, _ => none
theorem cutD_whole {ds : List D} {lo hi : Option Int} (h : HT.sIx ds.length 0 lo = 0 ∧ HT.sIx ds.length ds.length hi = ds.length) : cutD ds lo hi = ds := by
  unfold cutD
  rw [h.1, h.2]
  simp
theorem sl_D : SlR X (rSl X.K slD) := by
  intro pins s σ H x v vl vu lo hi sl Q I rx hs pl pu h
  obtain ⟨G, a, d, sG, va, e, q⟩ := h
  cases a with
  | lst ds =>
    cases Option.some.inj e
    obtain ⟨p, xs, rfl, h1, h2⟩ := va.lst
    exact sl_list pins s σ H _ v vl vu lo hi sl Q I rx hs pl pu ⟨p, xs, rfl, .inl (.inl h1), fun r hr => dend_lst sG hr (h2.cut lo hi) q⟩
  | ro ds =>
    cases Option.some.inj e
    obtain ⟨p, xs, rfl, h1, h2⟩ := seqL_vw sG va rfl
    exact sl_list pins s σ H _ v vl vu lo hi sl Q I rx hs pl pu ⟨p, xs, rfl, h1, fun r hr => dend_lst sG hr (h2.cut lo hi) q⟩
  | non => cases e
  | bl _ => cases e
  | int _ => cases e
  | str _ => cases e
  | dct _ => cases e
  | ins _ _ => cases e
  | tup ds =>
    cases Option.some.inj e
    obtain ⟨p, xs, rfl, h1, h2⟩ := va.tup
    refine sl_tupA pins s σ H _ v vl vu lo hi sl Q I rx hs pl pu ⟨p, xs, rfl, Same.seqT sG h1, fun z => ?_, fun _ r hr => dend_tup sG hr (h2.cut lo hi) q⟩
    rw [h2.length] at z
    rw [cutD_whole z] at q
    exact dend sG q (.tup h1 h2)
def slF : D → Option Int → Option Int → Option (List D)
  | .lst ds, lo, hi => some (cutD ds lo hi)
  | .ro ds, lo, hi => some (cutD ds lo hi)
  | _, _, _ => none
theorem sl_F : SlR X (rSlF X.K slF) := by
  intro pins s σ H x v vl vu lo hi sl Q I rx hs pl pu h
  obtain ⟨G, a, d, sG, va, e, q⟩ := h
  cases a with
  | lst ds =>
    cases Option.some.inj e
    obtain ⟨p, xs, rfl, h1, h2⟩ := va.lst
    exact sl_list pins s σ H _ v vl vu lo hi sl Q I rx hs pl pu ⟨p, xs, rfl, .inl (.inl h1), fun r hr => q r _ hr (h2.cut lo hi)⟩
  | ro ds =>
    cases Option.some.inj e
    obtain ⟨p, xs, rfl, h1, h2⟩ := seqL_vw sG va rfl
    exact sl_list pins s σ H _ v vl vu lo hi sl Q I rx hs pl pu ⟨p, xs, rfl, h1, fun r hr => q r _ hr (h2.cut lo hi)⟩
  | non => cases e
  | bl _ => cases e
  | int _ => cases e
  | str _ => cases e
  | tup _ => cases e
  | dct _ => cases e
  | ins _ _ => cases e
/-- xs[lo:hi:st] of a list -/
def idxs (lo hi st : Option Int) (n : Nat) : List Nat := sliceRange (sliceBounds lo hi st n).1 (sliceBounds lo hi st n).2.1 (sliceBounds lo hi st n).2.2
def pickD {α : Type} (ds : List α) (lo hi st : Option Int) : List α := (idxs lo hi st ds.length).filterMap (ds[·]?)
theorem DqA.pick {K : PySem.W.Frag} {G : Hp} {xs : List V} {ds : List D} (q : DqA K G xs ds) (lo hi st : Option Int) : DqA K G (pickD xs lo hi st) (pickD ds lo hi st) := by
  unfold pickD
  rw [q.length]
  induction idxs lo hi st ds.length with
  | nil => exact .nil
  | cons i r ih =>
    rw [List.filterMap_cons, List.filterMap_cons]
    cases e : ds[i]? with
    | none =>
      rw [List.getElem?_eq_none (by rw [q.length]; exact List.getElem?_eq_none_iff.mp e)]
      exact ih
    | some d =>
      obtain ⟨v, h1, h2⟩ := q.get e
      rw [h1]
      exact .cons h2 ih
def tSlS (K : PySem.W.Frag) (te : TE) (tl th ts : TO) : TE := fun σ H Q => te σ H fun x H1 => tl σ H1 fun lo H2 => th σ H2 fun hi H3 => ts σ H3 fun st H4 => ∃ a xs, x = .ref a ∧ SqL K H4 a xs ∧ st ≠ some 0 ∧ (pickD xs lo hi st).length ≤ sizeLine ∧ ∀ p, H4 p = none → Q (.ref p) (upd H4 p (.lst (pickD xs lo hi st)))
theorem pe_sliceS {e : Expr} {te : TE} {tl th ts : TO} {lo hi : Option Expr} {st : Expr} {p3 pos : Pos} (he : PE X e te) (hl : PO X lo tl) (hh : PO X hi th) (hs : PO X (some st) ts)
    (hst : ∀ a b, subscripted (.Slice lo hi (some st) p3) false (.ref a) (.ref b) = operate [.ref a, .ref b] (getItem (.ref a) (.ref b)) := by intro _ _; with_unfolding_all rfl) : PE X (.Subscript e (.Slice lo hi (some st) p3) pos) (tSlS X.K te tl th ts) := by
  refine ⟨fun pins s σ H Q I h => ?_⟩
  refine Subscript_ (thn (he.run pins s σ H _ I h) fun v s1 ⟨x, H1, I1, r1, q1⟩ => ?_)
  refine wpAny_Slice (thn (hl.run pins s1 σ H1 _ I1 q1) fun vl s2 ⟨l, H2, I2, pl, q2⟩ => ?_)
  refine thn (hh.run pins s2 σ H2 _ I2 q2) fun vu s3 ⟨u, H3, I3, pu, q3⟩ => ?_
  refine thn (hs.run pins s3 σ H3 _ I3 q3) fun vs s4 ⟨o, H4, I4, ps, a, xs, ex, hx, h0, hz', q⟩ => ?_
  subst ex
  cases r1
  have I5 : Inv X pins σ H4 { s4 with heap := s4.heap.push { cls := .type "slice", data := .fields #[vl, vu, vs] } } := I4.kept (t' := s4.toks) fun b ob q => Heap.get?_push_of_some _ q
  obtain ⟨its, r, ht, hz⟩ := I5.list hx
  have hlen := r.length
  show wpAny (model X.prog X.w) X.A (subscriptTail e (.Slice lo hi (some st) p3) (.ref a) (.ref s4.heap.objs.size)) (EP X pins σ Q) X.xe { s4 with heap := s4.heap.push { cls := .type "slice", data := .fields #[vl, vu, vs] } }
  refine tail_any (ops := [.ref a, .ref s4.heap.objs.size]) ht.isList.typeIs (PySem.slot_list_getitem.lookup) ?_ (hst _ _)
  refine wpAny_getItem_list_slice ht.isList (Heap.IsSliceOf.new _ vl vu vs) pl pu ps h0 ?_ (by rw [List.size_toArray]; omega)
  have hp : slicePick its.toArray l u o = (pickD its l u o).toArray := by
    unfold slicePick pickD idxs
    rw [List.size_toArray]
    congr 1
    congr 1
    funext i
    simp
  have rp : Vals (pickD xs l u o) (pickD its l u o) := by
    unfold pickD
    rw [hlen]
    induction idxs l u o its.length with
    | nil => exact .nil
    | cons i w ih =>
      rw [List.filterMap_cons, List.filterMap_cons]
      cases e : xs[i]? with
      | none =>
        rw [r.none_of e]
        exact ih
      | some d =>
        obtain ⟨v, h1, h2⟩ := r.get e
        rw [h1]
        exact .cons h2 ih
  rw [hp]
  refine ⟨.ref _, _, I5.laid (t' := s4.toks) (o := .lst (pickD xs l u o)) (fun b ob q => Heap.get?_push_of_some _ q) (Nat.le_refl _) ?_, rfl, q _ (I5.hok.fresh (Nat.le_refl _))⟩
  exact ⟨hz', _, 0, rp, Heap.get?_push_size _ rfl⟩
variable {K : Kx} {W : WX}
def fSlS (ma : EM) (ml mh ms : OM) : FM := fun ρ => bindR (ma ρ) fun x ρ1 => bindR (ml ρ1) fun lo ρ2 => bindR (mh ρ2) fun hi ρ3 => bindR (ms ρ3) fun st ρ4 => match look ρ4 x with
  | some a => (match seqL a with
    | some ds => if st ≠ some 0 ∧ (pickD ds lo hi st).length ≤ mx then .ok (.lst (pickD ds lo hi st)) ρ4 else .bad
    | none => .bad)
  | none => .bad
theorem fv_slS {ta : TE} {tl th ts : TO} {ma : EM} {ml mh ms : OM} (ha : EvOk K W ta ma) (hl : OvOk K W tl ml) (hh : OvOk K W th mh) (hs : OvOk K W ts ms) : FvOk K W (tSlS K ta tl th ts) (fSlS ma ml mh ms) := fun σ G H ρ R Q h => by
  unfold fSlS bindR at h
  refine ha.fst R (fun x ρ1 e v G1 H1 S1 R1 x1 => ?_) (fun e ρ1 q => by rw [q] at h; exact h) (fun q => by rw [q] at h; exact h)
  rw [e] at h
  have h := FPost.step S1 h
  simp only at h
  refine hl.fst R1 (fun lo ρ2 e2 G2 H2 S2 R2 => ?_) (fun e ρ1 q => by rw [q] at h; exact h) (fun q => by rw [q] at h; exact h)
  rw [e2] at h
  have h := FPost.step S2 h
  simp only at h
  refine hh.fst R2 (fun hi ρ3 e3 G3 H3 S3 R3 => ?_) (fun e ρ1 q => by rw [q] at h; exact h) (fun q => by rw [q] at h; exact h)
  rw [e3] at h
  have h := FPost.step S3 h
  simp only at h
  refine hs.fst R3 (fun st ρ4 e4 G4 H4 S4 R4 => ?_) (fun e ρ1 q => by rw [q] at h; exact h) (fun q => by rw [q] at h; exact h)
  rw [e4] at h
  have h := FPost.step S4 h
  simp only at h
  split at h
  · rename_i a ea
    split at h
    · rename_i ds es
      split at h
      · rename_i hz
        obtain ⟨p, xs, rfl, h1, h2⟩ := seqL_vw R4.same (look_vw R4 (((x1.mono S2.g).mono S3.g).mono S4.g) ea) es
        have q := h2.pick lo hi st
        exact ⟨p, xs, rfl, h1, hz.1, by rw [q.length]; exact small_size hz.2, fun r hr => FEnd.of R4 h r _ hr q⟩
      · exact h.elim
    · exact h.elim
  · exact h.elim
theorem pick_rev {α : Type} (ds : List α) : pickD ds none none (some (-1)) = ds.reverse := by
  unfold pickD idxs
  rw [PySem.W.krv_bounds]
  show (sliceRange ((ds.length : Int) - 1) (-1) (-1)).filterMap (ds[·]?) = _
  rw [PySem.W.krv_sliceRange, PySem.W.krv_range, List.filterMap_reverse]
  congr 1
  have := PySem.W.krv_all ds.toArray
  simpa using this
/-! ### built-ins -/
def lenD : List D → Option D
  | [.str x] => if x.length ≤ mx then some (.int x.length) else none
  | [a] => (seqD a).map fun ds => .int ds.length
  | _ => none
theorem pair1 {α β : Type} {R : α → β → Prop} {xs : List α} {y : β} (h : Paired R xs [y]) : ∃ x, xs = [x] ∧ R x y := by
  cases h with
  | cons h t => cases t; exact ⟨_, rfl, h⟩
theorem pair2 {α β : Type} {R : α → β → Prop} {xs : List α} {y z : β} (h : Paired R xs [y, z]) : ∃ x w, xs = [x, w] ∧ R x y ∧ R w z := by
  cases h with
  | cons h t =>
    obtain ⟨w, rfl, h2⟩ := pair1 t
    exact ⟨_, w, rfl, h, h2⟩
theorem cr_lenD : CallR X (.builtin "len") (rDn X.K lenD) := by
  intro pins s σ H xs us Q I r h
  obtain ⟨G, as, d, sG, va, e, q⟩ := h
  unfold lenD at e
  split at e
  · split at e
    · rename_i hz
      cases Option.some.inj e
      obtain ⟨x, rfl, hx⟩ := pair1 va
      rw [hx.str] at r
      exact call_len pins s σ H _ us Q I r ⟨_, _, rfl, ⟨small_size hz, rfl⟩, dend_int sG q⟩
    · cases e
  · obtain ⟨ds, es, rfl⟩ := Option.map_eq_some_iff.mp e
    obtain ⟨x, rfl, hx⟩ := pair1 va
    obtain ⟨p, xs, rfl, h1, h2⟩ := seqD_vw sG hx es
    rw [← h2.length] at q
    exact call_len_seq pins s σ H _ us Q I r ⟨p, xs, rfl, h1, dend_int sG q⟩
  · cases e
def absD : List D → Option D
  | [.int i] => some (.int (if i < 0 then -i else i))
  | _ => none
theorem cr_absD : CallR X (.builtin "abs") (rDn X.K absD) := by
  intro pins s σ H xs us Q I r h
  obtain ⟨G, as, d, sG, va, e, q⟩ := h
  unfold absD at e
  split at e
  · cases Option.some.inj e
    obtain ⟨x, rfl, hx⟩ := pair1 va
    rw [hx.int] at r
    exact call_abs pins s σ H _ us Q I r ⟨_, rfl, dend_int sG q⟩
  · cases e
def intsD : List D → Option (List Int)
  | [] => some []
  | .int i :: ds => (intsD ds).map (i :: ·)
  | _ => none
theorem intsD_some : ∀ {ds : List D} {ns : List Int}, intsD ds = some ns → ds = ns.map D.int
  | [], _, e => by cases Option.some.inj e; rfl
  | d :: ds, _, e => by
    cases d with
    | int i =>
      obtain ⟨ms, e1, rfl⟩ := Option.map_eq_some_iff.mp e
      rw [intsD_some e1]
      rfl
    | _ => cases e
theorem intsD_map (ns : List Int) : intsD (ns.map D.int) = some ns := by
  induction ns with
  | nil => rfl
  | cons n r ih =>
    show (intsD (r.map D.int)).map (n :: ·) = _
    rw [ih]
    rfl
def maxL : Int → List Int → Int
  | m, [] => m
  | m, n :: r => maxL (if n > m then n else m) r
def minL : Int → List Int → Int
  | m, [] => m
  | m, n :: r => minL (if n < m then n else m) r
theorem maxL_spec : ∀ (r : List Int) (m : Int), (maxL m r = m ∨ maxL m r ∈ r) ∧ m ≤ maxL m r ∧ ∀ y ∈ r, y ≤ maxL m r
  | [], m => ⟨.inl rfl, Int.le_refl _, fun y h => by cases h⟩
  | n :: r, m => by
    unfold maxL
    obtain ⟨h1, h2, h3⟩ := maxL_spec r (if n > m then n else m)
    refine ⟨?_, ?_, fun y hy => ?_⟩
    · rcases h1 with h | h
      · rw [h]
        split
        · exact .inr List.mem_cons_self
        · exact .inl rfl
      · exact .inr (List.mem_cons_of_mem _ h)
    · refine Int.le_trans ?_ h2
      split <;> omega
    · rcases List.mem_cons.mp hy with rfl | hy
      · refine Int.le_trans ?_ h2
        split <;> omega
      · exact h3 y hy
theorem minL_spec : ∀ (r : List Int) (m : Int), (minL m r = m ∨ minL m r ∈ r) ∧ minL m r ≤ m ∧ ∀ y ∈ r, minL m r ≤ y
  | [], m => ⟨.inl rfl, Int.le_refl _, fun y h => by cases h⟩
  | n :: r, m => by
    unfold minL
    obtain ⟨h1, h2, h3⟩ := minL_spec r (if n < m then n else m)
    refine ⟨?_, ?_, fun y hy => ?_⟩
    · rcases h1 with h | h
      · rw [h]
        split
        · exact .inr List.mem_cons_self
        · exact .inl rfl
      · exact .inr (List.mem_cons_of_mem _ h)
    · refine Int.le_trans h2 ?_
      split <;> omega
    · rcases List.mem_cons.mp hy with rfl | hy
      · refine Int.le_trans h2 ?_
        split <;> omega
      · exact h3 y hy
def max2D : List D → Option D
  | [.int i, .int j] => some (.int (if j > i then j else i))
  | _ => none
def min2D : List D → Option D
  | [.int i, .int j] => some (.int (if j < i then j else i))
  | _ => none
theorem cr_max2D (hc : X.calm = true) : CallR X (.builtin "max") (rDn X.K max2D) := by
  intro pins s σ H xs us Q I r h
  obtain ⟨G, as, d, sG, va, e, q⟩ := h
  unfold max2D at e
  split at e
  · cases Option.some.inj e
    obtain ⟨x, w, rfl, hx, hw⟩ := pair2 va
    rw [hx.int, hw.int] at r
    exact call_max2 hc pins s σ H _ us Q I r ⟨_, _, rfl, dend_int sG q⟩
  · cases e
theorem cr_min2D (hc : X.calm = true) : CallR X (.builtin "min") (rDn X.K min2D) := by
  intro pins s σ H xs us Q I r h
  obtain ⟨G, as, d, sG, va, e, q⟩ := h
  unfold min2D at e
  split at e
  · cases Option.some.inj e
    obtain ⟨x, w, rfl, hx, hw⟩ := pair2 va
    rw [hx.int, hw.int] at r
    exact call_min2 hc pins s σ H _ us Q I r ⟨_, _, rfl, dend_int sG q⟩
  · cases e
/-- of a list of ints -/
def foldsD (f : List Int → Option Int) : List D → Option D
  | [a] => match seqL a with
    | some ds => (match intsD ds with
      | some ns => (f ns).map .int
      | none => none)
    | none => none
  | _ => none
theorem foldsD_vw {K : PySem.W.Frag} {G H : Hp} {f : List Int → Option Int} {xs : List V} {as : List D} {d : D} (sG : Same G H) (va : Paired (Vw K G H) xs as) (e : foldsD f as = some d) : ∃ p ns i, xs = [.ref p] ∧ SqL K H p (ns.map V.int) ∧ f ns = some i ∧ d = .int i := by
  unfold foldsD at e
  split at e
  · split at e
    · rename_i ds es
      split at e
      · rename_i ns en
        obtain ⟨i, ei, rfl⟩ := Option.map_eq_some_iff.mp e
        obtain ⟨x, rfl, hx⟩ := pair1 va
        obtain ⟨p, ys, rfl, h1, h2⟩ := seqL_vw sG hx es
        rw [intsD_some en] at h2
        rw [h2.ints] at h1
        exact ⟨p, ns, i, rfl, h1, ei, rfl⟩
      · cases e
    · cases e
  · cases e
def maxO : List Int → Option Int
  | [] => none
  | n :: r => some (maxL n r)
def minO : List Int → Option Int
  | [] => none
  | n :: r => some (minL n r)
abbrev maxD : List D → Option D := foldsD maxO
abbrev minD : List D → Option D := foldsD minO
abbrev sumD : List D → Option D := foldsD fun ns => some ns.sum
theorem cr_maxD (hc : X.calm = true) : CallR X (.builtin "max") (rDn X.K maxD) := by
  intro pins s σ H xs us Q I r h
  obtain ⟨G, as, d, sG, va, e, q⟩ := h
  obtain ⟨p, ns, i, rfl, h1, h2, rfl⟩ := foldsD_vw sG va e
  cases ns with
  | nil => cases h2
  | cons n ms =>
    cases Option.some.inj h2
    obtain ⟨k1, k2, k3⟩ := maxL_spec ms n
    refine cr_max hc pins s σ H _ us Q I r ⟨p, n :: ms, rfl, h1, Nat.succ_pos _, fun m hm hy => ?_⟩
    have e1 : m ≤ maxL n ms := by
      rcases List.mem_cons.mp hm with rfl | hm
      · exact k2
      · exact k3 m hm
    have e2 : maxL n ms ≤ m := by
      rcases k1 with z | z
      · rw [z]; exact hy n List.mem_cons_self
      · exact hy _ (List.mem_cons_of_mem _ z)
    rw [Int.le_antisymm e1 e2]
    exact dend_int sG q
theorem cr_minD (hc : X.calm = true) : CallR X (.builtin "min") (rDn X.K minD) := by
  intro pins s σ H xs us Q I r h
  obtain ⟨G, as, d, sG, va, e, q⟩ := h
  obtain ⟨p, ns, i, rfl, h1, h2, rfl⟩ := foldsD_vw sG va e
  cases ns with
  | nil => cases h2
  | cons n ms =>
    cases Option.some.inj h2
    obtain ⟨k1, k2, k3⟩ := minL_spec ms n
    refine cr_min hc pins s σ H _ us Q I r ⟨p, n :: ms, rfl, h1, Nat.succ_pos _, fun m hm hy => ?_⟩
    have e1 : minL n ms ≤ m := by
      rcases List.mem_cons.mp hm with rfl | hm
      · exact k2
      · exact k3 m hm
    have e2 : m ≤ minL n ms := by
      rcases k1 with z | z
      · rw [z]; exact hy n List.mem_cons_self
      · exact hy _ (List.mem_cons_of_mem _ z)
    rw [Int.le_antisymm e2 e1]
    exact dend_int sG q
theorem cr_sumD (hc : X.calm = true) : CallR X (.builtin "sum") (rDn X.K sumD) := by
  intro pins s σ H xs us Q I r h
  obtain ⟨G, as, d, sG, va, e, q⟩ := h
  obtain ⟨p, ns, i, rfl, h1, h2, rfl⟩ := foldsD_vw sG va e
  cases Option.some.inj h2
  exact cr_sum hc pins s σ H _ us Q I r ⟨p, ns, rfl, h1, dend_int sG q⟩
def intD : List D → Option D
  | [.int i] => some (.int i)
  | [.bl b] => some (.int (if b then 1 else 0))
  | _ => none
theorem cr_intD : CallR X (.type "int") (rDn X.K intD) := by
  intro pins s σ H xs us Q I r h
  obtain ⟨G, as, d, sG, va, e, q⟩ := h
  unfold intD at e
  split at e
  · cases Option.some.inj e
    obtain ⟨x, rfl, hx⟩ := pair1 va
    rw [hx.int] at r
    exact call_int1 pins s σ H _ us Q I r (.inl ⟨_, rfl, dend_int sG q⟩)
  · cases Option.some.inj e
    obtain ⟨x, rfl, hx⟩ := pair1 va
    rw [hx.bl] at r
    exact call_int1 pins s σ H _ us Q I r (.inr ⟨_, rfl, dend_int sG q⟩)
  · cases e
/-- list(xs) -/
def listF : List D → Option (List D)
  | [a] => seqD a
  | _ => none
theorem cr_listF : CallR X (.type "list") (rFn X.K listF) := by
  intro pins s σ H xs us Q I r h
  obtain ⟨G, as, d, sG, va, e, q⟩ := h
  unfold listF at e
  split at e
  · obtain ⟨x, rfl, hx⟩ := pair1 va
    obtain ⟨p, ys, rfl, h1, h2⟩ := seqD_vw sG hx e
    exact call_list_of pins s σ H _ us Q I r ⟨p, ys, rfl, h1, fun l hl => q l ys hl h2⟩
  · cases e
/-- tuple(xs) -/
def tupleD : List D → Option D
  | [a] => (seqD a).map .tup
  | _ => none
theorem cr_tupleD : CallR X (.type "tuple") (rDn X.K tupleD) := by
  intro pins s σ H xs us Q I r h
  obtain ⟨G, as, d, sG, va, e, q⟩ := h
  unfold tupleD at e
  split at e
  · rename_i a
    obtain ⟨ds, es, rfl⟩ := Option.map_eq_some_iff.mp e
    obtain ⟨x, rfl, hx⟩ := pair1 va
    cases a with
    | tup ys =>
      cases Option.some.inj es
      obtain ⟨p, ys, rfl, h1, h2⟩ := hx.tup
      exact call_tuple_of pins s σ H _ us Q I r ⟨p, ys, rfl, .inr ⟨Same.seqT sG h1, dend sG q (.tup h1 h2)⟩⟩
    | lst ys =>
      obtain ⟨p, ys, rfl, h1, h2⟩ := seqL_vw sG hx (show seqL (.lst ys) = some ds from es)
      exact call_tuple_of pins s σ H _ us Q I r ⟨p, ys, rfl, .inl ⟨h1, fun l hl => dend_tup sG hl h2 q⟩⟩
    | ro ys =>
      obtain ⟨p, ys, rfl, h1, h2⟩ := seqL_vw sG hx (show seqL (.ro ys) = some ds from es)
      exact call_tuple_of pins s σ H _ us Q I r ⟨p, ys, rfl, .inl ⟨h1, fun l hl => dend_tup sG hl h2 q⟩⟩
    | _ => cases es
  · cases e
/-- isinstance(x, T), T a built-in class -/
def typD : D → Option String
  | .non => some "NoneType"
  | .bl _ => some "bool"
  | .int _ => some "int"
  | .str _ => some "str"
  | .lst _ => some "list"
  | .tup _ => some "tuple"
  | .dct _ => some "dict"
  | _ => none
theorem typD_vw {K : PySem.W.Frag} {G H : Hp} {v : V} {a : D} {t : String} (sG : Same G H) (h : Vw K G H v a) (e : typD a = some t) : TyX K H v (.type t) := by
  cases a with
  | non => cases Option.some.inj e; rw [h.non]; exact .base .non
  | bl b => cases Option.some.inj e; rw [h.bl]; exact .base (.bl b)
  | int i => cases Option.some.inj e; rw [h.int]; exact .base (.int i)
  | str x => cases Option.some.inj e; rw [h.str]; exact .base (.str x)
  | lst ds =>
    cases Option.some.inj e
    obtain ⟨p, xs, rfl, h1, _⟩ := h.lst
    exact .base (.lst h1)
  | tup ds =>
    cases Option.some.inj e
    obtain ⟨p, xs, rfl, h1, _⟩ := h.tup
    rcases Same.seqT sG h1 with (h1 | ⟨o, h1⟩) | ⟨o, its, n, hk, hc, _⟩
    · exact .base (.tup h1)
    · exact .fTuple h1
    · exact .kTuple hk hc
  | dct ds =>
    cases Option.some.inj e
    obtain ⟨p, kvs, rfl, h1, _⟩ := h
    exact .base (.dK h1)
  | ro _ => cases e
  | ins _ _ => cases e
/-- isinstance(x, T): T written as a built-in class's name -/
def rIsT (K : PySem.W.Frag) (g : D → Option D) (T : String) : List V → Hp → VK → Prop := fun xs H Q => ∃ x, xs = [x, .ty T] ∧ rD1 K g x H Q
def isiB (t T : String) : Bool := t == T || (t == "bool" && T == "int") || T == "object"
def isiD (T : String) (a : D) : Option D := (typD a).map fun t => .bl (isiB t T)
theorem cr_isT {T : String} (hk : ∀ t ∈ ["NoneType", "bool", "int", "str", "list", "tuple", "dict"], PySem.W.kitOne X.K (.type t) (.type T) = some (isiB t T)) : CallR X (.builtin "isinstance") (rIsT X.K (isiD T) T) := by
  intro pins s σ H xs us Q I r h
  obtain ⟨x, rfl, G, a, d, sG, va, e, q⟩ := h
  unfold isiD at e
  obtain ⟨t, et, rfl⟩ := Option.map_eq_some_iff.mp e
  have hm : t ∈ ["NoneType", "bool", "int", "str", "list", "tuple", "dict"] := by
    cases a <;> first | (cases Option.some.inj et; decide) | cases et
  exact call_isi pins s σ H _ us Q I r ⟨x, _, _, _, _, rfl, .ty T, typD_vw sG va et, hk t hm, dend_bl sG q⟩
def eIsT (T : String) (ma : EM) : EM := eUn (isiD T) ma
theorem ev_isT {T : String} {ta : TE} {ma : EM} (ha : EvOk K W ta ma) : EvOk K W (tCB (rIsT K (isiD T) T) (tCons ta (tCons (tC (.ty T)) tNil))) (eIsT T ma) := fun σ G H ρ R Q h => by
  have := ev_un (g := isiD T) ha σ G H ρ R Q h
  -- the same reading, the class behind
  unfold tUn at this
  refine ha.fst R (T := fun x H1 => rIsT K.k (isiD T) T [x, .ty T] H1 Q) ?_ ?_ ?_
  all_goals
    unfold eIsT eUn bindR at h
  · intro x ρ1 e v G1 H1 S1 R1 x1
    rw [e] at h
    have h := EPost.step S1 h
    simp only at h
    split at h
    · rename_i a ea
      unfold oD at h
      split at h
      · rename_i d hd
        exact ⟨v, rfl, G1, a, d, R1.same, look_vw R1 x1 ea, hd, DEnd.of R1 h⟩
      · exact h.elim
    · exact h.elim
  · intro e ρ1 q
    rw [q] at h
    exact h
  · intro q
    rw [q] at h
    exact h
/-- math.comb -/
def combD : List D → Option D
  | [.int a, .int b] => if 0 ≤ a ∧ 0 ≤ b ∧ a ≤ 9000 then some (.int (PySem.W.mcComb a b)) else none
  | _ => none
end DL
set_option Elab.async false
set_option linter.all false
set_option maxRecDepth 100000
set_option maxHeartbeats 2000000
namespace PySem
namespace ErrX
open PySem.W PySem.Calls PyProof.Rows PySem.HandSPX
/-- the text of __init__(self, f): super().__init__(msg); self.f = f -/
def body (f msg : Str) (p0 p1 p2 p3 p4 p5 q1 q2 q3 q4 : Pos) : List Stmt :=
  [.Expr (.Call (.Attribute (.Call (.Name "super" p0) [] [] p1) "__init__" p2) [.Constant (.str msg) 0 p3] [] p4) p5,
   .Assign [.Attribute (.Name "self" q1) f q2] (.Name f q3) q4]
def scOf (f : Str) : Scope := { kind := .function, names := [(PySem.Str.ofString "self", .local), (f, .local), (PySem.Str.ofString "__class__", .free), (PySem.Str.ofString "super", .globalImplicit)], isGenerator := false, isCoroutine := false, more := [] }
structure IniTxt (P : Program) (K : Frag) (f : Str) (C fI cc cda : Addr) (ps : Arguments) (bd : List Stmt) (sc : Scope) : Prop where
  fn : ∃ oc od osl qual kV doc pm an ct, K.lookup fI = some ⟨oc, od, .func (ksFn "__init__" qual ps bd sc .none kV doc pm an (.ref cda) ct cc), osl⟩ ∧ codeIn K (.ref cda) qual = true ∧
    ∀ (s : Shared) (x v : Value), BindsTo s (ksFn "__init__" qual ps bd sc .none kV doc pm an (.ref cda) ct cc) ⟨[x, v], []⟩ [("self", x), (f, v)]
  code : ∃ ccl cdd vs ccs file tf, K.lookup cda = some ⟨ccl, cdd, .fields vs, ccs⟩ ∧ vs[2]? = some (.str file tf) ∧ ((P.main.file : Str) == file) = true
  cell : ∃ cl cld csl, K.lookup cc = some ⟨cl, cld, .cell (some (.ref C)), csl⟩
  bd : ∃ msg p0 p1 p2 p3 p4 p5 q1 q2 q3 q4, (p2.endLine == p4.line) = true ∧ bd = body f msg p0 p1 p2 p3 p4 p5 q1 q2 q3 q4
  p1 : ∃ ar, (ps.posonlyargs ++ ps.args).head? = some ar ∧ ar.arg = "self"
  kS : sc.names.lookup ("self" : Str) = some .local
  kF : sc.names.lookup f = some .local
  kC : sc.names.lookup ("__class__" : Str) = some .free
  kU : sc.names.lookup ("super" : Str) = some .globalImplicit
  ncell : ∀ x ∈ sc.names, x.2 ≠ .cell
  scE : sc = scOf f
  nd : ("self" : Str) ≠ f
  dbg : (f == ("__debug__" : Str)) = false
structure ErrTxt (P : Program) (K : Frag) (mg : Str → Option Value) (nm f : Str) (C : Addr) : Prop where
  gC : mg nm = some (.ref C)
  cls : ∃ nm q N bs bm sn sub ab col dd k0 k1 k2 k3 k5, K.lookup C = some (excClassObj nm q C N bs bm true sn sub ab col dd k0 k1 k2 k3 k5 "ValueError.__new__") ∧ refsVE bm = true
  sa : findIn K (.ref C) "__setattr__" = some (some (.builtin "object.__setattr__"))
  noN : findIn K (.ref C) f = some none
  kC : keepIn K (.ref C) = true
  exC : subIn K (.ref C) (.type "BaseException") = some true
  veC : subIn K (.ref C) (.type "ValueError") = some true
  tyC : typeIn K (.ref C) = some (.type "type")
  mC : mroIn K C (.ref C) = some true
  along : ks_superIn K C C "__init__" = some (some (.builtin "ValueError.__init__"))
  opq : nsIn K cStatics "thirdparty.any" = some none
  sup : nsIn K mainGlobals "super" = some none
  top : (P.main.scope.names.lookup ("super" : Str)).isSome = false
  ini : ∃ fI cc cda ps bd sc, findIn K (.ref C) "__init__" = some (some (.ref fI)) ∧ typeIn K (.ref fI) = some (.type "function") ∧ IniTxt P K f C fI cc cda ps bd sc
theorem call_line {o e : Expr} {env : Env} {name : Str} {p2 p4 : Pos} (hl : (p2.endLine == p4.line) = true) (he : starEach [e] env = [(false, eval e env)] := by rfl) :
    eval (.Call (.Attribute o name p2) [e] [] p4) env = (do
      let ov ← attributeBase o name env (eval o env)
      standAt p2.atName
      let (f, first) ← holding [ov] (getMethod ov name (do return (← importBound o env).getD true))
      callWith p4 f first (backTo p4 (starEach [e] env)) []) := by
  show (do
    let ov ← attributeBase o name env (eval o env)
    standAt p2.atName
    methodCall o name p2 p4 env ov 1 (backTo p4 (starEach [e] env)) []) = _
  have h1 : ∀ few, methodCallPos few o env p2 p4 = pure p4 := fun few => by
    unfold methodCallPos
    rw [hl, Bool.or_true]
    rfl
  unfold methodCall
  simp only [h1, pure_bind]
  rw [he]
  rfl
theorem one_size (v : Value) : [v].length ≤ sizeLine := by
  rw [sizeLine_eq]
  exact (by decide : 1 ≤ 16777216)
theorem kept_but {K : Frag} {h h' : Heap} {x : Addr} (X : K.In h) (hx : K.lookup x = none) (k : ∀ b o, b ≠ x → h.get? b = some o → h'.get? b = some o) : K.In h' := fun a o e =>
  k a o (fun z => by rw [z, hx] at e; cases e) (X a o e)
/-- what __init__ leaves of a fresh exception at x -/
structure InitEnd (h h' : Heap) (x C dx t1 : Addr) (f : Str) (v : Value) : Prop where
  keep : ∀ b o, b ≠ x → h.get? b = some o → h'.get? b = some o
  obj : h'.get? x = some { cls := .ref C, dict := some dx, data := .fields #[.ref t1, .none, .none, .none, .bool false, .none] }
  dbig : h.objs.size ≤ dx
  dne : dx ≠ x
  ns : h'.Ns1 dx (fun y => if y = f then some v else none)
/-- a made error -/
structure OwnMade (h h' : Heap) (e C d : Addr) (f : Str) (v : Value) : Prop where
  keep : ∀ b o, h.get? b = some o → h'.get? b = some o
  new : h.objs.size ≤ e
  obj : ∃ oe vs, h'.get? e = some oe ∧ oe.cls = .ref C ∧ oe.dict = some d ∧ oe.data = .fields vs ∧ vs[1]? = some .none
  dbig : h.objs.size ≤ d
  dne : d ≠ e
  ns : h'.Ns1 d (fun y => if y = f then some v else none)
section
variable {prog : Program} {w : World} {A : Around} {E : Value → Shared → Prop} {h : Heap} {g : Array GenState} {d : Drawn} {t : Nat} {os : OsState}
variable {nm q : Str} {C N : Addr} {bs bm : List Value} {hdct : Bool} {sn : List Str} {sub : List Value} {ab : Bool} {col : Option Bool} {dd : Option Addr} {k0 k1 k2 k3 k5 : Option Value}
theorem call_mw {u e t0 : Addr} {rest : List Value} {Q : Value → Shared → Prop}
    (hC : h.get? C = some (excClassObj nm q C N bs bm hdct sn sub ab col dd k0 k1 k2 k3 k5 "ValueError.__new__")) (he : h.get? e = some (excO C t0)) (hu : h.get? u = some (kxs_mw "ValueError.__init__" e)) (hrest : rest.length ≤ sizeLine)
    (hq : ∀ h' t1, h.objs.size ≤ h'.objs.size → (∀ b o, b ≠ e → h.get? b = some o → h'.get? b = some o) → h'.get? e = some (excO C t1) → Q .none ⟨h', g, d, t, os⟩) :
    wpAny (model prog w) A (call (.ref u) rest) Q E ⟨h, g, d, t, os⟩ := by
  have FB := F.excBase_ValueError
  refine wpAny_call (codeAny_of_tree ?_)
  show wpAny _ A.in1 (callAny (.ref u) ⟨rest, []⟩) _ _ _
  simp only [callAny]
  refine wpAny_bind (wpAny_load hu ?_)
  simp only [kxs_mw, show (Value.type "method-wrapper" == Value.type "method" || Value.type "method-wrapper" == Value.type "builtin_function_or_method" || Value.type "method-wrapper" == Value.type "method-wrapper") = true by decide, if_true]
  refine KFB.if_so (by decide) ?_
  refine wpAny_bind (check_bound_init FB.toExcCallFacts hC he rfl ?_)
  refine wpAny_bind (wpAny_pure (wpAny_pure ?_))
  refine ⟨plainId_quiet FB.init.plain _, codeAny_builtin FB.initEntry ?_⟩
  refine exc_init_tree (cls := .ref C) (t0 := t0) (dv := none) (c2 := .none) (c3 := .none) (b4 := .bool false) he hrest fun h' k e' t' => hq h' h.objs.size ?_ k e'
  exact Nat.le_of_lt (Heap.lt_size t')
end
section
variable {prog : Program} {w : World} {A : Around} {E : Value → Shared → Prop} {R : Result → Shared → Prop} {s : Shared} {K : Frag} {mg mb : Str → Option Value} {nm f : Str} {C : Addr}
theorem err_init (T : ErrTxt prog K mg nm f C) {fI cc cda : Addr} {ps : Arguments} {bd : List Stmt} {sc : Scope} (J : IniTxt prog K f C fI cc cda ps bd sc)
    {x t0 : Addr} {v : Value} (X : K.In s.heap) (hG : s.heap.Ns mainGlobals mg) (hB : s.heap.Ns builtinsNs mb) (hb : ∀ y : Str, y ≠ "__name__" → mb y = bootBuiltins y) (hlim : s.heap.NoLimit) (hx : s.heap.get? x = some (excO C t0)) (hnx : K.lookup x = none) (hroom : A.depth < recursionLimit)
    (hq : ∀ h' tk dx t1, InitEnd s.heap h' x C dx t1 f v → R (.ok (.ret .none)) { s with heap := h', toks := tk }) :
    codeAny (model prog w) A (.call (.ref fI) ⟨[.ref x, v], []⟩) R s := by
  obtain ⟨oc, od, osl, qual, kV, doc, pm, an, ct, ho, hcd, hbind⟩ := J.fn
  obtain ⟨ccl, cdd, vs, ccs, file, tf, hcda, hvs, hfile⟩ := J.code
  obtain ⟨cl, cld, csl, hcc⟩ := J.cell
  obtain ⟨cnm, q, N, bs, bm, sn, sub, ab, col, dd, k0, k1, k2, k3, k5, hC, hbm⟩ := T.cls
  obtain ⟨ar, har, hars⟩ := J.p1
  obtain ⟨msg, p0, p1, p2, p3, p4, p5, q1, q2, q3, q4, hline, hbd⟩ := J.bd
  subst hbd
  have hsc := J.scE
  subst hsc
  have hcl : clsIn K C = some { name := cnm, bases := bs, mro := .ref C :: bm, ns := N, qualname := q, hasDict := true, slotNames := sn, subclasses := sub, abstract := ab, collection := col, hasDel := false } := by unfold clsIn; rw [hC] <;> rfl
  refine ks_codeAny_call_defAt (binds := [("self", .ref x), (f, v)]) hroom (X _ _ ho) rfl hlim (codeRec_of X hcd) rfl (hbind _ _ _) J.ncell (by
    intro y hy
    rcases List.mem_cons.mp hy with rfl | hy
    · exact J.kS
    · rcases List.mem_cons.mp hy with rfl | hy
      · exact J.kF
      · exact absurd hy (List.not_mem_nil)) (fun h₁ hns hk₁ => ?_) rfl rfl rfl
  have X₁ : K.In h₁ := X.keeps hk₁
  have hx₁ := hk₁ _ _ hx
  have hself : (List.reverse [(("self" : Str), Value.ref x), (f, v)]).lookup ("self" : Str) = some (Value.ref x) := by
    show List.lookup ("self" : Str) [(f, v), (("self" : Str), Value.ref x)] = _
    simp [List.lookup, show (("self" : Str) == f) = false from by simpa using J.nd]
  have hfv : (List.reverse [(("self" : Str), Value.ref x), (f, v)]).lookup f = some v := by
    show List.lookup f [(f, v), (("self" : Str), Value.ref x)] = _
    simp [List.lookup]
  have hL : s.heap.objs.size ≠ x := Nat.ne_of_gt (Heap.lt_size hx)
  have hxC : x ≠ C := fun z => by rw [z, hC] at hnx; cases hnx
  show _root_.PySem.wpAt _ (A.deeper (ksEnv qual (scOf f) s.heap.objs.size fI (.ref cda) cc)) (.func _ (ksEnv qual (scOf f) s.heap.objs.size fI (.ref cda) cc)) (execs _ (ksEnv qual (scOf f) s.heap.objs.size fI (.ref cda) cc)) _ _ _
  refine ks_wpAt_execs_cons (ks_wpAt_Expr_any (ks_wpAt_MethodCall (pl := (do return (← importBound (.Call (.Name "super" p0) [] [] p1) (ksEnv qual (scOf f) s.heap.objs.size fI (.ref cda) cc)).getD true)) ?_ (call_line hline)))
  obtain ⟨hp, gg, dr, tk, os⟩ := s
  refine ks_wpAt_super_base (env := ksEnv qual (scOf f) hp.objs.size fI (.ref cda) cc) J.kU J.kC (by decide) rfl (X₁ _ _ ho) rfl har rfl (X₁ _ _ hcda) rfl hvs hfile T.top ?_
  refine ks_loadName_global rfl J.kU (loadGlobal_builtin (env := ksEnv qual (scOf f) hp.objs.size fI (.ref cda) cc) (hG.keeps hk₁) (mg_none_of X hG T.sup) (hB.keeps hk₁) ((hb _ (by decide +kernel)).trans (by first | boot_by_name | rfl | kernel_rfl)) ⟨rfl, ?_⟩)
  refine wpAny_loadName_free rfl J.kC rfl ⟨_, X₁ _ _ hcc, rfl⟩ ?_
  rw [hars]
  refine wpAny_loadName_local rfl J.kS hns hself ?_
  have hC₁ : h₁.get? C = _ := X₁ _ _ hC
  refine ks_wpAny_isType_cls hC₁ rfl ⟨rfl, ?_⟩
  refine ks_wpAny_call_super hC₁ rfl hx₁ rfl (fun _ z => nomatch z) (looks_mroIn X₁ T.mC) (fun h₂ e₂ hk₂ => ?_)
  have X₂ : K.In h₂ := X₁.keeps hk₂
  have hx₂ := hk₂ _ _ hx₁
  have I₂ : InstAt h₂ x (excO C t0) C none := ⟨hx₂, rfl, rfl, trivial⟩
  have hal : alongIn K "__init__" (((Value.ref C :: bm).dropWhile (· != .ref C)).drop 1) = some (some (.builtin "ValueError.__init__")) := by
    have q := T.along
    unfold ks_superIn at q
    rw [hcl] at q
    exact q
  refine kxs_getMethod kxs_ValueError e₂ (looks_opaque X₂ T.opq) (l₀ := .ref C :: bm) (fun A Q E s k q => wpAny_bind ((looks_clsIn X₂ hcl) A _ E s k (wpAny_pure q))) rfl X₂ hal (I₂.type.andThen (looks_subIn X₂ T.veC)) hxC (by decide) ?_
  have hk₃ : ∀ b o, h₂.get? b = some o → (h₂.push (kxs_mw "ValueError.__init__" x)).get? b = some o := fun b o e => Heap.get?_push_of_some _ e
  refine kxs_callWith (i := "ValueError.__init__") (x := x) rfl (evalArgs_plain (spliced_cons (Calls.Constant_str (pos := p3) (k := 0) (spliced_nil ⟨Heap.get?_push_at rfl rfl, ?_⟩))))
  refine call_mw (X₂.keeps hk₃ _ _ hC) (hk₃ _ _ hx₂) (Heap.get?_push_at rfl rfl) (one_size _) fun h₄ t₄ hsz₄ k₄ hx₄ => ?_
  have k4 : ∀ b o, b ≠ x → hp.get? b = some o → h₄.get? b = some o := fun b o hb e => k₄ b o hb (hk₃ _ _ (hk₂ _ _ (hk₁ _ _ e)))
  have k14 : ∀ b o, b ≠ x → h₁.get? b = some o → h₄.get? b = some o := fun b o hb e => k₄ b o hb (hk₃ _ _ (hk₂ _ _ e))
  have X₄ : K.In h₄ := kept_but X hnx k4
  have hns₄ : h₄.Ns hp.objs.size (fun y => (List.reverse [(("self" : Str), Value.ref x), (f, v)]).lookup y) := by
    obtain ⟨oL, es, ep, hoL, r⟩ := hns
    exact ⟨oL, es, ep, k14 _ _ hL hoL, r⟩
  show _root_.PySem.wpAt _ _ _ (execs _ _) _ _ _
  refine wpAt_of_wpAny (wpAny_execs_cons (plainObj_wpAny_Assign_Attribute ?_ (by rfl)))
  refine wpAny_Name (wpAny_loadName_local rfl J.kF hns₄ hfv (wpAny_Name (wpAny_loadName_local rfl J.kS hns₄ hself ?_) (by decide))) J.dbg
  refine set_plain X₄ (ox := excO C t₄) (od := none) ⟨hx₄, rfl, rfl, trivial⟩ T.sa ?_
  refine exc_osa X₄ hx₄ hcl (show refsVE (.ref C :: bm) = true from hbm) rfl T.noN (fun h₅ tk₅ dx k₅ dn dne hx₅ hn₅ => ?_)
  show wpAny _ _ (execs _ _) _ _ _
  have z : hp.objs.size < h₄.objs.size := hns₄.lt
  exact wpAny_execs_nil (hq h₅ tk₅ dx t₄ ⟨fun b o hb e => k₅ b o hb (k4 b o hb e), hx₅, Nat.le_of_lt (Nat.lt_of_lt_of_le z dn), dne, hn₅⟩)
theorem err_made (T : ErrTxt prog K mg nm f C) {v : Value} (X : K.In s.heap) (hG : s.heap.Ns mainGlobals mg) (hB : s.heap.Ns builtinsNs mb) (hb : ∀ y : Str, y ≠ "__name__" → mb y = bootBuiltins y) (hlim : s.heap.NoLimit) (hroom : A.depth + 1 < recursionLimit)
    (hq : ∀ h' tk e d, OwnMade s.heap h' e C d f v → R (.ok (.ret (.ref e))) { s with heap := h', toks := tk }) :
    codeAny (model prog w) A (.call (.ref C) ⟨[v], []⟩) R s := by
  obtain ⟨cnm, q, N, bs, bm, sn, sub, ab, col, dd, k0, k1, k2, k3, k5, hC, hbm⟩ := T.cls
  obtain ⟨fI, cc, cda, ps, bd, sc, iC, tI, J⟩ := T.ini
  obtain ⟨hp, g, dr, tk, os⟩ := s
  have k : ∀ b o, hp.get? b = some o → ((hp.push (kdv_tup [v])).push (excO C hp.objs.size)).get? b = some o := fun b o e => Heap.get?_push_of_some _ (Heap.get?_push_of_some _ e)
  have hget : ((hp.push (kdv_tup [v])).push (excO C hp.objs.size)).get? (hp.objs.size + 1) = some (excO C hp.objs.size) := by heap_get
  have hnx : K.lookup (hp.objs.size + 1) = none := by
    cases e : K.lookup (hp.objs.size + 1) with
    | none => rfl
    | some o =>
      have z : hp.get? (hp.objs.size + 1) = some o := X _ _ e
      exact absurd (Nat.lt_of_succ_lt (Heap.lt_size z)) (Nat.lt_irrefl _)
  refine call_own F.excBase_ValueError (fun X => refsVE_contains X bm hbm) (X _ _ hC) (looks_findIn X iC) (fun self => bind_fn X self tI) (one_size v) ?_
  refine err_init (s := ⟨(hp.push (kdv_tup [v])).push (excO C hp.objs.size), g, dr, tk, os⟩) T J (X.keeps k) (hG.keeps k) (hB.keeps k) hb (hlim.keeps k) hget hnx ?_ fun h' tk' dx t1 ⟨k', hx, dn, dne, hns⟩ => ?_
  · show A.depth + 1 < recursionLimit
    exact hroom
  · have old : ∀ b o, hp.get? b = some o → h'.get? b = some o := fun b o e => k' b o (Nat.ne_of_lt (Nat.lt_succ_of_lt (Heap.lt_size e))) (k b o e)
    have z : hp.objs.size + 1 + 1 ≤ dx := by
      first
        | (simpa only [Heap.size_push] using dn)
        | exact dn
        | (have q := dn; rw [Heap.size_push, Heap.size_push] at q; exact q)
    exact ⟨rfl, hq h' tk' (hp.objs.size + 1) dx ⟨old, Nat.le_succ _, ⟨_, _, hx, rfl, rfl, rfl, rfl⟩, Nat.le_trans (Nat.le_trans (Nat.le_succ _) (Nat.le_succ _)) z, dne, hns⟩⟩
end
end ErrX
end PySem
set_option Elab.async false
set_option linter.all false
set_option maxRecDepth 100000
set_option maxHeartbeats 4000000
/-! truth; math.comb; raise; try; the readings that a denotation gives -/
namespace DL
open PySem PySem.Spec PyProof.Rows L2
variable {K : Kx} {W : WX}
/-! ### readings from denotations -/
def tOf (K : Kx) (W : WX) (m : SM) : TS := fun D σ H => ∃ G ρ, Rel K σ G H ρ ∧ SPost K W σ G H ρ D (m ρ)
def tOfE (K : Kx) (W : WX) (m : EM) : TE := fun σ H Q => ∃ G ρ, Rel K σ G H ρ ∧ EPost K W σ G H ρ Q (m ρ)
def tOfT (K : Kx) (W : WX) (m : TM) : TT := fun σ H Q => ∃ G ρ, Rel K σ G H ρ ∧ TPost K W σ G H ρ Q (m ρ)
theorem st_of {m : SM} : StOk K W (tOf K W m) m := fun σ G H ρ R D h => ⟨G, ρ, R, h⟩
theorem ev_of {m : EM} : EvOk K W (tOfE K W m) m := fun σ G H ρ R D h => ⟨G, ρ, R, h⟩
theorem tv_of {m : TM} : TvOk K W (tOfT K W m) m := fun σ G H ρ R D h => ⟨G, ρ, R, h⟩
/-! ### truth -/
def truD : D → Option Bool
  | .non => some false
  | .bl b => some b
  | .int i => some (i != 0)
  | .str y => if y.length ≤ mx then some ((y.length : Int) != 0) else none
  | .lst ds => some (!ds.isEmpty)
  | .ro ds => some (!ds.isEmpty)
  | .tup ds => some (!ds.isEmpty)
  | .dct kvs => some (!kvs.isEmpty)
  | .ins _ _ => none
theorem DqA.empty {K : PySem.W.Frag} {G : Hp} {xs : List V} {ds : List D} (q : DqA K G xs ds) : xs.isEmpty = ds.isEmpty := by
  cases q <;> rfl
theorem DqK.empty {K : PySem.W.Frag} {G : Hp} {xs : List (Key × V)} {ds : List (Key × D)} (q : DqK K G xs ds) : xs.isEmpty = ds.isEmpty := by
  cases q <;> rfl
theorem truD_ok {K : PySem.W.Frag} {G H : Hp} {v : V} {a : D} {b : Bool} (s : Same G H) (h : Vw K G H v a) (e : truD a = some b) : TruV K v H b := by
  cases a with
  | non => cases h; cases e; exact rfl
  | bl c => cases h; cases e; exact rfl
  | int i => cases h; cases e; exact rfl
  | str y =>
    cases h
    have e : (if y.length ≤ mx then some ((y.length : Int) != 0) else none) = some b := e
    split at e
    · rename_i hy
      cases e
      exact ⟨small_size hy, rfl⟩
    · cases e
  | lst ds =>
    obtain ⟨p, xs, rfl, hp, q⟩ := h
    cases e
    exact .inl ⟨xs, SqL.of hp, by rw [q.empty]⟩
  | ro ds =>
    have h : Dq K G v (.ro ds) := h
    cases h with
    | ro hp q =>
      cases e
      exact .inl ⟨_, s.seq hp, by rw [q.empty]⟩
  | tup ds =>
    have h : Dq K G v (.tup ds) := h
    cases h with
    | tup hp q =>
      cases e
      exact .inr (.inl ⟨_, Same.seqT s hp, by rw [q.empty]⟩)
  | dct kvs =>
    obtain ⟨p, xs, rfl, hp, q⟩ := h
    cases e
    exact .inr (.inr ⟨xs, hp, by rw [q.empty]⟩)
  | ins C fs => cases e
def mTru (ma : EM) : TM := fun ρ => bindR (ma ρ) fun x ρ1 => match (look ρ1 x).bind truD with
  | some b => .ok b ρ1
  | none => .bad
theorem tv_tru {ta : TE} {ma : EM} (ha : EvOk K W ta ma) : TvOk K W (tTru K ta) (mTru ma) := fun σ G H ρ R Q h => by
  unfold mTru bindR at h
  refine ha.fst R (fun x ρ1 e v G1 H1 S1 R1 x1 => ?_) (fun e ρ1 q => by rw [q] at h; exact h) (fun q => by rw [q] at h; exact h)
  rw [e] at h
  have h := TPost.step S1 h
  simp only at h
  cases e1 : look ρ1 x with
  | none => rw [e1] at h; exact h.elim
  | some a =>
    rw [e1] at h
    cases e2 : truD a with
    | none => rw [show (some a).bind truD = truD a from rfl, e2] at h; exact h.elim
    | some b =>
      rw [show (some a).bind truD = truD a from rfl, e2] at h
      exact ⟨b, truD_ok R1.same (look_vw R1 x1 e1) e2, h G1 H1 (Stp.refl _ _ _ _) R1⟩
/-! ### math.comb -/
theorem cr_combD {X : Cx} : CallR X (.builtin "math.comb") (rDn X.K combD) := by
  intro pins s σ H vs us Q I r h
  obtain ⟨G, as, d, sG, va, e, q⟩ := h
  unfold combD at e
  split at e
  · rename_i a b
    split at e
    · rename_i hab
      cases e
      obtain ⟨x, y, rfl, hx, hy⟩ := pair2 va
      cases hx.int
      cases hy.int
      obtain ⟨t, u, rfl⟩ := Vals.int2 r
      obtain ⟨h0, h1, h2⟩ := hab
      exact PySem.W.mc_comb h0 h1 (by omega) (.inr (by omega)) fun _ => ⟨.int _, H, I.tok _, ⟨_, rfl⟩, dend_int sG q⟩
    · cases e
  · cases e
/-! ### raise -/
section
variable {X : Cx}
def tMkE (C : Addr) (f : Str) (ta : TA) : L2.St → Hp → XK → Prop := fun σ H Q => ta σ H fun vs H1 => ∃ v, vs = [v] ∧ ∀ d, H1 d = none → Q (.ref C) (some d) (upd H1 d (.xd [(f, v)]))
theorem relO_f {f : Str} {v : V} {v' : Value} (r : RelV v v') (g : Str) : RelO (List.lookup g [(f, v)]) (if g = f then some v' else none) := by
  by_cases hw : g = f
  · subst hw
    rw [if_pos rfl]
    have q : List.lookup g [(g, v)] = some v := by simp [List.lookup]
    rw [q]
    exact r
  · rw [if_neg hw]
    have qw : (g == f) = false := by simpa using hw
    have q2 : List.lookup g [(f, v)] = none := by simp [List.lookup, qw]
    rw [q2]
    trivial
theorem pmk_err {nm f : Str} {C : Addr} {a : Expr} {ta : TA} {p pos : Pos} {k : Nat} (T : PySem.ErrX.ErrTxt X.prog X.K X.mg nm f C) (hr : Room k X.A) (ha : PA X [a] ta) (hg : Gl X nm) (hdb : (nm == ("__debug__" : Str)) = false)
    (he : starEach (a :: []) X.env = (false, eval a X.env) :: starEach [] X.env) (hpl : (backTo pos (starEach [] X.env)).any (·.1) = false) :
    PMk X (.Call (.Name nm p) [a] [] pos) (tMkE C f ta) := by
  intro pins s σ H Q I h
  refine wpAny_Call_Name_kw (ld_glob I hg T.gC ?_ hdb)
  refine PySem.W.callWith_K (h₀ := X.base) I.ok.mod.kin T.kC (thn (ha.run pos pins s σ H _ I h) fun us s1 hh => ?_) he hpl
  obtain ⟨vs, H1, I1, r1, v, ev, q1⟩ := hh
  subst ev
  refine ⟨I1.kIn, ?_⟩
  cases r1 with
  | cons rv rn =>
    rename_i v' us'
    cases rn
    show wpAny _ _ (call (.ref C) [v']) _ _ _
    have hlim := I1.nolimit
    obtain ⟨mb, hb1, hb2⟩ := I1.mod.blt
    have hG := I1.mod.glob.keeps I1.bk
    have hB := hb1.keeps I1.bk
    obtain ⟨hp, g, dr, tk, os⟩ := s1
    refine wpAny_call (PySem.ErrX.err_made T I1.kIn hG hB hb2 hlim (by have := hr.dp; omega) fun h' tk' e d M => ?_)
    show MkP X pins σ Q (.ref e) ⟨h', g, dr, tk', os⟩
    obtain ⟨oe, fv, hoe, hc, hd, hdat, h1⟩ := M.obj
    have hns := M.ns
    obtain ⟨G', g1, g2⟩ := restrict h' fun b => decide (b ≠ e)
    have gk : ∀ b, b ≠ e → G'.get? b = h'.get? b := fun b hb => g1 b (decide_eq_true hb)
    have ge : G'.get? e = none := g2 e (by simp)
    have old : ∀ b o, hp.get? b = some o → G'.get? b = some o := fun b o q => (gk b (Nat.ne_of_lt (Nat.lt_of_lt_of_le (Heap.lt_size q) M.new))).trans (M.keep b o q)
    have ob : ObjOk X.prog X.w (upd H1 d (.xd [(f, v)])) G' d (.xd [(f, v)]) :=
      ⟨_, hns.at (fun o q => (gk d M.dne).trans q), fun g => relO_f rv g⟩
    have J : Inv X pins σ (upd H1 d (.xd [(f, v)])) ⟨G', g, dr, tk', os⟩ := I1.laid (t' := tk') old M.dbig ob
    refine ⟨e, oe, fv, ⟨G', g, dr, tk', os⟩, _, .ref C, some d, rfl, J, fun b o q => ?_, ge, hoe, ⟨hc, hd⟩, hdat, h1, ?_, rfl, I1.bare, raises_own T.exC T.tyC, q1 d (I1.hok.fresh M.dbig)⟩
    · by_cases hb : b = e
      · have q' : G'.get? b = some o := q
        rw [hb, ge] at q'; cases q'
      · exact (gk b hb).symm.trans q
    · rw [upd_ne (Ne.symm M.dne)]
      exact I1.hok.fresh M.new
end
def sRaise (c : Str) (f : Str) (ma : AM) : SM := fun ρ => bindR (ma ρ) fun xs ρ1 => match xs with
  | [x] => match fz ρ1 x with
    | some (d, ρ2) => .ex ⟨c, some [(f, d)]⟩ ρ2
    | none => .bad
  | _ => .bad
theorem st_raise {C : Str} {f : Str} {ta : TA} {ma : AM} (ha : AvOk K W ta ma) : StOk K W (fun _ σ H => tMkE (cA K C) f ta σ H fun cls d H' => W cls d σ H') (sRaise C f ma) := fun σ G H ρ R D h => by
  unfold sRaise bindR at h
  refine ha.fst R (fun xs ρ1 e vs G1 H1 S1 R1 x1 => ?_) (fun e ρ1 q => by rw [q] at h; exact SPost.x h) (fun q => by rw [q] at h; exact h)
  rw [e] at h
  have h := SPost.step S1 h
  simp only at h
  split at h
  · rename_i x
    split at h
    · rename_i d ρ2 e2
      cases x1 with
      | cons hx ht =>
        cases ht
        obtain ⟨G2, S2, R2, q2⟩ := fz_ok R1 hx e2
        refine ⟨_, rfl, fun a ha => ?_⟩
        have g := fun o => Gro.new (o := o) R2.same ha
        exact h _ _ σ _ _ (S2.trans (g _).stp) (R2.gro (g _)) ⟨rfl, a, _, rfl, upd_same, .cons (q2.mono (g _).g) .nil⟩
    · exact h.elim
  · exact h.elim
/-- raise X('..'), X without an own __init__ -/
def sRaise0 (c : Str) : SM := fun ρ => .ex ⟨c, none⟩ ρ
theorem st_raise0 {C : Str} : StOk K W (fun _ σ H => W (.ref (cA K C)) none σ H) (sRaise0 C) := fun σ G H ρ R D h =>
  h _ _ σ _ _ (Stp.refl _ _ _ _) R ⟨rfl, trivial⟩
/-! ### try -/
def clrX (ρ : Env) : Env := ρ.map fun o => match o with
  | some .xh => none
  | o => o
theorem clrX_get {ρ : Env} {i : Nat} {l : L} (h : (clrX ρ)[i]? = some (some l)) : ρ[i]? = some (some l) ∧ l ≠ .xh := by
  unfold clrX at h
  rw [List.getElem?_map] at h
  cases e : ρ[i]? with
  | none => rw [e] at h; cases h
  | some o =>
    rw [e] at h
    cases o with
    | none => cases h
    | some l' =>
      cases l' with
      | xh => cases h
      | d x => cases h; exact ⟨rfl, fun z => nomatch z⟩
      | m x => cases h; exact ⟨rfl, fun z => nomatch z⟩
      | r x => cases h; exact ⟨rfl, fun z => nomatch z⟩
theorem clrX_r {ρ : Env} {i : Nat} {x : D} (h : ρ[i]? = some (some (.r x))) : (clrX ρ)[i]? = some (some (.r x)) := by
  unfold clrX
  rw [List.getElem?_map, h]
  rfl
theorem clrX_len {ρ : Env} : (clrX ρ).length = ρ.length := by simp [clrX]
def dropS (ρ : Env) (i : Nat) : Option Env := match ρ[i]? with
  | some (some (.r _)) => none
  | _ => some (ρ.set i none)
theorem dropS_some {ρ ρ' : Env} {i : Nat} (h : dropS ρ i = some ρ') : ρ' = ρ.set i none ∧ ∀ x, ρ[i]? ≠ some (some (.r x)) := by
  unfold dropS at h
  split at h
  · cases h
  · rename_i hn
    cases h
    exact ⟨rfl, fun x e => hn x e⟩
/-- what a suite leaves behind, its name gone -/
def fin (i : Nat) : Res Fl → Res Fl
  | .ok f ρ => match dropS ρ i with
    | some ρ' => .ok f ρ'
    | none => .bad
  | _ => .bad
/-- which classes a clause takes -/
abbrev ExF := Str → Option Bool
def exOne (C : Str) : ExF := fun c => if c = C then some true else none
def sTry (ex : ExF) (i : Nat) (mb : SM) (ms : Exn → SM) : SM := fun ρ => match mb ρ with
  | .ex e ρ1 => match ex e.cls with
    | some true => match setS (clrX ρ1) i .xh with
      | some ρ2 => fin i (ms e ρ2)
      | none => .bad
    | some false => .ex e ρ1
    | none => .bad
  | r => r
/-- without a name -/
def sTryO (ex : ExF) (mb ms : SM) : SM := fun ρ => match mb ρ with
  | .ex e ρ1 => match ex e.cls with
    | some true => match ms ρ1 with
      | .ok f ρ2 => .ok f ρ2
      | _ => .bad
    | some false => .ex e ρ1
    | none => .bad
  | r => r
theorem LOk.xa {K : PySem.W.Frag} {x y : Option XA} {G H : Hp} {v : V} {l : L} (h : LOk ⟨K, x⟩ G H v l) (n : l ≠ .xh) : LOk ⟨K, y⟩ G H v l := by
  cases l with
  | d a => exact h
  | m a => cases a <;> exact h
  | r a => cases a <;> exact h
  | xh => exact absurd rfl n
theorem LOk.off {K : PySem.W.Frag} {x : Option XA} {G H : Hp} {v : V} {l : L} (h : LOk ⟨K, x⟩ G H v l) : LOk ⟨K, none⟩ G H v l := by
  cases l with
  | d a => exact h
  | m a => cases a <;> exact h
  | r a => cases a <;> exact h
  | xh => exact fun y e => nomatch e
abbrev WF : WX := fun _ _ _ _ => False
section
variable {F : PySem.W.Frag} {σ : L2.St} {G H : Hp} {ρ : Env}
theorem Rel.suite {a : Addr} {c : Value} {d : Option Addr} {e : Exn} {i : Nat} {ρ2 : Env} (R : Rel ⟨F, none⟩ σ G H ρ) (q : ExOk F G c d e) (h : setS (clrX ρ) i .xh = some ρ2) :
    Stp σ ρ G H (σ.set i (some (.ref a))) ρ2 G H ∧ Rel ⟨F, some ⟨a, c, d, e⟩⟩ (σ.set i (some (.ref a))) G H ρ2 := by
  obtain ⟨rfl, hi, hr⟩ := setS_some h
  have hi' : i < σ.length := by rw [R.len, ← clrX_len]; exact hi
  have own : ∀ {j : Nat} {l : L} {b : Addr}, ((clrX ρ).set i (some .xh))[j]? = some (some l) → l.own = true → (σ.set i (some (.ref a)))[j]? = some (some (.ref b)) → ρ[j]? = some (some l) ∧ σ[j]? = some (some (.ref b)) := fun {j l b} e1 o e3 => by
    rcases set_get e1 with ⟨rfl, e⟩ | ⟨hne, e⟩
    · cases Option.some.inj e
      cases o
    · rw [List.getElem?_set_ne hne] at e3
      exact ⟨(clrX_get e).1, e3⟩
  refine ⟨⟨Same.refl _, fun _ _ h => .inl h, fun _ _ h _ => h, fun _ h => h, fun a ⟨j, l, e1, e2, e3⟩ => ?_, fun a ⟨j, l, e1, e2, e3⟩ => ?_, fun j y e => ?_⟩, ⟨R.same, ?_, fun j l e => ?_, fun y h => ?_, fun j k l l' b hjk e1 e2 o1 o2 e3 e4 => ?_⟩⟩
  · obtain ⟨h1, h2⟩ := own e1 e2 e3
    exact .inl ⟨j, l, h1, e2, h2⟩
  · have o : l.own = true := by cases l <;> first | rfl | cases e2
    obtain ⟨h1, h2⟩ := own e1 o e3
    exact .inl ⟨j, l, h1, e2, h2⟩
  · have hne : i ≠ j := fun q => by subst q; exact hr y (clrX_r e)
    rw [List.getElem?_set_ne hne, List.getElem?_set_ne hne]
    exact ⟨rfl, y, clrX_r e⟩
  · rw [List.length_set, List.length_set, clrX_len]
    exact R.len
  · rcases set_get e with ⟨hij, e'⟩ | ⟨hne, e⟩
    · subst hij
      cases Option.some.inj e'
      exact ⟨_, List.getElem?_set_self hi', fun y hy => by cases hy; rfl⟩
    · rw [List.getElem?_set_ne hne]
      obtain ⟨h1, h2⟩ := clrX_get e
      obtain ⟨v, h3, h4⟩ := R.at_ j l h1
      exact ⟨v, h3, h4.xa h2⟩
  · cases h
    exact q
  · obtain ⟨h1, h2⟩ := own e1 o1 e3
    obtain ⟨h3, h4⟩ := own e2 o2 e4
    exact R.sep j k l l' b hjk h1 h3 o1 o2 h2 h4
theorem Rel.off {x : Option XA} (R : Rel ⟨F, x⟩ σ G H ρ) : Rel ⟨F, none⟩ σ G H ρ :=
  ⟨R.same, R.len, fun j l e => let ⟨v, h1, h2⟩ := R.at_ j l e; ⟨v, h1, h2.off⟩, (fun y h => nomatch h), R.sep⟩
theorem Rel.gone {x : Option XA} {i : Nat} {ρ' : Env} (R : Rel ⟨F, x⟩ σ G H ρ) (h : dropS ρ i = some ρ') : Stp σ ρ G H (σ.set i none) ρ' G H ∧ Rel ⟨F, none⟩ (σ.set i none) G H ρ' := by
  obtain ⟨rfl, hr⟩ := dropS_some h
  have own : ∀ {j : Nat} {l : L}, (ρ.set i none)[j]? = some (some l) → i ≠ j ∧ ρ[j]? = some (some l) := fun {j l} e1 => by
    rcases set_get e1 with ⟨_, e⟩ | ⟨h, e⟩
    · cases e
    · exact ⟨h, e⟩
  have sg : ∀ {j : Nat} {b : Addr}, i ≠ j → (σ.set i none)[j]? = some (some (.ref b)) → σ[j]? = some (some (.ref b)) := fun {j b} h e => by
    rw [List.getElem?_set_ne h] at e
    exact e
  refine ⟨⟨Same.refl _, fun _ _ h => .inl h, fun _ _ h _ => h, fun _ h => h, fun a ⟨j, l, e1, e2, e3⟩ => .inl ⟨j, l, (own e1).2, e2, sg (own e1).1 e3⟩, fun a ⟨j, l, e1, e2, e3⟩ => .inl ⟨j, l, (own e1).2, e2, sg (own e1).1 e3⟩, fun j y e => ?_⟩,
    ⟨R.same, by rw [List.length_set, List.length_set]; exact R.len, fun j l e => ?_, (fun y h => nomatch h), fun j k l l' b hjk e1 e2 o1 o2 e3 e4 => ?_⟩⟩
  · have hne : i ≠ j := fun q => by subst q; exact hr y e
    rw [List.getElem?_set_ne hne, List.getElem?_set_ne hne]
    exact ⟨rfl, y, e⟩
  · obtain ⟨h1, h2⟩ := own e
    rw [List.getElem?_set_ne h1]
    obtain ⟨v, h3, h4⟩ := R.at_ j l h2
    exact ⟨v, h3, h4.off⟩
  · exact R.sep j k l l' b hjk (own e1).2 (own e2).2 o1 o2 (sg (own e1).1 e3) (sg (own e2).1 e4)
end
theorem RtOk.kx {F : PySem.W.Frag} {x y : Option XA} {σ : L2.St} {ρ : Env} {H G' H' : Hp} {v : V} {l : L} (h : RtOk ⟨F, x⟩ σ ρ H G' H' v l) : RtOk ⟨F, y⟩ σ ρ H G' H' v l := by
  cases l with
  | d a => exact h
  | m a => exact ⟨by have := h.1; cases a <;> exact this, h.2⟩
  | r a => exact h
  | xh => exact h
def tsT (F : PySem.W.Frag) (ms : Exn → SM) : Addr → Value → Option Addr → TS := fun a cls d D σ H => ∃ e : Exn, .ref (cA F e.cls) = cls ∧ tOf ⟨F, some ⟨a, cls, d, e⟩⟩ WF (ms e) D σ H
theorem st_try {F : PySem.W.Frag} {c : Value} {i : Nat} {mb : SM} {ms : Exn → SM} {ex : ExF} (hex : ∀ cls b, ex cls = some b → PySem.W.exmOne F (.ref (cA F cls)) c = some b) :
    StOk ⟨F, none⟩ W (fun D σ H => tOf ⟨F, none⟩ (wAs F c i (tsT F ms) W D) mb D σ H) (sTry ex i mb ms) := fun σ G H ρ R D h => by
  refine ⟨G, ρ, R, ?_⟩
  unfold sTry at h
  cases eb : mb ρ with
  | bad => rw [eb] at h; exact h
  | ok fl ρ1 => rw [eb] at h; cases fl <;> exact h
  | ex e ρ1 =>
    rw [eb] at h
    simp only at h
    intro c' d σ' G' H' S' R' q
    have q1 : c' = .ref (cA F e.cls) := q.1
    subst q1
    cases ee : ex e.cls with
    | none => rw [ee] at h; exact h.elim
    | some b =>
      rw [ee] at h
      refine ⟨b, hex _ _ ee, fun hb a na => ?_, fun hb => ?_⟩
      · subst hb
        simp only at h
        cases e2 : setS (clrX ρ1) i .xh with
        | none => rw [e2] at h; exact h.elim
        | some ρ2 =>
          rw [e2] at h
          simp only at h
          obtain ⟨S2, R2⟩ := Rel.suite (a := a) R' q e2
          refine ⟨e, rfl, G', ρ2, R2, ?_⟩
          cases e3 : ms e ρ2 with
          | bad => rw [e3] at h; exact h.elim
          | ex _ _ => rw [e3] at h; exact h.elim
          | ok f ρ3 =>
            rw [e3] at h
            unfold fin at h
            simp only at h
            cases e4 : dropS ρ3 i with
            | none => rw [e4] at h; exact h.elim
            | some ρ4 =>
              rw [e4] at h
              have S02 := S'.trans S2
              cases f with
              | nx =>
                intro σ3 G3 H3 S3 R3
                obtain ⟨S4, R4⟩ := Rel.gone R3 e4
                exact h _ _ _ ((S02.trans S3).trans S4) R4
              | bk =>
                intro σ3 G3 H3 S3 R3
                obtain ⟨S4, R4⟩ := Rel.gone R3 e4
                exact h _ _ _ ((S02.trans S3).trans S4) R4
              | ct =>
                intro σ3 G3 H3 S3 R3
                obtain ⟨S4, R4⟩ := Rel.gone R3 e4
                exact h _ _ _ ((S02.trans S3).trans S4) R4
              | rt l =>
                intro σ3 v G3 H3 S3 R3 qr
                obtain ⟨S4, R4⟩ := Rel.gone R3 e4
                exact h _ v _ _ ((S02.trans S3).trans S4) R4 (RtOk.step S02 (RtOk.kx qr))
      · subst hb
        simp only at h
        exact h _ _ _ _ _ S' R' q
def tsO (F : PySem.W.Frag) (ms : SM) : Addr → Value → Option Addr → TS := fun _ _ _ => tOf ⟨F, none⟩ WF ms
theorem st_tryO {F : PySem.W.Frag} {c : Value} {mb ms : SM} {ex : ExF} (hex : ∀ cls b, ex cls = some b → PySem.W.exmOne F (.ref (cA F cls)) c = some b) :
    StOk ⟨F, none⟩ W (fun D σ H => tOf ⟨F, none⟩ (wOnly F c (tsO F ms) W D) mb D σ H) (sTryO ex mb ms) := fun σ G H ρ R D h => by
  refine ⟨G, ρ, R, ?_⟩
  unfold sTryO at h
  cases eb : mb ρ with
  | bad => rw [eb] at h; exact h
  | ok fl ρ1 => rw [eb] at h; cases fl <;> exact h
  | ex e ρ1 =>
    rw [eb] at h
    simp only at h
    intro c' d σ' G' H' S' R' q
    have q1 : c' = .ref (cA F e.cls) := q.1
    subst q1
    cases ee : ex e.cls with
    | none => rw [ee] at h; exact h.elim
    | some b =>
      rw [ee] at h
      refine ⟨b, hex _ _ ee, fun hb a na => ?_, fun hb => ?_⟩
      · subst hb
        simp only at h
        refine ⟨G', ρ1, R', ?_⟩
        cases e3 : ms ρ1 with
        | bad => rw [e3] at h; exact h.elim
        | ex _ _ => rw [e3] at h; exact h.elim
        | ok f ρ3 =>
          rw [e3] at h
          cases f with
          | nx => exact fun σ3 G3 H3 S3 R3 => h _ _ _ (S'.trans S3) R3
          | bk => exact fun σ3 G3 H3 S3 R3 => h _ _ _ (S'.trans S3) R3
          | ct => exact fun σ3 G3 H3 S3 R3 => h _ _ _ (S'.trans S3) R3
          | rt l => exact fun σ3 v G3 H3 S3 R3 qr => h _ v _ _ (S'.trans S3) R3 (RtOk.step S' qr)
      · subst hb
        simp only at h
        exact h _ _ _ _ _ S' R' q
/-- err.f in a suite -/
def eXf (e : Exn) (c : Str) (f : Str) (i : Nat) : EM := fun ρ => match ρ[i]? with
  | some (some .xh) => if e.cls = c then (match e.fs with
    | some fs => match fs.lookup f with
      | some d => .ok (.d d) ρ
      | none => .bad
    | none => .bad) else .bad
  | _ => .bad
theorem DqF.look {K : PySem.W.Frag} {G : Hp} {f : Str} : ∀ {vs : List (Str × V)} {ds : List (Str × D)} {d : D}, DqF K G vs ds → ds.lookup f = some d → ∃ v, vs.lookup f = some v ∧ Dq K G v d
  | _, _, _, .nil, e => by cases e
  | _, _, d, .cons (k := k) (v := v) h t, e => by
    unfold List.lookup at e ⊢
    cases q : f == k with
    | true => rw [q] at e; cases e; exact ⟨v, rfl, h⟩
    | false => rw [q] at e; exact DqF.look t e
theorem ev_xf {F : PySem.W.Frag} {a : Addr} {c : Value} {d : Option Addr} {e : Exn} {C : Str} {f : Str} {i : Nat} : EvOk ⟨F, some ⟨a, c, d, e⟩⟩ W (tXf a c d (cA F C) f (tVar i)) (eXf e C f i) := fun σ G H ρ R Q h => by
  unfold eXf at h
  split at h
  · rename_i hx
    split at h
    · rename_i hc
      cases e1 : e.fs with
      | none => rw [e1] at h; exact h.elim
      | some fs =>
        rw [e1] at h
        simp only at h
        cases e2 : fs.lookup f with
        | none => rw [e2] at h; exact h.elim
        | some y =>
          rw [e2] at h
          obtain ⟨v, hv, hl⟩ := R.at_ i _ hx
          have hl := hl ⟨a, c, d, e⟩ rfl
          subst hl
          obtain ⟨x1, x2⟩ := R.exo ⟨a, c, d, e⟩ rfl
          simp only [e1] at x2
          obtain ⟨dd, vs, rfl, hg, hf⟩ := x2
          obtain ⟨u, hu, qu⟩ := DqF.look hf e2
          exact ⟨_, hv, rfl, x1.trans (by rw [hc]), dd, vs, u, rfl, R.same _ _ hg, hu, h u G H (Stp.refl _ _ _ _) R qu⟩
    · exact h.elim
  · exact h.elim
end DL
set_option Elab.async false
set_option linter.all false
set_option maxRecDepth 100000
set_option maxHeartbeats 4000000
/-! the judgements: a text, its reading tied to its denotation -/
namespace DL
open PySem PySem.Spec PyProof.Rows L2
section
variable (X : Cx) (xa : Option XA) (W : WX)
def JE (e : Expr) (m : EM) : Prop := ∃ t, PE X e t ∧ EvOk ⟨X.K, xa⟩ W t m
def JF (e : Expr) (m : FM) : Prop := ∃ t, PE X e t ∧ FvOk ⟨X.K, xa⟩ W t m
def JT (e : Expr) (m : TM) : Prop := ∃ t, PT X e t ∧ TvOk ⟨X.K, xa⟩ W t m
def JW (e : Expr) (m : TM) : Prop := ∃ t, PW X e t ∧ TvOk ⟨X.K, xa⟩ W t m
def JA (es : List Expr) (m : AM) : Prop := ∃ t, PA X es t ∧ AvOk ⟨X.K, xa⟩ W t m
def JO (e : Option Expr) (m : OM) : Prop := ∃ t, PO X e t ∧ OvOk ⟨X.K, xa⟩ W t m
def JI (tg e : Expr) (m : IM) : Prop := ∃ t, PI X tg e t ∧ IvOk ⟨X.K, xa⟩ W t m
def JG (js : List Nat) (tg : Expr) (m : GM) : Prop := ∃ g, PG X tg g ∧ GOk ⟨X.K, xa⟩ js g m
def JGs (js : List Nat) (tgs : List Expr) (m : GMs) : Prop := ∃ g, PGs X tgs g ∧ GsOk ⟨X.K, xa⟩ js g m
def JS (st : Stmt) (m : SM) : Prop := ∃ t, PS X st t ∧ StOk ⟨X.K, xa⟩ W t m
end
section
variable {X : Cx} {xa : Option XA} {W : WX}
/-! ### canonical readings -/
theorem JE.can {e : Expr} {m : EM} (h : JE X xa W e m) : PE X e (tOfE ⟨X.K, xa⟩ W m) := by
  obtain ⟨t, h1, h2⟩ := h
  exact ⟨fun pins s σ H Q I ⟨G, ρ, R, hp⟩ => h1.run pins s σ H Q I (h2 σ G H ρ R Q hp)⟩
theorem JT.can {e : Expr} {m : TM} (h : JT X xa W e m) : PT X e (tOfT ⟨X.K, xa⟩ W m) := by
  obtain ⟨t, h1, h2⟩ := h
  exact ⟨fun pins s σ H Q I ⟨G, ρ, R, hp⟩ => h1.run pins s σ H Q I (h2 σ G H ρ R Q hp)⟩
theorem JSs.can {st : List Stmt} {m : SM} (h : JSs X xa W st m) : PSs X st (tOf ⟨X.K, xa⟩ W m) := by
  obtain ⟨t, h1, h2⟩ := h
  exact ⟨fun pins s σ H Q I ⟨G, ρ, R, hp⟩ => h1.run pins s σ H Q I (h2 σ G H ρ R Q hp)⟩
/-! ### expressions -/
theorem je_var {i : Nat} {x : Str} {pos : Pos} (hN : X.N[i]? = some x := by rfl) (hv : Vis X.env.scope x := by first | exact .inl rfl | exact .inr (.inl rfl) | exact .inr (.inr rfl)) (hd : (x == ("__debug__" : Str)) = false := by decide) (hcd : (x == ("__classdict__" : Str)) = false := by decide) :
    JE X xa W (.Name x pos) (eVar i) := ⟨_, pe_var hN hv hd hcd, ev_var i⟩
theorem je_int {i j pos} : JE X xa W (.Constant (.int i) j pos) (eC (.int i)) := ⟨_, pe_int, ev_int i⟩
theorem je_bl {b j pos} : JE X xa W (.Constant (.bool b) j pos) (eC (.bl b)) := ⟨_, pe_bl, ev_bl b⟩
theorem je_str {x j pos} : JE X xa W (.Constant (.str x) j pos) (eC (.str x)) := ⟨_, pe_str, ev_str x⟩
theorem je_non {j pos} : JE X xa W (.Constant .none j pos) (eC .non) := ⟨_, pe_non, ev_non⟩
variable {a b c e : Expr} {es : List Expr} {ma mb mc m : EM} {pos : Pos} {fm : FM} {am : AM} {tm tn : TM}
theorem je_f (h : JF X xa W e fm) : JE X xa W e (eF fm) := let ⟨t, h1, h2⟩ := h; ⟨t, h1, h2.ev⟩
theorem je_op {op : Operator} {g : D → D → Option D} (ho : OpR X (binaryOp op) (rD2 X.K g)) (ha : JE X xa W a ma) (hb : JE X xa W b mb) : JE X xa W (.BinOp a op b pos) (eOp g ma mb) :=
  let ⟨_, h1, h2⟩ := ha; let ⟨_, h3, h4⟩ := hb; ⟨_, pe_op ho h1 h3, ev_op h2 h4⟩
theorem jf_op {op : Operator} {g : D → D → Option (List D)} (ho : OpR X (binaryOp op) (rF2 X.K g)) (ha : JE X xa W a ma) (hb : JE X xa W b mb) : JF X xa W (.BinOp a op b pos) (fOp g ma mb) :=
  let ⟨_, h1, h2⟩ := ha; let ⟨_, h3, h4⟩ := hb; ⟨_, pe_op ho h1 h3, fv_op h2 h4⟩
theorem je_un {op : UnaryOp} {g : D → Option D} (ho : UnR X (unaryOp op) (rD1 X.K g)) (ha : JE X xa W a ma) : JE X xa W (.UnaryOp op a pos) (eUn g ma) :=
  let ⟨_, h1, h2⟩ := ha; ⟨_, pe_un ho h1, ev_un h2⟩
theorem je_cmp {op : CmpOp} {g : D → D → Option D} (ho : OpR X (compareOp op) (rD2 X.K g)) (ha : JE X xa W a ma) (hb : JE X xa W b mb) (hm : behindInMarks op b = false := by first | exact nomark _ (by decide) (by decide) | with_unfolding_all rfl) :
    JE X xa W (.Compare a [op] [b] pos) (eOp g ma mb) :=
  let ⟨_, h1, h2⟩ := ha; let ⟨_, h3, h4⟩ := hb; ⟨_, pe_cmpR ho h1 h3 hm, ev_op h2 h4⟩
theorem jt_cmp {op : CmpOp} {g : D → D → Option D} (ho : OpR X (compareOp op) (rD2 X.K g)) (ha : JE X xa W a ma) (hb : JE X xa W b mb) (hm : behindInMarks op b = false := by first | exact nomark _ (by decide) (by decide) | with_unfolding_all rfl) :
    JT X xa W (.Compare a [op] [b] pos) (tBl (eOp g ma mb)) :=
  let ⟨_, h1, h2⟩ := ha; let ⟨_, h3, h4⟩ := hb; ⟨_, pt_cmpR ho h1 h3 hm, tv_test (ev_op h2 h4)⟩
theorem jt_tru (ha : JE X xa W a ma) (he : ∀ whole, isTrue a X.env whole = (do let v ← whole; standAt a.pos; holding [v] (truthy v)) := by intro _; rfl) : JT X xa W a (mTru ma) :=
  let ⟨_, h1, h2⟩ := ha; ⟨_, pt_truth h1 he, tv_tru h2⟩
theorem jw_and1 {op : JT X xa W a tm} : JW X xa W (.BoolOp .And [a] pos) tm := let ⟨_, h1, h2⟩ := op; ⟨_, pw_and1 h1, h2⟩
theorem jw_or1 {op : JT X xa W a tm} : JW X xa W (.BoolOp .Or [a] pos) tm := let ⟨_, h1, h2⟩ := op; ⟨_, pw_or1 h1, h2⟩
theorem jw_and {rest : List Expr} (ha : JT X xa W a tm) (hb : JW X xa W (.BoolOp .And (b :: rest) pos) tn) : JW X xa W (.BoolOp .And (a :: b :: rest) pos) (mAnd tm tn) :=
  let ⟨_, h1, h2⟩ := ha; let ⟨_, h3, h4⟩ := hb; ⟨_, pw_and h1 h3, tv_and h2 h4⟩
theorem jw_or {rest : List Expr} (ha : JT X xa W a tm) (hb : JW X xa W (.BoolOp .Or (b :: rest) pos) tn) : JW X xa W (.BoolOp .Or (a :: b :: rest) pos) (mOr tm tn) :=
  let ⟨_, h1, h2⟩ := ha; let ⟨_, h3, h4⟩ := hb; ⟨_, pw_or h1 h3, tv_or h2 h4⟩
theorem jt_w (h : JW X xa W e tm) : JT X xa W e tm := let ⟨_, h1, h2⟩ := h; ⟨_, h1.pt, h2⟩
theorem jt_not (ha : JT X xa W a tm) : JT X xa W (.UnaryOp .Not a pos) (mNot tm) := let ⟨_, h1, h2⟩ := ha; ⟨_, pt_not h1, tv_not h2⟩
theorem je_one {op} (h : JE X xa W a ma) : JE X xa W (.BoolOp op [a] pos) ma := let ⟨_, h1, h2⟩ := h; ⟨_, pe_one h1, h2⟩
theorem je_and {rest : List Expr} (ha : JE X xa W a ma) (hb : JE X xa W (.BoolOp .And (b :: rest) pos) mb) : JE X xa W (.BoolOp .And (a :: b :: rest) pos) (eAnd ma mb) :=
  let ⟨_, h1, h2⟩ := ha; let ⟨_, h3, h4⟩ := hb; ⟨_, pe_and h1 h3, ev_and h2 h4⟩
theorem je_or {rest : List Expr} (ha : JE X xa W a ma) (hb : JE X xa W (.BoolOp .Or (b :: rest) pos) mb) : JE X xa W (.BoolOp .Or (a :: b :: rest) pos) (eOr ma mb) :=
  let ⟨_, h1, h2⟩ := ha; let ⟨_, h3, h4⟩ := hb; ⟨_, pe_or h1 h3, ev_or h2 h4⟩
theorem je_not (ha : JE X xa W a ma) : JE X xa W (.UnaryOp .Not a pos) (eNot ma) := let ⟨_, h1, h2⟩ := ha; ⟨_, pe_not h1, ev_not h2⟩
theorem je_if (hc : JT X xa W c tm) (ha : JE X xa W a ma) (hb : JE X xa W b mb) : JE X xa W (.IfExp c a b pos) (eIf tm ma mb) :=
  let ⟨_, h1, h2⟩ := hc; let ⟨_, h3, h4⟩ := ha; let ⟨_, h5, h6⟩ := hb; ⟨_, pe_ifExp h1 h3 h5, ev_if h2 h4 h6⟩
/-! ### lists of arguments, displays -/
theorem ja_nil : JA X xa W [] aNil := ⟨_, pa_nil, av_nil⟩
theorem ja_cons (ha : JE X xa W e m) (hr : JA X xa W es am) (hs : starEach (e :: es) X.env = (false, eval e X.env) :: starEach es X.env := by rfl) : JA X xa W (e :: es) (aCons m am) :=
  let ⟨_, h1, h2⟩ := ha; let ⟨_, h3, h4⟩ := hr; ⟨_, pa_cons h1 h3 hs, av_cons h2 h4⟩
theorem je_tup {k} (h : JA X xa W es am) : JE X xa W (.Tuple es k pos) (eTup am) := let ⟨_, h1, h2⟩ := h; ⟨_, pe_tup h1, ev_tup h2⟩
theorem jf_lst (h : JA X xa W es am) : JF X xa W (.List es pos) (fLst am) := let ⟨_, h1, h2⟩ := h; ⟨_, pe_lst h1, fv_lst h2⟩
/-! ### subscripts, slices -/
theorem je_ix (ha : JE X xa W a ma) (hb : JE X xa W b mb) (hs : PlainIx b := by intro _ _; rfl) : JE X xa W (.Subscript a b pos) (eOp ixD ma mb) :=
  let ⟨_, h1, h2⟩ := ha; let ⟨_, h3, h4⟩ := hb; ⟨_, pe_ix ix_D h1 h3 hs, ev_op h2 h4⟩
variable {ol oh os : OM} {lo hi : Option Expr}
theorem jo_none : JO X xa W none oNone := ⟨_, po_none, ov_none⟩
theorem jo_some (h : JE X xa W e m) : JO X xa W (some e) (oSome m) := let ⟨_, h1, h2⟩ := h; ⟨_, po_some h1, ov_some h2⟩
theorem je_sl {p2} (ha : JE X xa W a ma) (hl : JO X xa W lo ol) (hh : JO X xa W hi oh) : JE X xa W (.Subscript a (.Slice lo hi none p2) pos) (eSl slD ma ol oh) :=
  let ⟨_, h1, h2⟩ := ha; let ⟨_, h3, h4⟩ := hl; let ⟨_, h5, h6⟩ := hh; ⟨_, pe_slice sl_D h1 h3 h5, ev_sl h2 h4 h6⟩
theorem jf_sl {p2} (ha : JE X xa W a ma) (hl : JO X xa W lo ol) (hh : JO X xa W hi oh) : JF X xa W (.Subscript a (.Slice lo hi none p2) pos) (fSl slF ma ol oh) :=
  let ⟨_, h1, h2⟩ := ha; let ⟨_, h3, h4⟩ := hl; let ⟨_, h5, h6⟩ := hh; ⟨_, pe_slice sl_F h1 h3 h5, fv_sl h2 h4 h6⟩
theorem jf_slS {p2 st} (ha : JE X xa W a ma) (hl : JO X xa W lo ol) (hh : JO X xa W hi oh) (hs : JO X xa W (some st) os)
    (hst : ∀ a b, subscripted (.Slice lo hi (some st) p2) false (.ref a) (.ref b) = operate [.ref a, .ref b] (getItem (.ref a) (.ref b)) := by intro _ _; with_unfolding_all rfl) : JF X xa W (.Subscript a (.Slice lo hi (some st) p2) pos) (fSlS ma ol oh os) :=
  let ⟨_, h1, h2⟩ := ha; let ⟨_, h3, h4⟩ := hl; let ⟨_, h5, h6⟩ := hh; let ⟨_, h7, h8⟩ := hs; ⟨_, pe_sliceS h1 h3 h5 h7 hst, fv_slS h2 h4 h6 h8⟩
/-! ### calls of built-ins -/
section
variable {x : Str} {p : Pos} {id T : String}
theorem je_cb {g : List D → Option D} (hc : CallR X (.builtin id) (rDn X.K g)) (hm : X.mg x = none) (hv : bootBuiltins x = some (.builtin id)) (ha : JA X xa W (e :: es) am) (hg : Gl X x := by rfl) (hn : x ≠ "__name__" := by decide) (hdb : (x == ("__debug__" : Str)) = false := by decide)
    (he : starEach (e :: es) X.env = (false, eval e X.env) :: starEach es X.env := by rfl) (hpl : (backTo pos (starEach es X.env)).any (·.1) = false := by rfl) : JE X xa W (.Call (.Name x p) (e :: es) [] pos) (eCB g am) :=
  let ⟨_, h1, h2⟩ := ha; ⟨_, pe_callB hc hg hm hv h1 hn hdb he hpl, ev_cb h2⟩
theorem jf_cb {g : List D → Option (List D)} (hc : CallR X (.builtin id) (rFn X.K g)) (hm : X.mg x = none) (hv : bootBuiltins x = some (.builtin id)) (ha : JA X xa W (e :: es) am) (hg : Gl X x := by rfl) (hn : x ≠ "__name__" := by decide) (hdb : (x == ("__debug__" : Str)) = false := by decide)
    (he : starEach (e :: es) X.env = (false, eval e X.env) :: starEach es X.env := by rfl) (hpl : (backTo pos (starEach es X.env)).any (·.1) = false := by rfl) : JF X xa W (.Call (.Name x p) (e :: es) [] pos) (fCB g am) :=
  let ⟨_, h1, h2⟩ := ha; ⟨_, pe_callB hc hg hm hv h1 hn hdb he hpl, fv_cb h2⟩
theorem je_ct {g : List D → Option D} (hc : CallR X (.type T) (rDn X.K g)) (hm : X.mg x = none) (hv : bootBuiltins x = some (.type T)) (ha : JA X xa W (e :: es) am) (hg : Gl X x := by rfl) (hn : x ≠ "__name__" := by decide) (hdb : (x == ("__debug__" : Str)) = false := by decide)
    (he : starEach (e :: es) X.env = (false, eval e X.env) :: starEach es X.env := by rfl) (hpl : (backTo pos (starEach es X.env)).any (·.1) = false := by rfl) : JE X xa W (.Call (.Name x p) (e :: es) [] pos) (eCB g am) :=
  let ⟨_, h1, h2⟩ := ha; ⟨_, pe_callTy hc hg hm hv h1 hn hdb he hpl, ev_cb h2⟩
theorem jf_ct {g : List D → Option (List D)} (hc : CallR X (.type T) (rFn X.K g)) (hm : X.mg x = none) (hv : bootBuiltins x = some (.type T)) (ha : JA X xa W (e :: es) am) (hg : Gl X x := by rfl) (hn : x ≠ "__name__" := by decide) (hdb : (x == ("__debug__" : Str)) = false := by decide)
    (he : starEach (e :: es) X.env = (false, eval e X.env) :: starEach es X.env := by rfl) (hpl : (backTo pos (starEach es X.env)).any (·.1) = false := by rfl) : JF X xa W (.Call (.Name x p) (e :: es) [] pos) (fCB g am) :=
  let ⟨_, h1, h2⟩ := ha; ⟨_, pe_callTy hc hg hm hv h1 hn hdb he hpl, fv_cb h2⟩
theorem je_cg {g : List D → Option D} (hc : CallR X (.builtin id) (rDn X.K g)) (hm : X.mg x = some (.builtin id)) (ha : JA X xa W (e :: es) am) (hg : Gl X x := by rfl) (hdb : (x == ("__debug__" : Str)) = false := by decide)
    (he : starEach (e :: es) X.env = (false, eval e X.env) :: starEach es X.env := by rfl) (hpl : (backTo pos (starEach es X.env)).any (·.1) = false := by rfl) : JE X xa W (.Call (.Name x p) (e :: es) [] pos) (eCB g am) :=
  let ⟨_, h1, h2⟩ := ha; ⟨_, pe_callBfun hc hg hm h1 hdb he hpl, ev_cb h2⟩
theorem je_isT {y : Str} {p' : Pos} (T : String) (hm : X.mg "isinstance" = none) (hy : X.mg y = none) (hv : bootBuiltins y = some (.type T)) (hk : ∀ t ∈ ["NoneType", "bool", "int", "str", "list", "tuple", "dict"], PySem.W.kitOne X.K (.type t) (.type T) = some (isiB t T)) (ha : JE X xa W e m)
    (hg : Gl X "isinstance" := by rfl) (hgy : Gl X y := by rfl) (hn : y ≠ "__name__" := by decide) (hdb : (y == ("__debug__" : Str)) = false := by decide)
    (he : starEach [e, .Name y p'] X.env = (false, eval e X.env) :: starEach [.Name y p'] X.env := by rfl) (he2 : starEach [.Name y p'] X.env = (false, eval (.Name y p') X.env) :: starEach [] X.env := by rfl) (hpl : (backTo pos (starEach [.Name y p'] X.env)).any (·.1) = false := by rfl) :
    JE X xa W (.Call (.Name "isinstance" p) [e, .Name y p'] [] pos) (eIsT T m) :=
  let ⟨_, h1, h2⟩ := ha; ⟨_, pe_callB (cr_isT hk) hg hm (by first | boot_by_name | rfl | kernel_rfl) (pa_cons h1 (pa_cons (pe_bltn (v := .ty T) hgy hy hv rfl hn hdb) pa_nil he2) he) (by decide) (by decide) he hpl, ev_isT h2⟩
end
/-! ### calls of one's own -/
section
variable {x : Str} {p : Pos} {k : Nat} {f : Addr} {fd : FuncData} {ps : List Str} {R : List L → FRes} {dvs : List V} {ds : List D} {dvals : List Value}
theorem tApp_eq {sp : Sp} {E : L2.St → XK} {t : TA} : tCallSD sp dvs E t = tCallSD sp [] E (tApp t dvs) := by
  funext σ H Q
  unfold tCallSD tApp
  simp only [List.append_nil]
theorem pe_app {sp : Sp} {E : L2.St → XK} {t : TA} (h : PE X e (tCallSD sp dvs E t)) : PE X e (tCallSD sp [] E (tApp t dvs)) := by
  rw [← tApp_eq]
  exact h
theorem je_call (F : FnOk X.prog X.w X.K X.mg X.base (L2.CX X.prog X.w) k f fd ps (spF X.K ps.length R)) (hr : Room k X.A) (hm : X.mg x = some (.ref f)) (hk : PySem.W.keepIn X.K (.ref f) = true) (hb : Binds X.K fd ps []) (tk : Takes X W) (ha : JA X xa W (e :: es) am) (hg : Gl X x := by rfl)
    (hdb : (x == ("__debug__" : Str)) = false := by decide) (he : starEach (e :: es) X.env = (false, eval e X.env) :: starEach es X.env := by rfl) (hpl : (backTo pos (starEach es X.env)).any (·.1) = false := by rfl) : JE X xa W (.Call (.Name x p) (e :: es) [] pos) (eCall ps.length R am) :=
  let ⟨_, h1, h2⟩ := ha; ⟨_, pe_callSD F hr hg hm hk hb .nil (fun σ => passAt tk σ) h1 hdb he hpl, ev_call h2⟩
theorem jf_call (F : FnOk X.prog X.w X.K X.mg X.base (L2.CX X.prog X.w) k f fd ps (spF X.K ps.length R)) (hr : Room k X.A) (hm : X.mg x = some (.ref f)) (hk : PySem.W.keepIn X.K (.ref f) = true) (hb : Binds X.K fd ps []) (tk : Takes X W) (ha : JA X xa W (e :: es) am) (hg : Gl X x := by rfl)
    (hdb : (x == ("__debug__" : Str)) = false := by decide) (he : starEach (e :: es) X.env = (false, eval e X.env) :: starEach es X.env := by rfl) (hpl : (backTo pos (starEach es X.env)).any (·.1) = false := by rfl) : JF X xa W (.Call (.Name x p) (e :: es) [] pos) (fCall ps.length R am) :=
  let ⟨_, h1, h2⟩ := ha; ⟨_, pe_callSD F hr hg hm hk hb .nil (fun σ => passAt tk σ) h1 hdb he hpl, fv_call h2⟩
/-- with defaults -/
theorem je_callD (F : FnOk X.prog X.w X.K X.mg X.base (L2.CX X.prog X.w) k f fd ps (spF X.K ps.length R)) (hr : Room k X.A) (hm : X.mg x = some (.ref f)) (hk : PySem.W.keepIn X.K (.ref f) = true) (hb : Binds X.K fd ps dvals) (hd : Vals dvs dvals) (hq : ∀ G, DqA X.K G dvs ds) (tk : Takes X W) (ha : JA X xa W (e :: es) am) (hg : Gl X x := by rfl)
    (hdb : (x == ("__debug__" : Str)) = false := by decide) (he : starEach (e :: es) X.env = (false, eval e X.env) :: starEach es X.env := by rfl) (hpl : (backTo pos (starEach es X.env)).any (·.1) = false := by rfl) : JE X xa W (.Call (.Name x p) (e :: es) [] pos) (eCall ps.length R (aApp am ds)) :=
  let ⟨_, h1, h2⟩ := ha; ⟨_, pe_app (pe_callSD F hr hg hm hk hb hd (fun σ => passAt tk σ) h1 hdb he hpl), ev_call (av_app h2 hq)⟩
theorem jf_callD (F : FnOk X.prog X.w X.K X.mg X.base (L2.CX X.prog X.w) k f fd ps (spF X.K ps.length R)) (hr : Room k X.A) (hm : X.mg x = some (.ref f)) (hk : PySem.W.keepIn X.K (.ref f) = true) (hb : Binds X.K fd ps dvals) (hd : Vals dvs dvals) (hq : ∀ G, DqA X.K G dvs ds) (tk : Takes X W) (ha : JA X xa W (e :: es) am) (hg : Gl X x := by rfl)
    (hdb : (x == ("__debug__" : Str)) = false := by decide) (he : starEach (e :: es) X.env = (false, eval e X.env) :: starEach es X.env := by rfl) (hpl : (backTo pos (starEach es X.env)).any (·.1) = false := by rfl) : JF X xa W (.Call (.Name x p) (e :: es) [] pos) (fCall ps.length R (aApp am ds)) :=
  let ⟨_, h1, h2⟩ := ha; ⟨_, pe_app (pe_callSD F hr hg hm hk hb hd (fun σ => passAt tk σ) h1 hdb he hpl), fv_call (av_app h2 hq)⟩
end
/-! ### lists' methods -/
section
variable {x : Str} {i : Nat} {p apos : Pos}
theorem je_app (ha : JE X xa W e m) (hN : X.N[i]? = some x := by rfl) (hv : Vis X.env.scope x := by first | exact .inl rfl | exact .inr (.inl rfl) | exact .inr (.inr rfl)) (hd : (x == ("__debug__" : Str)) = false := by decide) (hcd : (x == ("__classdict__" : Str)) = false := by decide)
    (hbase : attributeBase (.Name x p) "append" X.env (eval (.Name x p) X.env) = eval (.Name x p) X.env := by rfl)
    (hfew : ((backTo pos (starEach [e] X.env)).all (fun x => !x.1) && (backToKw pos (keywordEach [] X.env)).all (fun x => x.1.isSome)
      && decide ([e].length + ([] : List Keyword).length + (if ([] : List Keyword).isEmpty then 0 else 1) < 30)) = true := by rfl)
    (hline : (apos.endLine == pos.line) = true := by rfl) (hs : starEach [e] X.env = (false, eval e X.env) :: starEach [] X.env := by rfl) (hpl : (backTo pos (starEach [] X.env)).any (·.1) = false := by rfl) :
    JE X xa W (.Call (.Attribute (.Name x p) "append" apos) [e] [] pos) (eApp i m) :=
  let ⟨_, h1, h2⟩ := ha; ⟨_, pe_bm PySem.F.plainAttrs_list PySem.F.slot_list_append PySem.F.type_list_append mt_append (pe_var hN hv hd hcd) (pa_cons h1 pa_nil hs) hbase hfew hline hs hpl, ev_app h2⟩
theorem je_pop (hN : X.N[i]? = some x := by rfl) (hv : Vis X.env.scope x := by first | exact .inl rfl | exact .inr (.inl rfl) | exact .inr (.inr rfl)) (hd : (x == ("__debug__" : Str)) = false := by decide) (hcd : (x == ("__classdict__" : Str)) = false := by decide)
    (hbase : attributeBase (.Name x p) "pop" X.env (eval (.Name x p) X.env) = eval (.Name x p) X.env := by rfl) (hline : (apos.endLine == pos.line) = true := by rfl) :
    JE X xa W (.Call (.Attribute (.Name x p) "pop" apos) [] [] pos) (ePop i) :=
  ⟨_, pe_bm0 PySem.F.plainAttrs_list PySem.F.slot_list_pop PySem.F.type_list_pop mt_pop (pe_var hN hv hd hcd) hbase hline, ev_pop⟩
theorem je_popAt (ha : JE X xa W e m) (hN : X.N[i]? = some x := by rfl) (hv : Vis X.env.scope x := by first | exact .inl rfl | exact .inr (.inl rfl) | exact .inr (.inr rfl)) (hd : (x == ("__debug__" : Str)) = false := by decide) (hcd : (x == ("__classdict__" : Str)) = false := by decide)
    (hbase : attributeBase (.Name x p) "pop" X.env (eval (.Name x p) X.env) = eval (.Name x p) X.env := by rfl)
    (hfew : ((backTo pos (starEach [e] X.env)).all (fun x => !x.1) && (backToKw pos (keywordEach [] X.env)).all (fun x => x.1.isSome)
      && decide ([e].length + ([] : List Keyword).length + (if ([] : List Keyword).isEmpty then 0 else 1) < 30)) = true := by rfl)
    (hline : (apos.endLine == pos.line) = true := by rfl) (hs : starEach [e] X.env = (false, eval e X.env) :: starEach [] X.env := by rfl) (hpl : (backTo pos (starEach [] X.env)).any (·.1) = false := by rfl) :
    JE X xa W (.Call (.Attribute (.Name x p) "pop" apos) [e] [] pos) (ePopAt i m) :=
  let ⟨_, h1, h2⟩ := ha; ⟨_, pe_bm PySem.F.plainAttrs_list PySem.F.slot_list_pop PySem.F.type_list_pop mt_popAt (pe_var hN hv hd hcd) (pa_cons h1 pa_nil hs) hbase hfew hline hs hpl, ev_popAt h2⟩
end
/-! ### iterables, targets -/
section
variable {tg l : Expr} {p : Pos} {im : IM}
theorem ji_seq (h : JE X xa W l m) : JI X xa W tg l (mSeq m) := let ⟨_, h1, h2⟩ := h; ⟨_, pi_seq h1, iv_seq h2⟩
theorem ji_rng1 (hm : X.mg "range" = none) (h : JA X xa W [a] am) (hg : Gl X "range" := by rfl) (hs : starEach [a] X.env = [(false, eval a X.env)] := by rfl) : JI X xa W tg (.Call (.Name "range" p) [a] [] pos) (mRng1 am) :=
  let ⟨_, h1, h2⟩ := h; ⟨_, pj_range1 hg hm h1 hs, iv_rng1 h2⟩
theorem ji_rng2 (hm : X.mg "range" = none) (h : JA X xa W [a, b] am) (hg : Gl X "range" := by rfl) (hs : starEach [a, b] X.env = [(false, eval a X.env), (false, eval b X.env)] := by rfl) (hs2 : starEach [b] X.env = [(false, eval b X.env)] := by rfl) : JI X xa W tg (.Call (.Name "range" p) [a, b] [] pos) (mRng2 am) :=
  let ⟨_, h1, h2⟩ := h; ⟨_, pj_range2 hg hm h1 hs hs2, iv_rng2 h2⟩
variable {x : Str} {i : Nat} {js ks : List Nat} {gm : GM} {gms : GMs} {tgs : List Expr}
theorem jg_name (hN : X.N.Nodup) (hi : X.N[i]? = some x := by rfl) (hx : Loc X.env.scope x := by first | exact .inl rfl | exact .inr rfl) (hf : X.fn x = true ∨ X.env.scope.names.lookup x = some .local := by first | exact .inl rfl | exact .inr rfl) : JG X xa [i] (.Name x pos) (gmName i) :=
  ⟨_, pg_name hN hi hx hf, go_name i⟩
theorem jgs_nil : JGs X xa [] [] gmNil := ⟨_, pgs_nil, gs_nil⟩
theorem jgs_cons (h1 : JG X xa js e gm) (h2 : JGs X xa ks tgs gms) (hs : (assignEach (e :: tgs) X.env).map (·.2) = assign e X.env :: (assignEach tgs X.env).map (·.2) := by rfl) : JGs X xa (js ++ ks) (e :: tgs) (gmCons gm gms) :=
  let ⟨_, a1, a2⟩ := h1; let ⟨_, b1, b2⟩ := h2; ⟨_, pgs_cons a1 b1 hs, gs_cons a2 b2⟩
theorem jg_tup {k n : Nat} (hc : X.calm = true) (h : JGs X xa js tgs gms) (hn : (assignEach tgs X.env).length = n := by rfl) (hst : (assignEach tgs X.env).findIdx? (·.1) = none := by rfl) : JG X xa js (.Tuple tgs k pos) (gmTup n gms) :=
  let ⟨_, a1, a2⟩ := h; ⟨_, pg_tup hc a1 hn hst, go_tup a2⟩
end
/-! ### comprehensions -/
section
variable {elt tg iter : Expr} {ifs : List Expr} {scope : Scope} {im : IM} {gm : GM}
def Blks (X : Cx) (scope : Scope) (P : Cx → Prop) : Prop := ∀ (s : Shared) (H : Hp) (C : Addr) (cl : List (Str × Addr)) (fp : List Addr), P (X.blk s H scope (compEnvC scope cl C X.env) fp)
def mYes : TM := fun ρ => .ok true ρ
theorem tv_yes {K : Kx} : TvOk K W tYes mYes := fun σ G H ρ R Q h => h G H (Stp.refl _ _ _ _) R
theorem jf_lc {own : List (Str × Nat)} {ks : List Nat} {g : TG} (hc : X.calm = true) (hN : X.N.Nodup) (hi : JI X xa W tg iter im) (ok : BlkOk X.N X.env.scope scope own) (hg : Blks X scope fun Y => PG Y tg g) (hgo : GOk ⟨X.K, xa⟩ ks g gm) (hks : ∀ i ∈ ks, i ∈ own.map (·.2))
    (he : Blks X scope fun Y => JE Y xa WF elt m) (hs : ∀ x, foldedSetIterable iter X.env x = pure x := by intro _; rfl) :
    JF X xa W (.ListComp elt [⟨tg, iter, [], 0⟩] scope pos) (fLc im (own.map (·.2)) gm mYes m) :=
  let ⟨_, h1, h2⟩ := hi
  ⟨_, pe_lc hc hN h1 ok hg (fun _ _ _ _ _ => pts_nil) (fun s H C cl fp => (he s H C cl fp).can) hs, fv_lc h2 hgo hks tv_yes ev_of⟩
theorem jf_lcIf {own : List (Str × Nat)} {ks : List Nat} {g : TG} (hc : X.calm = true) (hN : X.N.Nodup) (hi : JI X xa W tg iter im) (ok : BlkOk X.N X.env.scope scope own) (hg : Blks X scope fun Y => PG Y tg g) (hgo : GOk ⟨X.K, xa⟩ ks g gm) (hks : ∀ i ∈ ks, i ∈ own.map (·.2))
    (ht : Blks X scope fun Y => JT Y xa WF c tm) (he : Blks X scope fun Y => JE Y xa WF elt m) (hs : ∀ x, foldedSetIterable iter X.env x = pure x := by intro _; rfl) :
    JF X xa W (.ListComp elt [⟨tg, iter, [c], 0⟩] scope pos) (fLc im (own.map (·.2)) gm tm m) :=
  let ⟨_, h1, h2⟩ := hi
  ⟨_, pe_lc hc hN h1 ok hg (fun s H C cl fp => pts_one (ht s H C cl fp).can) (fun s H C cl fp => (he s H C cl fp).can) hs, fv_lc h2 hgo hks tv_of ev_of⟩
variable {y : Str} {i : Nat} {py spos : Pos}
theorem js_setLc {own : List (Str × Nat)} {ks : List Nat} {g : TG} (hc : X.calm = true) (hN : X.N.Nodup) (hsw : swapsWith (.ListComp elt [⟨tg, iter, [], 0⟩] scope pos) (some (.Name y py)) spos.line X.env = pure true) (hi : JI X xa W tg iter im) (ok : BlkOk X.N X.env.scope scope own) (hg : Blks X scope fun Y => PG Y tg g) (hgo : GOk ⟨X.K, xa⟩ ks g gm) (hks : ∀ i ∈ ks, i ∈ own.map (·.2))
    (he : Blks X scope fun Y => JE Y xa WF elt m) (hy : X.N[i]? = some y := by rfl) (hyl : X.env.scope.names.lookup y = some .local := by rfl) (hs : ∀ x, foldedSetIterable iter X.env x = pure x := by intro _; rfl) :
    JS X xa W (.Assign [.Name y py] (.ListComp elt [⟨tg, iter, [], 0⟩] scope pos) spos) (sAsgM i (fLc im (own.map (·.2)) gm mYes m)) :=
  let ⟨_, h1, h2⟩ := hi
  ⟨_, ps_setLc hc hN hy hyl hsw h1 ok hg (fun _ _ _ _ _ => pts_nil) (fun s H C cl fp => (he s H C cl fp).can) hs, st_asgM (fv_lc h2 hgo hks tv_yes ev_of)⟩
theorem js_setLcF {own : List (Str × Nat)} {ks : List Nat} {g : TG} (hc : X.calm = true) (hN : X.N.Nodup) (hsw : swapsWith (.ListComp elt [⟨tg, iter, [], 0⟩] scope pos) (some (.Name y py)) spos.line X.env = pure true) (hi : JI X xa W tg iter im) (ok : BlkOk X.N X.env.scope scope own) (hg : Blks X scope fun Y => PG Y tg g) (hgo : GOk ⟨X.K, xa⟩ ks g gm) (hks : ∀ i ∈ ks, i ∈ own.map (·.2))
    (he : Blks X scope fun Y => JE Y xa WF elt m) (hy : X.N[i]? = some y := by rfl) (hyl : X.env.scope.names.lookup y = some .local := by rfl) (hs : ∀ x, foldedSetIterable iter X.env x = pure x := by intro _; rfl) :
    JS X xa W (.Assign [.Name y py] (.ListComp elt [⟨tg, iter, [], 0⟩] scope pos) spos) (sAsg (gmName i) (eF (fLc im (own.map (·.2)) gm mYes m))) :=
  let ⟨_, h1, h2⟩ := hi
  ⟨_, ps_setLc hc hN hy hyl hsw h1 ok hg (fun _ _ _ _ _ => pts_nil) (fun s H C cl fp => (he s H C cl fp).can) hs, st_asg (fv_lc h2 hgo hks tv_yes ev_of).ev (go_name i)⟩
end
/-! ### statements -/
section
variable {st : Stmt} {sts body orelse : List Stmt} {n o : SM} {x y : Str} {i j : Nat} {p p' : Pos} {tg : Expr} {gm : GM} {js : List Nat} {im : IM}
theorem jss_nil : JSs X xa W [] sNop := ⟨_, pss_nil, st_nop⟩
theorem jss_cons (h1 : JS X xa W st n) (h2 : JSs X xa W sts o) : JSs X xa W (st :: sts) (sSeq n o) := let ⟨_, a, b⟩ := h1; let ⟨_, c, d⟩ := h2; ⟨_, pss_cons a c, st_seq b d⟩
theorem jss_one (h1 : JS X xa W st n) : JSs X xa W [st] n := let ⟨_, a, b⟩ := h1; ⟨_, pss_one a, b⟩
theorem js_pass : JS X xa W (.Pass pos) sNop := ⟨_, ps_pass, st_nop⟩
theorem js_brk : JS X xa W (.Break pos) sBrk := ⟨_, ps_break, st_brk⟩
theorem js_cnt : JS X xa W (.Continue pos) sCnt := ⟨_, ps_continue, st_cnt⟩
theorem js_doc {z k} : JS X xa W (.Expr (.Constant (.str z) k p) pos) sNop := ⟨_, ps_doc, st_nop⟩
theorem js_expr (h : JE X xa W e m) (hs : swapsWith e none pos.line X.env = pure false := by rfl) : JS X xa W (.Expr e pos) (sDrop m) := let ⟨_, a, b⟩ := h; ⟨_, ps_expr a hs, st_drop b⟩
theorem js_ret (h : JE X xa W e m) : JS X xa W (.Return (some e) pos) (sRet m) := let ⟨_, a, b⟩ := h; ⟨_, ps_ret a, st_ret b⟩
theorem js_retF (h : JF X xa W e fm) : JS X xa W (.Return (some e) pos) (sRetF fm) := let ⟨_, a, b⟩ := h; ⟨_, ps_ret a, st_retF b⟩
theorem js_retN : JS X xa W (.Return none pos) sRetN := ⟨_, ps_retN, st_retN⟩
theorem js_if (hc : JT X xa W c tm) (h1 : JSs X xa W body n) (h2 : JSs X xa W orelse o) : JS X xa W (.If c body orelse pos) (sIf tm n o) := let ⟨_, a, b⟩ := hc; let ⟨_, c, d⟩ := h1; let ⟨_, e, f⟩ := h2; ⟨_, ps_if a c e, st_if b d f⟩
theorem js_set (hN : X.N.Nodup) (h : JE X xa W e m) (hi : X.N[i]? = some x := by rfl) (hx : Loc X.env.scope x := by first | exact .inl rfl | exact .inr rfl) (hs : swapsWith e (some (.Name x p)) pos.line X.env = pure false := by rfl) (hf : X.fn x = true ∨ X.env.scope.names.lookup x = some .local := by first | exact .inl rfl | exact .inr rfl) :
    JS X xa W (.Assign [.Name x p] e pos) (sAsg (gmName i) m) := let ⟨_, a, b⟩ := h; ⟨_, ps_set hN hi hx a hs hf, st_asg b (go_name i)⟩
theorem js_setM (hN : X.N.Nodup) (h : JF X xa W e fm) (hi : X.N[i]? = some x := by rfl) (hx : Loc X.env.scope x := by first | exact .inl rfl | exact .inr rfl) (hs : swapsWith e (some (.Name x p)) pos.line X.env = pure false := by rfl) (hf : X.fn x = true ∨ X.env.scope.names.lookup x = some .local := by first | exact .inl rfl | exact .inr rfl) :
    JS X xa W (.Assign [.Name x p] e pos) (sAsgM i fm) := let ⟨_, a, b⟩ := h; ⟨_, ps_set hN hi hx a hs hf, st_asgM b⟩
theorem js_asg (h : JE X xa W e m) (hg : JG X xa js tg gm) (hs : swapsWithSole [tg] e pos.line X.env = pure false := by rfl) (hw : swappedStores [tg] e X.env = pure none := by rfl) (h1 : (assignEach [tg] X.env).map (·.2) = [assign tg X.env] := by rfl) :
    JS X xa W (.Assign [tg] e pos) (sAsg gm m) := let ⟨_, a, b⟩ := h; let ⟨_, c, d⟩ := hg; ⟨_, ps_asg a c hs hw h1, st_asg b d⟩
theorem js_par {px py pt : Pos} {kt k2 pt2} (hc : X.calm = true) (hN : X.N.Nodup) (ha : JA X xa W [a, b] am) (hij : i ≠ j := by decide) (hi : X.N[i]? = some x := by rfl) (hj : X.N[j]? = some y := by rfl) (hx : X.env.scope.names.lookup x = some .local := by rfl) (hy : X.env.scope.names.lookup y = some .local := by rfl)
    (hw : swappedStores [.Tuple [.Name x px, .Name y py] kt pt] (.Tuple [a, b] k2 pt2) X.env = pure (some [x, y]) := by rfl) (hs : swapsWithSole [.Tuple [.Name x px, .Name y py] kt pt] (.Tuple [a, b] k2 pt2) pos.line X.env = pure false := by rfl) :
    JS X xa W (.Assign [.Tuple [.Name x px, .Name y py] kt pt] (.Tuple [a, b] k2 pt2) pos) (sPar i j am) := let ⟨_, h1, h2⟩ := ha; ⟨_, ps_par hc hN hi hj hij hx hy h1 hw hs, st_par h2⟩
theorem js_setL (h : JE X xa W e m) (hx : JE X xa W b mb) (hi : X.N[i]? = some x := by rfl) (hv : Vis X.env.scope x := by first | exact .inl rfl | exact .inr (.inl rfl) | exact .inr (.inr rfl)) (hd : (x == ("__debug__" : Str)) = false := by decide) (hcd : (x == ("__classdict__" : Str)) = false := by decide)
    (ha : ∀ v, assign (.Subscript (.Name x p) b p') X.env v = (do
      let ov ← holding [v] (eval (.Name x p) X.env)
      let iv ← holding [v, ov] (eval b X.env)
      standAt p'
      holding [v, ov, iv] (setItem ov iv v)
      release [v, ov, iv] []) := by intro _; rfl)
    (hs : swapsWithSole [.Subscript (.Name x p) b p'] e pos.line X.env = pure false := by rfl) (hw : swappedStores [.Subscript (.Name x p) b p'] e X.env = pure none := by rfl) (h1 : (assignEach [.Subscript (.Name x p) b p'] X.env).map (·.2) = [assign (.Subscript (.Name x p) b p') X.env] := by rfl) :
    JS X xa W (.Assign [.Subscript (.Name x p) b p'] e pos) (sSetL i mb m) := let ⟨_, a1, a2⟩ := h; let ⟨_, b1, b2⟩ := hx; ⟨_, ps_asg a1 (pg_sub (pe_var hi hv hd hcd) b1 set_list ha) hs hw h1, st_setL a2 b2⟩
theorem js_for {iter : Expr} (hp : PassesOwn (model X.prog X.w) X.A X.env X.xe) (hc : X.calm = true) (hi : JI X xa W tg iter im) (hg : JG X xa js tg gm) (hb : JSs X xa W body n) (hs : ∀ x, foldedSetIterable iter X.env x = pure x := by intro _; rfl) :
    JS X xa W (.For tg iter body [] pos) (sFor im gm n) := let ⟨_, a1, a2⟩ := hi; let ⟨_, b1, b2⟩ := hg; let ⟨_, c1, c2⟩ := hb; ⟨_, ps_for hp hc a1 b1 c1 hs, st_for a2 b2 c2⟩
theorem js_while (fuel : Nat) (hp : PassesOwn (model X.prog X.w) X.A X.env X.xe) (hc : JT X xa W c tm) (hb : JSs X xa W body n) : JS X xa W (.While c body [] pos) (sWhile fuel tm n) :=
  let ⟨_, a1, a2⟩ := hc; let ⟨_, c1, c2⟩ := hb; ⟨_, ps_while hp a1 c1, st_while a2 c2⟩
/-! ### exceptions -/
theorem js_raise {nm f : Str} {pp pos2 : Pos} {k : Nat} (T : PySem.ErrX.ErrTxt X.prog X.K X.mg nm f (cA X.K nm)) (hc : X.calm = true) (hr : Room k X.A) (tk : Takes X W) (ha : JA X xa W [a] am) (hg : Gl X nm := by rfl) (hdb : (nm == ("__debug__" : Str)) = false := by decide)
    (he : starEach (a :: []) X.env = (false, eval a X.env) :: starEach [] X.env := by rfl) (hpl : (backTo pos (starEach [] X.env)).any (·.1) = false := by rfl) : JS X xa W (.Raise (some (.Call (.Name nm pp) [a] [] pos)) none pos2) (sRaise nm f am) :=
  let ⟨_, h1, h2⟩ := ha; ⟨_, ps_raise hc tk (pmk_err T hr h1 hg hdb he hpl), st_raise h2⟩
theorem js_try {nm : Str} {c : Value} {np p1 : Pos} {b₀ : Stmt} {suite : List Stmt} {ms : Exn → SM} (ex : ExF) (hex : ∀ cls b, ex cls = some b → PySem.W.exmOne X.K (.ref (cA X.K cls)) c = some b) (hN : X.N.Nodup) (hst : X.stack = X.env :: X.outer) (hf : X.env.frame = some X.env.locals) (hc : Names X nm c) (tk : Takes X W)
    (hb : ∀ (W' : WX) (pn : List (Addr × Obj)) (xe : Value → Shared → Prop), Takes (X.tr pn xe) W' → PassesOwn (model X.prog X.w) X.A X.env xe → JSs (X.tr pn xe) none W' body n)
    (hsu : ∀ (a : Addr) (oe : Obj) (cls : Value) (d : Option Addr) (pn : List (Addr × Obj)) (e : Exn), Zc cls d oe → (∃ vs, oe.data = .fields vs) → .ref (cA X.K e.cls) = cls → JSs (X.suite a ((a, oe) :: pn)) (some ⟨a, cls, d, e⟩) WF (b₀ :: suite) (ms e))
    (hi : X.N[i]? = some x := by rfl) (hln : X.env.kindOf x = some .local := by rfl) :
    JS X none W (.Try body [.ExceptHandler (some (.Name nm np)) (some x) (b₀ :: suite) p1] [] [] pos) (sTry ex i n ms) :=
  ⟨_, ps_try_as (tb := fun W' => tOf ⟨X.K, none⟩ W' n) (ts := tsT X.K ms) hst hf hN hi hln hc tk (fun W' pn xe t1 p1 => (hb W' pn xe t1 p1).can) (fun a oe cls d pn hz hv => ⟨fun pins s σ H D I ⟨e, he, h⟩ => (hsu a oe cls d pn e hz hv he).can.run pins s σ H D I h⟩), st_try hex⟩
theorem js_tryO {nm : Str} {c : Value} {np p1 : Pos} {b₀ : Stmt} {suite : List Stmt} {ms : SM} (ex : ExF) (hex : ∀ cls b, ex cls = some b → PySem.W.exmOne X.K (.ref (cA X.K cls)) c = some b) (hst : X.stack = X.env :: X.outer) (hf : X.env.frame = some X.env.locals) (hc : Names X nm c) (tk : Takes X W)
    (hb : ∀ (W' : WX) (pn : List (Addr × Obj)) (xe : Value → Shared → Prop), Takes (X.tr pn xe) W' → PassesOwn (model X.prog X.w) X.A X.env xe → JSs (X.tr pn xe) none W' body n)
    (hsu : ∀ (a : Addr) (oe : Obj) (cls : Value) (d : Option Addr) (pn : List (Addr × Obj)), Zc cls d oe → (∃ vs, oe.data = .fields vs) → JSs (X.suite a ((a, oe) :: pn)) none WF (b₀ :: suite) ms) :
    JS X none W (.Try body [.ExceptHandler (some (.Name nm np)) none (b₀ :: suite) p1] [] [] pos) (sTryO ex n ms) :=
  ⟨_, ps_try_only (tb := fun W' => tOf ⟨X.K, none⟩ W' n) (ts := tsO X.K ms) hst hf hc tk (fun W' pn xe t1 p1 => (hb W' pn xe t1 p1).can) (fun a oe cls d pn hz hv => (hsu a oe cls d pn hz hv).can), st_tryO hex⟩
theorem je_xf {a : Addr} {C : Str} {oe : Obj} {cls : Value} {d : Option Addr} {pn : List (Addr × Obj)} {ex : Exn} {f : Str} (T : XfC X.K (cA X.K C)) (hno : PySem.W.findIn X.K (.ref (cA X.K C)) f = some none) (hz : Zc cls d oe) (hv : ∃ vs, oe.data = .fields vs)
    (hN : X.N[i]? = some x := by rfl) (hvi : Vis X.env.scope x := by first | exact .inl rfl | exact .inr (.inl rfl) | exact .inr (.inr rfl)) (hd : (x == ("__debug__" : Str)) = false := by decide) (hcd : (x == ("__classdict__" : Str)) = false := by decide)
    (hb : attributeBase (.Name x p) f X.env (eval (.Name x p) X.env) = eval (.Name x p) X.env := by rfl) :
    JE (X.suite a ((a, oe) :: pn)) (some ⟨a, cls, d, ex⟩) W (.Attribute (.Name x p) f pos) (eXf ex C f i) :=
  ⟨_, pe_xf T hno hz hv (pe_var hN hvi hd hcd) hb, ev_xf⟩
end
end
/-! ### defs -/
theorem fn_ok0 {P : Program} {w : World} {K : PySem.W.Frag} {mg : Str → Option Value} {base : Heap} {x qual : Str} {st : Stmt} {f : Addr} {fd : FuncData} {N ps : List Str} {k : Nat} {body : SM} {sp : Sp} (F : Fun K x qual st f fd) (S : FnScope N ps (defScope st))
    (hsp : ∀ vs H Q E, sp vs H Q E → spF K ps.length (runFn N.length body) vs H Q (fun _ _ _ => False))
    (hb : ∀ (cdv : Value) (A : Around) (outer : List PySem.Env) (s : Shared) (H : Hp) (E : XK), Room k (A.deeper (envOfC qual (defScope st) s.heap.objs.size f cdv)) →
      JSs (cxOf CX0 P w K mg base N qual (defScope st) f cdv A outer s H E).nox none WF (defBody st) body) :
    FnOk P w K mg base CX0 (k + 1) f fd ps sp := by
  refine F.ok S (fun vs H Q E h => (hsp vs H Q E h).1) (fun cdv A outer s H vs Q E hr h => ?_)
  obtain ⟨hl, G, as, Aok, hp⟩ := hsp vs H Q E h
  obtain ⟨t, h1, h2⟩ := hb cdv A outer s H E hr
  refine ⟨t, h1, ?_⟩
  have len : as.length = vs.length := by
    have := Aok.1.len
    simpa using this.symm
  have est : L2.start N vs = vs.map some ++ List.replicate (N.length - as.length) none := by
    unfold L2.start
    rw [len]
  rw [est]
  refine h2 _ G H (as.map some ++ List.replicate (N.length - as.length) none) (Rel.enter Aok) _ ?_
  unfold runFn at hp
  cases e : body (as.map some ++ List.replicate (N.length - as.length) none) with
  | bad => rw [e] at hp; exact hp
  | ex x ρ' =>
    rw [e] at hp
    intro c d σ' G' H' S' R' q
    obtain ⟨a, b⟩ := Rel.leave Aok S' R'
    exact hp c d G' H' a b q
  | ok fl ρ' =>
    rw [e] at hp
    cases fl with
    | nx =>
      intro σ' G' H' S' R'
      obtain ⟨a, b⟩ := Rel.leave Aok S' R'
      exact hp _ G' H' a b .non
    | bk => exact hp.elim
    | ct => exact hp.elim
    | rt l =>
      intro σ' v G' H' S' R' q
      obtain ⟨a, b⟩ := Rel.leave Aok S' R'
      refine hp v G' H' a b ?_
      cases l with
      | d x => exact q
      | r x => exact q.elim
      | xh => exact q.elim
      | m x =>
        refine ⟨q.1, fun b eb => ?_⟩
        rcases q.2 b eb with h | ⟨i, l, e1, o, _⟩
        · exact h
        · have := Aok.2 l (List.mem_of_getElem? (pad_get e1))
          rw [o] at this
          cases this
end DL
set_option Elab.async false
set_option linter.all false
set_option maxRecDepth 100000
set_option maxHeartbeats 4000000
/-! a law's promise; facts of the top -/
namespace DL
open PySem PySem.Spec PyProof.Rows L2
def spInts (K : PySem.W.Frag) (n : Nat) : Sp := fun vs H Q _ => ∃ (a : Addr) (ns : List Int), vs = [.ref a] ∧ SqL K H a (ns.map V.int) ∧ ns.length ≤ n ∧ ∀ H', Q (.bl true) H'
theorem law_sp {K : PySem.W.Frag} {n : Nat} {R : List L → FRes} (h : ∀ ns : List Int, ns.length ≤ n → ∃ bs, R [.d (.ro (ns.map .int))] = .ok (.d (.bl true)) bs) (vs : List V) (H : Hp) (Q : VK) (E : XK) (hs : spInts K n vs H Q E) : spF K 1 R vs H Q (fun _ _ _ => False) := by
  obtain ⟨a, ns, rfl, hS, hl, q⟩ := hs
  obtain ⟨bs, e⟩ := h ns hl
  refine ⟨rfl, H, [.d (.ro (ns.map .int))], ⟨⟨Same.refl _, rfl, fun i l hi => ?_, (fun y hy => nomatch hy), fun i j l l' b hij e1 e2 o1 => ?_⟩, fun l hm => ?_⟩, ?_⟩
  · cases i with
    | zero =>
      cases hi
      exact ⟨_, rfl, .ro hS (DqA.of_ints ns)⟩
    | succ i => simp at hi
  · cases i with
    | zero => cases e1; cases o1
    | succ i => simp at e1
  · rcases List.mem_cons.mp hm with rfl | hm
    · rfl
    · exact absurd hm List.not_mem_nil
  · rw [e]
    intro v G' H' _ _ r
    have r : Dq K G' v (.bl true) := r
    cases r
    exact q H'
theorem walk_dl {l : PySem.W.OpenLaw} {n k : Nat} {q : Program} {loose : List Str} {XP : (Str → Option Value) → Heap → Prop} {YP : World → Heap → Prop} {d : DefRec} {K : Params → PySem.W.Frag} {x : Str}
    (hn : l.most = some n) (hn2 : n ≤ sizeLine) (hdf : d.params.defaults = []) (hr : Room k callerA)
    (hY : ∀ (w : World) (h : Heap), YP w h → (K w.params).In h)
    (F : ∀ (w : World) (mg : Str → Option Value) (fa : Addr) (h : Heap), (K w.params).In h → h.Ns mainGlobals mg → mg d.name = some (.ref fa) →
      ∃ fd : FuncData, (∀ (s : Shared) (u : Value), BindsTo s fd ⟨[u], []⟩ [(x, u)]) ∧
        ∀ base : Heap, (K w.params).In base → base.Ns mainGlobals mg → FnOk l.prog w (K w.params) mg base CX0 k fa fd [x] (spInts (K w.params) n)) :
    PySem.W.WalkO q loose XP YP l.row.toRowW d [] (fun f vs => PySem.call f vs) :=
  L2.walk_of (n := n) (k := k) (x := x) (CX := fun _ => CX0) (sp := fun w => spInts (K w.params) n) hn hn2 hdf hr hY F (fun _ _ a ns hl _ hS => ⟨a, ns, rfl, hS, hl, fun _ => rfl⟩) fun _ _ _ _ _ z => z
/-! ### facts of the top, from what is written -/
theorem mg_fun {K : PySem.W.Frag} {h : Heap} {mg : Str → Option Value} {x : Str} {v : Value} (X : K.In h) (G : h.Ns mainGlobals mg) (e : PySem.W.nsIn K mainGlobals x = some (some v)) : mg x = some v := PySem.W.mg_of X G e
theorem exm_of {K : PySem.W.Frag} {S : Addr} (h1 : PySem.W.subIn K (.ref S) (.type "BaseException") = some true) (h2 : PySem.W.isClsIn K S = true) (h3 : PySem.W.typeIn K (.ref S) = some (.type "type")) (h4 : PySem.W.subIn K (.ref S) (.ref S) = some true) :
    PySem.W.exmOne K (.ref S) (.ref S) = some true := by
  have e1 : (PySem.W.subIn K (.ref S) (.type "BaseException") == some true) = true := by rw [h1] <;> rfl
  have e2 : ((PySem.W.clsIn K S).isSome && PySem.W.typeIn K (.ref S) == some (.type "type")) = true := by
    have h2' : (PySem.W.clsIn K S).isSome = true := h2
    rw [h2', h3] <;> rfl
  show (if (PySem.W.subIn K (.ref S) (.type "BaseException") == some true) = true then (if ((PySem.W.clsIn K S).isSome && PySem.W.typeIn K (.ref S) == some (.type "type")) = true then PySem.W.subIn K (.ref S) (.ref S) else none) else none) = some true
  rw [if_pos e1, if_pos e2]
  exact h4
theorem exOne_ok {K : PySem.W.Frag} {S : Str} (h : PySem.W.exmOne K (.ref (cA K S)) (.ref (cA K S)) = some true) (cls : Str) (b : Bool) (e : exOne S cls = some b) : PySem.W.exmOne K (.ref (cA K cls)) (.ref (cA K S)) = some b := by
  unfold exOne at e
  split at e
  · rename_i q
    subst q
    cases e
    exact h
  · cases e
theorem err_mk {P : Program} {K : PySem.W.Frag} {h : Heap} {mg : Str → Option Value} {nm f : Str} {C fI cc cda : Addr} {ps : Arguments} {bd : List Stmt} {sc : Scope} (X : K.In h) (G : h.Ns mainGlobals mg)
    {cnm q : Str} {N : Addr} {bs bm : List Value} {sn : List Str} {sub : List Value} {ab : Bool} {col : Option Bool} {dd : Option Addr} {m0 m1 m2 m3 m5 : Option Value} {oc kV dc pm ct ccl cl : Value} {od an cdd cld : Option Addr} {sl ccs csl : Array (Option Value)} {qual file : Str} {vs : Array Value} {tf : Tok}
    (aC : PySem.W.nsIn K mainGlobals nm = some (some (.ref C)))
    (xC : K.lookup C = some (excClassObj cnm q C N bs bm true sn sub ab col dd m0 m1 m2 m3 m5 "ValueError.__new__")) (bm_ : PySem.HandSPX.refsVE bm = true)
    (sa : PySem.W.findIn K (.ref C) "__setattr__" = some (some (.builtin "object.__setattr__"))) (nf : PySem.W.findIn K (.ref C) f = some none) (kC : PySem.W.keepIn K (.ref C) = true)
    (eC : PySem.W.subIn K (.ref C) (.type "BaseException") = some true) (vC : PySem.W.subIn K (.ref C) (.type "ValueError") = some true) (tC : PySem.W.typeIn K (.ref C) = some (.type "type")) (mC : PySem.W.mroIn K C (.ref C) = some true)
    (al : PySem.W.ks_superIn K C C "__init__" = some (some (.builtin "ValueError.__init__"))) (op : PySem.W.nsIn K cStatics "thirdparty.any" = some none) (su : PySem.W.nsIn K mainGlobals "super" = some none) (tp : (P.main.scope.names.lookup ("super" : Str)).isSome = false)
    (aI : PySem.W.findIn K (.ref C) "__init__" = some (some (.ref fI))) (tI : PySem.W.typeIn K (.ref fI) = some (.type "function"))
    (lI : K.lookup fI = some ⟨oc, od, .func (PySem.W.ksFn "__init__" qual ps bd sc .none kV dc pm an (.ref cda) ct cc), sl⟩) (cI : PySem.W.codeIn K (.ref cda) qual = true)
    (bI : ∀ (s : Shared) (x v : Value), BindsTo s (PySem.W.ksFn "__init__" qual ps bd sc .none kV dc pm an (.ref cda) ct cc) ⟨[x, v], []⟩ [("self", x), (f, v)])
    (lc : K.lookup cda = some ⟨ccl, cdd, .fields vs, ccs⟩) (hv : vs[2]? = some (.str file tf)) (hf : ((P.main.file : Str) == file) = true) (ll : K.lookup cc = some ⟨cl, cld, .cell (some (.ref C)), csl⟩)
    (hb : ∃ msg p0 p1 p2 p3 p4 p5 q1 q2 q3 q4, (p2.endLine == p4.line) = true ∧ bd = PySem.ErrX.body f msg p0 p1 p2 p3 p4 p5 q1 q2 q3 q4) (hp : ∃ ar, (ps.posonlyargs ++ ps.args).head? = some ar ∧ ar.arg = "self") (hs : sc = PySem.ErrX.scOf f)
    (hkS : (PySem.ErrX.scOf f).names.lookup ("self" : Str) = some .local) (hkF : (PySem.ErrX.scOf f).names.lookup f = some .local) (hkC : (PySem.ErrX.scOf f).names.lookup ("__class__" : Str) = some .free) (hkU : (PySem.ErrX.scOf f).names.lookup ("super" : Str) = some .globalImplicit)
    (hn : ("self" : Str) ≠ f) (hd : (f == ("__debug__" : Str)) = false) : PySem.ErrX.ErrTxt P K mg nm f C :=
  ⟨mg_fun X G aC, ⟨cnm, q, N, bs, bm, sn, sub, ab, col, dd, m0, m1, m2, m3, m5, xC, bm_⟩, sa, nf, kC, eC, vC, tC, mC, al, op, su, tp, fI, cc, cda, ps, bd, sc, aI, tI,
    ⟨⟨oc, od, sl, qual, kV, dc, pm, an, ct, lI, cI, bI⟩, ⟨ccl, cdd, vs, ccs, file, tf, lc, hv, hf⟩, ⟨cl, cld, csl, ll⟩, hb, hp, by rw [hs]; exact hkS, by rw [hs]; exact hkF, by rw [hs]; exact hkC, by rw [hs]; exact hkU, by
      rw [hs]
      intro x hx
      have hx : x ∈ [(PySem.Str.ofString "self", NameKind.local), (f, .local), (PySem.Str.ofString "__class__", .free), (PySem.Str.ofString "super", .globalImplicit)] := hx
      simp only [List.mem_cons, List.not_mem_nil, or_false] at hx
      rcases hx with rfl | rfl | rfl | rfl <;> exact (fun z => nomatch z), hs, hn, hd⟩⟩
end DL
namespace DL
open PySem PySem.Spec PyProof.Rows L2
abbrev kitNames : List String := ["NoneType", "bool", "int", "str", "list", "tuple", "dict"]
theorem kit_int {K : PySem.W.Frag} : ∀ t ∈ kitNames, PySem.W.kitOne K (.type t) (.type "int") = some (isiB t "int") := fun t ht => kit_ty ((by decide +kernel : ∀ t ∈ kitNames, kitB t "int" = some (isiB t "int")) t ht)
theorem kit_bool {K : PySem.W.Frag} : ∀ t ∈ kitNames, PySem.W.kitOne K (.type t) (.type "bool") = some (isiB t "bool") := fun t ht => kit_ty ((by decide +kernel : ∀ t ∈ kitNames, kitB t "bool" = some (isiB t "bool")) t ht)
theorem kit_str {K : PySem.W.Frag} : ∀ t ∈ kitNames, PySem.W.kitOne K (.type t) (.type "str") = some (isiB t "str") := fun t ht => kit_ty ((by decide +kernel : ∀ t ∈ kitNames, kitB t "str" = some (isiB t "str")) t ht)
theorem kit_list {K : PySem.W.Frag} : ∀ t ∈ kitNames, PySem.W.kitOne K (.type t) (.type "list") = some (isiB t "list") := fun t ht => kit_ty ((by decide +kernel : ∀ t ∈ kitNames, kitB t "list" = some (isiB t "list")) t ht)
theorem kit_tuple {K : PySem.W.Frag} : ∀ t ∈ kitNames, PySem.W.kitOne K (.type t) (.type "tuple") = some (isiB t "tuple") := fun t ht => kit_ty ((by decide +kernel : ∀ t ∈ kitNames, kitB t "tuple" = some (isiB t "tuple")) t ht)
theorem kit_dict {K : PySem.W.Frag} : ∀ t ∈ kitNames, PySem.W.kitOne K (.type t) (.type "dict") = some (isiB t "dict") := fun t ht => kit_ty ((by decide +kernel : ∀ t ∈ kitNames, kitB t "dict" = some (isiB t "dict")) t ht)
theorem bt_len : bootBuiltins "len" = some (.builtin "len") := by first | boot_by_name | rfl | kernel_rfl
theorem bt_abs : bootBuiltins "abs" = some (.builtin "abs") := by first | boot_by_name | rfl | kernel_rfl
theorem bt_max : bootBuiltins "max" = some (.builtin "max") := by first | boot_by_name | rfl | kernel_rfl
theorem bt_min : bootBuiltins "min" = some (.builtin "min") := by first | boot_by_name | rfl | kernel_rfl
theorem bt_sum : bootBuiltins "sum" = some (.builtin "sum") := by first | boot_by_name | rfl | kernel_rfl
theorem bt_int : bootBuiltins "int" = some (.type "int") := by first | boot_by_name | rfl | kernel_rfl
theorem bt_bool : bootBuiltins "bool" = some (.type "bool") := by first | boot_by_name | rfl | kernel_rfl
theorem bt_str : bootBuiltins "str" = some (.type "str") := by first | boot_by_name | rfl | kernel_rfl
theorem bt_list : bootBuiltins "list" = some (.type "list") := by first | boot_by_name | rfl | kernel_rfl
theorem bt_tuple : bootBuiltins "tuple" = some (.type "tuple") := by first | boot_by_name | rfl | kernel_rfl
theorem bt_dict : bootBuiltins "dict" = some (.type "dict") := by first | boot_by_name | rfl | kernel_rfl
end DL
set_option Elab.async false
set_option linter.all false
set_option maxRecDepth 100000
set_option maxHeartbeats 4000000
/-! slots forgotten -/
namespace DL
open PySem PySem.Spec PyProof.Rows L2
def noR (ρ : Env) (j : Nat) : Bool := match ρ[j]? with
  | some (some (.r _)) => false
  | _ => true
def wipeOk (ρ : Env) : List Nat → Bool
  | [] => true
  | j :: js => noR ρ j && wipeOk ρ js
def fgE (js : List Nat) : Res Fl → Res Fl
  | .ok (.rt l) ρ => .ok (.rt l) ρ
  | .ok f ρ => if wipeOk ρ js = true then .ok f (wipeE ρ js) else .bad
  | r => r
/-- m; then the slots js are forgotten -/
def sFg (js : List Nat) (m : SM) : SM := fun ρ => fgE js (m ρ)
theorem noR_ok {ρ : Env} {j : Nat} (h : noR ρ j = true) (x : D) : ρ[j]? ≠ some (some (.r x)) := fun e => by
  unfold noR at h
  rw [e] at h
  cases h
theorem wipe_ok {K : Kx} {σ : L2.St} {G H : Hp} {ρ : Env} (R : Rel K σ G H ρ) : ∀ {js : List Nat}, wipeOk ρ js = true → Stp σ ρ G H σ (wipeE ρ js) G H ∧ Rel K σ G H (wipeE ρ js)
  | [], _ => ⟨Stp.refl _ _ _ _, R⟩
  | j :: js, h => by
    unfold wipeOk at h
    obtain ⟨h1, h2⟩ := Bool.and_eq_true_iff.mp h
    obtain ⟨S1, R1⟩ := wipe_ok R h2
    obtain ⟨S2, R2⟩ := forget_ok (i := j) R1 fun x e => noR_ok h1 x (wipeE_some e).1
    exact ⟨S1.trans S2, R2⟩
theorem st_fg {K : Kx} {W : WX} {js : List Nat} {t : TS} {m : SM} (ht : StOk K W t m) : StOk K W t (sFg js m) := fun σ G H ρ R D h => by
  refine ht σ G H ρ R D ?_
  unfold sFg at h
  cases e : m ρ with
  | bad => rw [e] at h; exact h
  | ex x ρ1 => rw [e] at h; exact h
  | ok f ρ1 =>
    rw [e] at h
    cases f with
    | rt l => exact h
    | nx =>
      unfold fgE at h
      simp only at h
      split at h
      · rename_i hw
        intro σ' G' H' S' R'
        obtain ⟨S2, R2⟩ := wipe_ok R' hw
        exact h σ' G' H' (S'.trans S2) R2
      · exact h.elim
    | bk =>
      unfold fgE at h
      simp only at h
      split at h
      · rename_i hw
        intro σ' G' H' S' R'
        obtain ⟨S2, R2⟩ := wipe_ok R' hw
        exact h σ' G' H' (S'.trans S2) R2
      · exact h.elim
    | ct =>
      unfold fgE at h
      simp only at h
      split at h
      · rename_i hw
        intro σ' G' H' S' R'
        obtain ⟨S2, R2⟩ := wipe_ok R' hw
        exact h σ' G' H' (S'.trans S2) R2
      · exact h.elim
theorem jss_fg {X : Cx} {xa : Option XA} {W : WX} {js : List Nat} {b : List Stmt} {m : SM} (h : JSs X xa W b m) : JSs X xa W b (sFg js m) := let ⟨t, h1, h2⟩ := h; ⟨t, h1, st_fg h2⟩
theorem js_fg {X : Cx} {xa : Option XA} {W : WX} {js : List Nat} {b : Stmt} {m : SM} (h : JS X xa W b m) : JS X xa W b (sFg js m) := let ⟨t, h1, h2⟩ := h; ⟨t, h1, st_fg h2⟩
end DL
set_option Elab.async false
set_option linter.all false
set_option maxRecDepth 100000
set_option maxHeartbeats 4000000
/-! the head: the top run in the kernel, its facts by one Bool -/
namespace DL
open PySem PySem.Spec PyProof.Rows L2
/-! ### a part of the heap: what the module's names reach, the statics -/
def asC (g : Addr → Option Obj) : Nat → List Addr
  | 0 => [mainGlobals, cStatics]
  | n + 1 => He.growD g (asC g n)
/-! ### defs with a closure of the class -/
abbrev FnC : Type := Option (Str × Str × Arguments × FuncBody × Scope × Addr × List Str × Addr)
def fnC (K : PySem.W.Frag) (p : Str × Option Str) : FnC := match K.lookup (He.fAd K p) with
  | some ⟨_, _, .func fd, _⟩ => some (fd.name, fd.qualname, fd.params, fd.body, fd.scope, fd.globals, fd.closure.map (·.1), fd.builtins)
  | _ => none
structure FO where
  at_ : Str × Option Str
  name : Str
  qual : Str
  params : Arguments
  body : List Stmt
  scope : Scope
def FO.val (d : FO) : FnC := some (d.name, d.qual, d.params, .stmts d.body, d.scope, mainGlobals, ["__class__"], builtinsNs)
/-! ### the Hook -/
abbrev AlC : Type := Bool × List He.FnW × List FnC
def obsC (fn : List He.DefD) (ms : List FO) (ck : PySem.W.Frag → Bool) (K : PySem.W.Frag) : AlC := (ck K && fn.all fun d => d.ok K, fn.map fun d => He.fnW K d.at_, ms.map fun d => fnC K d.at_)
def valC (fn : List He.DefD) (ms : List FO) : AlC := (true, fn.map He.DefD.val, ms.map FO.val)
def SaysC (fn : List He.DefD) (ms : List FO) (ck : PySem.W.Frag → Bool) (K : PySem.W.Frag) : Prop := obsC fn ms ck K = valC fn ms
def obsCG (n : Nat) (fn : List He.DefD) (ms : List FO) (ck : PySem.W.Frag → Bool) (g : Addr → Option Obj) : AlC := obsC fn ms ck (He.frG g (asC g n))
def hookC (n : Nat) (fn : List He.DefD) (ms : List FO) (ck : PySem.W.Frag → Bool) : PySem.W.Hook where
  α := AlC
  obs := fun s => obsCG n fn ms ck s.heap.get?
  val := fun _ => valC fn ms
  says := fun _ h => ∃ K : PySem.W.Frag, K.In h ∧ SaysC fn ms ck K
  of := fun _ _ e => ⟨_, He.frG_in, e⟩
  keeps := fun _ _ _ ⟨K, hK, c⟩ k => ⟨K, PySem.W.Frag.In.keeps hK k, c⟩
theorem obsCG_eq {n : Nat} {fn : List He.DefD} {ms : List FO} {ck : PySem.W.Frag → Bool} {g : Addr → Option Obj} {s : Shared} (h : ∀ a, g a = s.heap.get? a) : obsCG n fn ms ck g = (hookC n fn ms ck).obs s := by
  have e : g = s.heap.get? := funext h
  rw [e] <;> rfl
section
variable {fn : List He.DefD} {ms : List FO} {ck : PySem.W.Frag → Bool} {K : PySem.W.Frag}
theorem SaysC.chk (c : SaysC fn ms ck K) : ck K = true := (He.ba (show (ck K && fn.all fun d => d.ok K) = true from congrArg (fun z : AlC => z.1) c)).1
theorem SaysC.def_ (c : SaysC fn ms ck K) (i : Nat) {d : He.DefD} (h : fn[i]? = some d := by rfl) : ∃ fd, FunD K d.name d.qual d.params d.body d.scope (d.dvs K) (d.kws K) (He.fAd K d.at_) fd := by
  have c2 := (He.ba (show (ck K && fn.all fun d => d.ok K) = true from congrArg (fun z : AlC => z.1) c)).2
  have e : fn.map (fun d => He.fnW K d.at_) = fn.map He.DefD.val := congrArg (fun z : AlC => z.2.1) c
  have e2 : (fn.map fun d => He.fnW K d.at_)[i]? = (fn.map He.DefD.val)[i]? := by rw [e]
  rw [List.getElem?_map, List.getElem?_map, h] at e2
  exact He.DefD.funD (Option.some.inj e2) (List.all_eq_true.mp c2 d (List.mem_of_getElem? h))
theorem SaysC.meth_ (c : SaysC fn ms ck K) (i : Nat) {d : FO} (h : ms[i]? = some d := by rfl) : fnC K d.at_ = d.val := by
  have e : ms.map (fun d => fnC K d.at_) = ms.map FO.val := congrArg (fun z : AlC => z.2.2) c
  have e2 : (ms.map fun d => fnC K d.at_)[i]? = (ms.map FO.val)[i]? := by rw [e]
  rw [List.getElem?_map, List.getElem?_map, h] at e2
  exact Option.some.inj e2
end
/-! ### an own error class -/
def errClsB (K : PySem.W.Frag) (C : Addr) : Bool := match K.lookup C with
  | some ⟨.type "type", _, .cls cd, sl⟩ => (match cd.mro, sl.toList with
    | .ref C' :: bm, [_, _, _, _, some (.builtin n), _] => C' == C && (n == "ValueError.__new__" && (!cd.hasDel && (cd.hasDict && PySem.HandSPX.refsVE bm)))
    | _, _ => false)
  | _ => false
theorem errClsB_ok {K : PySem.W.Frag} {C : Addr} (q : errClsB K C = true) : ∃ nm q N bs bm sn sub ab col dd k0 k1 k2 k3 k5, K.lookup C = some (excClassObj nm q C N bs bm true sn sub ab col dd k0 k1 k2 k3 k5 "ValueError.__new__") ∧ PySem.HandSPX.refsVE bm = true := by
  unfold errClsB at q
  split at q
  · rename_i dd cd sl ho
    split at q
    · rename_i C' bm k0 k1 k2 k3 n k5 hm hs
      simp only [Bool.and_eq_true, beq_iff_eq, Bool.not_eq_true'] at q
      obtain ⟨rfl, rfl, hdel, hd, ht⟩ := q
      obtain ⟨nm, bs, mro, ns, qn, hdc, sn, sub, ab, col, del⟩ := cd
      dsimp only at hm hdel hd
      subst hm hdel hd
      have hsl : sl = #[k0, k1, k2, k3, some (.builtin "ValueError.__new__"), k5] := by
        obtain ⟨l⟩ := sl
        simp only at hs
        rw [hs]
      subst hsl
      exact ⟨nm, qn, ns, bs, bm, sn, sub, ab, col, dd, k0, k1, k2, k3, k5, ho, ht⟩
    · cases q
  · cases q
/-- the __init__ of a class, as an object: its code's file, its class cell -/
def iniB (K : PySem.W.Frag) (file : Str) (C fI : Addr) (qual : Str) : Bool := match K.lookup fI with
  | some ⟨_, _, .func fd, _⟩ => (match fd.closure, fd.code, fd.defaults with
    | [(_, cc)], .ref cda, .none => PySem.W.codeIn K (.ref cda) qual && ((match K.lookup cda with
      | some ⟨_, _, .fields vs, _⟩ => (match (vs[2]? : Option Value) with
        | some (.str fl _) => file == fl
        | _ => false)
      | _ => false) && (match K.lookup cc with
      | some ⟨_, _, .cell (some (.ref C')), _⟩ => C' == C
      | _ => false))
    | _, _, _ => false)
  | _ => false
abbrev eO := He.eqO
def errB (K : PySem.W.Frag) (file nm f qual : Str) : Bool :=
  let C := cA K nm
  eO (PySem.W.nsIn K mainGlobals nm) (some (some (.ref C))) && (errClsB K C && (eO (PySem.W.findIn K (.ref C) "__setattr__") (some (some (.builtin "object.__setattr__"))) && (eO (PySem.W.findIn K (.ref C) f) (some none) &&
  (PySem.W.keepIn K (.ref C) && (decide (PySem.W.subIn K (.ref C) (.type "BaseException") = some true) && (decide (PySem.W.subIn K (.ref C) (.type "ValueError") = some true) && (decide (PySem.W.typeIn K (.ref C) = some (.type "type")) &&
  (decide (PySem.W.mroIn K C (.ref C) = some true) && (eO (PySem.W.ks_superIn K C C "__init__") (some (some (.builtin "ValueError.__init__"))) && (eO (PySem.W.nsIn K cStatics "thirdparty.any") (some none) && (eO (PySem.W.nsIn K mainGlobals "super") (some none) &&
  (eO (PySem.W.findIn K (.ref C) "__init__") (some (some (.ref (He.ma K C "__init__")))) && (decide (PySem.W.typeIn K (.ref (He.ma K C "__init__")) = some (.type "function")) && (iniB K file C (He.ma K C "__init__") qual &&
  (decide (PySem.W.exmOne K (.ref C) (.ref C) = some true) && xfB K C)))))))))))))))
structure ErrF (P : Program) (K : PySem.W.Frag) (mg : Str → Option Value) (nm f : Str) : Prop where
  txt : PySem.ErrX.ErrTxt P K mg nm f (cA K nm)
  exm : PySem.W.exmOne K (.ref (cA K nm)) (.ref (cA K nm)) = some true
  xf : XfC K (cA K nm)
  noN : PySem.W.findIn K (.ref (cA K nm)) f = some none
theorem lkW {K : PySem.W.Frag} {p : Str × Option Str} {d : FO} (e : fnC K p = d.val) : ∃ oc od sl fd, K.lookup (He.fAd K p) = some ⟨oc, od, .func fd, sl⟩ ∧ fd.name = d.name ∧ fd.qualname = d.qual ∧ fd.params = d.params ∧ fd.body = .stmts d.body ∧ fd.scope = d.scope ∧ fd.globals = mainGlobals ∧ fd.closure.map (·.1) = (["__class__"] : List Str) ∧ fd.builtins = builtinsNs := by
  unfold fnC at e
  split at e
  · rename_i oc od fd sl lk
    have e2 : (some (fd.name, fd.qualname, fd.params, fd.body, fd.scope, fd.globals, fd.closure.map (·.1), fd.builtins) : FnC) = some (d.name, d.qual, d.params, FuncBody.stmts d.body, d.scope, mainGlobals, (["__class__"] : List Str), builtinsNs) := e
    simp only [Option.some.injEq, Prod.mk.injEq] at e2
    obtain ⟨h1, h2, h3, h4, h5, h6, h7, h8⟩ := e2
    exact ⟨oc, od, sl, fd, lk, h1, h2, h3, h4, h5, h6, h7, h8⟩
  · cases e
theorem err_ok {P : Program} {K : PySem.W.Frag} {h : Heap} {mg : Str → Option Value} {nm f : Str} {d : FO} (X : K.In h) (G : h.Ns mainGlobals mg) (q : errB K P.main.file nm f d.qual = true) (e : fnC K d.at_ = d.val) (hat : d.at_ = (nm, some ("__init__" : Str))) (hn : d.name = "__init__") (hsc : d.scope = PySem.ErrX.scOf f)
    (hbind : ∀ (kV dc pm : Value) (an : Option Addr) (cd ct : Value) (cc : Addr) (s : Shared) (x v : Value), BindsTo s (PySem.W.ksFn "__init__" d.qual d.params d.body (PySem.ErrX.scOf f) .none kV dc pm an cd ct cc) ⟨[x, v], []⟩ [("self", x), (f, v)])
    (hb : ∃ msg p0 p1 p2 p3 p4 p5 q1 q2 q3 q4, (Pos.endLine p2 == Pos.line p4) = true ∧ d.body = PySem.ErrX.body f msg p0 p1 p2 p3 p4 p5 q1 q2 q3 q4) (hp : ∃ ar, (d.params.posonlyargs ++ d.params.args).head? = some ar ∧ ar.arg = "self")
    (tp : (P.main.scope.names.lookup ("super" : Str)).isSome = false)
    (hkS : (PySem.ErrX.scOf f).names.lookup ("self" : Str) = some .local) (hkF : (PySem.ErrX.scOf f).names.lookup f = some .local) (hkC : (PySem.ErrX.scOf f).names.lookup ("__class__" : Str) = some .free) (hkU : (PySem.ErrX.scOf f).names.lookup ("super" : Str) = some .globalImplicit)
    (hne : ("self" : Str) ≠ f) (hd : (f == ("__debug__" : Str)) = false) : ErrF P K mg nm f := by
  unfold errB at q
  simp only [Bool.and_eq_true] at q
  obtain ⟨q1, q2, q3, q4, q5, q6, q7, q8, q9, q10, q11, q12, q13, q14, q15, q16, q17⟩ := q
  obtain ⟨oc, od, sl, fd, lk, h1, h2, h3, h4, h5, h6, h7, h8⟩ := lkW e
  rw [hat] at lk
  have lk : K.lookup (He.ma K (cA K nm) "__init__") = some ⟨oc, od, .func fd, sl⟩ := lk
  have xt : XfC K (cA K nm) := xfB_ok q17
  refine ⟨⟨PySem.W.mg_of X G (He.eqO_ok q1), errClsB_ok q2, He.eqO_ok q3, He.eqO_ok q4, q5, of_decide_eq_true q6, of_decide_eq_true q7, of_decide_eq_true q8, of_decide_eq_true q9, He.eqO_ok q10, He.eqO_ok q11, He.eqO_ok q12, tp, ?_⟩, of_decide_eq_true q16, xt, He.eqO_ok q4⟩
  unfold iniB at q15
  rw [lk] at q15
  simp only at q15
  obtain ⟨n1, n2, n3, n4, n5, n6, n7, n8, n9, n10, n11, n12, n13, n14, n15⟩ := fd
  simp only at h1 h2 h3 h4 h5 h6 h7 h8 q15
  split at q15
  · rename_i cn cc cda lk
    subst h1 h2 h3 h4 h5 h6 h8
    simp only [List.map_cons, List.map_nil, List.cons.injEq, and_true] at h7
    subst h7
    simp only [Bool.and_eq_true] at q15
    obtain ⟨r1, r2, r3⟩ := q15
    split at r2
    · rename_i ccl cdd vs ccs hcda
      split at r2
      · rename_i fl tf hvs
        split at r3
        · rename_i cl cld C' csl hcc
          have r3 : C' = cA K nm := eq_of_beq r3
          subst r3
          refine ⟨He.ma K (cA K nm) "__init__", cc, cda, d.params, d.body, d.scope, He.eqO_ok q13, of_decide_eq_true q14, ⟨oc, od, sl, d.qual, n9, n10, n11, n12, n14, ?_, r1, ?_⟩, ⟨ccl, cdd, vs, ccs, fl, tf, hcda, hvs, r2⟩, ⟨cl, cld, csl, hcc⟩, hb, hp, ?_, ?_, ?_, ?_, ?_, hsc, hne, hd⟩
          · rw [lk, hn]
            try rfl
          · rw [hsc]
            exact hbind _ _ _ _ _ _ _
          · rw [hsc]; exact hkS
          · rw [hsc]; exact hkF
          · rw [hsc]; exact hkC
          · rw [hsc]; exact hkU
          · rw [hsc]
            intro x hx
            have hx : x ∈ [(PySem.Str.ofString "self", NameKind.local), (f, .local), (PySem.Str.ofString "__class__", .free), (PySem.Str.ofString "super", .globalImplicit)] := hx
            simp only [List.mem_cons, List.not_mem_nil, or_false] at hx
            rcases hx with rfl | rfl | rfl | rfl <;> exact (fun z => nomatch z)
        · cases r3
      · cases r2
    · cases r2
  · cases q15
end DL
set_option Elab.async false
set_option linter.all false
set_option maxRecDepth 100000
set_option maxHeartbeats 4000000
/-! defs by name -/
namespace DL
open PySem PySem.Spec PyProof.Rows L2
theorem funD_fun {K : PySem.W.Frag} {x qual : Str} {st : Stmt} {kws : List (Str × V)} {f : Addr} {fd : FuncData} (F : FunD K x qual (defArgs st) (defBody st) (defScope st) [] kws f fd) : Fun K x qual st f fd := by
  obtain ⟨oc, od, dV, kV, doc, pm, an, cdv, ct, osl, e, lk, hc, hd, _⟩ := F.ex
  rcases hd with ⟨_, rfl⟩ | ⟨h, _⟩
  · exact ⟨⟨oc, od, kV, doc, pm, an, cdv, ct, osl, e, lk, hc⟩, F.kp⟩
  · exact absurd rfl h
/-- the def x keeps its promise R -/
structure FnB (P : Program) (w : World) (K : PySem.W.Frag) (mg : Str → Option Value) (base : Heap) (k : Nat) (x : Str) (ps : List Str) (R : List L → FRes) : Prop where
  ex : ∃ fd, FnOk P w K mg base (L2.CX P w) k (cA K x) fd ps (spF K ps.length R) ∧ L2.Binds K fd ps []
  g : mg x = some (.ref (cA K x))
  kp : PySem.W.keepIn K (.ref (cA K x)) = true
abbrev FnF (K : PySem.W.Frag) (x : Str) (st : Stmt) : Prop := ∃ fd, FunD K x x (defArgs st) (defBody st) (defScope st) [] [] (cA K x) fd
section
variable {P : Program} {w : World} {K : PySem.W.Frag} {mg : Str → Option Value} {base : Heap}
theorem fnB_mk {x : Str} {st : Stmt} {N ps : List Str} {k : Nat} {body : SM} (F : FnF K x st) (g : mg x = some (.ref (cA K x))) (S : FnScope N ps (defScope st))
    (hbind : ∀ (kV doc pm : Value) (an : Option Addr) (cdv ct : Value) (us : List Value), us.length = ps.length → bindArgs (PySem.W.fnOf x x (defArgs st) (defBody st) (defScope st) .none kV doc pm an cdv ct) ⟨us, []⟩ = pure (ps.zip us))
    (hb : ∀ (cdv : Value) (A : Around) (outer : List PySem.Env) (s : Shared) (H : Hp) (E : XK), Room k (A.deeper (envOfC x (defScope st) s.heap.objs.size (cA K x) cdv)) →
      JSs (cxOf (L2.CX P w) P w K mg base N x (defScope st) (cA K x) cdv A outer s H E) none (fun cls d _ H => E cls d H) (defBody st) body) :
    FnB P w K mg base (k + 1) x ps (runFn N.length body) := by
  obtain ⟨fd, F⟩ := F
  exact ⟨⟨fd, fn_ok (funD_fun F) S hb, (funD_fun F).binds hbind⟩, g, F.kp⟩
end
section
variable {X : Cx} {xa : Option XA} {W : WX} {e : Expr} {es : List Expr} {am : AM} {pos p : Pos} {x : Str} {k : Nat} {ps : List Str} {R : List L → FRes}
theorem je_callB (B : FnB X.prog X.w X.K X.mg X.base k x ps R) (hr : Room k X.A) (tk : Takes X W) (ha : JA X xa W (e :: es) am) (hg : Gl X x := by rfl)
    (hdb : (x == ("__debug__" : Str)) = false := by decide) (he : starEach (e :: es) X.env = (false, eval e X.env) :: starEach es X.env := by rfl) (hpl : (backTo pos (starEach es X.env)).any (·.1) = false := by rfl) : JE X xa W (.Call (.Name x p) (e :: es) [] pos) (eCall ps.length R am) := by
  obtain ⟨fd, F, hb⟩ := B.ex
  exact je_call F hr B.g B.kp hb tk ha hg hdb he hpl
theorem jf_callB (B : FnB X.prog X.w X.K X.mg X.base k x ps R) (hr : Room k X.A) (tk : Takes X W) (ha : JA X xa W (e :: es) am) (hg : Gl X x := by rfl)
    (hdb : (x == ("__debug__" : Str)) = false := by decide) (he : starEach (e :: es) X.env = (false, eval e X.env) :: starEach es X.env := by rfl) (hpl : (backTo pos (starEach es X.env)).any (·.1) = false := by rfl) : JF X xa W (.Call (.Name x p) (e :: es) [] pos) (fCall ps.length R am) := by
  obtain ⟨fd, F, hb⟩ := B.ex
  exact jf_call F hr B.g B.kp hb tk ha hg hdb he hpl
end
/-! ### the law -/
theorem lawB_mk {P : Program} {w : World} {K : PySem.W.Frag} {mg : Str → Option Value} {x sx : Str} {st : Stmt} {N : List Str} {k n : Nat} {body : SM} (F : FnF K x st) (S : FnScope N [sx] (defScope st))
    (hbind : ∀ (kV doc pm : Value) (an : Option Addr) (cdv ct : Value) (us : List Value), us.length = 1 → bindArgs (PySem.W.fnOf x x (defArgs st) (defBody st) (defScope st) .none kV doc pm an cdv ct) ⟨us, []⟩ = pure ([sx].zip us))
    (hl : ∀ ns : List Int, ns.length ≤ n → ∃ bs, runFn N.length body [.d (.ro (ns.map .int))] = .ok (.d (.bl true)) bs)
    (hb : ∀ (base : Heap) (cdv : Value) (A : Around) (outer : List PySem.Env) (s : Shared) (H : Hp) (E : XK), Room k (A.deeper (envOfC x (defScope st) s.heap.objs.size (cA K x) cdv)) →
      JSs (cxOf CX0 P w K mg base N x (defScope st) (cA K x) cdv A outer s H E).nox none WF (defBody st) body) :
    ∃ fd : FuncData, (∀ (s : Shared) (v : Value), BindsTo s fd ⟨[v], []⟩ [(sx, v)]) ∧ ∀ base : Heap, FnOk P w K mg base CX0 (k + 1) (cA K x) fd [sx] (spInts K n) := by
  obtain ⟨fd, F⟩ := F
  have F' := funD_fun F
  refine ⟨fd, fun s v => ?_, fun base => fn_ok0 F' S (law_sp hl) (hb base)⟩
  obtain ⟨oc, od, kV, doc, pm, an, cdv, ct, osl, rfl, lk, hc⟩ := F'.ex
  exact .of_eq (hbind kV doc pm an cdv ct [v] rfl)
/-! ### the end -/
theorem walk_dlE {l : PySem.W.OpenLaw} {n k : Nat} {q : Program} {loose : List Str} {XP : (Str → Option Value) → Heap → Prop} {d : DefRec} {sx : Str} {nm : Str} {fn : List He.DefD} {ms : List FO} {ck : PySem.W.Frag → Bool}
    (hn : l.most = some n) (hn2 : n ≤ sizeLine) (hdf : d.params.defaults = []) (hr : Room k callerA) (hnm : d.name = nm)
    (F : ∀ (w : World) (K : PySem.W.Frag) (mg : Str → Option Value) (h : Heap), K.In h → h.Ns mainGlobals mg → SaysC fn ms ck K →
      mg nm = some (.ref (cA K nm)) ∧ ∃ fd : FuncData, (∀ (s : Shared) (u : Value), BindsTo s fd ⟨[u], []⟩ [(sx, u)]) ∧ ∀ base : Heap, FnOk l.prog w K mg base CX0 k (cA K nm) fd [sx] (spInts K n)) :
    PySem.W.WalkO q loose XP (fun _ h => ∃ K : PySem.W.Frag, K.In h ∧ SaysC fn ms ck K) l.row.toRowW d [] (fun f vs => PySem.call f vs) := by
  refine L2.walk_ofE (n := n) (k := k) (x := sx) (CX := CX0) hn hn2 hdf hr (fun w mg fa h Y G hmg => ?_) (fun _ _ _ _ z => z)
  obtain ⟨K, KX, c⟩ := Y
  obtain ⟨hg, fd, hb, hF⟩ := F w K mg h KX G c
  rw [hnm, hg] at hmg
  have e : cA K nm = fa := by injection hmg with e; injection e
  subst e
  exact ⟨K, fd, spInts K n, KX, hb, fun H a ns hl _ hS => ⟨a, ns, rfl, hS, hl, fun _ => rfl⟩, fun base _ _ => hF base⟩
/-! ### facts by Bools -/
def freeB (K : PySem.W.Frag) (x : Str) : Bool := eO (PySem.W.nsIn K mainGlobals x) (some none)
def gloB (K : PySem.W.Frag) (x : Str) : Bool := eO (PySem.W.nsIn K mainGlobals x) (some (some (.ref (cA K x))))
def impB (K : PySem.W.Frag) (x : Str) (id : String) : Bool := eO (PySem.W.nsIn K mainGlobals x) (some (some (.builtin id)))
section
variable {K : PySem.W.Frag} {h : Heap} {mg : Str → Option Value}
theorem freeB_ok (X : K.In h) (G : h.Ns mainGlobals mg) {x : Str} (c : freeB K x = true) : mg x = none := PySem.W.mg_none_of X G (He.eqO_ok c)
theorem gloB_ok (X : K.In h) (G : h.Ns mainGlobals mg) {x : Str} (c : gloB K x = true) : mg x = some (.ref (cA K x)) := PySem.W.mg_of X G (He.eqO_ok c)
theorem impB_ok (X : K.In h) (G : h.Ns mainGlobals mg) {x : Str} {id : String} (c : impB K x id = true) : mg x = some (.builtin id) := PySem.W.mg_of X G (He.eqO_ok c)
theorem all_in {α : Type} {p : α → Bool} {xs : List α} (h : xs.all p = true) {x : α} {i : Nat} (e : xs[i]? = some x := by rfl) : p x = true := List.all_eq_true.mp h x (List.mem_of_getElem? e)
end
end DL
set_option Elab.async false
set_option linter.all false
set_option maxRecDepth 100000
set_option maxHeartbeats 4000000
/-! evaluating denotations: each combinator, applied to its slots, by an equation; no lambda is opened -/
namespace DL
open PySem L2
section
variable {α β : Type} {ρ ρ1 : Env} {e : Exn}
@[simp] theorem bindR_ok {a : α} {k : α → Env → Res β} : bindR (.ok a ρ) k = k a ρ := (rfl)
@[simp] theorem bindR_ex {k : α → Env → Res β} : bindR (.ex e ρ) k = .ex e ρ := (rfl)
/-! slots read -/
def vrE (o0 : Option (Option L)) (i : Nat) (ρ : Env) : Res X := match o0 with
  | some (some (.d x)) => .ok (.d x) ρ
  | some (some _) => .ok (.s i) ρ
  | _ => .bad
@[simp] theorem eVar_ap {i : Nat} : eVar i ρ = vrE ρ[i]? i ρ := by
  unfold eVar vrE
  split <;> simp_all
@[simp] theorem vrE_d {x : D} {i : Nat} : vrE (some (some (.d x))) i ρ = .ok (.d x) ρ := (rfl)
@[simp] theorem vrE_m {x : D} {i : Nat} : vrE (some (some (.m x))) i ρ = .ok (.s i) ρ := (rfl)
@[simp] theorem vrE_r {x : D} {i : Nat} : vrE (some (some (.r x))) i ρ = .ok (.s i) ρ := (rfl)
@[simp] theorem vrE_x {i : Nat} : vrE (some (some .xh)) i ρ = .ok (.s i) ρ := (rfl)
@[simp] theorem eC_ap {x : D} : eC x ρ = .ok (.d x) ρ := (rfl)
def lkE : Option (Option L) → Option D
  | some (some l) => l.dat
  | _ => none
@[simp] theorem look_d {x : D} : look ρ (.d x) = some x := (rfl)
@[simp] theorem look_s {i : Nat} : look ρ (.s i) = lkE ρ[i]? := by
  unfold lkE look
  rfl
@[simp] theorem lkE_d {x : D} : lkE (some (some (.d x))) = some x := (rfl)
@[simp] theorem lkE_m {x : D} : lkE (some (some (.m x))) = some x := (rfl)
@[simp] theorem lkE_r {x : D} : lkE (some (some (.r x))) = some x := (rfl)
@[simp] theorem looks_nil : looks ρ [] = some [] := (rfl)
def lksC : Option D → Option (List D) → Option (List D)
  | some a, some as => some (a :: as)
  | _, _ => none
@[simp] theorem looks_cons {x : X} {xs : List X} : looks ρ (x :: xs) = lksC (look ρ x) (looks ρ xs) := (rfl)
@[simp] theorem lksC_ok {a : D} {as : List D} : lksC (some a) (some as) = some (a :: as) := (rfl)
def fzE (o0 : Option (Option L)) (i : Nat) (ρ : Env) : Option (D × Env) := match o0 with
  | some (some (.m x)) => some (x, ρ.set i (some (.d x)))
  | some (some (.d x)) => some (x, ρ)
  | _ => none
@[simp] theorem fz_d {x : D} : fz ρ (.d x) = some (x, ρ) := (rfl)
@[simp] theorem fz_s {i : Nat} : fz ρ (.s i) = fzE ρ[i]? i ρ := by
  unfold fzE fz
  rfl
@[simp] theorem fzE_m {x : D} {i : Nat} : fzE (some (some (.m x))) i ρ = some (x, ρ.set i (some (.d x))) := (rfl)
@[simp] theorem fzE_d {x : D} {i : Nat} : fzE (some (some (.d x))) i ρ = some (x, ρ) := (rfl)
@[simp] theorem fzs_nil : fzs ρ [] = some ([], ρ) := (rfl)
def fzsD (d : D) : Option (List D × Env) → Option (List D × Env)
  | some (ds, ρ2) => some (d :: ds, ρ2)
  | none => none
def fzsC : Option (D × Env) → List X → Option (List D × Env)
  | some (d, ρ1), xs => fzsD d (fzs ρ1 xs)
  | none, _ => none
@[simp] theorem fzs_cons {x : X} {xs : List X} : fzs ρ (x :: xs) = fzsC (fz ρ x) xs := by
  unfold fzsC
  rw [fzs]
  cases fz ρ x with
  | none => rfl
  | some p =>
    obtain ⟨d, ρ1⟩ := p
    simp only
    cases fzs ρ1 xs with
    | none => rfl
    | some q => rfl
@[simp] theorem fzsC_ok {d : D} {xs : List X} : fzsC (some (d, ρ1)) xs = fzsD d (fzs ρ1 xs) := (rfl)
@[simp] theorem fzsD_ok {d : D} {ds : List D} : fzsD d (some (ds, ρ1)) = some (d :: ds, ρ1) := (rfl)
@[simp] theorem oD_some {d : D} : oD (some d) ρ = .ok (.d d) ρ := (rfl)
@[simp] theorem oF_some {d : List D} : oF (some d) ρ = .ok (.lst d) ρ := (rfl)
/-! operators -/
def op2 (g : D → D → Option D) (o0 : Option D) (o1 : Option D) (ρ : Env) : Res X := match o0, o1 with
  | some a, some b => oD (g a b) ρ
  | _, _ => .bad
def kOp2 (g : D → D → Option D) (x : X) : X → Env → Res X := fun y ρ2 => op2 g (look ρ2 x) (look ρ2 y) ρ2
def kOp1 (g : D → D → Option D) (mb : EM) : X → Env → Res X := fun x ρ1 => bindR (mb ρ1) (kOp2 g x)
@[simp] theorem eOp_ap {g : D → D → Option D} {ma mb : EM} : eOp g ma mb ρ = bindR (ma ρ) (kOp1 g mb) := (rfl)
@[simp] theorem kOp1_ap {g : D → D → Option D} {mb : EM} {x : X} : kOp1 g mb x ρ = bindR (mb ρ) (kOp2 g x) := (rfl)
@[simp] theorem kOp2_ap {g : D → D → Option D} {x y : X} : kOp2 g x y ρ = op2 g (look ρ x) (look ρ y) ρ := (rfl)
@[simp] theorem op2_ok {g : D → D → Option D} {a b : D} : op2 g (some a) (some b) ρ = oD (g a b) ρ := (rfl)
def op1 (g : D → Option D) (o0 : Option D) (ρ : Env) : Res X := match o0 with
  | some a => oD (g a) ρ
  | _ => .bad
def kUn (g : D → Option D) : X → Env → Res X := fun x ρ1 => op1 g (look ρ1 x) ρ1
@[simp] theorem eUn_ap {g : D → Option D} {ma : EM} : eUn g ma ρ = bindR (ma ρ) (kUn g) := (rfl)
@[simp] theorem kUn_ap {g : D → Option D} {x : X} : kUn g x ρ = op1 g (look ρ x) ρ := (rfl)
@[simp] theorem op1_ok {g : D → Option D} {a : D} : op1 g (some a) ρ = oD (g a) ρ := (rfl)
def opN (g : List D → Option D) (o0 : Option (List D)) (ρ : Env) : Res X := match o0 with
  | some a => oD (g a) ρ
  | _ => .bad
def kCB (g : List D → Option D) : List X → Env → Res X := fun x ρ1 => opN g (looks ρ1 x) ρ1
@[simp] theorem eCB_ap {g : List D → Option D} {ma : AM} : eCB g ma ρ = bindR (ma ρ) (kCB g) := (rfl)
@[simp] theorem kCB_ap {g : List D → Option D} {x : List X} : kCB g x ρ = opN g (looks ρ x) ρ := (rfl)
@[simp] theorem opN_ok {g : List D → Option D} {a : List D} : opN g (some a) ρ = oD (g a) ρ := (rfl)
@[simp] theorem aNil_ap : aNil ρ = .ok [] ρ := (rfl)
def kCons2 (x : X) : List X → Env → Res (List X) := fun xs ρ2 => .ok (x :: xs) ρ2
def kCons1 (mr : AM) : X → Env → Res (List X) := fun x ρ1 => bindR (mr ρ1) (kCons2 x)
@[simp] theorem aCons_ap {ma : EM} {mr : AM} : aCons ma mr ρ = bindR (ma ρ) (kCons1 mr) := (rfl)
@[simp] theorem kCons1_ap {mr : AM} {x : X} : kCons1 mr x ρ = bindR (mr ρ) (kCons2 x) := (rfl)
@[simp] theorem kCons2_ap {x : X} {xs : List X} : kCons2 x xs ρ = .ok (x :: xs) ρ := (rfl)
def tupE : Option (List D × Env) → Res X
  | some (ds, ρ2) => if ds.length ≤ mx then .ok (.d (.tup ds)) ρ2 else .bad
  | none => .bad
def kTup : List X → Env → Res X := fun xs ρ1 => tupE (fzs ρ1 xs)
@[simp] theorem eTup_ap {ma : AM} : eTup ma ρ = bindR (ma ρ) kTup := (rfl)
@[simp] theorem kTup_ap {xs : List X} : kTup xs ρ = tupE (fzs ρ xs) := (rfl)
@[simp] theorem tupE_ok {ds : List D} : tupE (some (ds, ρ)) = if ds.length ≤ mx then .ok (.d (.tup ds)) ρ else .bad := (rfl)
def lstE : Option (List D × Env) → Res D
  | some (ds, ρ2) => if ds.length ≤ mx then .ok (.lst ds) ρ2 else .bad
  | none => .bad
def kLst : List X → Env → Res D := fun xs ρ1 => lstE (fzs ρ1 xs)
@[simp] theorem fLst_ap {ma : AM} : fLst ma ρ = bindR (ma ρ) kLst := (rfl)
@[simp] theorem kLst_ap {xs : List X} : kLst xs ρ = lstE (fzs ρ xs) := (rfl)
@[simp] theorem lstE_ok {ds : List D} : lstE (some (ds, ρ)) = if ds.length ≤ mx then .ok (.lst ds) ρ else .bad := (rfl)
def op1F (g : D → Option (List D)) (o0 : Option D) (ρ : Env) : Res D := match o0 with
  | some a => oF (g a) ρ
  | _ => .bad
def kUnF (g : D → Option (List D)) : X → Env → Res D := fun x ρ1 => op1F g (look ρ1 x) ρ1
@[simp] theorem fUn_ap {g : D → Option (List D)} {ma : EM} : fUn g ma ρ = bindR (ma ρ) (kUnF g) := (rfl)
@[simp] theorem kUnF_ap {g : D → Option (List D)} {x : X} : kUnF g x ρ = op1F g (look ρ x) ρ := (rfl)
@[simp] theorem op1F_ok {g : D → Option (List D)} {a : D} : op1F g (some a) ρ = oF (g a) ρ := (rfl)
def op2F (g : D → D → Option (List D)) (o0 : Option D) (o1 : Option D) (ρ : Env) : Res D := match o0, o1 with
  | some a, some b => oF (g a b) ρ
  | _, _ => .bad
def kOp2F (g : D → D → Option (List D)) (x : X) : X → Env → Res D := fun y ρ2 => op2F g (look ρ2 x) (look ρ2 y) ρ2
def kOp1F (g : D → D → Option (List D)) (mb : EM) : X → Env → Res D := fun x ρ1 => bindR (mb ρ1) (kOp2F g x)
@[simp] theorem fOp_ap {g : D → D → Option (List D)} {ma mb : EM} : fOp g ma mb ρ = bindR (ma ρ) (kOp1F g mb) := (rfl)
@[simp] theorem kOp1F_ap {g : D → D → Option (List D)} {mb : EM} {x : X} : kOp1F g mb x ρ = bindR (mb ρ) (kOp2F g x) := (rfl)
@[simp] theorem kOp2F_ap {g : D → D → Option (List D)} {x y : X} : kOp2F g x y ρ = op2F g (look ρ x) (look ρ y) ρ := (rfl)
@[simp] theorem op2F_ok {g : D → D → Option (List D)} {a b : D} : op2F g (some a) (some b) ρ = oF (g a b) ρ := (rfl)
def opNF (g : List D → Option (List D)) (o0 : Option (List D)) (ρ : Env) : Res D := match o0 with
  | some a => oF (g a) ρ
  | _ => .bad
def kCBF (g : List D → Option (List D)) : List X → Env → Res D := fun x ρ1 => opNF g (looks ρ1 x) ρ1
@[simp] theorem fCB_ap {g : List D → Option (List D)} {ma : AM} : fCB g ma ρ = bindR (ma ρ) (kCBF g) := (rfl)
@[simp] theorem kCBF_ap {g : List D → Option (List D)} {x : List X} : kCBF g x ρ = opNF g (looks ρ x) ρ := (rfl)
@[simp] theorem opNF_ok {g : List D → Option (List D)} {a : List D} : opNF g (some a) ρ = oF (g a) ρ := (rfl)
def kF : D → Env → Res X := fun d ρ' => .ok (.d d) ρ'
@[simp] theorem eF_ap {m : FM} : eF m ρ = bindR (m ρ) kF := (rfl)
@[simp] theorem kF_ap {d : D} : kF d ρ = .ok (.d d) ρ := (rfl)
/-! slices -/
@[simp] theorem oNone_ap : oNone ρ = .ok none ρ := (rfl)
def kSome : X → Env → Res (Option Int) := fun x ρ1 => match x with
  | .d (.int i) => .ok (some i) ρ1
  | _ => .bad
@[simp] theorem oSome_ap {ma : EM} : oSome ma ρ = bindR (ma ρ) kSome := (rfl)
@[simp] theorem kSome_ap {i : Int} : kSome (.d (.int i)) ρ = .ok (some i) ρ := (rfl)
def slE (g : D → Option Int → Option Int → Option D) (lo hi : Option Int) (o0 : Option D) (ρ : Env) : Res X := match o0 with
  | some a => oD (g a lo hi) ρ
  | none => .bad
def kSl3 (g : D → Option Int → Option Int → Option D) (x : X) (lo : Option Int) : Option Int → Env → Res X := fun hi ρ3 => slE g lo hi (look ρ3 x) ρ3
def kSl2 (g : D → Option Int → Option Int → Option D) (mh : OM) (x : X) : Option Int → Env → Res X := fun lo ρ2 => bindR (mh ρ2) (kSl3 g x lo)
def kSl1 (g : D → Option Int → Option Int → Option D) (ml mh : OM) : X → Env → Res X := fun x ρ1 => bindR (ml ρ1) (kSl2 g mh x)
@[simp] theorem eSl_ap {g : D → Option Int → Option Int → Option D} {ma : EM} {ml mh : OM} : eSl g ma ml mh ρ = bindR (ma ρ) (kSl1 g ml mh) := (rfl)
@[simp] theorem kSl1_ap {g : D → Option Int → Option Int → Option D} {ml mh : OM} {x : X} : kSl1 g ml mh x ρ = bindR (ml ρ) (kSl2 g mh x) := (rfl)
@[simp] theorem kSl2_ap {g : D → Option Int → Option Int → Option D} {mh : OM} {x : X} {lo : Option Int} : kSl2 g mh x lo ρ = bindR (mh ρ) (kSl3 g x lo) := (rfl)
@[simp] theorem kSl3_ap {g : D → Option Int → Option Int → Option D} {x : X} {lo hi : Option Int} : kSl3 g x lo hi ρ = slE g lo hi (look ρ x) ρ := (rfl)
@[simp] theorem slE_ok {g : D → Option Int → Option Int → Option D} {lo hi : Option Int} {a : D} : slE g lo hi (some a) ρ = oD (g a lo hi) ρ := (rfl)
def slEF (g : D → Option Int → Option Int → Option (List D)) (lo hi : Option Int) (o0 : Option D) (ρ : Env) : Res D := match o0 with
  | some a => oF (g a lo hi) ρ
  | none => .bad
def kSl3F (g : D → Option Int → Option Int → Option (List D)) (x : X) (lo : Option Int) : Option Int → Env → Res D := fun hi ρ3 => slEF g lo hi (look ρ3 x) ρ3
def kSl2F (g : D → Option Int → Option Int → Option (List D)) (mh : OM) (x : X) : Option Int → Env → Res D := fun lo ρ2 => bindR (mh ρ2) (kSl3F g x lo)
def kSl1F (g : D → Option Int → Option Int → Option (List D)) (ml mh : OM) : X → Env → Res D := fun x ρ1 => bindR (ml ρ1) (kSl2F g mh x)
@[simp] theorem fSl_ap {g : D → Option Int → Option Int → Option (List D)} {ma : EM} {ml mh : OM} : fSl g ma ml mh ρ = bindR (ma ρ) (kSl1F g ml mh) := (rfl)
@[simp] theorem kSl1F_ap {g : D → Option Int → Option Int → Option (List D)} {ml mh : OM} {x : X} : kSl1F g ml mh x ρ = bindR (ml ρ) (kSl2F g mh x) := (rfl)
@[simp] theorem kSl2F_ap {g : D → Option Int → Option Int → Option (List D)} {mh : OM} {x : X} {lo : Option Int} : kSl2F g mh x lo ρ = bindR (mh ρ) (kSl3F g x lo) := (rfl)
@[simp] theorem kSl3F_ap {g : D → Option Int → Option Int → Option (List D)} {x : X} {lo hi : Option Int} : kSl3F g x lo hi ρ = slEF g lo hi (look ρ x) ρ := (rfl)
@[simp] theorem slEF_ok {g : D → Option Int → Option Int → Option (List D)} {lo hi : Option Int} {a : D} : slEF g lo hi (some a) ρ = oF (g a lo hi) ρ := (rfl)
def pkE (lo hi st : Option Int) (ds : List D) (ρ : Env) : Res D := if st ≠ some 0 ∧ (pickD ds lo hi st).length ≤ mx then .ok (.lst (pickD ds lo hi st)) ρ else .bad
def slSE (lo hi st : Option Int) (o0 : Option D) (ρ : Env) : Res D := match o0 with
  | some a => (match seqL a with
    | some ds => pkE lo hi st ds ρ
    | none => .bad)
  | none => .bad
def kSS4 (x : X) (lo hi : Option Int) : Option Int → Env → Res D := fun st ρ4 => slSE lo hi st (look ρ4 x) ρ4
def kSS3 (ms : OM) (x : X) (lo : Option Int) : Option Int → Env → Res D := fun hi ρ3 => bindR (ms ρ3) (kSS4 x lo hi)
def kSS2 (mh ms : OM) (x : X) : Option Int → Env → Res D := fun lo ρ2 => bindR (mh ρ2) (kSS3 ms x lo)
def kSS1 (ml mh ms : OM) : X → Env → Res D := fun x ρ1 => bindR (ml ρ1) (kSS2 mh ms x)
@[simp] theorem fSlS_ap {ma : EM} {ml mh ms : OM} : fSlS ma ml mh ms ρ = bindR (ma ρ) (kSS1 ml mh ms) := (rfl)
@[simp] theorem kSS1_ap {ml mh ms : OM} {x : X} : kSS1 ml mh ms x ρ = bindR (ml ρ) (kSS2 mh ms x) := (rfl)
@[simp] theorem kSS2_ap {mh ms : OM} {x : X} {lo : Option Int} : kSS2 mh ms x lo ρ = bindR (mh ρ) (kSS3 ms x lo) := (rfl)
@[simp] theorem kSS3_ap {ms : OM} {x : X} {lo hi : Option Int} : kSS3 ms x lo hi ρ = bindR (ms ρ) (kSS4 x lo hi) := (rfl)
@[simp] theorem kSS4_ap {x : X} {lo hi st : Option Int} : kSS4 x lo hi st ρ = slSE lo hi st (look ρ x) ρ := (rfl)
@[simp] theorem slSE_l {lo hi st : Option Int} {ds : List D} : slSE lo hi st (some (.lst ds)) ρ = pkE lo hi st ds ρ := (rfl)
@[simp] theorem slSE_r {lo hi st : Option Int} {ds : List D} : slSE lo hi st (some (.ro ds)) ρ = pkE lo hi st ds ρ := (rfl)
/-! tests -/
def kBl : X → Env → Res Bool := fun x ρ1 => match x with
  | .d (.bl b) => .ok b ρ1
  | _ => .bad
@[simp] theorem tBl_ap {ma : EM} : tBl ma ρ = bindR (ma ρ) kBl := (rfl)
@[simp] theorem kBl_ap {b : Bool} : kBl (.d (.bl b)) ρ = .ok b ρ := (rfl)
def truE (o0 : Option Bool) (ρ : Env) : Res Bool := match o0 with
  | some b => .ok b ρ
  | none => .bad
def kTru : X → Env → Res Bool := fun x ρ1 => truE ((look ρ1 x).bind truD) ρ1
@[simp] theorem mTru_ap {ma : EM} : mTru ma ρ = bindR (ma ρ) kTru := (rfl)
@[simp] theorem kTru_ap {x : X} : kTru x ρ = truE ((look ρ x).bind truD) ρ := (rfl)
@[simp] theorem truE_ok {b : Bool} : truE (some b) ρ = .ok b ρ := (rfl)
def kAnd (mu : TM) : Bool → Env → Res Bool := fun b ρ1 => if b = true then mu ρ1 else .ok false ρ1
@[simp] theorem mAnd_ap {mt mu : TM} : mAnd mt mu ρ = bindR (mt ρ) (kAnd mu) := (rfl)
@[simp] theorem kAnd_t {mu : TM} : kAnd mu true ρ = mu ρ := (rfl)
@[simp] theorem kAnd_f {mu : TM} : kAnd mu false ρ = .ok false ρ := (rfl)
def kOr (mu : TM) : Bool → Env → Res Bool := fun b ρ1 => if b = true then .ok true ρ1 else mu ρ1
@[simp] theorem mOr_ap {mt mu : TM} : mOr mt mu ρ = bindR (mt ρ) (kOr mu) := (rfl)
@[simp] theorem kOr_t {mu : TM} : kOr mu true ρ = .ok true ρ := (rfl)
@[simp] theorem kOr_f {mu : TM} : kOr mu false ρ = mu ρ := (rfl)
def kNot : Bool → Env → Res Bool := fun b ρ1 => .ok (!b) ρ1
@[simp] theorem mNot_ap {mt : TM} : mNot mt ρ = bindR (mt ρ) kNot := (rfl)
@[simp] theorem kNot_ap {b : Bool} : kNot b ρ = .ok (!b) ρ := (rfl)
@[simp] theorem mYes_ap : mYes ρ = .ok true ρ := (rfl)
def kAndE (mb : EM) : Bool → Env → Res X := fun b ρ1 => if b = true then mb ρ1 else .ok (.d (.bl false)) ρ1
@[simp] theorem eAnd_ap {ma mb : EM} : eAnd ma mb ρ = bindR (bindR (ma ρ) kBl) (kAndE mb) := (rfl)
@[simp] theorem kAndE_t {mb : EM} : kAndE mb true ρ = mb ρ := (rfl)
@[simp] theorem kAndE_f {mb : EM} : kAndE mb false ρ = .ok (.d (.bl false)) ρ := (rfl)
def kOrE (mb : EM) : Bool → Env → Res X := fun b ρ1 => if b = true then .ok (.d (.bl true)) ρ1 else mb ρ1
@[simp] theorem eOr_ap {ma mb : EM} : eOr ma mb ρ = bindR (bindR (ma ρ) kBl) (kOrE mb) := (rfl)
@[simp] theorem kOrE_t {mb : EM} : kOrE mb true ρ = .ok (.d (.bl true)) ρ := (rfl)
@[simp] theorem kOrE_f {mb : EM} : kOrE mb false ρ = mb ρ := (rfl)
def kNotE : Bool → Env → Res X := fun b ρ1 => .ok (.d (.bl (!b))) ρ1
@[simp] theorem eNot_ap {ma : EM} : eNot ma ρ = bindR (bindR (ma ρ) kBl) kNotE := (rfl)
@[simp] theorem kNotE_ap {b : Bool} : kNotE b ρ = .ok (.d (.bl (!b))) ρ := (rfl)
def kIfE (ma mb : EM) : Bool → Env → Res X := fun b ρ1 => if b = true then ma ρ1 else mb ρ1
@[simp] theorem eIf_ap {mt : TM} {ma mb : EM} : eIf mt ma mb ρ = bindR (mt ρ) (kIfE ma mb) := (rfl)
@[simp] theorem kIfE_t {ma mb : EM} : kIfE ma mb true ρ = ma ρ := (rfl)
@[simp] theorem kIfE_f {ma mb : EM} : kIfE ma mb false ρ = mb ρ := (rfl)
@[simp] theorem eIsT_ap {T : String} {ma : EM} : eIsT T ma ρ = bindR (ma ρ) (kUn (isiD T)) := (rfl)
/-! statements -/
@[simp] theorem sNop_ap : sNop ρ = .ok .nx ρ := (rfl)
@[simp] theorem sBrk_ap : sBrk ρ = .ok .bk ρ := (rfl)
@[simp] theorem sCnt_ap : sCnt ρ = .ok .ct ρ := (rfl)
def sqE (r : Res Fl) (n : SM) : Res Fl := match r with
  | .ok .nx ρ1 => n ρ1
  | r => r
@[simp] theorem sSeq_ap {m n : SM} : sSeq m n ρ = sqE (m ρ) n := by
  unfold sSeq sqE
  rfl
@[simp] theorem sqE_nx {n : SM} : sqE (.ok .nx ρ) n = n ρ := (rfl)
@[simp] theorem sqE_bk {n : SM} : sqE (.ok .bk ρ) n = .ok .bk ρ := (rfl)
@[simp] theorem sqE_ct {n : SM} : sqE (.ok .ct ρ) n = .ok .ct ρ := (rfl)
@[simp] theorem sqE_rt {n : SM} {l : L} : sqE (.ok (.rt l) ρ) n = .ok (.rt l) ρ := (rfl)
@[simp] theorem sqE_ex {n : SM} : sqE (.ex e ρ) n = .ex e ρ := (rfl)
def kIf (m n : SM) : Bool → Env → Res Fl := fun b ρ1 => if b = true then m ρ1 else n ρ1
@[simp] theorem sIf_ap {c : TM} {m n : SM} : sIf c m n ρ = bindR (c ρ) (kIf m n) := (rfl)
@[simp] theorem kIf_t {m n : SM} : kIf m n true ρ = m ρ := (rfl)
@[simp] theorem kIf_f {m n : SM} : kIf m n false ρ = n ρ := (rfl)
def kDrop : X → Env → Res Fl := fun _ ρ1 => .ok .nx ρ1
@[simp] theorem sDrop_ap {m : EM} : sDrop m ρ = bindR (m ρ) kDrop := (rfl)
@[simp] theorem kDrop_ap {x : X} : kDrop x ρ = .ok .nx ρ := (rfl)
def rtE (o0 : Option (Option L)) (i : Nat) (ρ : Env) : Res Fl := match o0 with
  | some (some (.m x)) => .ok (.rt (.m x)) (ρ.set i none)
  | some (some (.d x)) => .ok (.rt (.d x)) ρ
  | _ => .bad
def kRet : X → Env → Res Fl := fun x ρ1 => match x with
  | .d x => .ok (.rt (.d x)) ρ1
  | .s i => rtE ρ1[i]? i ρ1
@[simp] theorem sRet_ap {m : EM} : sRet m ρ = bindR (m ρ) kRet := by
  unfold sRet
  congr 1
@[simp] theorem kRet_d {x : D} : kRet (.d x) ρ = .ok (.rt (.d x)) ρ := (rfl)
@[simp] theorem kRet_s {i : Nat} : kRet (.s i) ρ = rtE ρ[i]? i ρ := (rfl)
@[simp] theorem rtE_m {x : D} {i : Nat} : rtE (some (some (.m x))) i ρ = .ok (.rt (.m x)) (ρ.set i none) := (rfl)
@[simp] theorem rtE_d {x : D} {i : Nat} : rtE (some (some (.d x))) i ρ = .ok (.rt (.d x)) ρ := (rfl)
def kRetF : D → Env → Res Fl := fun x ρ1 => .ok (.rt (.m x)) ρ1
@[simp] theorem sRetF_ap {m : FM} : sRetF m ρ = bindR (m ρ) kRetF := (rfl)
@[simp] theorem kRetF_ap {x : D} : kRetF x ρ = .ok (.rt (.m x)) ρ := (rfl)
@[simp] theorem sRetN_ap : sRetN ρ = .ok (.rt (.d .non)) ρ := (rfl)
/-! slots stored -/
/-- a slot that is no by-ref parameter -/
def isr : Option L → Bool
  | some (.r _) => true
  | _ => false
@[simp] theorem isr_none : isr none = false := (rfl)
@[simp] theorem isr_d {x : D} : isr (some (.d x)) = false := (rfl)
@[simp] theorem isr_m {x : D} : isr (some (.m x)) = false := (rfl)
@[simp] theorem isr_x : isr (some .xh) = false := (rfl)
def stE (i : Nat) (l : L) (o0 : Option (Option L)) (ρ : Env) : Option Env := match o0 with
  | some o => if isr o = true then none else some (ρ.set i (some l))
  | none => none
@[simp] theorem setS_eq {i : Nat} {l : L} : setS ρ i l = stE i l ρ[i]? ρ := by
  unfold setS stE
  cases h : ρ[i]? with
  | none => rfl
  | some o =>
    cases o with
    | none => rfl
    | some l' => cases l' <;> rfl
@[simp] theorem stE_ok {i : Nat} {l : L} {o : Option L} : stE i l (some o) ρ = if isr o = true then none else some (ρ.set i (some l)) := (rfl)
@[simp] theorem gmName_ap {i : Nat} {d : D} : gmName i d ρ = stE i (.d d) ρ[i]? ρ := setS_eq
@[simp] theorem gmNil_ap : gmNil [] ρ = some ρ := (rfl)
def gcE (gs : GMs) (ds : List D) : Option Env → Option Env
  | some ρ1 => gs ds ρ1
  | none => none
@[simp] theorem gmCons_ap {g : GM} {gs : GMs} {d : D} {ds : List D} : gmCons g gs (d :: ds) ρ = gcE gs ds (g d ρ) := by
  unfold gmCons gcE
  rfl
@[simp] theorem gcE_ok {gs : GMs} {ds : List D} : gcE gs ds (some ρ) = gs ds ρ := (rfl)
@[simp] theorem gmTup_ap {n : Nat} {gs : GMs} {ds : List D} : gmTup n gs (.tup ds) ρ = if ds.length = n then gs ds ρ else none := (rfl)
def agE : Option Env → Res Fl
  | some ρ3 => .ok .nx ρ3
  | none => .bad
def asE (gm : GM) : Option (D × Env) → Res Fl
  | some (d, ρ2) => agE (gm d ρ2)
  | none => .bad
def kAsg (gm : GM) : X → Env → Res Fl := fun x ρ1 => asE gm (fz ρ1 x)
@[simp] theorem sAsg_ap {gm : GM} {m : EM} : sAsg gm m ρ = bindR (m ρ) (kAsg gm) := (rfl)
@[simp] theorem kAsg_ap {gm : GM} {x : X} : kAsg gm x ρ = asE gm (fz ρ x) := (rfl)
@[simp] theorem asE_ok {gm : GM} {d : D} : asE gm (some (d, ρ)) = agE (gm d ρ) := (rfl)
@[simp] theorem agE_ok : agE (some ρ) = .ok .nx ρ := (rfl)
def kAsgM (i : Nat) : D → Env → Res Fl := fun x ρ1 => agE (setS ρ1 i (.m x))
@[simp] theorem sAsgM_ap {i : Nat} {m : FM} : sAsgM i m ρ = bindR (m ρ) (kAsgM i) := by
  unfold sAsgM
  congr 1
@[simp] theorem kAsgM_ap {i : Nat} {x : D} : kAsgM i x ρ = agE (stE i (.m x) ρ[i]? ρ) := by rw [← setS_eq]; rfl
def prF (j : Nat) (e : D) : Option Env → Res Fl
  | some ρ3 => agE (setS ρ3 j (.d e))
  | none => .bad
def prE (i j : Nat) : Option (List D × Env) → Res Fl
  | some ([d, e], ρ2) => prF j e (setS ρ2 i (.d d))
  | _ => .bad
def kPar (i j : Nat) : List X → Env → Res Fl := fun xs ρ1 => prE i j (fzs ρ1 xs)
@[simp] theorem sPar_ap {i j : Nat} {ma : AM} : sPar i j ma ρ = bindR (ma ρ) (kPar i j) := (rfl)
@[simp] theorem kPar_ap {i j : Nat} {xs : List X} : kPar i j xs ρ = prE i j (fzs ρ xs) := (rfl)
@[simp] theorem prE_ok {i j : Nat} {d e : D} : prE i j (some ([d, e], ρ)) = prF j e (stE i (.d d) ρ[i]? ρ) := by rw [← setS_eq]; rfl
@[simp] theorem prF_ok {j : Nat} {e : D} : prF j e (some ρ) = agE (stE j (.d e) ρ[j]? ρ) := by rw [← setS_eq]; rfl
def kAug (i : Nat) (g : D → D → Option D) (a : D) : X → Env → Res Fl := fun y ρ1 => match look ρ1 y with
  | some b => (match g a b with
    | some d => agE (setS ρ1 i (.d d))
    | none => .bad)
  | none => .bad
def auE (i : Nat) (g : D → D → Option D) (m : EM) (o0 : Option (Option L)) (ρ : Env) : Res Fl := match o0 with
  | some (some (.d a)) => bindR (m ρ) (kAug i g a)
  | _ => .bad
def auF (i : Nat) (o0 : Option D) (ρ : Env) : Res Fl := match o0 with
  | some d => agE (stE i (.d d) ρ[i]? ρ)
  | none => .bad
def auG (i : Nat) (g : D → D → Option D) (a : D) (o0 : Option D) (ρ : Env) : Res Fl := match o0 with
  | some b => auF i (g a b) ρ
  | none => .bad
@[simp] theorem sAug_ap {i : Nat} {g : D → D → Option D} {m : EM} : sAug i g m ρ = auE i g m ρ[i]? ρ := (rfl)
@[simp] theorem auE_ok {i : Nat} {g : D → D → Option D} {m : EM} {a : D} : auE i g m (some (some (.d a))) ρ = bindR (m ρ) (kAug i g a) := (rfl)
@[simp] theorem kAug_ap {i : Nat} {g : D → D → Option D} {a : D} {y : X} : kAug i g a y ρ = auG i g a (look ρ y) ρ := by
  unfold kAug auG auF
  simp only [setS_eq]
@[simp] theorem auG_ok {i : Nat} {g : D → D → Option D} {a b : D} : auG i g a (some b) ρ = auF i (g a b) ρ := (rfl)
@[simp] theorem auF_ok {i : Nat} {d : D} : auF i (some d) ρ = agE (stE i (.d d) ρ[i]? ρ) := (rfl)
/-! lists changed in place -/
def owE : Option (Option L) → Option (L × List D)
  | some (some (.m (.lst ds))) => some (.m (.lst ds), ds)
  | some (some (.r (.lst ds))) => some (.r (.lst ds), ds)
  | _ => none
@[simp] theorem ownL_ap {i : Nat} : ownL ρ i = owE ρ[i]? := (rfl)
@[simp] theorem owE_m {ds : List D} : owE (some (some (.m (.lst ds)))) = some (.m (.lst ds), ds) := (rfl)
@[simp] theorem owE_r {ds : List D} : owE (some (some (.r (.lst ds)))) = some (.r (.lst ds), ds) := (rfl)
@[simp] theorem put_m {a b : D} : (L.m a).put b = .m b := (rfl)
@[simp] theorem put_r {a b : D} : (L.r a).put b = .r b := (rfl)
@[simp] theorem put_d {a b : D} : (L.d a).put b = .d b := (rfl)
def apF (i : Nat) (d : D) (o0 : Option (L × List D)) (ρ : Env) : Res X := match o0 with
  | some (l, ds) => if ds.length < mx then .ok (.d .non) (ρ.set i (some (l.put (.lst (ds ++ [d]))))) else .bad
  | none => .bad
def apE (i : Nat) : Option (D × Env) → Res X
  | some (d, ρ2) => apF i d (ownL ρ2 i) ρ2
  | none => .bad
def kApp (i : Nat) : X → Env → Res X := fun x ρ1 => apE i (fz ρ1 x)
@[simp] theorem eApp_ap {i : Nat} {m : EM} : eApp i m ρ = if (owE ρ[i]?).isSome = true then bindR (m ρ) (kApp i) else .bad := (rfl)
@[simp] theorem kApp_ap {i : Nat} {x : X} : kApp i x ρ = apE i (fz ρ x) := (rfl)
@[simp] theorem apE_ok {i : Nat} {d : D} : apE i (some (d, ρ)) = apF i d (owE ρ[i]?) ρ := (rfl)
@[simp] theorem apF_ok {i : Nat} {d : D} {l : L} {ds : List D} : apF i d (some (l, ds)) ρ = if ds.length < mx then .ok (.d .non) (ρ.set i (some (l.put (.lst (ds ++ [d]))))) else .bad := (rfl)
def poF (i : Nat) (l : L) (ds : List D) (o0 : Option D) (ρ : Env) : Res X := match o0 with
  | some d => .ok (.d d) (ρ.set i (some (l.put (.lst ds.dropLast))))
  | none => .bad
def poE (i : Nat) (o0 : Option (L × List D)) (ρ : Env) : Res X := match o0 with
  | some (l, ds) => poF i l ds ds.getLast? ρ
  | none => .bad
@[simp] theorem ePop_ap {i : Nat} : ePop i ρ = poE i (owE ρ[i]?) ρ := by
  unfold ePop poE
  rw [ownL_ap]
  cases owE ρ[i]? with
  | none => rfl
  | some q =>
    obtain ⟨l, ds⟩ := q
    unfold poF
    cases ds.getLast? <;> rfl
@[simp] theorem poE_ok {i : Nat} {l : L} {ds : List D} : poE i (some (l, ds)) ρ = poF i l ds ds.getLast? ρ := (rfl)
@[simp] theorem poF_ok {i : Nat} {l : L} {ds : List D} {d : D} : poF i l ds (some d) ρ = .ok (.d d) (ρ.set i (some (l.put (.lst ds.dropLast)))) := (rfl)
def paG (i k : Nat) (l : L) (ds : List D) (o0 : Option D) (ρ : Env) : Res X := match o0 with
  | some d => .ok (.d d) (ρ.set i (some (l.put (.lst (ds.eraseIdx k)))))
  | none => .bad
def paF (i : Nat) (l : L) (ds : List D) (o0 : Option Nat) (ρ : Env) : Res X := match o0 with
  | some k => paG i k l ds ds[k]? ρ
  | none => .bad
def paE (i : Nat) (o0 : X) (o1 : Option (L × List D)) (ρ : Env) : Res X := match o0, o1 with
  | .d (.int j), some (l, ds) => if -(2 ^ 63) ≤ j ∧ j < 2 ^ 63 then paF i l ds (seqIndex? j ds.length) ρ else .bad
  | _, _ => .bad
def kPopAt (i : Nat) : X → Env → Res X := fun x ρ1 => paE i x (ownL ρ1 i) ρ1
@[simp] theorem ePopAt_ap {i : Nat} {m : EM} : ePopAt i m ρ = if (owE ρ[i]?).isSome = true then bindR (m ρ) (kPopAt i) else .bad := (rfl)
@[simp] theorem kPopAt_ap {i : Nat} {x : X} : kPopAt i x ρ = paE i x (owE ρ[i]?) ρ := (rfl)
@[simp] theorem paE_ok {i : Nat} {j : Int} {l : L} {ds : List D} : paE i (.d (.int j)) (some (l, ds)) ρ = if -(2 ^ 63) ≤ j ∧ j < 2 ^ 63 then paF i l ds (seqIndex? j ds.length) ρ else .bad := (rfl)
@[simp] theorem paF_ok {i k : Nat} {l : L} {ds : List D} : paF i l ds (some k) ρ = paG i k l ds ds[k]? ρ := (rfl)
@[simp] theorem paG_ok {i k : Nat} {l : L} {ds : List D} {d : D} : paG i k l ds (some d) ρ = .ok (.d d) (ρ.set i (some (l.put (.lst (ds.eraseIdx k))))) := (rfl)
def slG (i : Nat) (d : D) (l : L) (ds : List D) (o0 : Option Nat) (ρ : Env) : Res Fl := match o0 with
  | some k => .ok .nx (ρ.set i (some (l.put (.lst (ds.set k d)))))
  | none => .bad
def slF' (i : Nat) (d : D) (o0 : X) (o1 : Option (L × List D)) (ρ : Env) : Res Fl := match o0, o1 with
  | .d (.int j), some (l, ds) => slG i d l ds (ixN ds.length j) ρ
  | _, _ => .bad
def kSetL2 (i : Nat) (d : D) : X → Env → Res Fl := fun y ρ3 => slF' i d y (ownL ρ3 i) ρ3
def stL (i : Nat) (mi : EM) : Option (D × Env) → Res Fl
  | some (d, ρ2) => if (owE ρ2[i]?).isSome = true then bindR (mi ρ2) (kSetL2 i d) else .bad
  | none => .bad
def kSetL1 (i : Nat) (mi : EM) : X → Env → Res Fl := fun x ρ1 => stL i mi (fz ρ1 x)
@[simp] theorem sSetL_ap {i : Nat} {mi mv : EM} : sSetL i mi mv ρ = bindR (mv ρ) (kSetL1 i mi) := (rfl)
@[simp] theorem kSetL1_ap {i : Nat} {mi : EM} {x : X} : kSetL1 i mi x ρ = stL i mi (fz ρ x) := (rfl)
@[simp] theorem stL_ok {i : Nat} {mi : EM} {d : D} : stL i mi (some (d, ρ)) = if (owE ρ[i]?).isSome = true then bindR (mi ρ) (kSetL2 i d) else .bad := (rfl)
@[simp] theorem kSetL2_ap {i : Nat} {d : D} {y : X} : kSetL2 i d y ρ = slF' i d y (owE ρ[i]?) ρ := (rfl)
@[simp] theorem slF'_ok {i : Nat} {d : D} {j : Int} {l : L} {ds : List D} : slF' i d (.d (.int j)) (some (l, ds)) ρ = slG i d l ds (ixN ds.length j) ρ := (rfl)
@[simp] theorem slG_ok {i k : Nat} {d : D} {l : L} {ds : List D} : slG i d l ds (some k) ρ = .ok .nx (ρ.set i (some (l.put (.lst (ds.set k d))))) := (rfl)
/-! loops -/
def sqI : Option (D × Env) → Res (List D)
  | some (.lst ds, ρ2) => .ok ds ρ2
  | some (.ro ds, ρ2) => .ok ds ρ2
  | some (.tup ds, ρ2) => .ok ds ρ2
  | _ => .bad
def kSeq : X → Env → Res (List D) := fun x ρ1 => sqI (fz ρ1 x)
@[simp] theorem mSeq_ap {m : EM} : mSeq m ρ = bindR (m ρ) kSeq := (rfl)
@[simp] theorem kSeq_ap {x : X} : kSeq x ρ = sqI (fz ρ x) := (rfl)
@[simp] theorem sqI_l {ds : List D} : sqI (some (.lst ds, ρ)) = .ok ds ρ := (rfl)
@[simp] theorem sqI_r {ds : List D} : sqI (some (.ro ds, ρ)) = .ok ds ρ := (rfl)
@[simp] theorem sqI_t {ds : List D} : sqI (some (.tup ds, ρ)) = .ok ds ρ := (rfl)
def kR1 : List X → Env → Res (List D) := fun xs ρ1 => match xs with
  | [.d (.int j)] => if rgOk j then .ok (rangeD 0 j.toNat) ρ1 else .bad
  | _ => .bad
@[simp] theorem mRng1_ap {m : AM} : mRng1 m ρ = bindR (m ρ) kR1 := (rfl)
@[simp] theorem kR1_ap {j : Int} : kR1 [.d (.int j)] ρ = if rgOk j then .ok (rangeD 0 j.toNat) ρ else .bad := (rfl)
def kR2 : List X → Env → Res (List D) := fun xs ρ1 => match xs with
  | [.d (.int i), .d (.int j)] => if rgOk i ∧ rgOk j then .ok (rangeD i (j - i).toNat) ρ1 else .bad
  | _ => .bad
@[simp] theorem mRng2_ap {m : AM} : mRng2 m ρ = bindR (m ρ) kR2 := (rfl)
@[simp] theorem kR2_ap {i j : Int} : kR2 [.d (.int i), .d (.int j)] ρ = if rgOk i ∧ rgOk j then .ok (rangeD i (j - i).toNat) ρ else .bad := (rfl)
def kFor (gm : GM) (b : SM) : List D → Env → Res Fl := fun ds ρ1 => forGo gm b ds ρ1
@[simp] theorem sFor_ap {im : IM} {gm : GM} {b : SM} : sFor im gm b ρ = bindR (im ρ) (kFor gm b) := (rfl)
@[simp] theorem kFor_ap {gm : GM} {b : SM} {ds : List D} : kFor gm b ds ρ = forGo gm b ds ρ := (rfl)
@[simp] theorem sFg_ap {js : List Nat} {m : SM} : sFg js m ρ = fgE js (m ρ) := (rfl)
@[simp] theorem fgE_rt {js : List Nat} {l : L} : fgE js (.ok (.rt l) ρ) = .ok (.rt l) ρ := (rfl)
@[simp] theorem fgE_ex {js : List Nat} : fgE js (.ex e ρ) = .ex e ρ := (rfl)
@[simp] theorem fgE_nx {js : List Nat} : fgE js (.ok .nx ρ) = if wipeOk ρ js = true then .ok .nx (wipeE ρ js) else .bad := (rfl)
@[simp] theorem fgE_bk {js : List Nat} : fgE js (.ok .bk ρ) = if wipeOk ρ js = true then .ok .bk (wipeE ρ js) else .bad := (rfl)
@[simp] theorem fgE_ct {js : List Nat} : fgE js (.ok .ct ρ) = if wipeOk ρ js = true then .ok .ct (wipeE ρ js) else .bad := (rfl)
@[simp] theorem wipeOk_nil : wipeOk ρ [] = true := (rfl)
@[simp] theorem wipeOk_cons {j : Nat} {js : List Nat} : wipeOk ρ (j :: js) = (noR ρ j && wipeOk ρ js) := (rfl)
def nrE : Option (Option L) → Bool
  | some (some (.r _)) => false
  | _ => true
@[simp] theorem noR_ap {j : Nat} : noR ρ j = nrE ρ[j]? := (rfl)
@[simp] theorem nrE_d {x : D} : nrE (some (some (.d x))) = true := (rfl)
@[simp] theorem nrE_m {x : D} : nrE (some (some (.m x))) = true := (rfl)
@[simp] theorem nrE_n : nrE (some none) = true := (rfl)
@[simp] theorem wipeE_nil : wipeE ρ [] = ρ := (rfl)
@[simp] theorem wipeE_cons {j : Nat} {js : List Nat} : wipeE ρ (j :: js) = (wipeE ρ js).set j none := (rfl)
/-! comprehensions -/
def rsE (ρ' : Env) (j : Nat) : Option (Option L) → Env
  | some o => ρ'.set j o
  | none => ρ'
@[simp] theorem restE_nil : restE ρ1 ρ [] = ρ := (rfl)
@[simp] theorem restE_cons {j : Nat} {js : List Nat} : restE ρ1 ρ (j :: js) = rsE (restE ρ1 ρ js) j ρ1[j]? := by
  rw [restE]
  cases ρ1[j]? <;> rfl
@[simp] theorem rsE_ok {j : Nat} {o : Option L} : rsE ρ j (some o) = ρ.set j o := (rfl)
def clE : Option (Option L) → Bool
  | some none => true
  | some (some (.d _)) => true
  | _ => false
@[simp] theorem clean_nil : clean ρ [] = true := (rfl)
@[simp] theorem clean_cons {j : Nat} {js : List Nat} : clean ρ (j :: js) = (clE ρ[j]? && clean ρ js) := (rfl)
@[simp] theorem clE_n : clE (some none) = true := (rfl)
@[simp] theorem clE_d {x : D} : clE (some (some (.d x))) = true := (rfl)
/-! calls -/
def maE : Option (Option L) → Option L
  | some (some (.m x)) => some (.r x)
  | some (some (.r x)) => some (.r x)
  | some (some (.d x)) => some (.d x)
  | _ => none
@[simp] theorem mkArg_d {x : D} : mkArg ρ (.d x) = some (.d x) := (rfl)
@[simp] theorem mkArg_s {i : Nat} : mkArg ρ (.s i) = maE ρ[i]? := (rfl)
@[simp] theorem maE_m {x : D} : maE (some (some (.m x))) = some (.r x) := (rfl)
@[simp] theorem maE_r {x : D} : maE (some (some (.r x))) = some (.r x) := (rfl)
@[simp] theorem maE_d {x : D} : maE (some (some (.d x))) = some (.d x) := (rfl)
def masC : Option L → Option (List L) → Option (List L)
  | some a, some as => some (a :: as)
  | _, _ => none
@[simp] theorem mkArgs_nil : mkArgs ρ [] = some [] := (rfl)
@[simp] theorem mkArgs_cons {x : X} {xs : List X} : mkArgs ρ (x :: xs) = masC (mkArg ρ x) (mkArgs ρ xs) := by
  rw [mkArgs]
  cases mkArg ρ x <;> cases mkArgs ρ xs <;> rfl
@[simp] theorem masC_ok {a : L} {as : List L} : masC (some a) (some as) = some (a :: as) := (rfl)
@[simp] theorem slots_nil : slots [] = [] := (rfl)
@[simp] theorem slots_d {x : D} {xs : List X} : slots (.d x :: xs) = slots xs := (rfl)
@[simp] theorem slots_s {i : Nat} {xs : List X} : slots (.s i :: xs) = i :: slots xs := (rfl)
def ptE (i : Nat) (y : D) (o0 : Option (Option L)) (ρ : Env) : Env := match o0 with
  | some (some l) => ρ.set i (some (l.put y))
  | _ => ρ
@[simp] theorem putS_ap {i : Nat} {y : D} : putS ρ i y = ptE i y ρ[i]? ρ := (rfl)
@[simp] theorem ptE_ok {i : Nat} {y : D} {l : L} : ptE i y (some (some l)) ρ = ρ.set i (some (l.put y)) := (rfl)
@[simp] theorem putA_nil {as bs : List L} : putA ρ [] as bs = ρ := by cases as <;> rfl
@[simp] theorem putA_d {x : D} {xs : List X} {a b : L} {as bs : List L} : putA ρ (.d x :: xs) (a :: as) (b :: bs) = putA ρ xs as bs := (rfl)
@[simp] theorem putA_r {i : Nat} {xs : List X} {x y : D} {as bs : List L} : putA ρ (.s i :: xs) (.r x :: as) (.r y :: bs) = putA (putS ρ i y) xs as bs := (rfl)
@[simp] theorem putA_sd {i : Nat} {xs : List X} {x : D} {b : L} {as bs : List L} : putA ρ (.s i :: xs) (.d x :: as) (b :: bs) = putA ρ xs as bs := (rfl)
def clR (xs : List X) (as : List L) (o0 : FRes) (ρ : Env) : Res X := match o0 with
  | .ok (.d x) bs => .ok (.d x) (putA ρ xs as bs)
  | .ok (.m x) bs => .ok (.d x) (putA ρ xs as bs)
  | .ok _ _ => .bad
  | .ex e bs => .ex e (putA ρ xs as bs)
  | .bad => .bad
def clL (n : Nat) (F : List L → FRes) (xs : List X) (o0 : Option (List L)) (ρ : Env) : Res X := match o0 with
  | none => .bad
  | some as => if xs.length = n ∧ (slots xs).Nodup then clR xs as (F as) ρ else .bad
def kCall (n : Nat) (F : List L → FRes) : List X → Env → Res X := fun xs ρ1 => clL n F xs (mkArgs ρ1 xs) ρ1
@[simp] theorem eCall_ap {n : Nat} {F : List L → FRes} {ma : AM} : eCall n F ma ρ = bindR (ma ρ) (kCall n F) := by
  unfold eCall
  congr 1
@[simp] theorem kCall_ap {n : Nat} {F : List L → FRes} {xs : List X} : kCall n F xs ρ = clL n F xs (mkArgs ρ xs) ρ := (rfl)
@[simp] theorem clL_ok {n : Nat} {F : List L → FRes} {xs : List X} {as : List L} : clL n F xs (some as) ρ = if xs.length = n ∧ (slots xs).Nodup then clR xs as (F as) ρ else .bad := (rfl)
@[simp] theorem clR_d {xs : List X} {as bs : List L} {x : D} : clR xs as (.ok (.d x) bs) ρ = .ok (.d x) (putA ρ xs as bs) := (rfl)
@[simp] theorem clR_m {xs : List X} {as bs : List L} {x : D} : clR xs as (.ok (.m x) bs) ρ = .ok (.d x) (putA ρ xs as bs) := (rfl)
@[simp] theorem clR_x {xs : List X} {as bs : List L} : clR xs as (.ex e bs) ρ = .ex e (putA ρ xs as bs) := (rfl)
def clRF (xs : List X) (as : List L) (o0 : FRes) (ρ : Env) : Res D := match o0 with
  | .ok (.m x) bs => .ok x (putA ρ xs as bs)
  | .ok _ _ => .bad
  | .ex e bs => .ex e (putA ρ xs as bs)
  | .bad => .bad
def clLF (n : Nat) (F : List L → FRes) (xs : List X) (o0 : Option (List L)) (ρ : Env) : Res D := match o0 with
  | none => .bad
  | some as => if xs.length = n ∧ (slots xs).Nodup then clRF xs as (F as) ρ else .bad
def kCallF (n : Nat) (F : List L → FRes) : List X → Env → Res D := fun xs ρ1 => clLF n F xs (mkArgs ρ1 xs) ρ1
@[simp] theorem fCall_ap {n : Nat} {F : List L → FRes} {ma : AM} : fCall n F ma ρ = bindR (ma ρ) (kCallF n F) := by
  unfold fCall
  congr 1
@[simp] theorem kCallF_ap {n : Nat} {F : List L → FRes} {xs : List X} : kCallF n F xs ρ = clLF n F xs (mkArgs ρ xs) ρ := (rfl)
@[simp] theorem clLF_ok {n : Nat} {F : List L → FRes} {xs : List X} {as : List L} : clLF n F xs (some as) ρ = if xs.length = n ∧ (slots xs).Nodup then clRF xs as (F as) ρ else .bad := (rfl)
@[simp] theorem clRF_m {xs : List X} {as bs : List L} {x : D} : clRF xs as (.ok (.m x) bs) ρ = .ok x (putA ρ xs as bs) := (rfl)
@[simp] theorem clRF_x {xs : List X} {as bs : List L} : clRF xs as (.ex e bs) ρ = .ex e (putA ρ xs as bs) := (rfl)
/-! defs -/
def fnE (as : List L) : Res Fl → FRes
  | .ok .nx ρ' => .ok (.d .non) (backL ρ' 0 as)
  | .ok (.rt l) ρ' => .ok l (backL ρ' 0 as)
  | .ex e ρ' => .ex e (backL ρ' 0 as)
  | _ => .bad
@[simp] theorem runFn_ap {n : Nat} {body : SM} {as : List L} : runFn n body as = fnE as (body (as.map some ++ List.replicate (n - as.length) none)) := (rfl)
@[simp] theorem fnE_nx {as : List L} : fnE as (.ok .nx ρ) = .ok (.d .non) (backL ρ 0 as) := (rfl)
@[simp] theorem fnE_rt {as : List L} {l : L} : fnE as (.ok (.rt l) ρ) = .ok l (backL ρ 0 as) := (rfl)
@[simp] theorem fnE_ex {as : List L} : fnE as (.ex e ρ) = .ex e (backL ρ 0 as) := (rfl)
@[simp] theorem backL_nil {i : Nat} : backL ρ i [] = [] := (rfl)
@[simp] theorem backL_cons {i : Nat} {a : L} {as : List L} : backL ρ i (a :: as) = back1 a ρ[i]? :: backL ρ (i + 1) as := (rfl)
@[simp] theorem back1_d {x : D} {o : Option (Option L)} : back1 (.d x) o = .d x := (rfl)
@[simp] theorem back1_r {x : D} {l : L} : back1 (.r x) (some (some l)) = l := (rfl)
/-! errors -/
def rsR (c f : Str) : Option (D × Env) → Res Fl
  | some (d, ρ2) => .ex ⟨c, some [(f, d)]⟩ ρ2
  | none => .bad
def kRaise (c f : Str) : List X → Env → Res Fl := fun xs ρ1 => match xs with
  | [x] => rsR c f (fz ρ1 x)
  | _ => .bad
@[simp] theorem sRaise_ap {c f : Str} {ma : AM} : sRaise c f ma ρ = bindR (ma ρ) (kRaise c f) := by
  unfold sRaise
  congr 1
@[simp] theorem kRaise_ap {c f : Str} {x : X} : kRaise c f [x] ρ = rsR c f (fz ρ x) := (rfl)
@[simp] theorem rsR_ok {c f : Str} {d : D} : rsR c f (some (d, ρ)) = .ex ⟨c, some [(f, d)]⟩ ρ := (rfl)
@[simp] theorem sRaise0_ap {c : Str} : sRaise0 c ρ = .ex ⟨c, none⟩ ρ := (rfl)
def tyG (e : Exn) (i : Nat) (ms : Exn → SM) : Option Env → Res Fl
  | some ρ2 => fin i (ms e ρ2)
  | none => .bad
def tyF (i : Nat) (ms : Exn → SM) (e : Exn) (ρ1 : Env) : Option Bool → Res Fl
  | some true => tyG e i ms (setS (clrX ρ1) i .xh)
  | some false => .ex e ρ1
  | none => .bad
def tyE (ex : ExF) (i : Nat) (ms : Exn → SM) : Res Fl → Res Fl
  | .ex e ρ1 => tyF i ms e ρ1 (ex e.cls)
  | r => r
@[simp] theorem sTry_ap {ex : ExF} {i : Nat} {mb : SM} {ms : Exn → SM} : sTry ex i mb ms ρ = tyE ex i ms (mb ρ) := by
  unfold sTry tyE
  cases mb ρ with
  | bad => rfl
  | ok f ρ1 => rfl
  | ex e ρ1 =>
    simp only [tyF]
    cases ex e.cls with
    | none => rfl
    | some b =>
      cases b with
      | false => rfl
      | true =>
        unfold tyG
        cases setS (clrX ρ1) i .xh <;> rfl
@[simp] theorem tyE_ok {ex : ExF} {i : Nat} {ms : Exn → SM} {f : Fl} : tyE ex i ms (.ok f ρ) = .ok f ρ := (rfl)
@[simp] theorem tyE_ex {ex : ExF} {i : Nat} {ms : Exn → SM} : tyE ex i ms (.ex e ρ) = tyF i ms e ρ (ex e.cls) := (rfl)
@[simp] theorem tyF_t {i : Nat} {ms : Exn → SM} : tyF i ms e ρ (some true) = tyG e i ms (stE i .xh (clrX ρ)[i]? (clrX ρ)) := by rw [← setS_eq]; rfl
@[simp] theorem tyF_f {i : Nat} {ms : Exn → SM} : tyF i ms e ρ (some false) = .ex e ρ := (rfl)
@[simp] theorem tyG_ok {i : Nat} {ms : Exn → SM} : tyG e i ms (some ρ) = fin i (ms e ρ) := (rfl)
def fiE (f : Fl) : Option Env → Res Fl
  | some ρ' => .ok f ρ'
  | none => .bad
@[simp] theorem fin_ok {i : Nat} {f : Fl} : fin i (.ok f ρ) = fiE f (dropS ρ i) := (rfl)
@[simp] theorem fiE_ok {f : Fl} : fiE f (some ρ) = .ok f ρ := (rfl)
def drE (i : Nat) (ρ : Env) : Option (Option L) → Option Env
  | some (some (.r _)) => none
  | _ => some (ρ.set i none)
@[simp] theorem dropS_ap {i : Nat} : dropS ρ i = drE i ρ ρ[i]? := (rfl)
@[simp] theorem drE_x {i : Nat} : drE i ρ (some (some .xh)) = some (ρ.set i none) := (rfl)
@[simp] theorem drE_n {i : Nat} : drE i ρ (some none) = some (ρ.set i none) := (rfl)
@[simp] theorem drE_d {i : Nat} {x : D} : drE i ρ (some (some (.d x))) = some (ρ.set i none) := (rfl)
@[simp] theorem clrX_nil : clrX [] = [] := (rfl)
def cx1 : Option L → Option L
  | some .xh => none
  | o => o
@[simp] theorem clrX_cons {o : Option L} : clrX (o :: ρ) = cx1 o :: clrX ρ := (rfl)
@[simp] theorem cx1_n : cx1 none = none := (rfl)
@[simp] theorem cx1_d {x : D} : cx1 (some (.d x)) = some (.d x) := (rfl)
@[simp] theorem cx1_m {x : D} : cx1 (some (.m x)) = some (.m x) := (rfl)
@[simp] theorem cx1_r {x : D} : cx1 (some (.r x)) = some (.r x) := (rfl)
@[simp] theorem cx1_x : cx1 (some .xh) = none := (rfl)
@[simp] theorem exOne_ap {C c : Str} : exOne C c = if c = C then some true else none := (rfl)
def xfG (o0 : Option D) (ρ : Env) : Res X := match o0 with
  | some d => .ok (.d d) ρ
  | none => .bad
def xfF (f : Str) (o0 : Option (List (Str × D))) (ρ : Env) : Res X := match o0 with
  | some fs => xfG (fs.lookup f) ρ
  | none => .bad
def xfE (e : Exn) (c f : Str) (o0 : Option (Option L)) (ρ : Env) : Res X := match o0 with
  | some (some .xh) => if e.cls = c then xfF f e.fs ρ else .bad
  | _ => .bad
@[simp] theorem eXf_ap {c f : Str} {i : Nat} : eXf e c f i ρ = xfE e c f ρ[i]? ρ := (rfl)
@[simp] theorem xfE_x {c f : Str} : xfE e c f (some (some .xh)) ρ = if e.cls = c then xfF f e.fs ρ else .bad := (rfl)
@[simp] theorem xfF_ok {f : Str} {fs : List (Str × D)} : xfF f (some fs) ρ = xfG (fs.lookup f) ρ := (rfl)
@[simp] theorem xfG_ok {d : D} : xfG (some d) ρ = .ok (.d d) ρ := (rfl)
end
end DL
set_option Elab.async false
set_option linter.all false
set_option maxRecDepth 100000
set_option maxHeartbeats 4000000
/-! evaluating: operations on data -/
namespace DL
open PySem L2
section
variable {i j : Int} {a b c : D} {x y : Str} {ds es : List D} {ρ : Env}
/-! sizes -/
@[simp] theorem le_mx {n : Nat} (h : n ≤ 100000) : n ≤ mx := Nat.le_trans h (by decide)
@[simp] theorem lt_mx {n : Nat} (h : n ≤ 100000) : n < mx := Nat.lt_of_le_of_lt h (by decide)
@[simp] theorem rg_any : rgOk i := (rfl)
theorem rg_ok (h1 : -1000000000000000 ≤ i) (h2 : i ≤ 1000000000000000) : rgOk i := rg_any
@[simp] theorem rg_lit (h : -1000000000000000 ≤ i ∧ i ≤ 1000000000000000) : rgOk i := rg_ok h.1 h.2
@[simp] theorem rg_nat {n : Nat} (h : n ≤ 100000) : rgOk (n : Int) := rg_ok (by omega) (by omega)
/-! arithmetic -/
@[simp] theorem addD_i : addD (.int i) (.int j) = some (.int (i + j)) := (rfl)
@[simp] theorem addD_s : addD (.str x) (.str y) = if x.length + y.length ≤ mx then some (.str (x ++ y)) else none := (rfl)
@[simp] theorem addD_l : addD (.lst ds) (.lst es) = if ds.length + es.length ≤ mx then some (.lst (ds ++ es)) else none := (rfl)
@[simp] theorem addD_t : addD (.tup ds) (.tup es) = if ds.length + es.length ≤ mx then some (.tup (ds ++ es)) else none := (rfl)
@[simp] theorem catF_l : catF (.lst ds) (.lst es) = if ds.length + es.length ≤ mx then some (ds ++ es) else none := (rfl)
@[simp] theorem subD_i : subD (.int i) (.int j) = some (.int (i - j)) := (rfl)
@[simp] theorem mulD_i : mulD (.int i) (.int j) = if mulOk i j then some (.int (i * j)) else none := (rfl)
@[simp] theorem mulD_l : mulD (.lst ds) (.int j) = (repL j ds).map .lst := (rfl)
@[simp] theorem repF_l : repF (.lst ds) (.int j) = repL j ds := (rfl)
@[simp] theorem fdivD_i : fdivD (.int i) (.int j) = if divOk j then some (.int (i.fdiv j)) else none := (rfl)
@[simp] theorem modD_i : modD (.int i) (.int j) = if j ≠ 0 then some (.int (i.fmod j)) else none := (rfl)
@[simp] theorem powD_i : powD (.int i) (.int j) = if 0 ≤ j ∧ j ≤ 1000000 ∧ i.natAbs < 2 ^ 64 then some (.int (i ^ j.toNat)) else none := (rfl)
@[simp] theorem negD_i : negD (.int i) = some (.int (-i)) := (rfl)
@[simp] theorem ltD_i : ltD (.int i) (.int j) = some (.bl (decide (i < j))) := (rfl)
@[simp] theorem leD_i : leD (.int i) (.int j) = some (.bl (decide (i ≤ j))) := (rfl)
@[simp] theorem gtD_i : gtD (.int i) (.int j) = some (.bl (decide (j < i))) := (rfl)
@[simp] theorem geD_i : geD (.int i) (.int j) = some (.bl (decide (j ≤ i))) := (rfl)
/-! is, in -/
@[simp] theorem isD_n : isD a .non = some (.bl (isNone a)) := by cases a <;> rfl
@[simp] theorem isnD_n : isnD a .non = some (.bl (!isNone a)) := by cases a <;> rfl
@[simp] theorem isD_b {p q : Bool} : isD (.bl p) (.bl q) = some (.bl (decide (p = q))) := (rfl)
@[simp] theorem isnD_b {p q : Bool} : isnD (.bl p) (.bl q) = some (.bl (!decide (p = q))) := (rfl)
@[simp] theorem isNone_n : isNone .non = true := (rfl)
@[simp] theorem isNone_b {p : Bool} : isNone (.bl p) = false := (rfl)
@[simp] theorem isNone_i : isNone (.int i) = false := (rfl)
@[simp] theorem isNone_s : isNone (.str x) = false := (rfl)
@[simp] theorem isNone_l : isNone (.lst ds) = false := (rfl)
@[simp] theorem isNone_t : isNone (.tup ds) = false := (rfl)
@[simp] theorem isNone_o {C : Str} {fs : List (Str × D)} : isNone (.ins C fs) = false := (rfl)
@[simp] theorem inD_ap : inD a b = (inB a b).map .bl := (rfl)
@[simp] theorem ninD_ap : ninD a b = (inB a b).map fun c => .bl (!c) := (rfl)
/-! == -/
@[simp] theorem eqD_ap : eqD a b = (eqB a b).map .bl := (rfl)
@[simp] theorem neD_ap : neD a b = (eqB a b).map fun c => .bl (!c) := (rfl)
@[simp] theorem eqB_i : eqB (.int i) (.int j) = some (decide (i = j)) := (rfl)
/-! sequences -/
@[simp] theorem seqL_l : seqL (.lst ds) = some ds := (rfl)
@[simp] theorem seqL_r : seqL (.ro ds) = some ds := (rfl)
@[simp] theorem seqD_l : seqD (.lst ds) = some ds := (rfl)
@[simp] theorem seqD_r : seqD (.ro ds) = some ds := (rfl)
@[simp] theorem seqD_t : seqD (.tup ds) = some ds := (rfl)
@[simp] theorem ixD_l : ixD (.lst ds) (.int i) = L2.atI ds i := (rfl)
@[simp] theorem ixD_r : ixD (.ro ds) (.int i) = L2.atI ds i := (rfl)
@[simp] theorem ixD_t : ixD (.tup ds) (.int i) = L2.atI ds i := (rfl)
theorem atI_cons0 : L2.atI (a :: ds) 0 = some a := L2.atI_nat (xs := a :: ds) (j := 0) rfl
theorem atI_n {n : Nat} {v : D} (h : ds[n]? = some v) : L2.atI ds (n : Int) = some v := L2.atI_nat h
theorem atI_nn {v : D} (h0 : 0 ≤ i) (h : ds[i.toNat]? = some v) : L2.atI ds i = some v := by
  have := L2.atI_nat (xs := ds) (j := i.toNat) h
  rwa [Int.toNat_of_nonneg h0] at this
@[simp] theorem atI_lit0 : L2.atI (a :: ds) 0 = some a := atI_cons0
@[simp] theorem atI_lit1 : L2.atI (a :: b :: ds) 1 = some b := L2.atI_nat (xs := a :: b :: ds) (j := 1) rfl
@[simp] theorem atI_lit2 : L2.atI (a :: b :: c :: ds) 2 = some c := L2.atI_nat (xs := a :: b :: c :: ds) (j := 2) rfl
@[simp] theorem atI_lit3 {d : D} : L2.atI (a :: b :: c :: d :: ds) 3 = some d := L2.atI_nat (xs := a :: b :: c :: d :: ds) (j := 3) rfl
@[simp] theorem atI_lastS : L2.atI (ds ++ [a]) (-1) = some a := L2.atI_last ds a
@[simp] theorem slD_l {lo hi : Option Int} : slD (.lst ds) lo hi = some (.lst (cutD ds lo hi)) := (rfl)
@[simp] theorem slD_r {lo hi : Option Int} : slD (.ro ds) lo hi = some (.lst (cutD ds lo hi)) := (rfl)
@[simp] theorem slD_t {lo hi : Option Int} : slD (.tup ds) lo hi = some (.tup (cutD ds lo hi)) := (rfl)
@[simp] theorem slF_l {lo hi : Option Int} : slF (.lst ds) lo hi = some (cutD ds lo hi) := (rfl)
@[simp] theorem slF_r {lo hi : Option Int} : slF (.ro ds) lo hi = some (cutD ds lo hi) := (rfl)
/-! built-ins -/
@[simp] theorem lenD_l : lenD [.lst ds] = some (.int ds.length) := (rfl)
@[simp] theorem lenD_r : lenD [.ro ds] = some (.int ds.length) := (rfl)
@[simp] theorem lenD_t : lenD [.tup ds] = some (.int ds.length) := (rfl)
@[simp] theorem lenD_s : lenD [.str x] = if x.length ≤ mx then some (.int x.length) else none := (rfl)
@[simp] theorem absD_i : absD [.int i] = some (.int i.natAbs) := by
  show some (D.int (if i < 0 then -i else i)) = _
  congr 2
  split <;> omega
@[simp] theorem intD_i : intD [.int i] = some (.int i) := (rfl)
@[simp] theorem intD_b {p : Bool} : intD [.bl p] = some (.int (if p then 1 else 0)) := (rfl)
@[simp] theorem max2D_i : max2D [.int i, .int j] = some (.int (max i j)) := by
  show some (D.int (if j > i then j else i)) = _
  congr 2
  split <;> omega
@[simp] theorem min2D_i : min2D [.int i, .int j] = some (.int (min i j)) := by
  show some (D.int (if j < i then j else i)) = _
  congr 2
  split <;> omega
@[simp] theorem intsD_m {ns : List Int} : intsD (ns.map .int) = some ns := intsD_map ns
@[simp] theorem intsD_nil : intsD [] = some [] := (rfl)
@[simp] theorem intsD_cons : intsD (.int i :: ds) = (intsD ds).map (i :: ·) := (rfl)
def foE (f : List Int → Option Int) : Option (List Int) → Option D
  | some ns => (f ns).map .int
  | none => none
@[simp] theorem foldsD_l {f : List Int → Option Int} : foldsD f [.lst ds] = foE f (intsD ds) := (rfl)
@[simp] theorem foldsD_r {f : List Int → Option Int} : foldsD f [.ro ds] = foE f (intsD ds) := (rfl)
@[simp] theorem foE_ok {f : List Int → Option Int} {ns : List Int} : foE f (some ns) = (f ns).map .int := (rfl)
@[simp] theorem maxO_cons {ns : List Int} : maxO (i :: ns) = some (maxL i ns) := (rfl)
@[simp] theorem minO_cons {ns : List Int} : minO (i :: ns) = some (minL i ns) := (rfl)
@[simp] theorem listF_l : listF [.lst ds] = some ds := (rfl)
@[simp] theorem listF_r : listF [.ro ds] = some ds := (rfl)
@[simp] theorem listF_t : listF [.tup ds] = some ds := (rfl)
@[simp] theorem tupleD_l : tupleD [.lst ds] = some (.tup ds) := (rfl)
@[simp] theorem tupleD_r : tupleD [.ro ds] = some (.tup ds) := (rfl)
@[simp] theorem tupleD_t : tupleD [.tup ds] = some (.tup ds) := (rfl)
@[simp] theorem isiD_ap {T : String} : isiD T a = (typD a).map fun t => .bl (isiB t T) := (rfl)
@[simp] theorem typD_n : typD .non = some "NoneType" := (rfl)
@[simp] theorem typD_b {p : Bool} : typD (.bl p) = some "bool" := (rfl)
@[simp] theorem typD_i : typD (.int i) = some "int" := (rfl)
@[simp] theorem typD_s : typD (.str x) = some "str" := (rfl)
@[simp] theorem typD_l : typD (.lst ds) = some "list" := (rfl)
@[simp] theorem typD_t : typD (.tup ds) = some "tuple" := (rfl)
@[simp] theorem isi_ii : isiB "int" "int" = true := by decide
@[simp] theorem isi_bi : isiB "bool" "int" = true := by decide
@[simp] theorem isi_ib : isiB "int" "bool" = false := by decide
@[simp] theorem isi_bb : isiB "bool" "bool" = true := by decide
@[simp] theorem isi_ni : isiB "NoneType" "int" = false := by decide
@[simp] theorem isi_si : isiB "str" "int" = false := by decide
@[simp] theorem isi_li : isiB "list" "int" = false := by decide
@[simp] theorem isi_ti : isiB "tuple" "int" = false := by decide
@[simp] theorem isi_nt : isiB "NoneType" "tuple" = false := by decide
@[simp] theorem isi_bt : isiB "bool" "tuple" = false := by decide
@[simp] theorem isi_it : isiB "int" "tuple" = false := by decide
@[simp] theorem isi_st : isiB "str" "tuple" = false := by decide
@[simp] theorem isi_lt : isiB "list" "tuple" = false := by decide
@[simp] theorem isi_tt : isiB "tuple" "tuple" = true := by decide
@[simp] theorem isi_nl : isiB "NoneType" "list" = false := by decide
@[simp] theorem isi_bl : isiB "bool" "list" = false := by decide
@[simp] theorem isi_il : isiB "int" "list" = false := by decide
@[simp] theorem isi_sl : isiB "str" "list" = false := by decide
@[simp] theorem isi_ll : isiB "list" "list" = true := by decide
@[simp] theorem isi_tl : isiB "tuple" "list" = false := by decide
/-! truth -/
@[simp] theorem truD_n : truD .non = some false := (rfl)
@[simp] theorem truD_b {p : Bool} : truD (.bl p) = some p := (rfl)
@[simp] theorem truD_i : truD (.int i) = some (i != 0) := (rfl)
@[simp] theorem truD_l : truD (.lst ds) = some (!ds.isEmpty) := (rfl)
@[simp] theorem truD_t : truD (.tup ds) = some (!ds.isEmpty) := (rfl)
end
/-! ### loops -/
theorem range_get {lo : Int} {n i : Nat} {d : D} (h : (rangeD lo n)[i]? = some d) : i < n ∧ d = .int (lo + (i : Int)) := by
  unfold rangeD at h
  rw [List.getElem?_map] at h
  by_cases hi : i < n
  · rw [List.getElem?_range hi] at h
    exact ⟨hi, (Option.some.inj h).symm⟩
  · rw [List.getElem?_eq_none (by simpa using hi)] at h
    cases h
@[simp] theorem range_len {lo : Int} {n : Nat} : (rangeD lo n).length = n := by simp [rangeD]
@[simp] theorem forGo_nil {gm : GM} {b : SM} {ρ : Env} : forGo gm b [] ρ = .ok .nx ρ := (rfl)
@[simp] theorem rangeD_0 {lo : Int} : rangeD lo 0 = [] := (rfl)
theorem forGo_inv {gm : GM} {b : SM} (P : Nat → Env → Prop) : ∀ {ds : List D} {ρ : Env}, P 0 ρ → (∀ i d ρ, ds[i]? = some d → P i ρ → ∃ ρ1 ρ2, gm d ρ = some ρ1 ∧ b ρ1 = .ok .nx ρ2 ∧ P (i + 1) ρ2) → ∃ ρ', forGo gm b ds ρ = .ok .nx ρ' ∧ P ds.length ρ' := by
  intro ds
  induction ds generalizing P with
  | nil => exact fun {ρ} h _ => ⟨ρ, rfl, h⟩
  | cons d ds ih =>
    intro ρ h st
    obtain ⟨ρ1, ρ2, e1, e2, h2⟩ := st 0 d ρ rfl h
    obtain ⟨ρ', e3, h3⟩ := ih (fun i ρ => P (i + 1) ρ) h2 (fun i d ρ hd hp => st (i + 1) d ρ hd hp)
    refine ⟨ρ', ?_, h3⟩
    unfold forGo
    simp only [e1, e2]
    exact e3
/-- a loop whose slots at the head are f of a state; i turns done, the state of P i -/
theorem for_st {S : Type} {gm : GM} {b : SM} {ds : List D} (f : S → Env) (P : Nat → S → Prop) {s : S} (h0 : P 0 s)
    (st : ∀ i d s, ds[i]? = some d → P i s → ∃ ρ1 s', gm d (f s) = some ρ1 ∧ b ρ1 = .ok .nx (f s') ∧ P (i + 1) s') : ∃ s', forGo gm b ds (f s) = .ok .nx (f s') ∧ P ds.length s' := by
  obtain ⟨ρ', e, s', rfl, h⟩ := forGo_inv (gm := gm) (b := b) (ds := ds) (ρ := f s) (fun i ρ => ∃ s, ρ = f s ∧ P i s) ⟨s, rfl, h0⟩ (by
    rintro i d ρ hd ⟨s, rfl, hp⟩
    obtain ⟨ρ1, s', e1, e2, h⟩ := st i d s hd hp
    exact ⟨ρ1, _, e1, e2, s', rfl, h⟩)
  exact ⟨s', e, h⟩
/-- over a range -/
theorem for_rg {S : Type} {gm : GM} {b : SM} {lo : Int} {n : Nat} (f : S → Env) (P : Nat → S → Prop) {s : S} (h0 : P 0 s)
    (st : ∀ i s, i < n → P i s → ∃ ρ1 s', gm (.int (lo + (i : Int))) (f s) = some ρ1 ∧ b ρ1 = .ok .nx (f s') ∧ P (i + 1) s') : ∃ s', forGo gm b (rangeD lo n) (f s) = .ok .nx (f s') ∧ P n s' := by
  have := for_st (gm := gm) (b := b) (ds := rangeD lo n) f P h0 fun i d s hd hp => by
    obtain ⟨hi, rfl⟩ := range_get hd
    exact st i s hi hp
  rw [range_len] at this
  exact this
theorem for_rg0 {S : Type} {gm : GM} {b : SM} {n : Nat} (f : S → Env) (P : Nat → S → Prop) {s : S} (h0 : P 0 s)
    (st : ∀ i s, i < n → P i s → ∃ ρ1 s', gm (.int (i : Int)) (f s) = some ρ1 ∧ b ρ1 = .ok .nx (f s') ∧ P (i + 1) s') : ∃ s', forGo gm b (rangeD 0 n) (f s) = .ok .nx (f s') ∧ P n s' :=
  for_rg f P h0 fun i s hi hp => by
    rw [Int.zero_add]
    exact st i s hi hp
/-- the state by a function of the turn -/
theorem for_fn {gm : GM} {b : SM} {lo : Int} {n : Nat} (f : Nat → Env) (st : ∀ i, i < n → ∃ ρ1, gm (.int (lo + (i : Int))) (f i) = some ρ1 ∧ b ρ1 = .ok .nx (f (i + 1))) : forGo gm b (rangeD lo n) (f 0) = .ok .nx (f n) := by
  obtain ⟨s, e, rfl⟩ := for_rg (gm := gm) (b := b) (lo := lo) (n := n) (S := Nat) f (fun i s => s = i) (s := 0) rfl (by
    rintro i s hi rfl
    obtain ⟨ρ1, e1, e2⟩ := st s hi
    exact ⟨ρ1, s + 1, e1, e2, rfl⟩)
  exact e
theorem for_fn0 {gm : GM} {b : SM} {n : Nat} (f : Nat → Env) (st : ∀ i, i < n → ∃ ρ1, gm (.int (i : Int)) (f i) = some ρ1 ∧ b ρ1 = .ok .nx (f (i + 1))) : forGo gm b (rangeD 0 n) (f 0) = .ok .nx (f n) :=
  for_fn f fun i hi => by
    rw [Int.zero_add]
    exact st i hi
/-- over items that are images, the state a fold -/
theorem for_fold {α S : Type} {gm : GM} {b : SM} (c : α → D) (f : S → Env) (g : S → α → S) : ∀ {xs : List α} {s : S}, (∀ x ∈ xs, ∀ s, ∃ ρ1, gm (c x) (f s) = some ρ1 ∧ b ρ1 = .ok .nx (f (g s x))) → forGo gm b (xs.map c) (f s) = .ok .nx (f (xs.foldl g s))
  | [], _, _ => rfl
  | x :: xs, s, h => by
    obtain ⟨ρ1, e1, e2⟩ := h x List.mem_cons_self s
    rw [List.map_cons]
    unfold forGo
    simp only [e1, e2]
    exact for_fold c f g fun y hy => h y (List.mem_cons_of_mem _ hy)
/-! ### comprehensions -/
theorem lcGo_map {js : List Nat} {gm : GM} {me : EM} {ρ : Env} (f : D → D) : ∀ {ds acc : List D}, acc.length + ds.length ≤ mx → (∀ d ∈ ds, ∃ ρ1 x ρ2 ρ3, gm d (wipeE ρ js) = some ρ1 ∧ me ρ1 = .ok x ρ2 ∧ fz ρ2 x = some (f d, ρ3) ∧ restE ρ ρ3 js = ρ) →
    lcGo js gm mYes me ρ ds acc ρ = .ok (acc ++ ds.map f) ρ := by
  intro ds
  induction ds with
  | nil => intro acc _ _; simp [lcGo]
  | cons d ds ih =>
    intro acc hl h
    obtain ⟨ρ1, x, ρ2, ρ3, e1, e2, e3, e4⟩ := h d List.mem_cons_self
    have hl' : acc.length < mx := by simp at hl; omega
    unfold lcGo
    simp only [e1, mYes, bindR, e2, e3, e4, hl', if_true]
    rw [ih (by simp at hl ⊢; omega) (fun d hd => h d (List.mem_cons_of_mem _ hd))]
    simp
theorem fLc_map {im : IM} {js : List Nat} {gm : GM} {me : EM} {ρ ρ1 : Env} {ds : List D} (f : D → D) (hi : im ρ = .ok ds ρ1) (hc : clean ρ1 js = true) (hl : ds.length ≤ mx) (h : ∀ d ∈ ds, ∃ ρ2 x ρ3 ρ4, gm d (wipeE ρ1 js) = some ρ2 ∧ me ρ2 = .ok x ρ3 ∧ fz ρ3 x = some (f d, ρ4) ∧ restE ρ1 ρ4 js = ρ1) :
    fLc im js gm mYes me ρ = .ok (.lst (ds.map f)) ρ1 := by
  unfold fLc
  simp only [hi, bindR, hc, if_true]
  rw [lcGo_map f (by simpa using hl) h]
  simp
/-- over images: the items c x become e x -/
theorem fLc_im {α : Type} {im : IM} {js : List Nat} {gm : GM} {me : EM} {ρ ρ1 : Env} {xs : List α} (c e : α → D) (hi : im ρ = .ok (xs.map c) ρ1) (hc : clean ρ1 js = true) (hl : xs.length ≤ mx)
    (h : ∀ x ∈ xs, ∃ ρ2 z ρ3 ρ4, gm (c x) (wipeE ρ1 js) = some ρ2 ∧ me ρ2 = .ok z ρ3 ∧ fz ρ3 z = some (e x, ρ4) ∧ restE ρ1 ρ4 js = ρ1) : fLc im js gm mYes me ρ = .ok (.lst (xs.map e)) ρ1 := by
  unfold fLc
  simp only [hi, bindR, hc, if_true]
  suffices ∀ (ys : List α) (acc : List D), acc.length + ys.length ≤ mx → (∀ x ∈ ys, x ∈ xs) → lcGo js gm mYes me ρ1 (ys.map c) acc ρ1 = .ok (acc ++ ys.map e) ρ1 by
    rw [this xs [] (by simpa using hl) fun _ h => h]
    simp
  intro ys
  induction ys with
  | nil => intro acc _ _; simp [lcGo]
  | cons y ys ih =>
    intro acc hl hm
    obtain ⟨ρ2, z, ρ3, ρ4, e1, e2, e3, e4⟩ := h y (hm y List.mem_cons_self)
    have hl' : acc.length < mx := by simp at hl; omega
    rw [List.map_cons]
    unfold lcGo
    simp only [e1, mYes, bindR, e2, e3, e4, hl', if_true]
    rw [ih (acc ++ [e y]) (by simp at hl ⊢; omega) fun x hx => hm x (List.mem_cons_of_mem _ hx)]
    simp
/-- with a test -/
theorem fLc_if {α : Type} {im : IM} {js : List Nat} {gm : GM} {mt : TM} {me : EM} {ρ ρ1 : Env} {xs : List α} (c e : α → D) (p : α → Bool) (hi : im ρ = .ok (xs.map c) ρ1) (hc : clean ρ1 js = true) (hl : xs.length ≤ mx)
    (h : ∀ x ∈ xs, ∃ ρ2 ρt, gm (c x) (wipeE ρ1 js) = some ρ2 ∧ mt ρ2 = .ok (p x) ρt ∧ (p x = false → restE ρ1 ρt js = ρ1) ∧ (p x = true → ∃ z ρ3 ρ4, me ρt = .ok z ρ3 ∧ fz ρ3 z = some (e x, ρ4) ∧ restE ρ1 ρ4 js = ρ1)) :
    fLc im js gm mt me ρ = .ok (.lst ((xs.filter p).map e)) ρ1 := by
  unfold fLc
  simp only [hi, bindR, hc, if_true]
  suffices ∀ (ys : List α) (acc : List D), acc.length + ys.length ≤ mx → (∀ x ∈ ys, x ∈ xs) → lcGo js gm mt me ρ1 (ys.map c) acc ρ1 = .ok (acc ++ (ys.filter p).map e) ρ1 by
    rw [this xs [] (by simpa using hl) fun _ h => h]
    simp
  intro ys
  induction ys with
  | nil => intro acc _ _; simp [lcGo]
  | cons y ys ih =>
    intro acc hl hm
    obtain ⟨ρ2, ρt, e1, e2, e3, e4⟩ := h y (hm y List.mem_cons_self)
    have hl' : acc.length < mx := by simp at hl; omega
    rw [List.map_cons]
    unfold lcGo
    cases hp : p y with
    | false =>
      simp only [e1, bindR, e2, hp, Bool.false_eq_true, if_false, e3 hp]
      rw [ih acc (by simp at hl ⊢; omega) fun x hx => hm x (List.mem_cons_of_mem _ hx), List.filter_cons_of_neg (by simp [hp])]
    | true =>
      obtain ⟨z, ρ3, ρ4, q1, q2, q3⟩ := e4 hp
      simp only [e1, bindR, e2, hp, if_true, q1, q2, q3, hl']
      rw [ih (acc ++ [e y]) (by simp at hl ⊢; omega) fun x hx => hm x (List.mem_cons_of_mem _ hx), List.filter_cons_of_pos hp]
      simp
/-- a comprehension whose element changes a slot: the state f s -/
theorem lcGo_st {α S : Type} {js : List Nat} {gm : GM} {me : EM} (c : α → D) (f : S → Env) (e : S → α → D) (g : S → α → S) {ρ0 : Env} (P : S → Prop) : ∀ {xs : List α} {acc : List D} {s : S}, acc.length + xs.length ≤ mx → P s →
    (∀ x ∈ xs, ∀ s, P s → P (g s x) ∧ ∃ ρ1 z ρ2 ρ3, gm (c x) (wipeE (f s) js) = some ρ1 ∧ me ρ1 = .ok z ρ2 ∧ fz ρ2 z = some (e s x, ρ3) ∧ restE ρ0 ρ3 js = f (g s x)) →
    ∃ out : List D, lcGo js gm mYes me ρ0 (xs.map c) acc (f s) = .ok (acc ++ out) (f (xs.foldl g s)) ∧ out.length = xs.length ∧ P (xs.foldl g s) ∧ out = (xs.foldl (fun (p : List D × S) x => (p.1 ++ [e p.2 x], g p.2 x)) ([], s)).1
  | [], acc, s, _, hp, _ => ⟨[], by simp [lcGo], rfl, hp, rfl⟩
  | x :: xs, acc, s, hl, hp, h => by
    obtain ⟨hp', ρ1, z, ρ2, ρ3, e1, e2, e3, e4⟩ := h x List.mem_cons_self s hp
    obtain ⟨out, q1, q2, q3, q4⟩ := lcGo_st c f e g P (xs := xs) (acc := acc ++ [e s x]) (s := g s x) (by simp at hl ⊢; omega) hp' fun y hy => h y (List.mem_cons_of_mem _ hy)
    have hl' : acc.length < mx := by simp at hl; omega
    refine ⟨e s x :: out, ?_, by simp [q2], q3, ?_⟩
    · rw [List.map_cons]
      unfold lcGo
      simp only [e1, mYes, bindR, e2, e3, e4, hl', if_true, q1]
      simp
    · rw [q4, List.foldl_cons]
      have gen : ∀ (ys : List α) (p : List D) (t : S), (ys.foldl (fun (p : List D × S) x => (p.1 ++ [e p.2 x], g p.2 x)) (p, t)).1 = p ++ (ys.foldl (fun (p : List D × S) x => (p.1 ++ [e p.2 x], g p.2 x)) ([], t)).1 := by
        intro ys
        induction ys with
        | nil => intro p t; simp
        | cons y ys ih => intro p t; rw [List.foldl_cons, List.foldl_cons, ih, ih ([] ++ [e t y])]; simp
      exact (gen xs [e s x] (g s x)).symm
end DL
set_option Elab.async false
set_option linter.all false
set_option maxRecDepth 100000
set_option maxHeartbeats 4000000
/-! loops and comprehensions by one equation a turn -/
namespace DL
open PySem L2
def bdF (b : SM) : Option Env → Res Fl
  | some ρ1 => b ρ1
  | none => .bad
/-- a turn: the item d bound, the body -/
def bdE (gm : GM) (b : SM) (d : D) (ρ : Env) : Res Fl := bdF b (gm d ρ)
@[simp] theorem bdE_ap {gm : GM} {b : SM} {d : D} {ρ : Env} : bdE gm b d ρ = bdF b (gm d ρ) := (rfl)
@[simp] theorem bdF_ok {b : SM} {ρ : Env} : bdF b (some ρ) = b ρ := (rfl)
theorem bdE_nx {gm : GM} {b : SM} {d : D} {ρ : Env} {r : Res Fl} (h : bdE gm b d ρ = r) (hr : r ≠ .bad) : ∃ ρ1, gm d ρ = some ρ1 ∧ b ρ1 = r := by
  unfold bdE at h
  cases e : gm d ρ with
  | none => rw [e] at h; exact absurd h.symm hr
  | some ρ1 => rw [e] at h; exact ⟨ρ1, rfl, h⟩
theorem forGo_cons {gm : GM} {b : SM} {d : D} {ds : List D} {ρ ρ2 : Env} (h : bdE gm b d ρ = .ok .nx ρ2) : forGo gm b (d :: ds) ρ = forGo gm b ds ρ2 := by
  obtain ⟨ρ1, e1, e2⟩ := bdE_nx h (fun z => nomatch z)
  rw [forGo]
  simp only [e1, e2]
theorem forGo_cons_ct {gm : GM} {b : SM} {d : D} {ds : List D} {ρ ρ2 : Env} (h : bdE gm b d ρ = .ok .ct ρ2) : forGo gm b (d :: ds) ρ = forGo gm b ds ρ2 := by
  obtain ⟨ρ1, e1, e2⟩ := bdE_nx h (fun z => nomatch z)
  rw [forGo]
  simp only [e1, e2]
theorem forGo_cons_bk {gm : GM} {b : SM} {d : D} {ds : List D} {ρ ρ2 : Env} (h : bdE gm b d ρ = .ok .bk ρ2) : forGo gm b (d :: ds) ρ = .ok .nx ρ2 := by
  obtain ⟨ρ1, e1, e2⟩ := bdE_nx h (fun z => nomatch z)
  rw [forGo]
  simp only [e1, e2]
theorem forGo_cons_rt {gm : GM} {b : SM} {d : D} {ds : List D} {ρ ρ2 : Env} {l : L} (h : bdE gm b d ρ = .ok (.rt l) ρ2) : forGo gm b (d :: ds) ρ = .ok (.rt l) ρ2 := by
  obtain ⟨ρ1, e1, e2⟩ := bdE_nx h (fun z => nomatch z)
  rw [forGo]
  simp only [e1, e2]
theorem forGo_cons_ex {gm : GM} {b : SM} {d : D} {ds : List D} {ρ ρ2 : Env} {e : Exn} (h : bdE gm b d ρ = .ex e ρ2) : forGo gm b (d :: ds) ρ = .ex e ρ2 := by
  obtain ⟨ρ1, e1, e2⟩ := bdE_nx h (fun z => nomatch z)
  rw [forGo]
  simp only [e1, e2]
theorem fo_st {S : Type} {gm : GM} {b : SM} {ds : List D} (f : S → Env) (P : Nat → S → Prop) {s : S} (h0 : P 0 s)
    (st : ∀ i d s, ds[i]? = some d → P i s → ∃ s', bdE gm b d (f s) = .ok .nx (f s') ∧ P (i + 1) s') : ∃ s', forGo gm b ds (f s) = .ok .nx (f s') ∧ P ds.length s' :=
  for_st f P h0 fun i d s hd hp => by
    obtain ⟨s', e, hp'⟩ := st i d s hd hp
    obtain ⟨ρ1, e1, e2⟩ := bdE_nx e (fun z => nomatch z)
    exact ⟨ρ1, s', e1, e2, hp'⟩
theorem fo_rg {S : Type} {gm : GM} {b : SM} {lo : Int} {n : Nat} (f : S → Env) (P : Nat → S → Prop) {s : S} (h0 : P 0 s)
    (st : ∀ i s, i < n → P i s → ∃ s', bdE gm b (.int (lo + (i : Int))) (f s) = .ok .nx (f s') ∧ P (i + 1) s') : ∃ s', forGo gm b (rangeD lo n) (f s) = .ok .nx (f s') ∧ P n s' :=
  for_rg f P h0 fun i s hi hp => by
    obtain ⟨s', e, hp'⟩ := st i s hi hp
    obtain ⟨ρ1, e1, e2⟩ := bdE_nx e (fun z => nomatch z)
    exact ⟨ρ1, s', e1, e2, hp'⟩
theorem fo_rg0 {S : Type} {gm : GM} {b : SM} {n : Nat} (f : S → Env) (P : Nat → S → Prop) {s : S} (h0 : P 0 s)
    (st : ∀ i s, i < n → P i s → ∃ s', bdE gm b (.int (i : Int)) (f s) = .ok .nx (f s') ∧ P (i + 1) s') : ∃ s', forGo gm b (rangeD 0 n) (f s) = .ok .nx (f s') ∧ P n s' :=
  fo_rg f P h0 fun i s hi hp => by
    rw [Int.zero_add]
    exact st i s hi hp
theorem fo_fn {gm : GM} {b : SM} {lo : Int} {n : Nat} (f : Nat → Env) (st : ∀ i, i < n → bdE gm b (.int (lo + (i : Int))) (f i) = .ok .nx (f (i + 1))) : forGo gm b (rangeD lo n) (f 0) = .ok .nx (f n) :=
  for_fn f fun i hi => bdE_nx (st i hi) (fun z => nomatch z)
theorem fo_fn0 {gm : GM} {b : SM} {n : Nat} (f : Nat → Env) (st : ∀ i, i < n → bdE gm b (.int (i : Int)) (f i) = .ok .nx (f (i + 1))) : forGo gm b (rangeD 0 n) (f 0) = .ok .nx (f n) :=
  for_fn0 f fun i hi => bdE_nx (st i hi) (fun z => nomatch z)
/-- over a list of images, the state a function of the turn -/
theorem fo_ix {α : Type} {gm : GM} {b : SM} {xs : List α} (c : α → D) (f : Nat → Env) (st : ∀ i x, xs[i]? = some x → bdE gm b (c x) (f i) = .ok .nx (f (i + 1))) : forGo gm b (xs.map c) (f 0) = .ok .nx (f xs.length) := by
  obtain ⟨s, e, rfl⟩ := fo_st (gm := gm) (b := b) (ds := xs.map c) (S := Nat) f (fun i s => s = i) (s := 0) rfl (by
    rintro i d s hd rfl
    rw [List.getElem?_map] at hd
    obtain ⟨x, hx, rfl⟩ := Option.map_eq_some_iff.mp hd
    exact ⟨s + 1, st s x hx, rfl⟩)
  rw [List.length_map] at e
  exact e
theorem fo_fold {α S : Type} {gm : GM} {b : SM} (c : α → D) (f : S → Env) (g : S → α → S) {xs : List α} {s : S} (h : ∀ x ∈ xs, ∀ s, bdE gm b (c x) (f s) = .ok .nx (f (g s x))) : forGo gm b (xs.map c) (f s) = .ok .nx (f (xs.foldl g s)) :=
  for_fold c f g fun x hx s => bdE_nx (h x hx s) (fun z => nomatch z)
/-- nothing changes -/
theorem fo_same {α : Type} {gm : GM} {b : SM} {xs : List α} {c : α → D} {ρ : Env} (h : ∀ x ∈ xs, bdE gm b (c x) ρ = .ok .nx ρ) : forGo gm b (xs.map c) ρ = .ok .nx ρ := by
  have := fo_fold (gm := gm) (b := b) c (fun _ : Unit => ρ) (fun s _ => s) (xs := xs) (s := ()) fun x hx _ => h x hx
  exact this
/-! ### comprehensions -/
def lcF4 (ρ1 : Env) (js : List Nat) : Option (D × Env) → Option (D × Env)
  | some (y, ρ4) => some (y, restE ρ1 ρ4 js)
  | none => none
def lcF3 (ρ1 : Env) (js : List Nat) : Res X → Option (D × Env)
  | .ok z ρ3 => lcF4 ρ1 js (fz ρ3 z)
  | _ => none
def lcF2 (me : EM) (ρ1 : Env) (js : List Nat) : Option Env → Option (D × Env)
  | some ρ2 => lcF3 ρ1 js (me ρ2)
  | none => none
/-- an element of a comprehension: its value, the slots behind it -/
def lcE (gm : GM) (me : EM) (js : List Nat) (ρ1 : Env) (d : D) : Option (D × Env) := lcF2 me ρ1 js (gm d (wipeE ρ1 js))
section
variable {gm : GM} {me : EM} {mt : TM} {js : List Nat} {ρ ρ1 ρ2 ρ3 ρ4 : Env} {d y : D} {z : X} {b : Bool}
@[simp] theorem lcE_ap : lcE gm me js ρ1 d = lcF2 me ρ1 js (gm d (wipeE ρ1 js)) := (rfl)
@[simp] theorem lcF2_ok : lcF2 me ρ1 js (some ρ2) = lcF3 ρ1 js (me ρ2) := (rfl)
@[simp] theorem lcF3_ok : lcF3 ρ1 js (.ok z ρ3) = lcF4 ρ1 js (fz ρ3 z) := (rfl)
@[simp] theorem lcF4_ok : lcF4 ρ1 js (some (y, ρ4)) = some (y, restE ρ1 ρ4 js) := (rfl)
theorem lcE_some {p : D × Env} (h : lcE gm me js ρ1 d = some p) : ∃ ρ2 z ρ3 ρ4, gm d (wipeE ρ1 js) = some ρ2 ∧ me ρ2 = .ok z ρ3 ∧ fz ρ3 z = some (p.1, ρ4) ∧ restE ρ1 ρ4 js = p.2 := by
  unfold lcE at h
  cases e1 : gm d (wipeE ρ1 js) with
  | none => rw [e1] at h; cases h
  | some ρ2 =>
    rw [e1] at h
    have h : lcF3 ρ1 js (me ρ2) = some p := h
    cases e2 : me ρ2 with
    | bad => rw [e2] at h; cases h
    | ex _ _ => rw [e2] at h; cases h
    | ok z ρ3 =>
      rw [e2] at h
      have h : lcF4 ρ1 js (fz ρ3 z) = some p := h
      cases e3 : fz ρ3 z with
      | none => rw [e3] at h; cases h
      | some q =>
        rw [e3] at h
        obtain ⟨y, ρ4⟩ := q
        have h : some (y, restE ρ1 ρ4 js) = some p := h
        cases h
        exact ⟨ρ2, z, ρ3, ρ4, rfl, e2, e3, rfl⟩
theorem lc_im {α : Type} {im : IM} {xs : List α} (c e : α → D) (hi : im ρ = .ok (xs.map c) ρ1) (hc : clean ρ1 js = true) (hl : xs.length ≤ mx) (h : ∀ x ∈ xs, lcE gm me js ρ1 (c x) = some (e x, ρ1)) : fLc im js gm mYes me ρ = .ok (.lst (xs.map e)) ρ1 :=
  fLc_im c e hi hc hl fun x hx => by
    obtain ⟨ρ2, z, ρ3, ρ4, e1, e2, e3, e4⟩ := lcE_some (h x hx)
    exact ⟨ρ2, z, ρ3, ρ4, e1, e2, e3, e4⟩
def liF5 (ρ1 : Env) (js : List Nat) : Option (D × Env) → Option (Option D × Env)
  | some (y, ρ4) => some (some y, restE ρ1 ρ4 js)
  | none => none
def liF4 (ρ1 : Env) (js : List Nat) : Res X → Option (Option D × Env)
  | .ok z ρ3 => liF5 ρ1 js (fz ρ3 z)
  | _ => none
def liF3 (me : EM) (ρ1 : Env) (js : List Nat) : Res Bool → Option (Option D × Env)
  | .ok true ρt => liF4 ρ1 js (me ρt)
  | .ok false ρt => some (none, restE ρ1 ρt js)
  | _ => none
def liF2 (mt : TM) (me : EM) (ρ1 : Env) (js : List Nat) : Option Env → Option (Option D × Env)
  | some ρ2 => liF3 me ρ1 js (mt ρ2)
  | none => none
/-- .. with a test -/
def lcI (gm : GM) (mt : TM) (me : EM) (js : List Nat) (ρ1 : Env) (d : D) : Option (Option D × Env) := liF2 mt me ρ1 js (gm d (wipeE ρ1 js))
@[simp] theorem lcI_ap : lcI gm mt me js ρ1 d = liF2 mt me ρ1 js (gm d (wipeE ρ1 js)) := (rfl)
@[simp] theorem liF2_ok : liF2 mt me ρ1 js (some ρ2) = liF3 me ρ1 js (mt ρ2) := (rfl)
@[simp] theorem liF3_t : liF3 me ρ1 js (.ok true ρ2) = liF4 ρ1 js (me ρ2) := (rfl)
@[simp] theorem liF3_f : liF3 me ρ1 js (.ok false ρ2) = some (none, restE ρ1 ρ2 js) := (rfl)
@[simp] theorem liF4_ok : liF4 ρ1 js (.ok z ρ3) = liF5 ρ1 js (fz ρ3 z) := (rfl)
@[simp] theorem liF5_ok : liF5 ρ1 js (some (y, ρ4)) = some (some y, restE ρ1 ρ4 js) := (rfl)
theorem lcI_some {p : Option D × Env} (h : lcI gm mt me js ρ1 d = some p) : ∃ ρ2 ρt, gm d (wipeE ρ1 js) = some ρ2 ∧ ((mt ρ2 = .ok false ρt ∧ p = (none, restE ρ1 ρt js)) ∨ (mt ρ2 = .ok true ρt ∧ ∃ z ρ3 y ρ4, me ρt = .ok z ρ3 ∧ fz ρ3 z = some (y, ρ4) ∧ p = (some y, restE ρ1 ρ4 js))) := by
  unfold lcI at h
  cases e1 : gm d (wipeE ρ1 js) with
  | none => rw [e1] at h; cases h
  | some ρ2 =>
    rw [e1] at h
    have h : liF3 me ρ1 js (mt ρ2) = some p := h
    cases e2 : mt ρ2 with
    | bad => rw [e2] at h; cases h
    | ex _ _ => rw [e2] at h; cases h
    | ok t ρt =>
      rw [e2] at h
      cases t with
      | false => exact ⟨ρ2, ρt, rfl, .inl ⟨e2, (Option.some.inj h).symm⟩⟩
      | true =>
        have h : liF4 ρ1 js (me ρt) = some p := h
        cases e4 : me ρt with
        | bad => rw [e4] at h; cases h
        | ex _ _ => rw [e4] at h; cases h
        | ok z ρ3 =>
          rw [e4] at h
          have h : liF5 ρ1 js (fz ρ3 z) = some p := h
          cases e3 : fz ρ3 z with
          | none => rw [e3] at h; cases h
          | some q =>
            rw [e3] at h
            obtain ⟨y, ρ4⟩ := q
            exact ⟨ρ2, ρt, rfl, .inr ⟨e2, z, ρ3, y, ρ4, e4, e3, (Option.some.inj h).symm⟩⟩
theorem lc_if {α : Type} {im : IM} {xs : List α} (c e : α → D) (p : α → Bool) (hi : im ρ = .ok (xs.map c) ρ1) (hc : clean ρ1 js = true) (hl : xs.length ≤ mx)
    (ht : ∀ x ∈ xs, p x = true → lcI gm mt me js ρ1 (c x) = some (some (e x), ρ1)) (hf : ∀ x ∈ xs, p x = false → lcI gm mt me js ρ1 (c x) = some (none, ρ1)) :
    fLc im js gm mt me ρ = .ok (.lst ((xs.filter p).map e)) ρ1 :=
  fLc_if c e p hi hc hl fun x hx => by
    cases hp : p x with
    | true =>
      obtain ⟨ρ2, ρt, e1, h⟩ := lcI_some (ht x hx hp)
      rcases h with ⟨_, e⟩ | ⟨e2, z, ρ3, y, ρ4, e3, e4, e5⟩
      · cases (Prod.mk.inj e).1
      · obtain ⟨e6, e7⟩ := Prod.mk.inj e5
        cases e6
        exact ⟨ρ2, ρt, e1, e2, ⟨fun q => Bool.noConfusion q, fun _ => ⟨z, ρ3, ρ4, e3, e4, e7.symm⟩⟩⟩
    | false =>
      obtain ⟨ρ2, ρt, e1, h⟩ := lcI_some (hf x hx hp)
      rcases h with ⟨e2, e⟩ | ⟨e2, z, ρ3, y, ρ4, e3, e4, e5⟩
      · exact ⟨ρ2, ρt, e1, e2, ⟨fun _ => (Prod.mk.inj e).2.symm, fun q => Bool.noConfusion q⟩⟩
      · cases (Prod.mk.inj e5).1
end
end DL
set_option Elab.async false
set_option linter.all false
set_option maxRecDepth 100000
set_option maxHeartbeats 4000000
/-! == of data -/
namespace DL
open PySem L2
/-- a text that may lie -/
def strG (x : Str) : Bool := x.cps.all (· < 0x110000)
mutual
/-- plain data, at most k deep -/
def plD (k : Nat) : D → Bool
  | .non => true
  | .bl _ => true
  | .int _ => true
  | .str x => strG x
  | .lst ds => match k with
    | 0 => false
    | k + 1 => plDs k ds
  | .ro ds => match k with
    | 0 => false
    | k + 1 => plDs k ds
  | .tup ds => match k with
    | 0 => false
    | k + 1 => plDs k ds
  | .dct _ => false
  | .ins _ _ => false
def plDs (k : Nat) : List D → Bool
  | [] => true
  | d :: ds => plD k d && plDs k ds
end
mutual
/-- == -/
def eqP : D → D → Bool
  | .non, .non => true
  | .bl a, .bl b => a == b
  | .bl a, .int j => (if a then 1 else 0) == j
  | .int i, .bl b => i == (if b then 1 else 0)
  | .int i, .int j => i == j
  | .str x, .str y => x == y
  | .lst x, .lst y => eqPs x y
  | .lst x, .ro y => eqPs x y
  | .ro x, .lst y => eqPs x y
  | .ro x, .ro y => eqPs x y
  | .tup x, .tup y => eqPs x y
  | _, _ => false
def eqPs : List D → List D → Bool
  | [], [] => true
  | x :: xs, y :: ys => eqP x y && eqPs xs ys
  | _, _ => false
end
mutual
theorem plD_toP : ∀ (k : Nat) (d : D), plD k d = true → ∃ p, toP d = some p ∧ p.canLay0 = true ∧ p.depth ≤ k
  | k, .non, _ => ⟨_, rfl, rfl, Nat.zero_le _⟩
  | k, .bl _, _ => ⟨_, rfl, rfl, Nat.zero_le _⟩
  | k, .int _, _ => ⟨_, rfl, rfl, Nat.zero_le _⟩
  | k, .str x, h => ⟨_, rfl, by simpa [plD, PyData.canLay0, strG, PyData.strOk] using h, Nat.zero_le _⟩
  | 0, .lst ds, h => by simp [plD] at h
  | k + 1, .lst ds, h => by
    obtain ⟨ps, e, h1, h2⟩ := plDs_toPs k ds (by simpa [plD] using h)
    exact ⟨.list ps, by simp [toP, e], by simpa [PyData.canLay0] using h1, by simp [PyData.depth]; exact h2⟩
  | 0, .ro ds, h => by simp [plD] at h
  | k + 1, .ro ds, h => by
    obtain ⟨ps, e, h1, h2⟩ := plDs_toPs k ds (by simpa [plD] using h)
    exact ⟨.list ps, by simp [toP, e], by simpa [PyData.canLay0] using h1, by simp [PyData.depth]; exact h2⟩
  | 0, .tup ds, h => by simp [plD] at h
  | k + 1, .tup ds, h => by
    obtain ⟨ps, e, h1, h2⟩ := plDs_toPs k ds (by simpa [plD] using h)
    exact ⟨.tuple ps, by simp [toP, e], by simpa [PyData.canLay0] using h1, by simp [PyData.depth]; exact h2⟩
  | k, .dct _, h => by simp [plD] at h
  | k, .ins _ _, h => by simp [plD] at h
theorem plDs_toPs : ∀ (k : Nat) (ds : List D), plDs k ds = true → ∃ ps, toPs ds = some ps ∧ PyData.canLayAll0 ps = true ∧ PyData.depthAll ps ≤ k
  | k, [], _ => ⟨[], rfl, rfl, Nat.zero_le _⟩
  | k, d :: ds, h => by
    rw [plDs, Bool.and_eq_true] at h
    obtain ⟨p, e1, h1, h2⟩ := plD_toP k d h.1
    obtain ⟨ps, e2, h3, h4⟩ := plDs_toPs k ds h.2
    exact ⟨p :: ps, by simp [toPs, e1, e2], by simp [PyData.canLayAll0, h1, h3], by simp only [PyData.depthAll]; exact Nat.max_le.mpr ⟨h2, h4⟩⟩
end
mutual
theorem eqP_eqv : ∀ (a b : D) (p q : PyData), toP a = some p → toP b = some q → PyData.eqv p q = eqP a b
  | a, b, p, q, ha, hb => by
    cases a <;> simp only [toP, Option.map_eq_some_iff, reduceCtorEq, Option.some.injEq] at ha
    all_goals first | subst ha | (obtain ⟨ps, ea, rfl⟩ := ha)
    all_goals (cases b <;> simp only [toP, Option.map_eq_some_iff, reduceCtorEq, Option.some.injEq] at hb)
    all_goals first | subst hb | (obtain ⟨qs, eb, rfl⟩ := hb)
    all_goals first | rfl | (simp only [PyData.eqv, eqP]; exact eqPs_eqv _ _ _ _ ea eb) | simp only [PyData.eqv, eqP]
theorem eqPs_eqv : ∀ (as bs : List D) (ps qs : List PyData), toPs as = some ps → toPs bs = some qs → PyData.eqvAll ps qs = eqPs as bs
  | [], [], ps, qs, ha, hb => by cases ha; cases hb; rfl
  | [], b :: bs, ps, qs, ha, hb => by
    cases ha
    rw [toPs] at hb
    split at hb
    · cases hb; rfl
    · cases hb
  | a :: as, [], ps, qs, ha, hb => by
    cases hb
    rw [toPs] at ha
    split at ha
    · cases ha; rfl
    · cases ha
  | a :: as, b :: bs, ps, qs, ha, hb => by
    rw [toPs] at ha hb
    split at ha
    · rename_i p ps' e1 e2
      split at hb
      · rename_i q qs' e3 e4
        cases ha
        cases hb
        rw [PyData.eqvAll, eqPs, eqP_eqv a b p q e1 e3, eqPs_eqv as bs ps' qs' e2 e4]
      · cases hb
    · cases ha
end
theorem eqB_pl {a b : D} (ha : plD 60 a = true) (hb : plD 60 b = true) : eqB a b = some (eqP a b) := by
  obtain ⟨p, e1, h1, h2⟩ := plD_toP 60 a ha
  obtain ⟨q, e2, h3, h4⟩ := plD_toP 60 b hb
  have h5 := eqP_eqv a b p q e1 e2
  have s1 : SeqAt.shaped p = true := by unfold SeqAt.shaped; simp [h1]; omega
  have s2 : SeqAt.shaped q = true := by unfold SeqAt.shaped; simp [h3]; omega
  unfold eqB
  split
  · rfl
  · rw [e1, e2]
    simp only
    rw [if_pos ⟨s1, s2⟩, h5]
section
variable {k : Nat} {a b : D} {ds es : List D} {i j : Int} {x y : Str} {p q : Bool}
@[simp] theorem plD_n : plD k .non = true := by simp [plD]
@[simp] theorem plD_b : plD k (.bl p) = true := by simp [plD]
@[simp] theorem plD_i : plD k (.int i) = true := by simp [plD]
@[simp] theorem plD_s : plD k (.str x) = strG x := by simp [plD]
@[simp] theorem plD_l : plD (k + 1) (.lst ds) = plDs k ds := by simp [plD]
@[simp] theorem plD_r : plD (k + 1) (.ro ds) = plDs k ds := by simp [plD]
@[simp] theorem plD_t : plD (k + 1) (.tup ds) = plDs k ds := by simp [plD]
@[simp] theorem plDs_nil : plDs k [] = true := by simp [plDs]
@[simp] theorem plDs_cons : plDs k (a :: ds) = (plD k a && plDs k ds) := by simp [plDs]
theorem plDs_iff : plDs k ds = true ↔ ∀ d ∈ ds, plD k d = true := by
  induction ds with
  | nil => simp
  | cons d ds ih => simp [ih]
@[simp] theorem plDs_app : plDs k (ds ++ es) = (plDs k ds && plDs k es) := by
  induction ds with
  | nil => simp
  | cons d ds ih => simp [ih, Bool.and_assoc]
@[simp] theorem plDs_ints {ns : List Int} : plDs k (ns.map .int) = true := plDs_iff.mpr fun d hd => by
  obtain ⟨n, _, rfl⟩ := List.mem_map.mp hd
  simp
theorem plDs_map {α : Type} {f : α → D} {xs : List α} (h : ∀ x ∈ xs, plD k (f x) = true) : plDs k (xs.map f) = true := plDs_iff.mpr fun d hd => by
  obtain ⟨n, hn, rfl⟩ := List.mem_map.mp hd
  exact h n hn
@[simp] theorem eqB_nn : eqB .non .non = some true := by rw [eqB_pl (by simp) (by simp)]; simp [eqP]
@[simp] theorem eqB_bb : eqB (.bl p) (.bl q) = some (p == q) := by rw [eqB_pl (by simp) (by simp)]; simp [eqP]
@[simp] theorem eqB_ni : eqB .non (.int i) = some false := by rw [eqB_pl (by simp) (by simp)]; simp [eqP]
@[simp] theorem eqB_in : eqB (.int i) .non = some false := by rw [eqB_pl (by simp) (by simp)]; simp [eqP]
@[simp] theorem eqB_ss (hx : strG x = true) (hy : strG y = true) : eqB (.str x) (.str y) = some (x == y) := by rw [eqB_pl (by simpa using hx) (by simpa using hy)]; simp [eqP]
@[simp] theorem eqB_ll (h1 : plDs 59 ds = true) (h2 : plDs 59 es = true) : eqB (.lst ds) (.lst es) = some (eqPs ds es) := by rw [eqB_pl (by simpa using h1) (by simpa using h2)]; simp [eqP]
@[simp] theorem eqB_tt (h1 : plDs 59 ds = true) (h2 : plDs 59 es = true) : eqB (.tup ds) (.tup es) = some (eqPs ds es) := by rw [eqB_pl (by simpa using h1) (by simpa using h2)]; simp [eqP]
@[simp] theorem eqB_nl (h : plDs 59 ds = true) : eqB .non (.lst ds) = some false := by rw [eqB_pl (by simp) (by simpa using h)]; simp [eqP]
@[simp] theorem eqB_ln (h : plDs 59 ds = true) : eqB (.lst ds) .non = some false := by rw [eqB_pl (by simpa using h) (by simp)]; simp [eqP]
@[simp] theorem eqB_nt (h : plDs 59 ds = true) : eqB .non (.tup ds) = some false := by rw [eqB_pl (by simp) (by simpa using h)]; simp [eqP]
@[simp] theorem eqB_tn (h : plDs 59 ds = true) : eqB (.tup ds) .non = some false := by rw [eqB_pl (by simpa using h) (by simp)]; simp [eqP]
@[simp] theorem eqB_lt (h1 : plDs 59 ds = true) (h2 : plDs 59 es = true) : eqB (.lst ds) (.tup es) = some false := by rw [eqB_pl (by simpa using h1) (by simpa using h2)]; simp [eqP]
@[simp] theorem eqB_tl (h1 : plDs 59 ds = true) (h2 : plDs 59 es = true) : eqB (.tup ds) (.lst es) = some false := by rw [eqB_pl (by simpa using h1) (by simpa using h2)]; simp [eqP]
@[simp] theorem eqP_i : eqP (.int i) (.int j) = (i == j) := by simp [eqP]
@[simp] theorem eqP_b : eqP (.bl p) (.bl q) = (p == q) := by simp [eqP]
@[simp] theorem eqP_n : eqP .non .non = true := by simp [eqP]
@[simp] theorem eqP_s : eqP (.str x) (.str y) = (x == y) := by simp [eqP]
@[simp] theorem eqP_l : eqP (.lst ds) (.lst es) = eqPs ds es := by simp [eqP]
@[simp] theorem eqP_t : eqP (.tup ds) (.tup es) = eqPs ds es := by simp [eqP]
@[simp] theorem eqP_nt : eqP .non (.tup ds) = false := by simp [eqP]
@[simp] theorem eqP_tn : eqP (.tup ds) .non = false := by simp [eqP]
@[simp] theorem eqP_nl : eqP .non (.lst ds) = false := by simp [eqP]
@[simp] theorem eqP_ln : eqP (.lst ds) .non = false := by simp [eqP]
@[simp] theorem eqPs_nn : eqPs [] [] = true := by simp [eqPs]
@[simp] theorem eqPs_cc : eqPs (a :: ds) (b :: es) = (eqP a b && eqPs ds es) := by simp [eqPs]
@[simp] theorem eqPs_nc : eqPs [] (b :: es) = false := by simp [eqPs]
@[simp] theorem eqPs_cn : eqPs (a :: ds) [] = false := by simp [eqPs]
/-- lists of images under a faithful map -/
theorem eqPs_map {α : Type} [DecidableEq α] {f : α → D} (h : ∀ x y, eqP (f x) (f y) = decide (x = y)) : ∀ {xs ys : List α}, eqPs (xs.map f) (ys.map f) = decide (xs = ys)
  | [], [] => by simp
  | [], y :: ys => by simp
  | x :: xs, [] => by simp
  | x :: xs, y :: ys => by
    rw [List.map_cons, List.map_cons, eqPs_cc, h, eqPs_map h]
    by_cases e1 : x = y <;> by_cases e2 : xs = ys <;> simp [e1, e2]
@[simp] theorem eqPs_ints {xs ys : List Int} : eqPs (xs.map .int) (ys.map .int) = decide (xs = ys) := eqPs_map fun x y => by rw [eqP_i]; by_cases h : x = y <;> simp [h]
end
end DL
set_option Elab.async false
set_option linter.all false
set_option maxRecDepth 100000
set_option maxHeartbeats 4000000
/-! isinstance of a held error -/
namespace PySem.ErrX
open PySem PySem.W PySem.Spec PySem.Calls PyProof.Rows
section
variable {pg : Program} {wd : World} {Ar : Around} {EE : Value → Shared → Prop} {st : Shared} {F : Frag} {ex De : Addr} {oe : Obj} {odd : Option Obj}
theorem find_data {nm : Str} {at_ gt : Value} (h1 : (clsIn F De).isSome = true) (h2 : findIn F (.ref De) nm = some (some at_)) (h3 : specialIn F at_ "__get__" = some (some gt)) (h4 : takesIn F at_ = some true) : findObj F De odd nm = some (.bind gt at_) := by
  obtain ⟨q, h1⟩ := Option.isSome_iff_exists.mp h1
  rw [findObj, h1, Option.bind_some, h2, Option.bind_some]
  simp [h3, h4]
abbrev oCls : Value := .builtin "object.__class__"
theorem err_class {QQ : Option Value → Shared → Prop} (C : L2.ExcC F De) (X : F.In st.heap) (I : InstAt st.heap ex oe De odd) (fin : QQ (some (.ref De)) { st with toks := st.toks + 1 }) : wpAny (model pg wd) Ar (getAttr? (.ref ex) "__class__") QQ EE st := by
  have ff : findObj F De odd "__class__" = some (.bind (.builtin "getset_descriptor.__get__") oCls) := find_data (by obtain ⟨q, e, _⟩ := any_some C.hd; rw [e]; rfl) C.ha C.hn C.ht
  obtain ⟨hh, gg, dd, tt, oo⟩ := st
  have k0 := I.type (M := model pg wd)
  have k1 := looks_findIn (M := model pg wd) X C.hg
  have k2 := looks_findIn (M := model pg wd) X C.hk
  have k3 := looks_find (M := model pg wd) X I ff
  have kb : Looks (model pg wd) hh (isInstance (.ref ex) (.type "BaseException")) true := k0.andThen (looks_subIn X C.hs)
  have n0 : (false && onTheHeap (Value.builtin "BaseException.__getattribute__")) = false := rfl
  have n2 : (Value.builtin "BaseException.__getattribute__" == .builtin "object.__getattribute__") = false := by decide +kernel
  have n1 : (onTheHeap (Value.ref De) && Value.builtin "BaseException.__getattribute__" == .builtin "object.__getattribute__") = false := by rw [n2] <;> rfl
  unfold getAttr?; unfold getAttrBy?; unfold getAttrBy
  refine wpAny_bind (wpAny_mkText (wpAny_bind (wpAny_attempt (wpAny_holding (wpAny_bind (k0.at (wpAny_bind (k1.at ?_))))))))
  show wpAny _ _ (if (onTheHeap (Value.ref De) && Value.builtin "BaseException.__getattribute__" == .builtin "object.__getattribute__") = true then _ else _) _ _ _
  rw [n1, if_neg Bool.false_ne_true, getAttrByItsOwn, hookBefore]
  refine wpAny_bind ?_
  rw [if_pos (show onTheHeap (Value.ref De) = true from rfl)]
  refine k2.at (wpAny_bind (wpAny_attempt (wpAny_holding ?_)))
  rw [callGetattribute, n0, if_neg Bool.false_ne_true, boundAndCalled, PySem.F.excAttr_ValueError.ga.bind (.ref ex)]
  refine wpAny_bind (wpAny_pure ?_)
  show wpAny _ _ (call (.builtin "BaseException.__getattribute__") [.ref ex, .str "__class__" tt]) _ _ _
  refine wpAny_call (codeAny_call_builtin PySem.F.excAttr_ValueError.ga.plain PySem.F.entry_bexc_ga ?_)
  refine @check_slot (model pg wd) _ _ ⟨hh, gg, dd, tt + 1, oo⟩ "BaseException.__getattribute__" "BaseException" "__getattribute__" (.ref ex) [.str "__class__" tt] [] _ (by decide +kernel) (by decide +kernel) kb (PySem.F.args_bexc_ga (.ref ex) (.str "__class__" tt)) ?_
  rw [Builtin.«object.__getattribute__»]
  refine wpAny_bind (wpAny_of_eq (a := ((Value.ref ex : Value), [Value.str "__class__" tt])) (by first | rfl | (simp only [slotArgs]; rfl)) ?_)
  refine wpAny_bind (wpAny_pure (wpAny_bind (k0.at (wpAny_bind (k3.at ?_)))))
  show wpAny _ _ (holding [oCls] (call (.builtin "getset_descriptor.__get__") [oCls, .ref ex, .ref De]) >>= ret) _ _ _
  refine wpAny_bind (wpAny_holding (wpAny_call (class_get (s := ⟨hh, gg, dd, tt + 1, oo⟩) (ox := oe) (od := odd) X I C.hm ?_)))
  refine wpAny_pure ?_
  show wpAny _ _ (handedOut (.ref De)) _ _ _
  rw [handedOut_of (v := .ref De) rfl]
  first
    | exact wpAny_pure (wpAny_pure fin)
    | exact wpAny_pure fin
    | exact wpAny_pure (wpAny_bind (wpAny_pure (wpAny_pure fin)))
theorem cls_obj (C : L2.ExcC F De) : ∃ dd cd sl, F.lookup De = some ⟨.type "type", dd, .cls cd, sl⟩ ∨ ∃ c, F.lookup De = some ⟨c, dd, .cls cd, sl⟩ := by
  obtain ⟨cd, hc, _⟩ := any_some C.hd
  unfold clsIn at hc
  split at hc
  · rename_i c d cd' sl ho
    exact ⟨d, cd', sl, .inr ⟨c, ho⟩⟩
  · cases hc
theorem err_kit (C : L2.ExcC F De) : KitX F (.ref ex) (.ref De) (fun h => InstAt h ex oe De odd) where
  ty := fun _ _ _ I => I.type
  it := fun _ _ X _ => by
    obtain ⟨d, cd, sl, h⟩ := cls_obj C
    obtain ⟨c, ho⟩ : ∃ c, F.lookup De = some ⟨c, d, .cls cd, sl⟩ := h.elim (fun z => ⟨_, z⟩) id
    intro A' Q' E' s' k q
    rw [isType, loadHead]
    exact wpAny_bind (wpAny_loadPart (k _ _ (X _ _ ho)) (wpAny_pure q))
  ne := fun h tp dd its n sl X htp => by
    obtain ⟨d, cd, sl', hh⟩ := cls_obj C
    obtain ⟨c, ho⟩ : ∃ c, F.lookup De = some ⟨c, d, .cls cd, sl'⟩ := hh.elim (fun z => ⟨_, z⟩) id
    refine Bool.eq_false_iff.mpr fun q => ?_
    have e : De = tp := Value.ref.inj (beq_iff_eq.mp q)
    subst e
    cases (X _ _ ho).symm.trans htp
  ca := fun X I k => err_class C X I k
end
end PySem.ErrX
namespace DL
open PySem PySem.Spec PyProof.Rows L2
/-- facts of an error class for isinstance -/
def isxB (K : PySem.W.Frag) (D : Addr) : Bool := xfB K D && (eO (PySem.W.findIn K (.ref D) "__class__") (some (some (.builtin "object.__class__"))) && (decide (PySem.W.specialIn K (.builtin "object.__class__") "__get__" = some (some (.builtin "getset_descriptor.__get__"))) &&
  (decide (PySem.W.takesIn K (.builtin "object.__class__") = some true) && decide (PySem.W.mroIn K D (.type "object") = some true))))
theorem isxB_ok {K : PySem.W.Frag} {D : Addr} (h : isxB K D = true) : L2.ExcC K D := by
  unfold isxB at h
  simp only [Bool.and_eq_true] at h
  obtain ⟨h1, h2, h3, h4, h5⟩ := h
  have x : XfC K D := xfB_ok h1
  exact ⟨x.ga, x.gg, x.exC, x.hdC, He.eqO_ok h2, of_decide_eq_true h3, of_decide_eq_true h4, of_decide_eq_true h5⟩
/-- a class named in isinstance: one's own, a built-in -/
inductive CN where
  | own (x : Str) | ty (n : String)
def CN.v (K : PySem.W.Frag) : CN → V
  | .own x => .ref (cA K x)
  | .ty n => .ty n
def CN.u (K : PySem.W.Frag) : CN → Value
  | .own x => .ref (cA K x)
  | .ty n => .type n
theorem CN.rel (K : PySem.W.Frag) (c : CN) : RelV (c.v K) (c.u K) := by cases c <;> rfl
theorem CN.eq {K : PySem.W.Frag} {c : CN} {u : Value} (h : RelV (c.v K) u) : u = c.u K := by
  cases c with
  | own x => exact h
  | ty n => exact h
def errHas (H : Hp) (d : Option Addr) : Prop := ∃ dd fs, d = some dd ∧ H dd = some (.xd fs)
theorem err_inst {X : Cx} {a : Addr} {oe : Obj} {cls : Value} {d : Option Addr} {pn : List (Addr × Obj)} {D : Addr} {σ : L2.St} {H : Hp} {s : Shared} {pins : List (Addr × Obj)} (hz : Zc cls d oe) (hf : ∃ vs, oe.data = .fields vs) (I : Inv (X.suite a ((a, oe) :: pn)) pins σ H s) (ec : cls = .ref D) (hd : errHas H d) :
    ∃ odd, PySem.W.InstAt s.heap a oe D (some odd) := by
  obtain ⟨dd, fs, rfl, ea⟩ := hd
  subst ec
  obtain ⟨ha, _⟩ := I.pin (a, oe) (List.mem_append_left _ List.mem_cons_self)
  obtain ⟨vs, hv⟩ := hf
  obtain ⟨mA, hns, _⟩ : ObjOk X.prog X.w H s.heap dd (.xd fs) := I.hok dd _ ea
  obtain ⟨od, _, _, ho, _⟩ := hns
  exact ⟨od, ha, hz.1, by unfold PySem.W.notCls; rw [hv] <;> rfl, by rw [hz.2]; exact ho⟩
/-- isinstance(e, c), e the error that the suite holds -/
def rIsX (K : PySem.W.Frag) (a : Addr) (cls : Value) (d : Option Addr) (C : Str) (c : CN) (b : Bool) : List V → Hp → VK → Prop := fun xs H Q => xs = [.ref a, c.v K] ∧ cls = .ref (cA K C) ∧ errHas H d ∧ Q (.bl b) H
def rIsXT (K : PySem.W.Frag) (a : Addr) (cls : Value) (d : Option Addr) (C : Str) (cs : List CN) (b : Bool) : List V → Hp → VK → Prop := fun xs H Q => ∃ p, xs = [.ref a, .ref p] ∧ H p = some (.tup (cs.map (CN.v K))) ∧ cls = .ref (cA K C) ∧ errHas H d ∧ Q (.bl b) H
theorem CN.alls {K : PySem.W.Frag} : ∀ {cs : List CN} {us : List Value}, Vals (cs.map (CN.v K)) us → us = cs.map (CN.u K)
  | [], _, .nil => rfl
  | c :: cs, _, .cons h t => by rw [CN.eq h, CN.alls t]; rfl
section
variable {X : Cx} {a : Addr} {oe : Obj} {cls : Value} {d : Option Addr} {pn : List (Addr × Obj)} {C : Str} {c : CN} {cs : List CN} {b : Bool}
theorem call_isX (T : L2.ExcC X.K (cA X.K C)) (k : PySem.W.kitOne X.K (.ref (cA X.K C)) (c.u X.K) = some b) (hz : Zc cls d oe) (hf : ∃ vs, oe.data = .fields vs) : CallR (X.suite a ((a, oe) :: pn)) (.builtin "isinstance") (rIsX X.K a cls d C c b) := by
  intro pins s σ H xs us Q I r h
  obtain ⟨rfl, ec, hd, q⟩ := h
  cases r with
  | cons rx rr =>
    cases rr with
    | cons rt rr =>
      cases rr
      cases rx
      have et := CN.eq rt
      subst et
      obtain ⟨odd, J⟩ := err_inst hz hf I ec hd
      exact PySem.W.kia_one (PySem.ErrX.err_kit (odd := some odd) T) I.kIn J k (fun z => nomatch z) fun tk => ⟨.bl b, H, I.kept (t' := tk) fun _ _ z => z, rfl, q⟩
theorem call_isXT (T : L2.ExcC X.K (cA X.K C)) (k : PySem.W.kitAny X.K (.ref (cA X.K C)) (cs.map (CN.u X.K)) = some b) (hz : Zc cls d oe) (hf : ∃ vs, oe.data = .fields vs) : CallR (X.suite a ((a, oe) :: pn)) (.builtin "isinstance") (rIsXT X.K a cls d C cs b) := by
  intro pins s σ H xs us Q I r h
  obtain ⟨p, rfl, hp, ec, hd, q⟩ := h
  cases r with
  | cons rx rr =>
    cases rr with
    | cons rt rr =>
      cases rr
      cases rx
      cases rt
      obtain ⟨odd, J⟩ := err_inst hz hf I ec hd
      obtain ⟨_, its, rv, o, g1, g2, n, g3⟩ := (show ObjOk X.prog X.w H s.heap p (.tup (cs.map (CN.v X.K))) from I.hok p _ hp)
      have e3 := CN.alls rv
      subst e3
      obtain ⟨oc, od, dt, sl⟩ := o
      simp only at g2 g3
      subst g2 g3
      exact PySem.W.kia_tup (PySem.ErrX.err_kit (odd := some odd) T) I.kIn J g1 k (fun z => nomatch z) fun tk => ⟨.bl b, H, I.kept (t' := tk) fun _ _ z => z, rfl, q⟩
end
def eIsX (e : Exn) (C : Str) (b : Bool) (i : Nat) : EM := fun ρ => match ρ[i]? with
  | some (some .xh) => if e.cls = C ∧ e.fs.isSome = true then .ok (.d (.bl b)) ρ else .bad
  | _ => .bad
section
variable {F : PySem.W.Frag} {a : Addr} {cls : Value} {d : Option Addr} {e : Exn} {C : Str} {i : Nat} {b : Bool} {W : WX}
theorem isx_facts {σ : L2.St} {G H : Hp} {ρ : Env} {Q : VK} (R : Rel ⟨F, some ⟨a, cls, d, e⟩⟩ σ G H ρ) (h : EPost ⟨F, some ⟨a, cls, d, e⟩⟩ W σ G H ρ Q (eIsX e C b i ρ)) :
    (∃ v, σ[i]? = some (some v) ∧ v = .ref a) ∧ cls = .ref (cA F C) ∧ errHas G d ∧ EPost ⟨F, some ⟨a, cls, d, e⟩⟩ W σ G H ρ Q (.ok (.d (.bl b)) ρ) := by
  unfold eIsX at h
  split at h
  · rename_i hx
    split at h
    · rename_i hc
      obtain ⟨v, hv, hl⟩ := R.at_ i _ hx
      have hl := hl ⟨a, cls, d, e⟩ rfl
      obtain ⟨x1, x2⟩ := R.exo ⟨a, cls, d, e⟩ rfl
      refine ⟨⟨v, hv, hl⟩, x1.trans (by rw [hc.1]), ?_, h⟩
      cases e1 : e.fs with
      | none => rw [e1] at hc; cases hc.2
      | some fs =>
        simp only [e1] at x2
        obtain ⟨dd, vs, rfl, hg, hf⟩ := x2
        exact ⟨dd, vs, rfl, hg⟩
    · exact h.elim
  · exact h.elim
theorem errHas.mono {G G' : Hp} (s : Same G G') (h : errHas G d) : errHas G' d := let ⟨dd, fs, e1, e2⟩ := h; ⟨dd, fs, e1, s _ _ e2⟩
theorem ev_isX {c : CN} : EvOk ⟨F, some ⟨a, cls, d, e⟩⟩ W (tCB (rIsX F a cls d C c b) (tCons (tVar i) (tCons (tC (c.v F)) tNil))) (eIsX e C b i) := fun σ G H ρ R Q h => by
  obtain ⟨⟨v, hv, rfl⟩, h1, h2, h3⟩ := isx_facts R h
  exact ⟨_, hv, rfl, h1, h2.mono R.same, h3 _ _ _ (Stp.refl _ _ _ _) R (.bl b)⟩
def tCNs (F : PySem.W.Frag) : List CN → TA
  | [] => tNil
  | c :: cs => tCons (tC (c.v F)) (tCNs F cs)
theorem tCNs_run {σ : L2.St} {H : Hp} : ∀ {cs : List CN} {Q : List V → Hp → Prop}, Q (cs.map (CN.v F)) H → tCNs F cs σ H Q
  | [], _, h => h
  | c :: cs, Q, h => tCNs_run (cs := cs) (Q := fun vs H1 => Q (c.v F :: vs) H1) h
theorem ev_isXT {cs : List CN} (hl : cs.length ≤ mx) : EvOk ⟨F, some ⟨a, cls, d, e⟩⟩ W (tCB (rIsXT F a cls d C cs b) (tCons (tVar i) (tCons (tTup (tCNs F cs)) tNil))) (eIsX e C b i) := fun σ G H ρ R Q h => by
  obtain ⟨⟨v, hv, rfl⟩, h1, h2, h3⟩ := isx_facts R h
  refine ⟨_, hv, tCNs_run ⟨by rw [List.length_map]; exact small_size hl, fun p hp => ?_⟩⟩
  have g := Gro.new (o := .tup (cs.map (CN.v F))) R.same hp
  refine ⟨p, rfl, upd_same, h1, (h2.mono g.g).mono g.s, h3 _ _ _ g.stp (R.gro g) (.bl b)⟩
end
section
variable {X : Cx} {x : Str} {p pos pt : Pos}
theorem pe_own (hg : Gl X x) (hm : X.mg x = some (.ref (cA X.K x))) (hd : (x == ("__debug__" : Str)) = false := by decide) : PE X (.Name x p) (tC ((CN.own x).v X.K)) := pe_glob hg hm rfl hd
theorem pe_ty {n : String} (hg : Gl X x) (hm : X.mg x = none) (hv : bootBuiltins x = some (.type n)) (hn : x ≠ "__name__" := by decide) (hd : (x == ("__debug__" : Str)) = false := by decide) : PE X (.Name x p) (tC ((CN.ty n).v X.K)) := pe_bltn hg hm hv rfl hn hd
theorem pa_cn {c : CN} {cs : List CN} {e : Expr} {es : List Expr} (h : PE X e (tC (c.v X.K))) (t : PA X es (tCNs X.K cs)) (hs : starEach (e :: es) X.env = (false, eval e X.env) :: starEach es X.env := by rfl) : PA X (e :: es) (tCNs X.K (c :: cs)) := pa_cons h t hs
theorem pa_cn0 : PA X [] (tCNs X.K []) := pa_nil
end
section
variable {X : Cx} {W : WX} {a : Addr} {oe : Obj} {cls : Value} {d : Option Addr} {pn : List (Addr × Obj)} {ex : Exn} {C x : Str} {c : CN} {cs : List CN} {b : Bool} {i : Nat} {ec : Expr} {es : List Expr} {k0 : ExprCtx} {p pos pt pi : Pos}
theorem le_mx3 {n : Nat} (h : n ≤ 100) : n ≤ mx := Nat.le_trans h (by decide)
theorem je_isX (hm : X.mg "isinstance" = none) (T : L2.ExcC X.K (cA X.K C)) (k : PySem.W.kitOne X.K (.ref (cA X.K C)) (c.u X.K) = some b) (hz : Zc cls d oe) (hf : ∃ vs, oe.data = .fields vs) (hc : PE (X.suite a ((a, oe) :: pn)) ec (tC (c.v X.K)))
    (hN : X.N[i]? = some x := by rfl) (hvi : Vis X.env.scope x := by first | exact .inl rfl | exact .inr (.inl rfl) | exact .inr (.inr rfl)) (hd : (x == ("__debug__" : Str)) = false := by decide) (hcd : (x == ("__classdict__" : Str)) = false := by decide)
    (hg : Gl (X.suite a ((a, oe) :: pn)) "isinstance" := by rfl)
    (he : starEach [.Name x p, ec] (X.suite a ((a, oe) :: pn)).env = (false, eval (.Name x p) (X.suite a ((a, oe) :: pn)).env) :: starEach [ec] (X.suite a ((a, oe) :: pn)).env := by rfl) (he2 : starEach [ec] (X.suite a ((a, oe) :: pn)).env = (false, eval ec (X.suite a ((a, oe) :: pn)).env) :: starEach [] (X.suite a ((a, oe) :: pn)).env := by rfl)
    (hpl : (backTo pos (starEach [ec] (X.suite a ((a, oe) :: pn)).env)).any (·.1) = false := by rfl) :
    JE (X.suite a ((a, oe) :: pn)) (some ⟨a, cls, d, ex⟩) W (.Call (.Name "isinstance" pi) [.Name x p, ec] [] pos) (eIsX ex C b i) :=
  ⟨_, pe_callB (call_isX T k hz hf) hg hm (by first | boot_by_name | rfl | kernel_rfl) (pa_cons (pe_var hN hvi hd hcd) (pa_cons hc pa_nil he2) he) (by decide) (by decide) he hpl, ev_isX⟩
theorem je_isXT {kt} (hm : X.mg "isinstance" = none) (T : L2.ExcC X.K (cA X.K C)) (k : PySem.W.kitAny X.K (.ref (cA X.K C)) (cs.map (CN.u X.K)) = some b) (hz : Zc cls d oe) (hf : ∃ vs, oe.data = .fields vs) (hl : cs.length ≤ mx) (hc : PA (X.suite a ((a, oe) :: pn)) es (tCNs X.K cs))
    (hN : X.N[i]? = some x := by rfl) (hvi : Vis X.env.scope x := by first | exact .inl rfl | exact .inr (.inl rfl) | exact .inr (.inr rfl)) (hd : (x == ("__debug__" : Str)) = false := by decide) (hcd : (x == ("__classdict__" : Str)) = false := by decide)
    (hg : Gl (X.suite a ((a, oe) :: pn)) "isinstance" := by rfl)
    (he : starEach [.Name x p, .Tuple es kt pt] (X.suite a ((a, oe) :: pn)).env = (false, eval (.Name x p) (X.suite a ((a, oe) :: pn)).env) :: starEach [.Tuple es kt pt] (X.suite a ((a, oe) :: pn)).env := by rfl) (he2 : starEach [.Tuple es kt pt] (X.suite a ((a, oe) :: pn)).env = (false, eval (.Tuple es kt pt) (X.suite a ((a, oe) :: pn)).env) :: starEach [] (X.suite a ((a, oe) :: pn)).env := by rfl)
    (hpl : (backTo pos (starEach [.Tuple es kt pt] (X.suite a ((a, oe) :: pn)).env)).any (·.1) = false := by rfl) :
    JE (X.suite a ((a, oe) :: pn)) (some ⟨a, cls, d, ex⟩) W (.Call (.Name "isinstance" pi) [.Name x p, .Tuple es kt pt] [] pos) (eIsX ex C b i) :=
  ⟨_, pe_callB (call_isXT T k hz hf) hg hm (by first | boot_by_name | rfl | kernel_rfl) (pa_cons (pe_var hN hvi hd hcd) (pa_cons (pe_tup hc) pa_nil he2) he) (by decide) (by decide) he hpl, ev_isXT hl⟩
end
/-! ### divmod -/
def divmodD : List D → Option D
  | [.int i, .int j] => if divOk j then some (.tup [.int (i.fdiv j), .int (i.fmod j)]) else none
  | _ => none
theorem cr_divmodD {X : Cx} : CallR X (.builtin "divmod") (rDn X.K divmodD) := by
  intro pins s σ H vs us Q I r h
  obtain ⟨G, as, d, sG, va, e, q⟩ := h
  unfold divmodD at e
  split at e
  · rename_i i j
    split at e
    · rename_i hj
      cases e
      obtain ⟨x, y, rfl, hx, hy⟩ := pair2 va
      cases hx.int
      cases hy.int
      obtain ⟨t, u, rfl⟩ := Vals.int2 r
      have fresh : H s.heap.objs.size = none := I.hok.fresh (Nat.le_refl _)
      refine PyProof.Rows.divmod_int hj.1 ⟨.ref s.heap.objs.size, upd H s.heap.objs.size (.tup [.int (i.fdiv j), .int (i.fmod j)]), ?_, rfl, dend_tup sG fresh (.cons (.int _) (.cons (.int _) .nil)) q⟩ (.inl hj.ok)
      refine I.laid (fun b o e => Heap.get?_push_of_some _ e) (Nat.le_refl _) ⟨(by show 2 ≤ sizeLine; decide), [.int (i.fdiv j) s.toks, .int (i.fmod j) (s.toks + 1)], .cons ⟨_, rfl⟩ (.cons ⟨_, rfl⟩ .nil), ⟨_, Heap.get?_push_size s.heap rfl, rfl, 0, rfl⟩⟩
    · cases e
  · cases e
where le_mx2 {n : Nat} (h : n ≤ 100) : n ≤ mx := Nat.le_trans h (by decide)
end DL
set_option Elab.async false
set_option linter.all false
set_option maxRecDepth 100000
set_option maxHeartbeats 4000000
/-! dicts with keys that are ints, texts -/
namespace DL
open PySem PySem.Spec PyProof.Rows L2
def keyD : D → Option Key
  | .int i => some (.inl i)
  | .str x => some (.inr x)
  | _ => none
def getQ (kvs : List (Key × D)) (k : Key) : Option D := (kvs.find? fun kv => decide (kv.1 = k)).map (·.2)
def putQ (kvs : List (Key × D)) (k : Key) (d : D) : List (Key × D) :=
  if (kvs.any fun kv => decide (kv.1 = k)) = true then kvs.map (fun kv => if kv.1 = k then (kv.1, d) else kv) else kvs ++ [(k, d)]
section
variable {K : PySem.W.Frag} {G H : Hp}
theorem keyD_v {v : V} {d : D} {k : Key} (h : Vw K G H v d) (e : keyD d = some k) : v = kV k := by
  cases d <;> simp only [keyD, reduceCtorEq, Option.some.injEq] at e
  · subst e; exact h.int
  · subst e; exact h.str
theorem DqK.get {k : Key} : ∀ {vs : List (Key × V)} {ds : List (Key × D)}, DqK K G vs ds → match getQ ds k with
    | some d => ∃ v, valV vs k = some v ∧ Dq K G v d
    | none => valV vs k = none
  | _, _, .nil => rfl
  | _, _, .cons (k := j) h t => by
    unfold getQ valV
    by_cases e : j = k
    · simp only [List.find?_cons, decide_eq_true e, Option.map_some]
      exact ⟨_, rfl, h⟩
    · simp only [List.find?_cons, decide_eq_false e]
      exact DqK.get t
theorem DqK.length : ∀ {vs : List (Key × V)} {ds : List (Key × D)}, DqK K G vs ds → vs.length = ds.length
  | _, _, .nil => rfl
  | _, _, .cons _ t => by simp [DqK.length t]
theorem DqK.anyk {k : Key} : ∀ {vs : List (Key × V)} {ds : List (Key × D)}, DqK K G vs ds → (vs.any fun kv => decide (kv.1 = k)) = ds.any fun kv => decide (kv.1 = k)
  | _, _, .nil => rfl
  | _, _, .cons _ t => by rw [List.any_cons, List.any_cons, DqK.anyk t]
theorem DqK.mapk {k : Key} {v : V} {d : D} (q : Dq K G v d) : ∀ {vs : List (Key × V)} {ds : List (Key × D)}, DqK K G vs ds → DqK K G (vs.map fun kv => if kv.1 = k then (kv.1, v) else kv) (ds.map fun kv => if kv.1 = k then (kv.1, d) else kv)
  | _, _, .nil => .nil
  | _, _, .cons (k := j) h t => by
    rw [List.map_cons, List.map_cons]
    by_cases e : j = k
    · simp only [if_pos e]
      exact .cons q (DqK.mapk q t)
    · simp only [if_neg e]
      exact .cons h (DqK.mapk q t)
theorem DqK.app : ∀ {vs us : List (Key × V)} {ds es : List (Key × D)}, DqK K G vs ds → DqK K G us es → DqK K G (vs ++ us) (ds ++ es)
  | _, _, _, _, .nil, b => b
  | _, _, _, _, .cons h t, b => .cons h (DqK.app t b)
theorem DqK.put {vs : List (Key × V)} {ds : List (Key × D)} {k : Key} {v : V} {d : D} (h : DqK K G vs ds) (q : Dq K G v d) : DqK K G (putK vs k v) (putQ ds k d) := by
  unfold putK putQ
  rw [h.anyk]
  split
  · exact h.mapk q
  · exact h.app (.cons q .nil)
end
/-! in, not in, subscripts -/
def inX (a b : D) : Option D := match b with
  | .dct kvs => (keyD a).map fun k => .bl (getQ kvs k).isSome
  | b => inD a b
def ninX (a b : D) : Option D := match b with
  | .dct kvs => (keyD a).map fun k => .bl (!(getQ kvs k).isSome)
  | b => ninD a b
def ixX (a b : D) : Option D := match a with
  | .dct kvs => (keyD b).bind fun k => getQ kvs k
  | a => ixD a b
section
variable {X : Cx}
theorem dget_vw {K : PySem.W.Frag} {G H : Hp} {y : V} {a : Addr} {xs : List (Key × V)} {kvs : List (Key × D)} {k : Key} (hp : H a = some (.dK xs)) (q : DqK K G xs kvs) : ∃ o, DGet H a (kV k) o ∧ o.isSome = (getQ kvs k).isSome ∧ ∀ d, getQ kvs k = some d → ∃ v, o = some v ∧ Dq K G v d := by
  refine ⟨_, DGet.k hp, ?_, fun d e => ?_⟩
  · have := q.get (k := k)
    split at this
    · rename_i d e
      obtain ⟨v, e1, _⟩ := this
      rw [e1, e]
      rfl
    · rename_i e
      rw [this, e]
      rfl
  · have := q.get (k := k)
    rw [e] at this
    exact this
theorem op_inX (hu : X.A.units + 1 < cLine) : OpR X (compareOp .In) (rD2 X.K inX) := by
  intro pins s σ H x y v u Q I rx ry h
  obtain ⟨G, a, b, d, sG, va, vb, e, q⟩ := h
  cases b with
  | dct kvs =>
    obtain ⟨k, e1, e2⟩ := Option.map_eq_some_iff.mp e
    subst e2
    obtain ⟨p, xs, rfl, hp, hq⟩ := vb
    have ex := keyD_v va e1
    subst ex
    cases ry
    obtain ⟨o, g, eo, _⟩ := dget_vw (k := k) (y := .non) hp hq
    exact d_in hu I g rx fun s' I' => ⟨.bl o.isSome, H, I', rfl, by rw [eo]; exact dend_bl sG q⟩
  | _ => exact op_inD pins s σ H x y v u Q I rx ry ⟨G, a, _, d, sG, va, vb, e, q⟩
theorem op_ninX (hu : X.A.units + 1 < cLine) : OpR X (compareOp .NotIn) (rD2 X.K ninX) := by
  intro pins s σ H x y v u Q I rx ry h
  obtain ⟨G, a, b, d, sG, va, vb, e, q⟩ := h
  cases b with
  | dct kvs =>
    obtain ⟨k, e1, e2⟩ := Option.map_eq_some_iff.mp e
    subst e2
    obtain ⟨p, xs, rfl, hp, hq⟩ := vb
    have ex := keyD_v va e1
    subst ex
    cases ry
    obtain ⟨o, g, eo, _⟩ := dget_vw (k := k) (y := .non) hp hq
    exact d_notIn hu I g rx fun s' I' => ⟨.bl (!o.isSome), H, I', rfl, by rw [eo]; exact dend_bl sG q⟩
  | _ => exact op_ninD pins s σ H x y v u Q I rx ry ⟨G, a, _, d, sG, va, vb, e, q⟩
theorem sub_dict {prog : Program} {w : World} {A : Around} {E : Value → Shared → Prop} {s : Shared} {value slice : Expr} {o i : Value} {Q : Value → Shared → Prop} (hT : s.TypeIs o "dict") (hs : subscripted slice false o i = operate [o, i] (getItem o i))
    (h : wpAny (model prog w) A (getItem o i) Q E s) : wpAny (model prog w) A (subscriptTail value slice o i) Q E s := by
  rw [subscriptTail]
  refine wpAny_bind ?_
  rw [getitemInPython_of_ne hT.not_modules]
  refine wpAny_bind (wpAny_specialOf hT PySem.F.slot_dict_getitem.lookup ?_)
  have last : wpAny (model prog w) A (subscripted slice false o i) (fun r t => wpAny (model prog w) A (letTemporaryGo value o r >>= fun _ => pure r) Q E t) E s := by
    rw [hs]
    exact wpAny_operating (wpAny_mono h (fun r t ht => wpAny_bind (wpAny_letTemporaryGo (wpAny_pure ht))) fun _ _ z => z)
  first
    | exact wpAny_pure (wpAny_bind last)
    | exact wpAny_bind (wpAny_pure (wpAny_bind last))
    | exact wpAny_bind last
theorem ix_X (hu : X.A.units + 1 < cLine) : IxR X (rD2 X.K ixX) := by
  intro value slice pins s σ H x y v u Q I rx ry h hs
  obtain ⟨G, a, b, d, sG, va, vb, e, q⟩ := h
  cases a with
  | dct kvs =>
    obtain ⟨k, e1, e2⟩ := Option.bind_eq_some_iff.mp e
    obtain ⟨p, xs, rfl, hp, hq⟩ := va
    have ex := keyD_v vb e1
    subst ex
    cases rx
    obtain ⟨o, g, _, eo⟩ := dget_vw (k := k) (y := .non) hp hq
    obtain ⟨z, ez, qz⟩ := eo d e2
    subst ez
    exact sub_dict (dict_typeIs I g) hs (d_getItem hu I g ry fun w' s' I' rw' => ⟨z, H, I', rw', dend sG q qz⟩)
  | _ => exact ix_D value slice pins s σ H x y v u Q I rx ry ⟨G, _, b, d, sG, va, vb, e, q⟩ hs
end
/-! stores -/
variable {K : Kx} {W : WX}
def ownK (ρ : Env) (i : Nat) : Option (L × List (Key × D)) := match ρ[i]? with
  | some (some (.m (.dct ds))) => some (.m (.dct ds), ds)
  | some (some (.r (.dct ds))) => some (.r (.dct ds), ds)
  | _ => none
theorem ownK_ok {σ : L2.St} {G H : Hp} {ρ : Env} {i : Nat} {l : L} {ds : List (Key × D)} (R : Rel K σ G H ρ) (h : ownK ρ i = some (l, ds)) :
    ρ[i]? = some (some l) ∧ l.own = true ∧ ∃ a xs, σ[i]? = some (some (.ref a)) ∧ G a = none ∧ H a = some (.dK xs) ∧ DqK K G xs ds := by
  unfold ownK at h
  split at h
  · rename_i es he
    cases Option.some.inj h
    obtain ⟨v, h1, h2⟩ := R.at_ i _ he
    obtain ⟨a, xs, rfl, h3, h4, h5⟩ := (show MOk K G H v (.dct ds) from h2)
    exact ⟨he, rfl, a, xs, h1, h3, h4, h5⟩
  · rename_i es he
    cases Option.some.inj h
    obtain ⟨v, h1, h2⟩ := R.at_ i _ he
    obtain ⟨a, xs, rfl, h3, h4, h5⟩ := (show MOk K G H v (.dct ds) from h2)
    exact ⟨he, rfl, a, xs, h1, h3, h4, h5⟩
  · cases h
def skG (i : Nat) (d : D) (l : L) (ds : List (Key × D)) (ρ : Env) : Option Key → Res Fl
  | some k => if ds.length < mx then .ok .nx (ρ.set i (some (l.put (.dct (putQ ds k d))))) else .bad
  | none => .bad
def skF (i : Nat) (d : D) (y : Option D) (o : Option (L × List (Key × D))) (ρ : Env) : Res Fl := match y, o with
  | some y, some (l, ds) => skG i d l ds ρ (keyD y)
  | _, _ => .bad
def kSetK2 (i : Nat) (d : D) : X → Env → Res Fl := fun y ρ3 => skF i d (look ρ3 y) (ownK ρ3 i) ρ3
def skE (i : Nat) (mi : EM) (p : Option (D × Env)) : Res Fl := match p with
  | some (d, ρ2) => if (ownK ρ2 i).isSome = true then bindR (mi ρ2) (kSetK2 i d) else .bad
  | none => .bad
def kSetK1 (i : Nat) (mi : EM) : X → Env → Res Fl := fun x ρ1 => skE i mi (fz ρ1 x)
/-- d[e] = f -/
def sSetK (i : Nat) (mi mv : EM) : SM := fun ρ => bindR (mv ρ) (kSetK1 i mi)
theorem st_setK {i : Nat} {tv ti : TE} {mv mi : EM} (hv : EvOk K W tv mv) (hi : EvOk K W ti mi) : StOk K W (sDPut (tVar i) ti tv) (sSetK i mi mv) := fun σ G H ρ R D h => by
  unfold sSetK bindR at h
  refine hv.fst R (fun x ρ1 e v G1 H1 S1 R1 x1 => ?_) (fun e ρ1 q => by rw [q] at h; exact SPost.x h) (fun q => by rw [q] at h; exact h)
  rw [e] at h
  have h := SPost.step S1 h
  simp only [kSetK1] at h
  cases e2 : fz ρ1 x with
  | none => rw [e2] at h; exact h.elim
  | some p =>
    obtain ⟨d, ρ2⟩ := p
    rw [e2] at h
    obtain ⟨G2, S2, R2, q2⟩ := fz_ok R1 x1 e2
    have h := SPost.step S2 h
    simp only [skE] at h
    split at h
    · rename_i hh
      obtain ⟨⟨l0, ds0⟩, hl0⟩ := Option.isSome_iff_exists.mp hh
      obtain ⟨_, _, a, xs, hvs, _, _, _⟩ := ownK_ok R2 hl0
      refine ⟨_, hvs, ?_⟩
      unfold bindR at h
      refine hi.fst R2 (fun y ρ3 e3 u G3 H3 S3 R3 x3 => ?_) (fun e ρ1 q => by rw [q] at h; exact SPost.x h) (fun q => by rw [q] at h; exact h)
      rw [e3] at h
      have h := SPost.step S3 h
      simp only [kSetK2] at h
      cases e4 : look ρ3 y with
      | none => rw [e4] at h; cases e5 : ownK ρ3 i <;> (rw [e5] at h; exact h.elim)
      | some yd =>
        rw [e4] at h
        cases e5 : ownK ρ3 i with
        | none => rw [e5] at h; exact h.elim
        | some q =>
          obtain ⟨l, ds⟩ := q
          rw [e5] at h
          simp only [skF] at h
          cases e6 : keyD yd with
          | none => rw [e6] at h; exact h.elim
          | some k =>
            rw [e6] at h
            simp only [skG] at h
            split at h
            · rename_i hlen
              obtain ⟨k1, k2, b, ys, kv, kG, kH, kq⟩ := ownK_ok R3 e5
              rw [hvs] at kv
              cases Option.some.inj (Option.some.inj kv)
              have ey := keyD_v (look_vw R3 x3 e4) e6
              subst ey
              obtain ⟨S4, R4⟩ := put_ok (x' := .dct (putQ ds k d)) (o := .dK (putK ys k v)) R3 k1 k2 hvs ⟨a, _, rfl, kG, upd_same, kq.put (q2.mono S3.g)⟩
              exact ⟨a, _, rfl, DPut.k kH (by rw [kq.length]; exact small_lt hlen), h _ _ _ S4 R4⟩
            · exact h.elim
    · exact h.elim
/-- {} -/
def fDct : FM := fun ρ => .ok (.dct []) ρ
theorem fv_dct : FvOk K W tDNewK fDct := fun σ G H ρ R Q h p hp => by
  have g := Gro.newH (o := .dK []) R.same hp
  refine h _ _ _ g.stp (R.gro g) ⟨⟨p, [], rfl, R.same.free hp, upd_same, .nil⟩, fun a e => ?_⟩
  cases e
  refine ⟨hp, fun ⟨i, l, h1, h2, h3⟩ => ?_⟩
  obtain ⟨v, h4, h5⟩ := R.at_ i l h1
  rw [h3] at h4
  have h4 : V.ref p = v := Option.some.inj (Option.some.inj h4)
  subst h4
  have own : ∀ x, MOk K G H (.ref p) x → False := fun x hm => by
    obtain ⟨a, ea, _, h⟩ := hm.ref
    cases ea
    exact h hp
  cases l with
  | d x => cases h2
  | m x => exact own x h5
  | r x => exact own x h5
  | xh => cases h2
section
variable {X : Cx} {xa : Option XA} {W : WX} {a b e : Expr} {ma mb m : EM} {pos p p' : Pos} {x : Str} {i : Nat}
theorem jf_dct : JF X xa W (.Dict [] [] pos) fDct := ⟨_, pe_dnewK, fv_dct⟩
theorem je_ixX (hu : X.A.units + 1 < cLine) (ha : JE X xa W a ma) (hb : JE X xa W b mb) (hs : PlainIx b := by intro _ _; rfl) : JE X xa W (.Subscript a b pos) (eOp ixX ma mb) :=
  let ⟨_, h1, h2⟩ := ha; let ⟨_, h3, h4⟩ := hb; ⟨_, pe_ix (ix_X hu) h1 h3 hs, ev_op h2 h4⟩
theorem js_setK (hu : X.A.units + 1 < cLine) (h : JE X xa W e m) (hx : JE X xa W b mb) (hi : X.N[i]? = some x := by rfl) (hv : Vis X.env.scope x := by first | exact .inl rfl | exact .inr (.inl rfl) | exact .inr (.inr rfl)) (hd : (x == ("__debug__" : Str)) = false := by decide) (hcd : (x == ("__classdict__" : Str)) = false := by decide)
    (hs : swapsWith e (some (.Subscript (.Name x p) b p')) pos.line X.env = pure false := by rfl) : JS X xa W (.Assign [.Subscript (.Name x p) b p'] e pos) (sSetK i mb m) :=
  let ⟨_, h1, h2⟩ := h; let ⟨_, h3, h4⟩ := hx; ⟨_, ps_dput hu (pe_var hi hv hd hcd) h3 h1 hs, st_setK h2 h4⟩
end
end DL
set_option Elab.async false
set_option linter.all false
set_option maxRecDepth 100000
set_option maxHeartbeats 4000000
/-! calls with keywords, defaults -/
namespace DL
open PySem PySem.Spec PyProof.Rows L2
/-- where a parameter's value comes from: a positional argument, a keyword's, a default that lacks -/
inductive Sl where
  | p (i : Nat) | k (j : Nat) | m (j : Nat)
def slA {α : Type} (us mv ws : List α) : Sl → Option α
  | .p i => us[i]?
  | .k j => ws[j]?
  | .m j => mv[j]?
def gS {α : Type} (sl : List Sl) (us mv ws : List α) : List α := sl.filterMap (slA us mv ws)
theorem pairedG {α β : Type} {R : α → β → Prop} : ∀ {xs : List α} {ys : List β}, Paired R xs ys → ∀ i : Nat, match xs[i]?, ys[i]? with
    | some x, some y => R x y
    | none, none => True
    | _, _ => False
  | _, _, .nil, i => by simp
  | _, _, .cons h _, 0 => by simpa using h
  | _, _, .cons _ t, i + 1 => by simpa using pairedG t i
theorem gS_rel {α β : Type} {R : α → β → Prop} {us mv ws : List α} {us' mv' ws' : List β} (h1 : Paired R us us') (h2 : Paired R mv mv') (h3 : Paired R ws ws') : ∀ {sl : List Sl}, Paired R (gS sl us mv ws) (gS sl us' mv' ws')
  | [] => .nil
  | s :: sl => by
    have ih := gS_rel h1 h2 h3 (sl := sl)
    have q : match slA us mv ws s, slA us' mv' ws' s with
      | some x, some y => R x y
      | none, none => True
      | _, _ => False := by
      cases s with
      | p i => exact pairedG h1 i
      | k i => exact pairedG h3 i
      | m i => exact pairedG h2 i
    unfold gS at ih ⊢
    rw [List.filterMap_cons, List.filterMap_cons]
    cases e1 : slA us mv ws s <;> cases e2 : slA us' mv' ws' s <;> simp only [e1, e2] at q
    · exact ih
    · exact .cons q ih
def cV : D → V
  | .int i => .int i
  | .bl b => .bl b
  | .str x => .str x
  | _ => .non
def cOk : D → Bool
  | .int _ => true
  | .bl _ => true
  | .str _ => true
  | .non => true
  | _ => false
/-- the reading: positional arguments, keywords, all in the parameters' order -/
def tMix (n m : Nat) (dm : List V) (sl : List Sl) (t tk : TA) : TA := fun σ H Q => t σ H fun vs H1 => tk σ H1 fun zs H2 => vs.length = n ∧ zs.length = m ∧ Q (gS sl vs dm zs) H2
def kMix2 (n m : Nat) (ds : List D) (sl : List Sl) (xs : List X) : List X → Env → Res (List X) := fun zs ρ2 => if xs.length = n ∧ zs.length = m then .ok (gS sl xs (ds.map .d) zs) ρ2 else .bad
def kMix1 (n m : Nat) (ds : List D) (sl : List Sl) (mk : AM) : List X → Env → Res (List X) := fun xs ρ1 => bindR (mk ρ1) (kMix2 n m ds sl xs)
def aMix (n m : Nat) (ds : List D) (sl : List Sl) (ma mk : AM) : AM := fun ρ => bindR (ma ρ) (kMix1 n m ds sl mk)
section
variable {K : Kx} {W : WX}
theorem dflt_ok {σ : L2.St} {G : Hp} : ∀ {ds : List D}, ds.all cOk = true → XsOk K σ G (ds.map cV) (ds.map .d)
  | [], _ => .nil
  | x :: ds, h => by
    rw [List.all_cons, Bool.and_eq_true] at h
    refine .cons ?_ (dflt_ok h.2)
    have hc := h.1
    show Dq K.k G (cV x) x
    cases x <;> first | cases hc | skip
    · exact .non
    · exact .bl _
    · exact .int _
    · exact .str _
theorem av_mix {n m : Nat} {ds : List D} {sl : List Sl} {t tk : TA} {ma mk : AM} (hs : ds.all cOk = true) (ht : AvOk K W t ma) (hk : AvOk K W tk mk) : AvOk K W (tMix n m (ds.map cV) sl t tk) (aMix n m ds sl ma mk) := fun σ G H ρ R Q h => by
  unfold aMix bindR at h
  refine ht.fst R (fun xs ρ1 e vs G1 H1 S1 R1 x1 => ?_) (fun e ρ1 q => by rw [q] at h; exact h) (fun q => by rw [q] at h; exact h)
  rw [e] at h
  have h := APost.step S1 h
  simp only [kMix1] at h
  unfold bindR at h
  refine hk.fst R1 (fun ys ρ2 e2 zs G2 H2 S2 R2 x2 => ?_) (fun e ρ1 q => by rw [q] at h; exact h) (fun q => by rw [q] at h; exact h)
  rw [e2] at h
  have h := APost.step S2 h
  simp only [kMix2] at h
  split at h
  · rename_i hl
    exact ⟨x1.len.trans hl.1, x2.len.trans hl.2, h _ G2 H2 (Stp.refl _ _ _ _) R2 (gS_rel (x1.mono S2.g) (dflt_ok hs) x2)⟩
  · exact h.elim
end
/-! the rule -/
section
variable {X : Cx} {CX : CXT} {k n : Nat} {f : Addr} {fd : FuncData} {ps ks : List Str} {sp : Sp} {E : L2.St → XK} {x : Str} {p pos : Pos} {e : Expr} {es : List Expr} {kws : List Keyword} {t tk : TA} {g : List Value → List Value → List Value} {gV : List V → List V → List V}
def tCallND (n m : Nat) (sp : Sp) (gV : List V → List V → List V) (E : L2.St → XK) (t tk : TA) : TE := fun σ H Q => t σ H fun vs H1 => tk σ H1 fun zs H2 => vs.length = n ∧ zs.length = m ∧ sp (gV vs zs) H2 Q (E σ)
theorem pe_callND (F : FnOk X.prog X.w X.K X.mg X.base CX k f fd ps sp) (hr : Room k X.A) (hg : Gl X x) (hm : X.mg x = some (.ref f)) (hk : PySem.W.keepIn X.K (.ref f) = true) (hb : KBn X.K fd ps n ks g gV) (hx : ∀ σ, PassesAt CX X σ (E σ))
    (ha : PA X (e :: es) t) (hkw : PK X kws tk) (hall : (backToKw pos (keywordEach kws X.env)).all (·.1.isSome) = true := by rfl) (hks : (backToKw pos (keywordEach kws X.env)).filterMap (·.1) = ks := by rfl)
    (hdb : (x == ("__debug__" : Str)) = false := by decide) (he : starEach (e :: es) X.env = (false, eval e X.env) :: starEach es X.env := by rfl)
    (hpl : ((backTo pos (starEach (e :: es) X.env)).any (·.1) || (backToKw pos (keywordEach kws X.env)).any (·.1.isNone)) = false := by rfl) :
    PE X (.Call (.Name x p) (e :: es) kws pos) (tCallND n ks.length sp gV E t tk) := ⟨fun pins s σ H Q I h => by
  refine wpAny_Call_Name_kw (ld_glob I hg hm ?_ hdb)
  refine PySem.W.callWith_KW (h₀ := X.base) I.ok.mod.kin hk hall (thn (ha.run pos pins s σ H _ I h) fun us s1 hh => ?_) hpl he
  obtain ⟨vs, H1, I1, r, q⟩ := hh
  refine thn (hkw.run pos pins s1 σ H1 _ I1 q) fun ws s2 hh => ?_
  obtain ⟨zs, H2, I2, rz, l1, l2, q2⟩ := hh
  refine ⟨I2.kIn, ?_⟩
  rw [hks]
  have r2 := hb.rel r rz
  refine wpAny_call (codeAny_mono (F.run X.A X.stack s2 H2 ⟨us, ks.zip ws⟩ (g us ws) (gV vs zs) Q (E σ) hr I2.env0 (hb.to s2 us ws I2.kIn (r.length.symm.trans l1) (rz.length.symm.trans l2)) r2 q2) fun ans s' hq => ?_)
  cases ans with
  | error z => exact hx σ pins H2 s2 z s' I2 hq
  | ok fl =>
    cases fl with
    | ret u => exact I2.after hq
    | next => exact False.elim hq
    | brk => exact False.elim hq
    | cont => exact False.elim hq⟩
end
/-! binding -/
theorem kb0 {K : PySem.W.Frag} {x qual : Str} {params : Arguments} {body : List Stmt} {scope : Scope} {kws : List (Str × V)} {f : Addr} {fd : FuncData} {ps : List Str} (F : FunD K x qual params body scope [] kws f fd) (n : Nat) (ks : List Str) (ms : List (Str × V)) (sl : List Sl) (hk : kws ≠ []) (hms : ∀ q ∈ ms, q ∈ kws)
    (h : ∀ (D : Addr) (doc pm : Value) (an : Option Addr) (cdv ct : Value) (us mv ws : List Value), us.length = n → mv.length = ms.length → ws.length = ks.length →
      KwChain D ((ms.map (·.1)).zip mv) (bindArgs (PySem.W.fnOf x qual params body scope .none (.ref D) doc pm an cdv ct) ⟨us, ks.zip ws⟩) (ps.zip (gS sl us mv ws))) :
    ∃ g, KBn K fd ps n ks g (fun vs zs => gS sl vs (ms.map (·.2)) zs) := by
  obtain ⟨oc, od, dV, kV, doc, pm, an, cdv, ct, osl, rfl, lk, hcd, hD, hK⟩ := F.ex
  rcases hD with ⟨_, rfl⟩ | ⟨z, _⟩
  · rcases hK with z | ⟨D, rfl, hq⟩
    · exact absurd z hk
    · obtain ⟨mv, l, rk, hks⟩ := kwd_vals (ms := ms) fun q hm => hq q (hms q hm)
      exact ⟨fun us ws => gS sl us mv ws, fun s us ws X l1 l2 => BindsTo.of_looks fun M => KwChain.looks X hks (h D doc pm an cdv ct us mv ws l1 l l2), fun r1 r2 => gS_rel r1 rk r2⟩
  · exact absurd rfl z
/-- a def with defaults -/
structure FnK (P : Program) (w : World) (K : PySem.W.Frag) (mg : Str → Option Value) (base : Heap) (k : Nat) (x : Str) (st : Stmt) (dvs : List V) (kws : List (Str × V)) (ps : List Str) (R : List L → FRes) : Prop where
  ex : ∃ fd, FnOk P w K mg base (L2.CX P w) k (cA K x) fd ps (spF K ps.length R) ∧ FunD K x x (defArgs st) (defBody st) (defScope st) dvs kws (cA K x) fd
  g : mg x = some (.ref (cA K x))
theorem fn_okD {P : Program} {w : World} {K : PySem.W.Frag} {mg : Str → Option Value} {base : Heap} {x qual : Str} {st : Stmt} {dvs : List V} {kws : List (Str × V)} {f : Addr} {fd : FuncData} {N ps : List Str} {k : Nat} {body : SM} (F : FunD K x qual (defArgs st) (defBody st) (defScope st) dvs kws f fd) (S : FnScope N ps (defScope st))
    (hb : ∀ (cdv : Value) (A : Around) (outer : List PySem.Env) (s : Shared) (H : Hp) (E : XK), Room k (A.deeper (envOfC qual (defScope st) s.heap.objs.size f cdv)) →
      JSs (cxOf (L2.CX P w) P w K mg base N qual (defScope st) f cdv A outer s H E) none (fun cls d _ H => E cls d H) (defBody st) body) :
    FnOk P w K mg base (L2.CX P w) (k + 1) f fd ps (spF K ps.length (runFn N.length body)) := by
  refine F.ok S (fun vs H Q E h => h.1) (fun cdv A outer s H vs Q E hr h => ?_)
  obtain ⟨hl, G, as, Aok, hp⟩ := h
  obtain ⟨t, h1, h2⟩ := hb cdv A outer s H E hr
  refine ⟨t, h1, ?_⟩
  have len : as.length = vs.length := by
    have := Aok.1.len
    simpa using this.symm
  have est : L2.start N vs = vs.map some ++ List.replicate (N.length - as.length) none := by
    unfold L2.start
    rw [len]
  rw [est]
  refine h2 _ G H (as.map some ++ List.replicate (N.length - as.length) none) (Rel.enter Aok) _ ?_
  unfold runFn at hp
  cases e : body (as.map some ++ List.replicate (N.length - as.length) none) with
  | bad => rw [e] at hp; exact hp
  | ex x ρ' =>
    rw [e] at hp
    intro c d σ' G' H' S' R' q
    obtain ⟨a, b⟩ := Rel.leave Aok S' R'
    exact hp c d G' H' a b q
  | ok fl ρ' =>
    rw [e] at hp
    cases fl with
    | nx =>
      intro σ' G' H' S' R'
      obtain ⟨a, b⟩ := Rel.leave Aok S' R'
      exact hp _ G' H' a b .non
    | bk => exact hp.elim
    | ct => exact hp.elim
    | rt l =>
      intro σ' v G' H' S' R' q
      obtain ⟨a, b⟩ := Rel.leave Aok S' R'
      refine hp v G' H' a b ?_
      cases l with
      | d x => exact q
      | r x => exact q.elim
      | xh => exact q.elim
      | m x =>
        refine ⟨q.1, fun b eb => ?_⟩
        rcases q.2 b eb with h | ⟨i, l, e1, o, _⟩
        · exact h
        · have := Aok.2 l (List.mem_of_getElem? (pad_get e1))
          rw [o] at this
          cases this
abbrev FnFK (K : PySem.W.Frag) (x : Str) (st : Stmt) (dvs : List V) (kws : List (Str × V)) : Prop := ∃ fd, FunD K x x (defArgs st) (defBody st) (defScope st) dvs kws (cA K x) fd
theorem fnK_mk {P : Program} {w : World} {K : PySem.W.Frag} {mg : Str → Option Value} {base : Heap} {x : Str} {st : Stmt} {dvs : List V} {kws : List (Str × V)} {N ps : List Str} {k : Nat} {body : SM} (F : FnFK K x st dvs kws) (g : mg x = some (.ref (cA K x))) (S : FnScope N ps (defScope st))
    (hb : ∀ (cdv : Value) (A : Around) (outer : List PySem.Env) (s : Shared) (H : Hp) (E : XK), Room k (A.deeper (envOfC x (defScope st) s.heap.objs.size (cA K x) cdv)) →
      JSs (cxOf (L2.CX P w) P w K mg base N x (defScope st) (cA K x) cdv A outer s H E) none (fun cls d _ H => E cls d H) (defBody st) body) :
    FnK P w K mg base (k + 1) x st dvs kws ps (runFn N.length body) := by
  obtain ⟨fd, F⟩ := F
  exact ⟨⟨fd, fn_okD F S hb, F⟩, g⟩
/-! judgements -/
def JK (X : Cx) (xa : Option XA) (W : WX) (kws : List Keyword) (m : AM) : Prop := ∃ t, PK X kws t ∧ AvOk ⟨X.K, xa⟩ W t m
section
variable {X : Cx} {xa : Option XA} {W : WX} {e : Expr} {es : List Expr} {kws : List Keyword} {am mk : AM} {m : EM} {pos p kpos : Pos} {x : Str} {st : Stmt} {dvs : List V} {kwv : List (Str × V)} {k n : Nat} {ps ks : List Str} {R : List L → FRes} {nm : Option Str} {ds : List D} {sl : List Sl}
theorem jk_nil : JK X xa W [] aNil := ⟨_, pk_nil, av_nil⟩
theorem jk_cons (ha : JE X xa W e m) (hr : JK X xa W kws mk) : JK X xa W (⟨nm, e, kpos⟩ :: kws) (aCons m mk) := let ⟨_, h1, h2⟩ := ha; let ⟨_, h3, h4⟩ := hr; ⟨_, pk_cons h1 h3, av_cons h2 h4⟩
theorem je_callK (ks : List Str) (B : FnK X.prog X.w X.K X.mg X.base k x st dvs kwv ps R) (hkb : ∀ fd, FunD X.K x x (defArgs st) (defBody st) (defScope st) dvs kwv (cA X.K x) fd → ∃ g, KBn X.K fd ps n ks g (fun vs zs => gS sl vs (ds.map cV) zs)) (hds : ds.all cOk = true) (hr : Room k X.A) (tk : Takes X W) (ha : JA X xa W (e :: es) am) (hkw : JK X xa W kws mk)
    (hg : Gl X x := by rfl) (hall : (backToKw pos (keywordEach kws X.env)).all (·.1.isSome) = true := by rfl) (hks : (backToKw pos (keywordEach kws X.env)).filterMap (·.1) = ks := by rfl)
    (hdb : (x == ("__debug__" : Str)) = false := by decide) (he : starEach (e :: es) X.env = (false, eval e X.env) :: starEach es X.env := by rfl)
    (hpl : ((backTo pos (starEach (e :: es) X.env)).any (·.1) || (backToKw pos (keywordEach kws X.env)).any (·.1.isNone)) = false := by rfl) :
    JE X xa W (.Call (.Name x p) (e :: es) kws pos) (eCall ps.length R (aMix n ks.length ds sl am mk)) := by
  obtain ⟨t, h1, h2⟩ := ha
  obtain ⟨u, h3, h4⟩ := hkw
  obtain ⟨fd, F, D⟩ := B.ex
  obtain ⟨g, hb⟩ := hkb fd D
  refine ⟨tCallSD (spF X.K ps.length R) [] (WE W) (tMix n ks.length (ds.map cV) sl t u), ?_, ev_call (av_mix hds h2 h4)⟩
  have P := pe_callND (p := p) (E := WE W) F hr hg B.g D.kp hb (fun σ => passAt tk σ) h1 h3 hall hks hdb he hpl
  have eq : tCallND n ks.length (spF X.K ps.length R) (fun vs zs => gS sl vs (ds.map cV) zs) (WE W) t u = tCallSD (spF X.K ps.length R) [] (WE W) (tMix n ks.length (ds.map cV) sl t u) := by
    funext σ H Q
    unfold tCallND tCallSD tMix
    simp only [List.append_nil]
  rw [← eq]
  exact P
end
end DL
set_option Elab.async false
set_option linter.all false
set_option maxRecDepth 100000
set_option maxHeartbeats 4000000
/-! evaluating: dicts, keywords, isinstance of errors -/
namespace DL
open PySem L2
section
variable {ρ : Env} {e : Exn} {i j : Int} {a b d : D} {ds : List D}
def ixE (e : Exn) (C : Str) (b : Bool) (o : Option (Option L)) (ρ : Env) : Res X := match o with
  | some (some .xh) => if e.cls = C ∧ e.fs.isSome = true then .ok (.d (.bl b)) ρ else .bad
  | _ => .bad
@[simp] theorem eIsX_ap {C : Str} {b : Bool} {i : Nat} : eIsX e C b i ρ = ixE e C b ρ[i]? ρ := (rfl)
@[simp] theorem ixE_ok {C : Str} {b : Bool} : ixE e C b (some (some .xh)) ρ = if e.cls = C ∧ e.fs.isSome = true then .ok (.d (.bl b)) ρ else .bad := (rfl)
@[simp] theorem divmodD_i : divmodD [.int i, .int j] = if divOk j then some (.tup [.int (i.fdiv j), .int (i.fmod j)]) else none := (rfl)
/-! dicts -/
@[simp] theorem fDct_ap : fDct ρ = .ok (.dct []) ρ := (rfl)
@[simp] theorem keyD_i : keyD (.int i) = some (.inl i) := (rfl)
@[simp] theorem keyD_s {x : Str} : keyD (.str x) = some (.inr x) := (rfl)
@[simp] theorem inX_k {kvs : List (Key × D)} : inX a (.dct kvs) = (keyD a).map fun k => .bl (getQ kvs k).isSome := (rfl)
@[simp] theorem ninX_k {kvs : List (Key × D)} : ninX a (.dct kvs) = (keyD a).map fun k => .bl (!(getQ kvs k).isSome) := (rfl)
@[simp] theorem ixX_k {kvs : List (Key × D)} : ixX (.dct kvs) b = (keyD b).bind fun k => getQ kvs k := (rfl)
@[simp] theorem ixX_l : ixX (.lst ds) b = ixD (.lst ds) b := (rfl)
def okE : Option (Option L) → Option (L × List (Key × D))
  | some (some (.m (.dct ds))) => some (.m (.dct ds), ds)
  | some (some (.r (.dct ds))) => some (.r (.dct ds), ds)
  | _ => none
@[simp] theorem ownK_ap {i : Nat} : ownK ρ i = okE ρ[i]? := (rfl)
@[simp] theorem okE_m {ds : List (Key × D)} : okE (some (some (.m (.dct ds)))) = some (.m (.dct ds), ds) := (rfl)
@[simp] theorem okE_r {ds : List (Key × D)} : okE (some (some (.r (.dct ds)))) = some (.r (.dct ds), ds) := (rfl)
@[simp] theorem sSetK_ap {i : Nat} {mi mv : EM} : sSetK i mi mv ρ = bindR (mv ρ) (kSetK1 i mi) := (rfl)
@[simp] theorem kSetK1_ap {i : Nat} {mi : EM} {x : X} : kSetK1 i mi x ρ = skE i mi (fz ρ x) := (rfl)
@[simp] theorem skE_ok {i : Nat} {mi : EM} : skE i mi (some (d, ρ)) = if (okE ρ[i]?).isSome = true then bindR (mi ρ) (kSetK2 i d) else .bad := (rfl)
@[simp] theorem kSetK2_ap {i : Nat} {y : X} : kSetK2 i d y ρ = skF i d (look ρ y) (okE ρ[i]?) ρ := (rfl)
@[simp] theorem skF_ok {i : Nat} {y : D} {l : L} {ds : List (Key × D)} : skF i d (some y) (some (l, ds)) ρ = skG i d l ds ρ (keyD y) := (rfl)
@[simp] theorem skG_ok {i : Nat} {k : Key} {l : L} {ds : List (Key × D)} : skG i d l ds ρ (some k) = if ds.length < mx then .ok .nx (ρ.set i (some (l.put (.dct (putQ ds k d))))) else .bad := (rfl)
/-! keywords -/
@[simp] theorem aMix_ap {n m : Nat} {sl : List Sl} {ma mk : AM} : aMix n m ds sl ma mk ρ = bindR (ma ρ) (kMix1 n m ds sl mk) := (rfl)
@[simp] theorem kMix1_ap {n m : Nat} {sl : List Sl} {mk : AM} {xs : List X} : kMix1 n m ds sl mk xs ρ = bindR (mk ρ) (kMix2 n m ds sl xs) := (rfl)
@[simp] theorem kMix2_ap {n m : Nat} {sl : List Sl} {xs zs : List X} : kMix2 n m ds sl xs zs ρ = if xs.length = n ∧ zs.length = m then .ok (gS sl xs (ds.map .d) zs) ρ else .bad := (rfl)
variable {α : Type} {us mv ws : List α} {x : α}
@[simp] theorem gS_nil : gS [] us mv ws = [] := (rfl)
def gsC {α : Type} (us mv ws : List α) (sl : List Sl) : Option α → List α
  | some x => x :: gS sl us mv ws
  | none => gS sl us mv ws
@[simp] theorem gS_p {i : Nat} {sl : List Sl} : gS (.p i :: sl) us mv ws = gsC us mv ws sl us[i]? := by
  unfold gS gsC
  rw [List.filterMap_cons]
  show (match us[i]? with | none => _ | some b => _) = _
  cases us[i]? <;> rfl
@[simp] theorem gS_k {i : Nat} {sl : List Sl} : gS (.k i :: sl) us mv ws = gsC us mv ws sl ws[i]? := by
  unfold gS gsC
  rw [List.filterMap_cons]
  show (match ws[i]? with | none => _ | some b => _) = _
  cases ws[i]? <;> rfl
@[simp] theorem gS_m {i : Nat} {sl : List Sl} : gS (.m i :: sl) us mv ws = gsC us mv ws sl mv[i]? := by
  unfold gS gsC
  rw [List.filterMap_cons]
  show (match mv[i]? with | none => _ | some b => _) = _
  cases mv[i]? <;> rfl
@[simp] theorem gsC_ok {sl : List Sl} : gsC us mv ws sl (some x) = x :: gS sl us mv ws := (rfl)
end
end DL
set_option Elab.async false
set_option linter.all false
set_option maxRecDepth 100000
set_option maxHeartbeats 4000000
/-! comprehensions with two fors -/
namespace DL
open PySem L2
variable {K : Kx} {W : WX}
def outH (D : Addr) (H : Hp) : Hp := fun a => if a = D then none else H a
theorem outH_ne {D a : Addr} {H : Hp} (h : a ≠ D) : outH D H a = H a := if_neg h
theorem outH_self {D : Addr} {H : Hp} : outH D H D = none := if_pos rfl
theorem outH_back {D : Addr} {H : Hp} {o : HO} (h : H D = some o) : upd (outH D H) D o = H := by
  funext a
  by_cases e : a = D
  · subst e
    rw [upd_same, h]
  · rw [upd_ne e, outH_ne e]
theorem outH_upd {D : Addr} {H : Hp} {o : HO} : outH D (upd H D o) = outH D H := by
  funext a
  by_cases e : a = D
  · subst e
    rw [outH_self, outH_self]
  · rw [outH_ne e, outH_ne e, upd_ne e]
theorem Rel.outD {σ : St} {G H : Hp} {ρ : Env} {D : Addr} (R : Rel K σ G H ρ) (g : G D = none) (n : ¬ Own σ ρ D) : Rel K σ G (outH D H) ρ := by
  refine ⟨fun b u e => ?_, R.len, fun i l e => ?_, R.exo, R.sep⟩
  · rw [outH_ne (ne_of_none e g)]
    exact R.same b u e
  · obtain ⟨v, e1, e2⟩ := R.at_ i l e
    refine ⟨v, e1, ?_⟩
    have ow : ∀ y, l.own = true → MOk K G H v y → MOk K G (outH D H) v y := fun y ol hm => by
      refine hm.mono (Same.refl _) fun c ec => ?_
      subst ec
      obtain ⟨c', ec', gc, _⟩ := hm.ref
      cases ec'
      refine ⟨gc, fun u eu => ?_⟩
      have nc : c ≠ D := fun q => by
        subst q
        exact n ⟨i, l, e, ol, e1⟩
      rw [outH_ne nc]
      exact eu
    cases l with
    | d y => exact e2
    | m y => exact ow y rfl e2
    | r y => exact ow y rfl e2
    | xh => exact e2
theorem Stp.outD {σ σ' : St} {G H G' H' : Hp} {ρ ρ' : Env} {D : Addr} (S : Stp σ ρ G H σ' ρ' G' H') (h : H D = none) : Stp σ ρ G H σ' ρ' G' (outH D H') := by
  refine ⟨S.g, S.gf, fun a u e n => ?_, fun a e => ?_, S.ow, S.om, S.pin⟩
  · rw [outH_ne (ne_of_none e h)]
    exact S.fr a u e n
  · by_cases q : a = D
    · subst q
      exact absurd h e
    · rw [outH_ne q]
      exact S.hn a e
/-- where a comprehension's loop stands: its list at A -/
structure LcI (K : Kx) (σ : St) (G1 H1 : Hp) (ρ1 : Env) (js : List Nat) (A : Addr) (accV : List V) (acc : List D) (G' : Hp) (ρ' : Env) (H' : Hp) : Prop where
  S : Stp σ ρ1 G1 H1 σ ρ' G' H'
  R : Rel K σ G' H' ρ'
  h : H' A = some (.lst accV)
  g : G' A = none
  no : ¬ Own σ ρ' A
  q : DqA K G' accV acc
  len : ρ'.length = ρ1.length
  same : ∀ i ∈ js, ρ'[i]? = ρ1[i]?
theorem LcI.start {σ : St} {G1 H1 : Hp} {ρ1 : Env} {js : List Nat} {A : Addr} {accV : List V} {acc : List D} (R : Rel K σ G1 H1 ρ1) (hA : H1 A = none) (q : DqA K G1 accV acc) : LcI K σ G1 H1 ρ1 js A accV acc G1 ρ1 (upd H1 A (.lst accV)) := by
  have g1 : G1 A = none := R.same.free hA
  have no : ¬ Own σ ρ1 A := fun ⟨i, l, e1, o, e3⟩ => by
    obtain ⟨v, e4, e5⟩ := R.at_ i l e1
    rw [e3] at e4
    cases Option.some.inj (Option.some.inj e4)
    have : ∀ y, MOk K G1 H1 (.ref A) y → False := fun y hm => by
      obtain ⟨a, ea, _, hn⟩ := hm.ref
      cases ea
      exact hn hA
    cases l with
    | d y => cases o
    | m y => exact this y e5
    | r y => exact this y e5
    | xh => cases o
  exact ⟨(Stp.refl _ _ _ _).side hA, R.side g1 no, upd_same, g1, no, q, rfl, fun _ _ => rfl⟩
/-- an item comes -/
theorem LcI.item {σ : St} {G1 H1 G' H' : Hp} {ρ1 ρ' : Env} {js : List Nat} {A : Addr} {accV : List V} {acc : List D} (I : LcI K σ G1 H1 ρ1 js A accV acc G' ρ' H') {G2 H2 : Hp} (gr : Gro G' H' G2 H2) : LcI K σ G1 H1 ρ1 js A accV acc G2 ρ' H2 := by
  refine ⟨I.S.trans (gr.stp (σ := σ) (ρ := ρ')), I.R.gro gr, gr.h A _ I.h, ?_, I.no, I.q.mono gr.g, I.len, I.same⟩
  cases q : G2 A with
  | none => rfl
  | some o =>
    rcases gr.gf A o q with z | z
    · rw [I.g] at z; cases z
    · rw [I.h] at z; cases z
/-- a turn, from the block back to the def; the list at A may have grown -/
theorem LcI.leave {σ σ2 : St} {G1 H1 G2 H2 G3 H3 : Hp} {ρ1 ρ' ρ2 ρ3 : Env} {js ks : List Nat} {A : Addr} {accV accV3 : List V} {acc acc3 : List D} (I : LcI K σ G1 H1 ρ1 js A accV acc G2 ρ' H2) (hA : H1 A = none) (hcl : clean ρ1 js = true) (hks : ∀ i ∈ ks, i ∈ js)
    (T : Tg ks (wipe σ js) σ2 (wipeE ρ' js) ρ2) (S4 : Stp σ2 ρ2 G2 (outH A H2) σ2 ρ3 G3 (outH A H3)) (R4 : Rel K σ2 G3 (outH A H3) ρ3) (h3 : H3 A = some (.lst accV3)) (g3 : G3 A = none) (q3 : DqA K G3 accV3 acc3) :
    LcI K σ G1 H1 ρ1 js A accV3 acc3 G3 (restE ρ1 ρ3 js) H3 := by
  have R2 : Rel K σ G2 (outH A H2) ρ' := I.R.outD I.g I.no
  have S2 : Stp σ ρ1 G1 H1 σ ρ' G2 (outH A H2) := I.S.outD hA
  obtain ⟨S5, R5⟩ := Rel.turn R2 I.len I.same hcl ks hks T S4 R4
  have l3 : ρ3.length = ρ1.length := by
    have e1 := R4.len
    have e2 := T.len
    rw [wipe_length] at e2
    have e3 := R2.len
    have e4 := I.len
    omega
  have no3 : ¬ Own σ (restE ρ1 ρ3 js) A := fun ⟨i, l, e1, o, e3⟩ => by
    obtain ⟨v, e4, e5⟩ := R5.at_ i l e1
    rw [e3] at e4
    cases Option.some.inj (Option.some.inj e4)
    have : ∀ y, MOk K G3 (outH A H3) (.ref A) y → False := fun y hm => by
      obtain ⟨a, ea, _, hn⟩ := hm.ref
      cases ea
      exact hn outH_self
    cases l with
    | d y => cases o
    | m y => exact this y e5
    | r y => exact this y e5
    | xh => cases o
  have S6 := (S2.trans S5).side (o := .lst accV3) hA
  have R6 := R5.side (o := .lst accV3) g3 no3
  rw [outH_back h3] at S6 R6
  exact ⟨S6, R6, h3, g3, no3, q3, by rw [restE_len]; exact l3, fun i hi => restE_in l3 hi⟩
/-- within the block nothing else touches the list -/
theorem Stp.inD {σ : St} {G H G' H' : Hp} {ρ ρ' : Env} {A : Addr} {o : HO} (S : Stp σ ρ G H σ ρ' G' H') (h : H A = some o) (n : ¬ Own σ ρ A) (g : G A = none) : Stp σ ρ G (outH A H) σ ρ' G' (outH A H') ∧ H' A = some o ∧ G' A = none := by
  have om : ¬ OwnM σ ρ A := fun z => n z.own
  refine ⟨⟨S.g, fun a u e => ?_, fun a u e k => ?_, fun a e => ?_, fun a e => ?_, fun a e => ?_, S.pin⟩, S.fr A _ h n, ?_⟩
  · rcases S.gf a u e with z | z | z
    · exact .inl z
    · by_cases q : a = A
      · exact .inr (.inl (by rw [q]; exact outH_self))
      · exact .inr (.inl (by rw [outH_ne q]; exact z))
    · exact .inr (.inr z)
  · by_cases q : a = A
    · rw [q, outH_self] at e; cases e
    · rw [outH_ne q] at e ⊢
      exact S.fr a u e k
  · by_cases q : a = A
    · rw [q, outH_self] at e; exact absurd rfl e
    · rw [outH_ne q] at e ⊢
      exact S.hn a e
  · rcases S.ow a e with z | z
    · exact .inl z
    · by_cases q : a = A
      · exact .inr (by rw [q]; exact outH_self)
      · exact .inr (by rw [outH_ne q]; exact z)
  · rcases S.om a e with z | z
    · exact .inl z
    · by_cases q : a = A
      · exact .inr (by rw [q]; exact outH_self)
      · exact .inr (by rw [outH_ne q]; exact z)
  · cases q : G' A with
    | none => rfl
    | some u =>
      rcases S.gf A u q with z | z | z
      · rw [g] at z; cases z
      · rw [h] at z; cases z
      · exact absurd z om
abbrev WN : WX := fun _ _ _ _ => False
theorem lc_loop {js ks : List Nat} {J : It} {g : TG} {tt : TT} {te : TE} {gm : GM} {mt : TM} {me : EM} (hg : GOk K ks g gm) (hks : ∀ i ∈ ks, i ∈ js) (ht : TvOk K WN tt mt) (he : EvOk K WN te me)
    {σ : St} {G1 H1 : Hp} {ρ1 ρE : Env} {A : Addr} {accV : List V} {acc accE ds : List D} (R1 : Rel K σ G1 H1 ρ1) (hA : H1 A = none) (q0 : DqA K G1 accV acc) (hcl : clean ρ1 js = true) (wk : Walk K G1 J ds) (e0 : lcGo js gm mt me ρ1 ds acc ρ1 = .ok accE ρE) :
    ∃ Z : Nat → Nat → Hp → Prop, (∃ m, Z 0 m (upd H1 A (.lst accV))) ∧ ∀ i m H', Z i m H' →
      (J.stop i H' ∧ ∃ G' accVE, LcI K σ G1 H1 ρ1 js A accVE accE G' ρE H') ∨
      (J.go i H' ∧ ∃ Nx : Hp → Prop, (∀ H2, Nx H2 → ∃ m', m' < m ∧ Z (i + 1) m' H2) ∧ ∀ x H2, J.yld i H' x H2 → g x (wipe σ js) H2 fun σ2 H3 => wipe σ2 js = wipe σ js ∧ tt σ2 H3 fun b H4 =>
        if b = true then te σ2 H4 fun y H5 => ∃ acc, H5 A = some (.lst acc) ∧ acc.length < sizeLine ∧ Nx (upd H5 A (.lst (acc ++ [y]))) else Nx H4) := by
  refine ⟨fun i m H' => m = ds.length - i ∧ i ≤ ds.length ∧ ∃ G' ρ' acc' accV', LcI K σ G1 H1 ρ1 js A accV' acc' G' ρ' H' ∧ lcGo js gm mt me ρ1 (ds.drop i) acc' ρ' = .ok accE ρE, ⟨ds.length, rfl, Nat.zero_le _, G1, ρ1, acc, accV, LcI.start R1 hA q0, by simpa using e0⟩, ?_⟩
  rintro i m H' ⟨rfl, hil, G', ρ', acc', accV', I, h'⟩
  obtain ⟨go, stop⟩ := wk G' H' I.S.g I.R.same
  by_cases hlt : i < ds.length
  · obtain ⟨d, hd⟩ : ∃ d, ds[i]? = some d := ⟨ds[i], List.getElem?_eq_getElem hlt⟩
    obtain ⟨hgo, hy⟩ := go i d hd
    rw [drop_get hd] at h'
    refine .inr ⟨hgo, fun H2 => ∃ G2 ρ2 acc2 accV2, LcI K σ G1 H1 ρ1 js A accV2 acc2 G2 ρ2 H2 ∧ lcGo js gm mt me ρ1 (ds.drop (i + 1)) acc2 ρ2 = .ok accE ρE, fun H2 ⟨G2, ρ2, acc2, accV2, I2, z⟩ => ⟨ds.length - (i + 1), by omega, rfl, hlt, G2, ρ2, acc2, accV2, I2, z⟩, fun x H2 y => ?_⟩
    obtain ⟨G2, gr, q2⟩ := hy x H2 y
    have I2 := I.item gr
    unfold lcGo at h'
    cases e3 : gm d (wipeE ρ' js) with
    | none => rw [e3] at h'; cases h'
    | some ρ2 =>
      rw [e3] at h'
      simp only at h'
      refine hg _ _ _ _ _ _ _ (I2.R.block js) q2 e3 _ fun σ2 T S3 R3 => ?_
      have wEq : wipe σ2 js = wipe σ js := by
        rw [wipe_eq (σ := wipe σ js) T.len fun i hi => T.out i fun z => hi (hks i z)]
        exact wipe_eq (wipe_length _ _) fun i hi => wipe_get hi
      have nA : ¬ Own σ2 ρ2 A := fun ⟨i, l, e1, o, e3⟩ => by
        obtain ⟨e6, hi⟩ := wipeE_some (T.own i l e1 o)
        have e7 : σ2[i]? = σ[i]? := by rw [T.out i fun z => hi (hks i z), wipe_get hi]
        exact I2.no ⟨i, l, e6, o, by rw [← e7]; exact e3⟩
      refine ⟨wEq, ?_⟩
      refine ht σ2 G2 H2 ρ2 R3 _ ?_
      cases et : mt ρ2 with
      | bad => rw [et] at h'; cases h'
      | ex x ρ3 => rw [et] at h'; cases h'
      | ok t ρ3 =>
        rw [et] at h'
        unfold bindR at h'
        intro G3 H3 S4 R4
        cases t with
        | false =>
          simp only [Bool.false_eq_true, if_false] at h' ⊢
          obtain ⟨S5, h5, g5⟩ := S4.inD I2.h nA I2.g
          exact ⟨G3, _, acc', accV', I2.leave hA hcl hks T S5 (R4.outD g5 fun z => by
            rcases S4.ow A z with k | k
            · exact nA k
            · rw [I2.h] at k; cases k) h5 g5 (I2.q.mono S4.g), h'⟩
        | true =>
          simp only [if_true] at h' ⊢
          refine he σ2 G3 H3 ρ3 R4 _ ?_
          cases ee : me ρ3 with
          | bad => rw [ee] at h'; cases h'
          | ex x ρ3 => rw [ee] at h'; cases h'
          | ok z ρ4 =>
            rw [ee] at h'
            intro v G4 H4 S5 R5 x5
            simp only at h'
            split at h'
            · rename_i y' ρ5 e5
              obtain ⟨G5, S6, R6, q6⟩ := fz_ok R5 x5 e5
              split at h'
              · rename_i hz
                have S7 := S4.trans S5
                obtain ⟨S8, h8, g8⟩ := (S7.trans S6).inD I2.h nA I2.g
                have n8 : ¬ Own σ2 ρ5 A := fun z => by
                  rcases (S7.trans S6).ow A z with k | k
                  · exact nA k
                  · rw [I2.h] at k; cases k
                have I5 := I2.leave hA hcl hks T (accV3 := accV' ++ [v]) (acc3 := acc' ++ [y']) (H3 := upd H4 A (.lst (accV' ++ [v]))) (G3 := G5) (ρ3 := ρ5)
                  (by rw [outH_upd]; exact S8) (by rw [outH_upd]; exact R6.outD g8 n8) upd_same g8 ((I2.q.mono (S7.trans S6).g).append (.one q6))
                exact ⟨accV', h8, by rw [I2.q.length]; exact small_lt hz, G5, _, acc' ++ [y'], accV' ++ [v], I5, h'⟩
              · cases h'
            · cases h'
  · have ei : i = ds.length := by omega
    subst ei
    rw [List.drop_length] at h'
    have h' : Res.ok acc' ρ' = Res.ok accE ρE := h'
    cases h'
    exact .inl ⟨stop, G', accV', I⟩
def lc2In (js1 : List Nat) (gm1 : GM) (mt1 : TM) (me : EM) (acc ds1 : List D) (ρ3 : Env) : Res (List D) := if clean ρ3 js1 = true then lcGo js1 gm1 mt1 me ρ3 ds1 acc ρ3 else .bad
def lc2T (im1 : IM) (js1 : List Nat) (gm1 : GM) (mt1 : TM) (me : EM) (acc : List D) (t : Bool) (ρ2 : Env) : Res (List D) := if t = true then bindR (im1 ρ2) (lc2In js1 gm1 mt1 me acc) else .ok acc ρ2
/-- what the inner for makes of an item -/
def lc2E (js : List Nat) (gm : GM) (mt : TM) (im1 : IM) (js1 : List Nat) (gm1 : GM) (mt1 : TM) (me : EM) (d : D) (acc : List D) (ρ : Env) : Res (List D) := match gm d (wipeE ρ js) with
  | none => .bad
  | some ρ1 => bindR (mt ρ1) (lc2T im1 js1 gm1 mt1 me acc)
def lc2Go (js : List Nat) (gm : GM) (mt : TM) (im1 : IM) (js1 : List Nat) (gm1 : GM) (mt1 : TM) (me : EM) (ρ0 : Env) : List D → List D → Env → Res (List D)
  | [], acc, ρ => .ok acc ρ
  | d :: ds, acc, ρ => match lc2E js gm mt im1 js1 gm1 mt1 me d acc ρ with
    | .ok acc2 ρ4 => lc2Go js gm mt im1 js1 gm1 mt1 me ρ0 ds acc2 (restE ρ0 ρ4 js)
    | _ => .bad
def fLc2 (im : IM) (js : List Nat) (gm : GM) (mt : TM) (im1 : IM) (js1 : List Nat) (gm1 : GM) (mt1 : TM) (me : EM) : FM := fun ρ => bindR (im ρ) fun ds ρ1 => if clean ρ1 js = true then (match lc2Go js gm mt im1 js1 gm1 mt1 me ρ1 ds [] ρ1 with
    | .ok acc ρ2 => .ok (.lst acc) ρ2
    | _ => .bad) else .bad
theorem fv_lc2 {js ks js1 ks1 : List Nat} {wi wi1 : TI} {g g1 : TG} {tt tt1 : TT} {te : TE} {im im1 : IM} {gm gm1 : GM} {mt mt1 : TM} {me : EM} (hi : IvOk K W wi im) (hg : GOk K ks g gm) (hks : ∀ i ∈ ks, i ∈ js) (ht : TvOk K WN tt mt)
    (hi1 : IvOk K WN wi1 im1) (hg1 : GOk K ks1 g1 gm1) (hks1 : ∀ i ∈ ks1, i ∈ js1) (ht1 : TvOk K WN tt1 mt1) (he : EvOk K WN te me) : FvOk K W (tLc2 wi g tt wi1 g1 tt1 te js js1) (fLc2 im js gm mt im1 js1 gm1 mt1 me) := fun σ G H ρ R Q h => by
  unfold fLc2 bindR at h
  refine hi.fst R (fun ds ρ1 e J G1 H1 S1 R1 wk => ?_) (fun e ρ1 q => by rw [q] at h; exact h) (fun q => by rw [q] at h; exact h)
  rw [e] at h
  have h := FPost.step S1 h
  simp only at h
  split at h
  · rename_i hcl
    split at h
    · rename_i accE ρE eE
      intro A hA
      refine ⟨fun i m H' => m = ds.length - i ∧ i ≤ ds.length ∧ ∃ G' ρ' acc' accV', LcI K σ G1 H1 ρ1 js A accV' acc' G' ρ' H' ∧ lc2Go js gm mt im1 js1 gm1 mt1 me ρ1 (ds.drop i) acc' ρ' = .ok accE ρE,
        ⟨ds.length, rfl, Nat.zero_le _, G1, ρ1, [], [], LcI.start R1 hA .nil, by simpa using eE⟩, ?_⟩
      rintro i m H' ⟨rfl, hil, G', ρ', acc', accV', I, h'⟩
      obtain ⟨go, stop⟩ := wk G' H' I.S.g I.R.same
      by_cases hlt : i < ds.length
      · obtain ⟨d, hd⟩ : ∃ d, ds[i]? = some d := ⟨ds[i], List.getElem?_eq_getElem hlt⟩
        obtain ⟨hgo, hy⟩ := go i d hd
        rw [drop_get hd] at h'
        refine .inr ⟨hgo, fun H2 => ∃ G2 ρ2 acc2 accV2, LcI K σ G1 H1 ρ1 js A accV2 acc2 G2 ρ2 H2 ∧ lc2Go js gm mt im1 js1 gm1 mt1 me ρ1 (ds.drop (i + 1)) acc2 ρ2 = .ok accE ρE, fun H2 ⟨G2, ρ2, acc2, accV2, I2, z⟩ => ⟨ds.length - (i + 1), by omega, rfl, hlt, G2, ρ2, acc2, accV2, I2, z⟩, fun x H2 y => ?_⟩
        obtain ⟨G2, gr, q2⟩ := hy x H2 y
        have I2 := I.item gr
        rw [lc2Go] at h'
        cases eD : lc2E js gm mt im1 js1 gm1 mt1 me d acc' ρ' with
        | bad => rw [eD] at h'; cases h'
        | ex _ _ => rw [eD] at h'; cases h'
        | ok acc2 ρ4 =>
          rw [eD] at h'
          simp only at h'
          unfold lc2E at eD
          cases e3 : gm d (wipeE ρ' js) with
          | none => rw [e3] at eD; cases eD
          | some ρ2 =>
            rw [e3] at eD
            simp only at eD
            refine hg _ _ _ _ _ _ _ (I2.R.block js) q2 e3 _ fun σ2 T S3 R3 => ?_
            have wEq : wipe σ2 js = wipe σ js := by
              rw [wipe_eq (σ := wipe σ js) T.len fun i hi => T.out i fun z => hi (hks i z)]
              exact wipe_eq (wipe_length _ _) fun i hi => wipe_get hi
            have nA : ¬ Own σ2 ρ2 A := fun ⟨i, l, e1, o, e3⟩ => by
              obtain ⟨e6, hi⟩ := wipeE_some (T.own i l e1 o)
              have e7 : σ2[i]? = σ[i]? := by rw [T.out i fun z => hi (hks i z), wipe_get hi]
              exact I2.no ⟨i, l, e6, o, by rw [← e7]; exact e3⟩
            refine ⟨wEq, ?_⟩
            refine ht σ2 G2 H2 ρ2 R3 _ ?_
            cases et : mt ρ2 with
            | bad => rw [et] at eD; cases eD
            | ex x ρ3 => rw [et] at eD; cases eD
            | ok t ρ3 =>
              rw [et] at eD
              have eD : lc2T im1 js1 gm1 mt1 me acc' t ρ3 = .ok acc2 ρ4 := eD
              unfold lc2T at eD
              intro G3 H3 S4 R4
              have nO : ∀ {ρ5 : Env} {G5 H5 : Hp}, Stp σ2 ρ2 G2 H2 σ2 ρ5 G5 H5 → ¬ Own σ2 ρ5 A := fun S z => by
                rcases S.ow A z with k | k
                · exact nA k
                · rw [I2.h] at k; cases k
              cases t with
              | false =>
                simp only [Bool.false_eq_true, if_false] at eD ⊢
                cases eD
                obtain ⟨S5, h5, g5⟩ := S4.inD I2.h nA I2.g
                exact ⟨G3, _, acc', accV', I2.leave hA hcl hks T S5 (R4.outD g5 (nO S4)) h5 g5 (I2.q.mono S4.g), h'⟩
              | true =>
                simp only [if_true] at eD ⊢
                refine hi1 σ2 G3 H3 ρ3 R4 _ ?_
                cases ei : im1 ρ3 with
                | bad => rw [ei] at eD; cases eD
                | ex x ρ5 => rw [ei] at eD; cases eD
                | ok ds1 ρ5 =>
                  rw [ei] at eD
                  have eD : lc2In js1 gm1 mt1 me acc' ds1 ρ5 = .ok acc2 ρ4 := eD
                  unfold lc2In at eD
                  split at eD
                  · rename_i hc1
                    intro J1 G5 H5 S5 R5 wk1
                    have S6 := S4.trans S5
                    obtain ⟨S7, h7, g7⟩ := S6.inD I2.h nA I2.g
                    obtain ⟨Z, ⟨m0, z0⟩, turn⟩ := lc_loop hg1 hks1 ht1 he (A := A) (accV := accV') (acc := acc') (R5.outD g7 (nO S6)) outH_self (I2.q.mono S6.g) hc1 wk1 eD
                    rw [outH_back h7] at z0
                    refine ⟨Z, ⟨m0, z0⟩, fun j k H6 hz => ?_⟩
                    rcases turn j k H6 hz with ⟨st, G7, accV7, I7⟩ | r
                    · refine .inl ⟨st, G7, _, acc2, accV7, I2.leave hA hcl hks T (S7.trans (I7.S.outD outH_self)) (I7.R.outD I7.g I7.no) I7.h I7.g I7.q, h'⟩
                    · exact .inr r
                  · cases eD
      · have ei : i = ds.length := by omega
        subst ei
        rw [List.drop_length] at h'
        have h' : Res.ok acc' ρ' = Res.ok accE ρE := h'
        cases h'
        refine .inl ⟨stop, h _ G' H' I.S I.R ⟨⟨A, accV', rfl, I.g, I.h, I.q⟩, fun a ea => ?_⟩⟩
        cases ea
        exact ⟨hA, I.no⟩
    · exact h.elim
  · exact h.elim
end DL
set_option Elab.async false
set_option linter.all false
set_option maxRecDepth 100000
set_option maxHeartbeats 4000000
/-! x += e of ints; a list frozen where it is handed on; comprehensions with two fors -/
namespace DL
open PySem PySem.Spec PyProof.Rows L2
def addI : D → D → Option D
  | .int i, .int j => some (.int (i + j))
  | _, _ => none
theorem ip_addI {X : Cx} : PIp X .Add (rD2 X.K addI) := by
  intro pins s σ H x y v u Q I rx ry h
  obtain ⟨G, a, b, d, sG, va, vb, e, q⟩ := h
  unfold addI at e
  split at e
  · cases Option.some.inj e
    rw [va.int] at rx
    rw [vb.int] at ry
    exact ip_add pins s σ H _ _ v u Q I rx ry ⟨_, _, rfl, rfl, dend_int sG q⟩
  · cases e
theorem ip_subI {X : Cx} : PIp X .Sub (rD2 X.K subD) := by
  intro pins s σ H x y v u Q I rx ry h
  obtain ⟨G, a, b, d, sG, va, vb, e, q⟩ := h
  unfold subD at e
  split at e
  · cases Option.some.inj e
    rw [va.int] at rx
    rw [vb.int] at ry
    exact ip_sub pins s σ H _ _ v u Q I rx ry ⟨_, _, rfl, rfl, dend_int sG q⟩
  · cases e
/-- a list that nobody changes any more, handed on -/
def eFr (m : EM) : EM := fun ρ => bindR (m ρ) fun x ρ1 => match fz ρ1 x with
  | some (d, ρ2) => .ok (.d d) ρ2
  | none => .bad
theorem ev_fr {K : Kx} {W : WX} {t : TE} {m : EM} (ht : EvOk K W t m) : EvOk K W t (eFr m) := fun σ G H ρ R Q h => by
  unfold eFr bindR at h
  refine ht.fst R (fun x ρ1 e u G1 H1 S1 R1 x1 => ?_) (fun e ρ1 q => by rw [q] at h; exact h) (fun q => by rw [q] at h; exact h)
  rw [e] at h
  have h := EPost.step S1 h
  simp only at h
  split at h
  · rename_i d ρ2 e2
    obtain ⟨G2, S2, R2, q2⟩ := fz_ok R1 x1 e2
    exact h _ _ _ S2 R2 q2
  · exact h.elim
section
variable {X : Cx} {xa : Option XA} {W : WX} {e elt iter iter1 tg tg1 : Expr} {m : EM} {pos p' : Pos} {x : Str} {i : Nat} {im im1 : IM} {gm gm1 : GM} {scope : Scope}
theorem je_fr (h : JE X xa W e m) : JE X xa W e (eFr m) := let ⟨t, h1, h2⟩ := h; ⟨t, h1, ev_fr h2⟩
theorem js_aug {op : Operator} {g : D → D → Option D} (hN : X.N.Nodup) (ho : PIp X op (rD2 X.K g)) (h : JE X xa W e m) (hi : X.N[i]? = some x := by rfl) (hx : Loc X.env.scope x := by first | exact .inl rfl | exact .inr rfl) (hf : X.fn x = true ∨ X.env.scope.names.lookup x = some .local := by first | exact .inl rfl | exact .inr rfl | assumption) :
    JS X xa W (.AugAssign (.Name x p') op e pos) (sAug i g m) := let ⟨_, a, b⟩ := h; ⟨_, ps_aug hN hi hx a ho hf, st_aug b⟩
def JIs (X : Cx) (xa : Option XA) (W : WX) (scope : Scope) (tg e : Expr) (m : IM) : Prop := Blks X scope fun Y => JI Y xa W tg e m
/-- what m tells, as a reading of what is walked -/
def iOf (K : Kx) (W : WX) (m : IM) : TI := fun σ H Q => ∃ G ρ, Rel K σ G H ρ ∧ IPost K W σ G H ρ Q (m ρ)
theorem iv_of {K : Kx} {W : WX} {m : IM} : IvOk K W (iOf K W m) m := fun σ G H ρ R Q h => ⟨G, ρ, R, h⟩
theorem JI.can {tg e : Expr} {m : IM} (h : JI X xa W tg e m) : PI X tg e (iOf ⟨X.K, xa⟩ W m) := by
  obtain ⟨t, h1, h2⟩ := h
  exact ⟨fun pins s σ H Q I ⟨G, ρ, R, hp⟩ => h1.run pins s σ H Q I (h2 σ G H ρ R Q hp)⟩
theorem jf_lc2 {own : List (Str × Nat)} {ks ks1 js1 : List Nat} {g g1 : TG} (hc : X.calm = true) (hN : X.N.Nodup) (hi : JI X xa W tg iter im) (ok : BlkOk X.N X.env.scope scope own) (hv : ∀ i ∈ js1, i ∈ own.map (·.2)) (hg : Blks X scope fun Y => PG Y tg g) (hgo : GOk ⟨X.K, xa⟩ ks g gm) (hks : ∀ i ∈ ks, i ∈ own.map (·.2))
    (hi1 : Blks X scope fun Y => JI Y xa WF tg1 iter1 im1) (hg1 : Blks X scope fun Y => PG Y tg1 g1) (hgo1 : GOk ⟨X.K, xa⟩ ks1 g1 gm1) (hks1 : ∀ i ∈ ks1, i ∈ js1)
    (he : Blks X scope fun Y => JE Y xa WF elt m) (hs : ∀ x, foldedSetIterable iter X.env x = pure x := by intro _; rfl) (hs1 : ∀ env x, foldedSetIterable iter1 env x = pure x := by intro _ _; rfl) :
    JF X xa W (.ListComp elt [⟨tg, iter, [], 0⟩, ⟨tg1, iter1, [], 0⟩] scope pos) (fLc2 im (own.map (·.2)) gm mYes im1 js1 gm1 mYes m) :=
  let ⟨_, h1, h2⟩ := hi
  ⟨_, pe_lc2 hc hN h1 ok hv hg (fun _ _ _ _ _ => pts_nil) (fun s H C cl fp => (hi1 s H C cl fp).can) hg1 (fun _ _ _ _ _ => pts_nil) (fun s H C cl fp => (he s H C cl fp).can) hs hs1, fv_lc2 h2 hgo hks tv_yes iv_of hgo1 hks1 tv_yes ev_of⟩
end
end DL
set_option Elab.async false
set_option linter.all false
set_option maxRecDepth 100000
set_option maxHeartbeats 4000000
/-! enumerate of a list, of a tuple -/
namespace L2
open PySem PySem.Spec PyProof.Rows
set_option maxHeartbeats 1000000 in
theorem enum_newB {v : Value} {ob : Obj} {Hq : Heap → Prop} (B : Begins v ob Hq) :
    Meets (Builtin.«enumerate.__new__» ⟨[.type "enumerate", v], []⟩) (fun _ Rr st => Hq st.heap ∧
      Rr (.ok (.ret (.ref (st.heap.push ob).objs.size))) { st with heap := (st.heap.push ob).push { cls := .type "enumerate", data := .fields #[.none, .bool false, .ref st.heap.objs.size, rawInt 0, .none, .none] } }) :=
  .of_wp fun pg wd Ar Rr st hst => by
    obtain ⟨hp, gs, dn, t0, os⟩ := st; obtain ⟨k1, k2⟩ := hst
    have hsub := sub_enumerate
    have q1 : ∀ {Ar' : Around} {Ex : Value → Shared → Prop} {Qq : Value → Shared → Prop}, Qq (.ref hp.objs.size) ⟨hp.push ob, gs, dn, t0, os⟩ → wpAny (model pg wd) Ar' (pyIter v) Qq Ex ⟨hp, gs, dn, t0, os⟩ :=
      fun q => B.iter pg wd _ _ ⟨hp, gs, dn, t0, os⟩ _ k1 q
    wp_walk using q1
    refine wpAny_stack_any fun stk => wpAny_pure ?_
    split
    · rename_i cl _ _ _ _ _
      cases (cl == Value.type "enumerate") <;> (wp_walk using q1; exact ⟨_, rfl, k2⟩)
    · wp_walk using q1
      exact ⟨_, rfl, k2⟩
theorem enum_tup {pg : Program} {wd : World} {Ar : Around} {Ex : Value → Shared → Prop} {st : Shared} {l : Addr} {its : Array Value} {Qq : Value → Shared → Prop} (hL : st.heap.IsTuple l its)
    (k : ∀ g', IsEnum g' (st.heap.objs.size + 1) st.heap.objs.size 0 .none → g'.IsTupleIter st.heap.objs.size l 0 → (∀ b o, st.heap.get? b = some o → g'.get? b = some o) → Qq (.ref (st.heap.objs.size + 1)) { st with heap := g' }) :
    wpAny (model pg wd) Ar (call (.type "enumerate") [.ref l]) Qq Ex st := by
  refine callType_new F.called_enumerate (by decide) (F.typeCall_enumerate_1 _) (F.newCall_enumerate_1 _) (fun ob => F.args_object_init_2 ob _) F.entry_enumerate_new (enum_newB (begins_tuple l its)) ⟨hL, ?_⟩
  have hz : ∀ ob : Obj, (st.heap.push ob).objs.size = st.heap.objs.size + 1 := fun ob => Heap.size_push ..
  show _ ∧ _
  rw [hz]
  have he := Heap.get?_push_size (st.heap.push { cls := .type "tuple_iterator", data := .fields #[.ref l, .int 0 0] }) (o := { cls := .type "enumerate", data := .fields #[.none, .bool false, .ref st.heap.objs.size, rawInt 0, .none, .none] }) rfl
  rw [hz] at he
  exact ⟨⟨_, he, rfl⟩, k _ he ⟨_, Heap.get?_push_of_some _ (Heap.get?_push_size _ rfl), rfl, rfl⟩ fun b o x => Heap.get?_push_of_some _ (Heap.get?_push_of_some _ x)⟩
/-- the tuple at a, each item in a new pair -/
def ItE (K : PySem.W.Frag) (a : Addr) : It :=
  ⟨fun i H => ∃ (xs : List V) (x : V), SqT K H a xs ∧ xs[i]? = some x, fun i H v H' => ∃ T x, v = .ref T ∧ H T = none ∧ H' = upd H T (.tup [.int (i : Nat), x]) ∧ (∀ ys, SqT K H a ys → ys[i]? = some x), fun i H => ∃ xs, SqT K H a xs ∧ xs.length ≤ i⟩
theorem enumT_turn {Pg : Program} {wd : World} {K : PySem.W.Frag} {es : List Expr} {kq : Nat} {tp : Pos} (a e it : Addr) :
    Turn Pg wd K (.Tuple es kq tp) (ItE K a) [e, it] e (fun i g => (∃ old, IsEnum g e it ((i : Nat) : Int) old) ∧ g.IsTupleIter it a i ∧ e ≠ it) where
  mem := List.mem_cons_self
  obj := fun i g st b hb => by
    obtain ⟨⟨old, he⟩, ⟨o, ho, hc, hd⟩, _⟩ := st
    rcases List.mem_cons.mp hb with z | z
    · subst z
      exact ⟨_, he, fun v q => by cases q⟩
    · cases List.mem_singleton.mp z
      exact ⟨o, ho, fun v q => by rw [hd] at q; cases q⟩
  keep := by
    intro i g g' s1 k
    obtain ⟨⟨old, he⟩, hi, hne⟩ := s1
    exact ⟨⟨old, k e List.mem_cons_self _ he⟩, hi.at fun o q => k it (List.mem_cons_of_mem _ (List.mem_singleton.mpr rfl)) o q, hne⟩
  item := by
    intro X hP hw hK hc i pins st σ H E I hf s1 hg
    subst hP hw hK
    obtain ⟨⟨old, he⟩, hit, hne⟩ := s1
    obtain ⟨xs, x, hq, hx⟩ := hg
    obtain ⟨its, rv, pt, hz⟩ := I.tuple hq
    obtain ⟨u, hu, ru⟩ := rv.get hx
    have hel : e < st.heap.objs.size := Heap.lt_size he
    have hil : it < st.heap.objs.size := by obtain ⟨_, q, _⟩ := hit; exact Heap.lt_size q
    have hlt : i < its.length := (List.getElem?_eq_some_iff.mp hu).1
    have hae : a ≠ e := fun q => by
      obtain ⟨ob, ho, hcl, _⟩ := pt
      rw [q] at ho
      rw [he] at ho
      rw [← Option.some.inj ho] at hcl
      exact absurd (show Value.type "enumerate" = Value.type "tuple" from hcl) (by decide)
    have hai : a ≠ it := fun q => by
      obtain ⟨ob, ho, hcl, _⟩ := pt
      obtain ⟨o2, ho2, hc2, _⟩ := hit
      rw [q] at ho
      rw [ho2] at ho
      rw [← Option.some.inj ho, hc2] at hcl
      exact absurd (show Value.type "tuple_iterator" = Value.type "tuple" from hcl) (by decide)
    have Dr := Draws.tuple (prog := X.prog) (w := X.w) (A := X.A.in1) (show X.A.in1.handled = none from I.ok.hd hc) it a hai its.toArray
    refine wpAny_pyNext_enum_itemD Dr he ⟨hit, pt⟩ (by simpa using hlt) hne (by simp [hne, Ne.symm hae]) fun y g' tk hy ho hst' hT hsz hk => ?_
    have ey : y = u := by
      have hy' : its[i]? = some y := by simpa using hy
      rw [hu] at hy'
      exact (Option.some.inj hy').symm
    subst ey
    refine ⟨_, rfl, wpAny_letOwnedTupleGo_enum (s := { st with heap := g', toks := tk + 1 }) ho fun g2 he' sb => ?_⟩
    have hT2 := (sb.2 _ (Nat.ne_of_gt hel)).trans hT
    have new : ObjOk X.prog X.w (upd H st.heap.objs.size (.tup [.int (i : Nat), x])) g2 st.heap.objs.size (.tup [.int (i : Nat), x]) :=
      ⟨by show 2 ≤ sizeLine; decide, [.int i tk, y], .cons ⟨_, rfl⟩ (.cons ru .nil), ⟨_, hT2, rfl, _, rfl⟩⟩
    have I1 : Inv X pins σ (upd H st.heap.objs.size (.tup [.int (i : Nat), x])) { st with heap := g2, toks := tk + 1 } :=
      I.turnedNew (ch := [e, it]) (fun b ob hb q => (sb.2 b (fun z => hb (by rw [z]; exact List.mem_cons_self))).trans (hk b ob (fun z => hb (by rw [z]; exact List.mem_cons_self)) (fun z => hb (by rw [z]; exact List.mem_cons_of_mem _ (List.mem_singleton.mpr rfl))) q)) hf (Nat.le_refl _) new
    refine ⟨.ref st.heap.objs.size, _, I1, rfl, ⟨_, x, rfl, I.hok.fresh (Nat.le_refl _), rfl, fun ys hys => by rw [I.tuple_inj hys hq]; exact hx⟩, ⟨⟨y, ?_⟩, hst'.1.at fun o q => (sb.2 it (Ne.symm hne)).trans q, hne⟩, fun b hb => ?_⟩
    · rw [show ((i + 1 : Nat) : Int) = (i : Int) + 1 by omega]; exact he'
    · have hb' : b < st.heap.objs.size := by
        rcases List.mem_cons.mp hb with z | z
        · rw [z]; exact hel
        · rw [List.mem_singleton.mp z]; exact hil
      rw [upd_ne (Nat.ne_of_lt hb')]
      exact (hf b hb).1
  done := by
    intro X hP hw hK hc i pins st σ H E I hf s1 hg
    subst hP hw hK
    obtain ⟨⟨old, he⟩, hit, hne⟩ := s1
    obtain ⟨xs, hq, hx⟩ := hg
    obtain ⟨its, rv, pt, hz⟩ := I.tuple hq
    have hf1 := hf it (List.mem_cons_of_mem _ (List.mem_singleton.mpr rfl))
    have hae : a ≠ e := fun q => by
      obtain ⟨ob, ho, hcl, _⟩ := pt
      rw [q] at ho
      rw [he] at ho
      rw [← Option.some.inj ho] at hcl
      exact absurd (show Value.type "enumerate" = Value.type "tuple" from hcl) (by decide)
    have hai : a ≠ it := fun q => by
      obtain ⟨ob, ho, hcl, _⟩ := pt
      obtain ⟨o2, ho2, hc2, _⟩ := hit
      rw [q] at ho
      rw [ho2] at ho
      rw [← Option.some.inj ho, hc2] at hcl
      exact absurd (show Value.type "tuple_iterator" = Value.type "tuple" from hcl) (by decide)
    have hn : its.toArray[i]? = none := by
      have h1 := rv.length
      have h2 : xs.length ≤ i := hx
      simp
      omega
    have tE : st.TypeIs (.ref e) "enumerate" := ⟨_, he, rfl⟩
    unfold pyNext
    refine wpAny_bind (wpAny_attempt (wpAny_callSpecial?_slot (name := Str.ofString "__next__") tE F.slot_enumerate_next (wpAny_call_entry F.slot_enumerate_next tE F.entry_enumerate_next ?_ (F.args_enumerate_next_1 _))))
    show wpAny _ _ (field (.ref e) 2 >>= _) _ _ _
    refine wpAny_bind (wpAny_field he rfl (x := .ref it) rfl ?_)
    refine wpAny_bind (wpAny_nextOf_tuple_end (show X.A.in1.handled = none from I.ok.hd hc) hit pt hn fun g' ex eb ⟨ob, ho, hcl⟩ => ?_)
    exact wpAny_bind (wpAny_isInstance (T := "StopIteration") (b := true) ⟨ob, ho, hcl⟩ isSubtype_stop (wpAny_pure ⟨rfl, I.turned (t' := st.toks) (fun b o hb q => eb b o hb q) hf1.1 hf1.2.1 hf1.2.2.2.1 hf1.2.2.2.2.1 hf1.2.2.2.2.2⟩))
  self := by
    intro Ar i st Q E s1 k
    obtain ⟨⟨_, he⟩, _⟩ := s1
    exact wpAny_pyIter_enum he k
end L2
set_option Elab.async false
set_option linter.all false
set_option maxRecDepth 100000
set_option maxHeartbeats 4000000
namespace DL
open PySem PySem.Spec PyProof.Rows L2
def iEnA (K : PySem.W.Frag) (tl : TE) : TI := fun σ H R => tl σ H fun x H1 => (∃ a, x = .ref a ∧ (∃ xs, SqL K H1 a xs) ∧ R (Ite K a) H1) ∨ (∃ a, x = .ref a ∧ (∃ xs, SqT K H1 a xs) ∧ R (ItE K a) H1)
def enP (K : PySem.W.Frag) (R : It → Hp → Prop) : List V → Hp → Prop
  | [x], H1 => (∃ a, x = .ref a ∧ (∃ xs, SqL K H1 a xs) ∧ R (Ite K a) H1) ∨ (∃ a, x = .ref a ∧ (∃ xs, SqT K H1 a xs) ∧ R (ItE K a) H1)
  | _, _ => False
theorem enP_one {K : PySem.W.Frag} {R : It → Hp → Prop} {vs : List V} {H1 : Hp} (h : enP K R vs H1) : ∃ x, vs = [x] ∧ ((∃ a, x = .ref a ∧ (∃ xs, SqL K H1 a xs) ∧ R (Ite K a) H1) ∨ (∃ a, x = .ref a ∧ (∃ xs, SqT K H1 a xs) ∧ R (ItE K a) H1)) := by
  rcases vs with _ | ⟨x, _ | ⟨y, r⟩⟩
  · exact h.elim
  · exact ⟨x, rfl, h⟩
  · exact h.elim
theorem pi_enA {X : Cx} {l : Expr} {tl : TE} {p pos tp : Pos} {es : List Expr} {kq : Nat} (hg : Gl X "enumerate") (hm : X.mg "enumerate" = none) (hl : PE X l tl) (hs : starEach [l] X.env = [(false, eval l X.env)] := by rfl) :
    PI X (.Tuple es kq tp) (.Call (.Name "enumerate" p) [l] [] pos) (iEnA X.K tl) := by
  refine ⟨fun pins s σ H R I h => ?_⟩
  refine Call_ (ld_blt I hg hm boot_enumerate (PyProof.Rows.callWith_type1 (thn ((pa_cons hl pa_nil hs).run pos pins s σ H (enP X.K R) I h) fun us s1 ⟨vs, H1, I1, r1, q0⟩ => ?_) hs rfl))
  obtain ⟨x, ex, q1⟩ := enP_one q0
  · subst ex
    cases r1 with
    | cons r rr =>
      cases rr
      have fp : ∀ b : Addr, b ∈ [s1.heap.objs.size + 1, s1.heap.objs.size] → FpOk X pins H1 b := fun b hb => by
        have hle : s1.heap.objs.size ≤ b := by
          rcases List.mem_cons.mp hb with z | z
          · rw [z]; exact Nat.le_add_right _ _
          · rw [List.mem_singleton.mp z]; exact Nat.le_refl _
        exact I1.fpOk hle (I1.hok.fresh hle)
      rcases q1 with ⟨a, rfl, ⟨xs, hq⟩, q⟩ | ⟨a, rfl, ⟨xs, hq⟩, q⟩
      · cases r
        obtain ⟨its, rv, pt, hz⟩ := I1.list hq
        exact call_enumerate_list pt.isList fun g' he hit hsz hk => wpAny_pyIter_enum he ⟨_, _, _, _, H1, rfl, I1.kept (t' := s1.toks) hk, turn_enum a (s1.heap.objs.size + 1) s1.heap.objs.size, ⟨⟨.none, he⟩, hit, Nat.succ_ne_self _⟩, fp, q⟩
      · cases r
        obtain ⟨its, rv, pt, hz⟩ := I1.tuple hq
        exact enum_tup pt fun g' he hit hk => wpAny_pyIter_enum he ⟨_, _, _, _, H1, rfl, I1.kept (t' := s1.toks) hk, enumT_turn a (s1.heap.objs.size + 1) s1.heap.objs.size, ⟨⟨.none, he⟩, hit, Nat.succ_ne_self _⟩, fp, q⟩
/-- the pairs of enumerate -/
def enumD : Nat → List D → List D
  | _, [] => []
  | i, d :: ds => .tup [.int (i : Int), d] :: enumD (i + 1) ds
theorem enumD_get : ∀ {ds : List D} {i n : Nat} {d : D}, (enumD n ds)[i]? = some d → ∃ x, ds[i]? = some x ∧ d = .tup [.int ((n + i : Nat) : Int), x]
  | [], _, _, _, h => by cases h
  | x :: ds, 0, n, d, h => ⟨x, rfl, (Option.some.inj h).symm⟩
  | x :: ds, i + 1, n, d, h => by
    obtain ⟨y, e1, e2⟩ := enumD_get (ds := ds) (i := i) (n := n + 1) (d := d) h
    exact ⟨y, e1, by rw [e2, show n + 1 + i = n + (i + 1) by omega]⟩
theorem enumD_len : ∀ {ds : List D} {n : Nat}, (enumD n ds).length = ds.length
  | [], _ => rfl
  | _ :: ds, n => by rw [enumD, List.length_cons, List.length_cons, enumD_len]
def enF : Option (D × Env) → Res (List D)
  | some (.lst ds, ρ2) => .ok (enumD 0 ds) ρ2
  | some (.ro ds, ρ2) => .ok (enumD 0 ds) ρ2
  | some (.tup ds, ρ2) => .ok (enumD 0 ds) ρ2
  | _ => .bad
def kEn : X → Env → Res (List D) := fun x ρ1 => enF (fz ρ1 x)
def mEn (m : EM) : IM := fun ρ => bindR (m ρ) kEn
section
variable {K : Kx} {W : WX}
theorem en_walk {G : Hp} {J : It} {ds : List D} {xs : List V} (q : DqA K G xs ds) (Sq : Hp → List V → Prop) (mono : ∀ G1 H1, Same G G1 → Same G1 H1 → Sq H1 xs)
    (go : ∀ i (H : Hp) x, Sq H xs → xs[i]? = some x → J.go i H) (st : ∀ (H : Hp), Sq H xs → J.stop xs.length H)
    (yl : ∀ i (H : Hp) v H' x, Sq H xs → xs[i]? = some x → J.yld i H v H' → ∃ T, v = .ref T ∧ H T = none ∧ H' = upd H T (.tup [.int (i : Nat), x])) : Walk K G J (enumD 0 ds) := fun G1 H1 s1 s2 => by
  have hs := mono G1 H1 s1 s2
  refine ⟨fun i d hd => ?_, ?_⟩
  · obtain ⟨y, e1, e2⟩ := enumD_get hd
    obtain ⟨u, h1, h2⟩ := q.get e1
    refine ⟨go i H1 u hs h1, fun v H' hy => ?_⟩
    obtain ⟨T, rfl, hT, rfl⟩ := yl i H1 v H' u hs h1 hy
    have g := Gro.new (o := .tup [.int (i : Nat), u]) s2 hT
    refine ⟨_, g, ?_⟩
    rw [e2, Nat.zero_add]
    exact .tup (.inl (.inl upd_same)) (.cons (.int _) (.cons ((h2.mono s1).mono g.g) .nil))
  · rw [enumD_len, ← q.length]
    exact st H1 hs
theorem iv_en {t : TE} {m : EM} (ht : EvOk K W t m) : IvOk K W (iEnA K t) (mEn m) := fun σ G H ρ R Q h => by
  unfold mEn bindR at h
  refine ht.fst R (fun x ρ1 e v G1 H1 S1 R1 x1 => ?_) (fun e ρ1 q => by rw [q] at h; exact h) (fun q => by rw [q] at h; exact h)
  rw [e] at h
  have h := IPost.step S1 h
  simp only at h
  unfold kEn enF at h
  have lists : ∀ {G2 : Hp} {a : Addr} {xs : List V} {ds : List D}, SqL K.k G2 a xs → DqA K G2 xs ds → Walk K G2 (Ite K.k a) (enumD 0 ds) := fun {G2 a xs ds} hq ha =>
    en_walk ha (fun H ys => SqL K.k H a ys) (fun G3 H3 s1 s2 => s2.seq (s1.seq hq)) (fun i H x hs hx => ⟨xs, x, hs, hx⟩) (fun H hs => ⟨xs, hs, Nat.le_refl _⟩) (fun i H v H' x hs hx ⟨T, y, e1, e2, e3, e4⟩ => by
      have := e4 xs hs
      rw [hx] at this
      cases Option.some.inj this
      exact ⟨T, e1, e2, e3⟩)
  split at h
  · rename_i ds ρ2 e2
    obtain ⟨G2, S2, R2, q2⟩ := fz_ok R1 x1 e2
    have h := IPost.step S2 h
    cases q2 with
    | lst hq' ha =>
      rename_i a xs
      have hq : SqL K.k G2 a xs := .inl (.inl hq')
      exact .inl ⟨a, rfl, ⟨xs, R2.same.seq hq⟩, h _ G2 H1 (Stp.refl _ _ _ _) R2 (lists hq ha)⟩
  · rename_i ds ρ2 e2
    obtain ⟨G2, S2, R2, q2⟩ := fz_ok R1 x1 e2
    have h := IPost.step S2 h
    cases q2 with
    | ro hq ha =>
      rename_i a xs
      exact .inl ⟨a, rfl, ⟨xs, R2.same.seq hq⟩, h _ G2 H1 (Stp.refl _ _ _ _) R2 (lists hq ha)⟩
  · rename_i ds ρ2 e2
    obtain ⟨G2, S2, R2, q2⟩ := fz_ok R1 x1 e2
    have h := IPost.step S2 h
    cases q2 with
    | tup hq ha =>
      rename_i a xs
      refine .inr ⟨a, rfl, ⟨xs, Same.seqT R2.same hq⟩, h _ G2 H1 (Stp.refl _ _ _ _) R2 ?_⟩
      exact en_walk ha (fun H ys => SqT K.k H a ys) (fun G3 H3 s1 s2 => Same.seqT s2 (Same.seqT s1 hq)) (fun i H x hs hx => ⟨xs, x, hs, hx⟩) (fun H hs => ⟨xs, hs, Nat.le_refl _⟩) (fun i H v H' x hs hx ⟨T, y, e1, e2, e3, e4⟩ => by
        have := e4 xs hs
        rw [hx] at this
        cases Option.some.inj this
        exact ⟨T, e1, e2, e3⟩)
  · exact h.elim
end
theorem ji_en {X : Cx} {xa : Option XA} {W : WX} {l : Expr} {m : EM} {p pos tp : Pos} {es : List Expr} {kq : Nat} (hm : X.mg "enumerate" = none) (h : JE X xa W l m) (hg : Gl X "enumerate" := by rfl) (hs : starEach [l] X.env = [(false, eval l X.env)] := by rfl) :
    JI X xa W (.Tuple es kq tp) (.Call (.Name "enumerate" p) [l] [] pos) (mEn m) := let ⟨_, h1, h2⟩ := h; ⟨_, pi_enA hg hm h1 hs, iv_en h2⟩
end DL
set_option Elab.async false
set_option linter.all false
set_option maxRecDepth 100000
set_option maxHeartbeats 4000000
/-! x[::-1] of a list, of a tuple -/
namespace L2
open PySem PySem.Spec PyProof.Rows HT
section
variable {pg : Program} {wd : World} {Ar : Around} {Ex : Value → Shared → Prop} {st : Shared}
theorem rev_applied {sl : Addr} {v : Value} {n : Nat} {Qq : Int × Int × Nat → Shared → Prop} (hs : st.heap.IsSliceOf sl .none .none v) (pv : IsPart v (some (-1))) (k : Qq ((n : Int) - 1, -1, n) st) :
    wpAny (model pg wd) Ar (Builtin.Slice.sliceApplied (.ref sl) (pure (n : Int))) Qq Ex st := by
  obtain ⟨ob, hos, hcs, hds⟩ := id hs
  unfold Builtin.Slice.sliceApplied Builtin.Slice.sliceFields
  refine wpAny_bind (wpAny_bind (wpAny_field hos hds (x := Value.none) rfl (wpAny_bind (wpAny_field hos hds (x := Value.none) rfl (wpAny_bind (wpAny_field hos hds (x := v) rfl (wpAny_pure ?_)))))))
  refine wpAny_bind (slicePart_ pv ?_)
  show wpAny _ _ (if ((-1 : Int) == 0) = true then _ else _) _ _ st
  rw [if_neg (by decide)]
  refine wpAny_bind (slicePart_none (wpAny_bind (slicePart_none (wpAny_bind (wpAny_pure ?_)))))
  have e : Builtin.Slice.slicePlaces ((n : Int) - 1) (-1) (-1) = n := by
    unfold Builtin.Slice.slicePlaces
    rw [if_neg (by decide)]
    by_cases q : (n : Int) - 1 > -1
    · rw [if_pos q, show (- -1 : Int) = 1 by decide, Int.ediv_one]
      omega
    · rw [if_neg q]
      omega
  show wpAny _ _ (pure ((n : Int) - 1, (-1 : Int), Builtin.Slice.slicePlaces ((n : Int) - 1) (-1) (-1))) _ _ st
  rw [e]
  exact wpAny_pure k
theorem fm_cong {α β : Type} {f g : α → Option β} : ∀ {l : List α}, (∀ x ∈ l, f x = g x) → l.filterMap f = l.filterMap g
  | [], _ => rfl
  | x :: l, h => by
    rw [List.filterMap_cons, List.filterMap_cons, h x List.mem_cons_self, fm_cong fun y hy => h y (List.mem_cons_of_mem _ hy)]
theorem pick_back (xs : Array Value) : ((List.range xs.size).filterMap fun (m : Nat) => xs[((xs.size : Int) - 1 + (m : Int) * (-1)).toNat]?).toArray = xs.toList.reverse.toArray := by
  have h := PySem.W.krv_all xs
  rw [← h, ← List.filterMap_reverse, ← PySem.W.krv_range, List.filterMap_map]
  congr 1
  refine fm_cong fun m hm => ?_
  have hm : m < xs.size := by simpa using hm
  show xs[((xs.size : Int) - 1 + (m : Int) * (-1)).toNat]? = xs[xs.size - 1 - m]?
  rw [show ((xs.size : Int) - 1 + (m : Int) * (-1)).toNat = xs.size - 1 - m by omega]
theorem tup_rev {t sl : Addr} {its : Array Value} {v : Value} {Qq : Value → Shared → Prop} (ht : IsTup st.heap t its) (hs : st.heap.IsSliceOf sl .none .none v) (pv : IsPart v (some (-1)))
    (k : Qq (.ref st.heap.objs.size) { st with heap := st.heap.push { cls := .type "tuple", data := .seq its.toList.reverse.toArray } }) (hz : its.size ≤ sizeLine) : wpAny (model pg wd) Ar (getItem (.ref t) (.ref sl)) Qq Ex st := by
  have hk : sizeOk (.seq its.toList.reverse.toArray) := by
    show its.toList.reverse.toArray.size ≤ sizeLine
    rw [List.size_toArray, List.length_reverse, Array.length_toList]
    exact hz
  obtain ⟨ob, hos, hcs, hds⟩ := id hs
  have tS : st.TypeIs (.ref sl) "slice" := ⟨ob, hos, hcs⟩
  unfold getItem
  try with_reducible refine wpAny_holding ?_
  first | refine wpAny_bind (wpAny_pure ?_) | skip
  refine wpAny_bind (wpAny_sequenceKey ht.typeIs (by decide) ?_)
  refine wpAny_bind (wpAny_callSpecial?_slot (name := Str.ofString "__getitem__") ht.typeIs PyProof.Rows.slot_tuple_getitem (wpAny_call_entry PyProof.Rows.slot_tuple_getitem ht.typeIs entry_tuple_getitem ?_ (args_tuple_getitem _ _)))
  show wpAny _ _ (Builtin.Tuple.tupleItemsOf (.ref t) >>= _) _ _ st
  refine wpAny_bind (tupleItemsOf_ ht (wpAny_bind (wpAny_typeOf tS ?_)))
  rw [if_pos (by decide)]
  refine wpAny_bind (rev_applied hs pv ?_)
  have no : ¬ ((((its.size : Int) - 1) == 0 && (-1 : Int) == 1 && its.size == its.size) = true) := by
    intro q
    rw [Bool.and_eq_true, Bool.and_eq_true] at q
    exact absurd q.1.2 (by decide)
  show wpAny _ _ (if (((its.size : Int) - 1) == 0 && (-1 : Int) == 1 && its.size == its.size) = true then _ else _) _ _ st
  rw [if_neg no, pick_back]
  first
    | exact wpAny_bind (m := Builtin.Tuple.tupleExact _) (wpAny_newObj_type (wpAny_pure ⟨_, rfl, wpAny_pure k⟩) hk)
    | exact wpAny_bind (m := Builtin.Tuple.tupleExact _) (wpAny_newObj_type (wpAny_bind (wpAny_pure (wpAny_pure ⟨_, rfl, wpAny_pure k⟩))) hk)
    | exact wpAny_bind (wpAny_bind (m := Builtin.Tuple.tupleExact _) (wpAny_newObj_type (wpAny_pure (wpAny_pure ⟨_, rfl, wpAny_pure k⟩)) hk))
    | exact wpAny_bind (wpAny_bind (m := Builtin.Tuple.tupleExact _) (wpAny_newObj_type (wpAny_pure ⟨_, rfl, wpAny_pure k⟩) hk))
end
end L2
namespace DL
open PySem PySem.Spec PyProof.Rows L2
def revP (K : PySem.W.Frag) (Q : VK) (x : V) : Option Int → Hp → Prop := fun o H2 => o = some (-1) ∧ ((∃ a xs, x = .ref a ∧ SqL K H2 a xs ∧ ∀ p, H2 p = none → Q (.ref p) (upd H2 p (.lst xs.reverse))) ∨ (∃ a xs, x = .ref a ∧ SqT K H2 a xs ∧ ∀ p, H2 p = none → Q (.ref p) (upd H2 p (.tup xs.reverse))))
def tRev (K : PySem.W.Frag) (te : TE) (ts : TO) : TE := fun σ H Q => te σ H fun x H1 => ts σ H1 (revP K Q x)
theorem pe_rev {X : Cx} {e : Expr} {te : TE} {ts : TO} {stp : Expr} {p3 pos : Pos} (he : PE X e te) (hs : PO X (some stp) ts)
    (hst : ∀ a b, subscripted (.Slice none none (some stp) p3) false (.ref a) (.ref b) = operate [.ref a, .ref b] (getItem (.ref a) (.ref b)) := by intro _ _; with_unfolding_all rfl) : PE X (.Subscript e (.Slice none none (some stp) p3) pos) (tRev X.K te ts) := by
  refine ⟨fun pins s σ H Q I h => ?_⟩
  refine Subscript_ (thn (he.run pins s σ H _ I h) fun v s1 ⟨x, H1, I1, r1, q1⟩ => ?_)
  refine wpAny_Slice (thn ((po_none (X := X)).run pins s1 σ H1 (fun o H2 => o = none ∧ ts σ H2 (revP X.K Q x)) I1 ⟨rfl, q1⟩) fun vl s2 ⟨l, H2, I2, pl, el, q2⟩ => ?_)
  subst el
  refine thn ((po_none (X := X)).run pins s2 σ H2 (fun o H3 => o = none ∧ ts σ H3 (revP X.K Q x)) I2 ⟨rfl, q2⟩) fun vu s3 ⟨u, H3, I3, pu, eu, q3⟩ => ?_
  subst eu
  refine thn (hs.run pins s3 σ H3 _ I3 q3) fun vs s4 ⟨o, H4, I4, ps, eo, q⟩ => ?_
  subst eo
  cases pl
  cases pu
  have I5 : Inv X pins σ H4 { s4 with heap := s4.heap.push { cls := .type "slice", data := .fields #[.none, .none, vs] } } := I4.kept (t' := s4.toks) fun b ob q => Heap.get?_push_of_some _ q
  rcases q with ⟨a, xs, rfl, hx, q⟩ | ⟨a, xs, rfl, hx, q⟩
  · cases r1
    obtain ⟨its, r, ht, hz⟩ := I5.list hx
    have hlen := r.length
    show wpAny (model X.prog X.w) X.A (subscriptTail e (.Slice none none (some stp) p3) (.ref a) (.ref s4.heap.objs.size)) (EP X pins σ Q) X.xe { s4 with heap := s4.heap.push { cls := .type "slice", data := .fields #[.none, .none, vs] } }
    refine tail_any (ops := [.ref a, .ref s4.heap.objs.size]) ht.isList.typeIs (PySem.slot_list_getitem.lookup) ?_ (hst _ _)
    refine wpAny_getItem_list_slice ht.isList (Heap.IsSliceOf.new _ .none .none vs) .none .none ps (by decide) ?_ (by rw [List.size_toArray]; omega)
    rw [PySem.W.krv_pick]
    refine ⟨.ref _, _, I5.laid (t' := s4.toks) (o := .lst xs.reverse) (fun b ob q => Heap.get?_push_of_some _ q) (Nat.le_refl _) ?_, rfl, q _ (I5.hok.fresh (Nat.le_refl _))⟩
    exact ⟨by rw [List.length_reverse]; exact hz, _, 0, by simpa using r.reverse, Heap.get?_push_size _ rfl⟩
  · cases r1
    obtain ⟨its, r, ht, hz⟩ := I5.tuple hx
    have hlen := r.length
    show wpAny (model X.prog X.w) X.A (subscriptTail e (.Slice none none (some stp) p3) (.ref a) (.ref s4.heap.objs.size)) (EP X pins σ Q) X.xe { s4 with heap := s4.heap.push { cls := .type "slice", data := .fields #[.none, .none, vs] } }
    refine tail_any (ops := [.ref a, .ref s4.heap.objs.size]) ht.typeIs (PyProof.Rows.slot_tuple_getitem.lookup) ?_ (hst _ _)
    refine tup_rev ht (Heap.IsSliceOf.new _ .none .none vs) ps ?_ (by rw [List.size_toArray]; omega)
    refine ⟨.ref _, _, I5.laid (t' := s4.toks) (o := .tup xs.reverse) (fun b ob q => Heap.get?_push_of_some _ q) (Nat.le_refl _) ?_, rfl, q _ (I5.hok.fresh (Nat.le_refl _))⟩
    exact ⟨by rw [List.length_reverse]; exact hz, _, by simpa using r.reverse, ⟨_, Heap.get?_push_size _ rfl, rfl, _, rfl⟩⟩
def rvE (o : Option D) (st : Option Int) (ρ : Env) : Res X := match o with
  | some (.lst ds) => if st = some (-1) then .ok (.d (.lst ds.reverse)) ρ else .bad
  | some (.ro ds) => if st = some (-1) then .ok (.d (.lst ds.reverse)) ρ else .bad
  | some (.tup ds) => if st = some (-1) then .ok (.d (.tup ds.reverse)) ρ else .bad
  | _ => .bad
def kRev2 (x : X) : Option Int → Env → Res X := fun st ρ2 => rvE (look ρ2 x) st ρ2
def kRev1 (ms : OM) : X → Env → Res X := fun x ρ1 => bindR (ms ρ1) (kRev2 x)
def eRev (ma : EM) (ms : OM) : EM := fun ρ => bindR (ma ρ) (kRev1 ms)
theorem DqA.rev {K : PySem.W.Frag} {G : Hp} : ∀ {xs : List V} {ds : List D}, DqA K G xs ds → DqA K G xs.reverse ds.reverse
  | _, _, .nil => .nil
  | _, _, .cons q t => by
    rw [List.reverse_cons, List.reverse_cons]
    exact (DqA.rev t).append (.one q)
theorem ev_rev {K : Kx} {W : WX} {ta : TE} {ts : TO} {ma : EM} {ms : OM} (ha : EvOk K W ta ma) (hs : OvOk K W ts ms) : EvOk K W (tRev K ta ts) (eRev ma ms) := fun σ G H ρ R Q h => by
  unfold eRev bindR at h
  refine ha.fst R (fun x ρ1 e v G1 H1 S1 R1 x1 => ?_) (fun e ρ1 q => by rw [q] at h; exact h) (fun q => by rw [q] at h; exact h)
  rw [e] at h
  have h := EPost.step S1 h
  simp only at h
  unfold kRev1 bindR at h
  refine hs.fst R1 (fun st ρ4 e4 G4 H4 S4 R4 => ?_) (fun e ρ1 q => by rw [q] at h; exact h) (fun q => by rw [q] at h; exact h)
  rw [e4] at h
  have h := EPost.step S4 h
  simp only at h
  unfold kRev2 rvE at h
  split at h
  · rename_i ds ea
    split at h
    · rename_i es
      have q := look_vw R4 (x1.mono S4.g) ea
      obtain ⟨a, xs, rfl, h1, h2⟩ := seqL_vw R4.same q (ds := ds) rfl
      refine ⟨es, .inl ⟨a, xs, rfl, h1, fun p hp => ?_⟩⟩
      have g := Gro.new (o := .lst xs.reverse) R4.same hp
      exact h _ _ _ g.stp (R4.gro g) (.lst upd_same (h2.rev.mono g.g))
    · exact h.elim
  · rename_i ds ea
    split at h
    · rename_i es
      have q := look_vw R4 (x1.mono S4.g) ea
      obtain ⟨a, xs, rfl, h1, h2⟩ := seqL_vw R4.same q (ds := ds) rfl
      refine ⟨es, .inl ⟨a, xs, rfl, h1, fun p hp => ?_⟩⟩
      have g := Gro.new (o := .lst xs.reverse) R4.same hp
      exact h _ _ _ g.stp (R4.gro g) (.lst upd_same (h2.rev.mono g.g))
    · exact h.elim
  · rename_i ds ea
    split at h
    · rename_i es
      have q := look_vw R4 (x1.mono S4.g) ea
      obtain ⟨a, xs, rfl, h1, h2⟩ := q.tup
      refine ⟨es, .inr ⟨a, xs, rfl, Same.seqT R4.same h1, fun p hp => ?_⟩⟩
      have g := Gro.new (o := .tup xs.reverse) R4.same hp
      exact h _ _ _ g.stp (R4.gro g) (.tup (.inl (.inl upd_same)) (h2.rev.mono g.g))
    · exact h.elim
  · exact h.elim
theorem je_rev {X : Cx} {xa : Option XA} {W : WX} {a st : Expr} {p2 pos : Pos} {ma : EM} {os : OM} (ha : JE X xa W a ma) (hs : JO X xa W (some st) os)
    (hst : ∀ a b, subscripted (.Slice none none (some st) p2) false (.ref a) (.ref b) = operate [.ref a, .ref b] (getItem (.ref a) (.ref b)) := by intro _ _; with_unfolding_all rfl) : JE X xa W (.Subscript a (.Slice none none (some st) p2) pos) (eRev ma os) :=
  let ⟨_, h1, h2⟩ := ha; let ⟨_, h7, h8⟩ := hs; ⟨_, pe_rev h1 h7 hst, ev_rev h2 h8⟩
end DL
set_option Elab.async false
set_option linter.all false
set_option maxRecDepth 100000
set_option maxHeartbeats 4000000
/-! evaluating: loops over lists spelled out, enumerate, two fors, frozen arguments, reversed -/
namespace DL
open PySem L2
section
variable {ρ ρ1 ρ2 ρ3 ρ4 : Env} {e : Exn} {i j : Int} {a b d : D} {ds es : List D} {x : X}
/-- one turn of a loop, then the rest -/
def fgC (gm : GM) (bd : SM) (ds : List D) : Res Fl → Res Fl
  | .ok .nx ρ => forGo gm bd ds ρ
  | .ok .ct ρ => forGo gm bd ds ρ
  | .ok .bk ρ => .ok .nx ρ
  | .ok (.rt l) ρ => .ok (.rt l) ρ
  | .ex e ρ => .ex e ρ
  | .bad => .bad
theorem forGo_c {gm : GM} {bd : SM} {d : D} {ds : List D} {ρ : Env} : forGo gm bd (d :: ds) ρ = fgC gm bd ds (bdE gm bd d ρ) := by
  rw [forGo]
  unfold bdE bdF fgC
  cases h : gm d ρ with
  | none => simp only [h]
  | some ρ1 =>
    simp only [h]
    cases h2 : bd ρ1 with
    | bad => rfl
    | ex e ρ2 => rfl
    | ok f ρ2 => cases f <;> rfl
@[simp] theorem fgC_nx {gm : GM} {bd : SM} : fgC gm bd ds (.ok .nx ρ) = forGo gm bd ds ρ := (rfl)
@[simp] theorem fgC_ct {gm : GM} {bd : SM} : fgC gm bd ds (.ok .ct ρ) = forGo gm bd ds ρ := (rfl)
@[simp] theorem fgC_bk {gm : GM} {bd : SM} : fgC gm bd ds (.ok .bk ρ) = .ok .nx ρ := (rfl)
@[simp] theorem fgC_rt {gm : GM} {bd : SM} {l : L} : fgC gm bd ds (.ok (.rt l) ρ) = .ok (.rt l) ρ := (rfl)
@[simp] theorem fgC_ex {gm : GM} {bd : SM} : fgC gm bd ds (.ex e ρ) = .ex e ρ := (rfl)
/-! x += e -/
@[simp] theorem addI_i : addI (.int i) (.int j) = some (.int (i + j)) := (rfl)
/-! frozen where handed on -/
def frE : Option (D × Env) → Res X
  | some (d, ρ2) => .ok (.d d) ρ2
  | none => .bad
def kFr : X → Env → Res X := fun x ρ1 => frE (fz ρ1 x)
@[simp] theorem eFr_ap {m : EM} : eFr m ρ = bindR (m ρ) kFr := by
  unfold eFr
  congr 1
@[simp] theorem kFr_ap : kFr x ρ = frE (fz ρ x) := (rfl)
@[simp] theorem frE_ok : frE (some (d, ρ)) = .ok (.d d) ρ := (rfl)
/-! enumerate -/
@[simp] theorem mEn_ap {m : EM} : mEn m ρ = bindR (m ρ) kEn := (rfl)
@[simp] theorem kEn_ap : kEn x ρ = enF (fz ρ x) := (rfl)
@[simp] theorem enF_l : enF (some (.lst ds, ρ)) = .ok (enumD 0 ds) ρ := (rfl)
@[simp] theorem enF_r : enF (some (.ro ds, ρ)) = .ok (enumD 0 ds) ρ := (rfl)
@[simp] theorem enF_t : enF (some (.tup ds, ρ)) = .ok (enumD 0 ds) ρ := (rfl)
/-! reversed -/
@[simp] theorem eRev_ap {ma : EM} {ms : OM} : eRev ma ms ρ = bindR (ma ρ) (kRev1 ms) := (rfl)
@[simp] theorem kRev1_ap {ms : OM} : kRev1 ms x ρ = bindR (ms ρ) (kRev2 x) := (rfl)
@[simp] theorem kRev2_ap {st : Option Int} : kRev2 x st ρ = rvE (look ρ x) st ρ := (rfl)
@[simp] theorem rvE_l : rvE (some (.lst ds)) (some (-1)) ρ = .ok (.d (.lst ds.reverse)) ρ := (rfl)
@[simp] theorem rvE_r : rvE (some (.ro ds)) (some (-1)) ρ = .ok (.d (.lst ds.reverse)) ρ := (rfl)
@[simp] theorem rvE_t : rvE (some (.tup ds)) (some (-1)) ρ = .ok (.d (.tup ds.reverse)) ρ := (rfl)
/-! two fors: each item brings a list of its own -/
theorem lcGo_ims {α : Type} {js : List Nat} {gm : GM} {me : EM} {ρ0 : Env} (c e : α → D) : ∀ {xs : List α} {acc : List D}, acc.length + xs.length ≤ mx → (∀ x ∈ xs, lcE gm me js ρ0 (c x) = some (e x, ρ0)) → lcGo js gm mYes me ρ0 (xs.map c) acc ρ0 = .ok (acc ++ xs.map e) ρ0
  | [], acc, _, _ => by simp [lcGo]
  | x :: xs, acc, hl, h => by
    obtain ⟨ρ2, z, ρ3, ρ4, e1, e2, e3, e4⟩ := lcE_some (h x List.mem_cons_self)
    have hl' : acc.length < mx := by simp at hl; omega
    rw [List.map_cons]
    unfold lcGo
    simp only [e1, mYes, bindR, e2, e3, e4, hl', if_true]
    rw [lcGo_ims c e (by simp at hl ⊢; omega) fun y hy => h y (List.mem_cons_of_mem _ hy)]
    simp
def l2E (js js1 : List Nat) (gm : GM) (im1 : IM) (d : D) (ρ : Env) : Res (List D) := match gm d (wipeE ρ js) with
  | some ρ1 => im1 ρ1
  | none => .bad
theorem lc2_im {α : Type} {im : IM} {js js1 : List Nat} {gm gm1 : GM} {im1 : IM} {me : EM} {ρ ρ1 : Env} {xs : List α} (c : α → D) (e : α → List D) (n : Nat) (hi : im ρ = .ok (xs.map c) ρ1) (hc : clean ρ1 js = true) (hn : (xs.flatMap e).length ≤ mx)
    (h : ∀ x ∈ xs, ∀ acc : List D, acc.length + (e x).length ≤ mx → ∃ ρ4, lc2E js gm mYes im1 js1 gm1 mYes me (c x) acc ρ1 = .ok (acc ++ e x) ρ4 ∧ restE ρ1 ρ4 js = ρ1) : fLc2 im js gm mYes im1 js1 gm1 mYes me ρ = .ok (.lst (xs.flatMap e)) ρ1 := by
  unfold fLc2
  simp only [hi, bindR, hc, if_true]
  suffices ∀ (ys : List α) (acc : List D), acc.length + (ys.flatMap e).length ≤ mx → (∀ x ∈ ys, x ∈ xs) → lc2Go js gm mYes im1 js1 gm1 mYes me ρ1 (ys.map c) acc ρ1 = .ok (acc ++ ys.flatMap e) ρ1 by
    rw [this xs [] (by simpa using hn) fun _ h => h]
    simp
  intro ys
  induction ys with
  | nil => intro acc _ _; simp [lc2Go]
  | cons y ys ih =>
    intro acc hl hm
    rw [List.flatMap_cons, List.length_append] at hl
    obtain ⟨ρ4, e1, e2⟩ := h y (hm y List.mem_cons_self) acc (by omega)
    rw [List.map_cons, lc2Go, e1]
    simp only [e2]
    rw [ih (acc ++ e y) (by rw [List.length_append]; omega) fun x hx => hm x (List.mem_cons_of_mem _ hx), List.flatMap_cons, List.append_assoc]
end
end DL
set_option Elab.async false
set_option linter.all false
set_option maxRecDepth 100000
set_option maxHeartbeats 4000000
/-! match over texts -/
namespace DL
open PySem PySem.Spec PyProof.Rows L2
structure PMs (X : Cx) (cs : List MatchCase) (t : V → TS) : Prop where
  run : ∀ (first : Bool) (pins : List (Addr × Obj)) (s : Shared) (σ : L2.St) (H : Hp) (D : Ends) (v : V) (u : Value), Inv X pins σ H s → RelV v u → t v D σ H → wpAny (model X.prog X.w) X.A (matchCases cs X.env u first) (SP X pins D) X.xe s
section
variable {X : Cx}
def tMNil : V → TS := fun _ D σ H => D.nx σ H
theorem pm_nil : PMs X [] tMNil := ⟨fun first pins s σ H D v u I r h => wpAny_matchCases_nil ⟨σ, H, I, h⟩⟩
def tMLit (K : PySem.W.Frag) (x : Str) (tb : TS) (tr : V → TS) : V → TS := fun v D σ H => rD2 K eqD v (.str x) H fun w H1 => ∃ b, w = .bl b ∧ if b = true then tb D σ H1 else tr v D σ H1
theorem pm_lit {x : Str} {j} {p p2 : Pos} {body : List Stmt} {rest : List MatchCase} {tb : TS} {tr : V → TS} (hu : X.A.units + 64 < cLine) (hb : PSs X body tb) (hr : PMs X rest tr) : PMs X (⟨.MatchValue (.Constant (.str x) j p) p2, none, body⟩ :: rest) (tMLit X.K x tb tr) := by
  refine ⟨fun first pins s σ H D v u I r h => ?_⟩
  refine wpAny_matchCases_cons (wpAny_matchPattern_Value ?_)
  refine thn ((pe_str (X := X) (x := x) (j := j) (pos := p)).run pins s σ H (fun w H1 => w = .str x ∧ H1 = H) I ⟨rfl, rfl⟩) fun xv s1 ⟨w, H1, I1, r1, ew, eH⟩ => ?_
  subst ew eH
  refine thn (op_eqD' hu pins s1 σ H1 v (.str x) u xv _ I1 r r1 h) fun c s2 ⟨w2, H2, I2, r2, b, ew2, q⟩ => ?_
  subst ew2
  cases r2
  refine wpAny_truthy_bool ?_
  cases b with
  | true => exact wpAny_pure (hb.run pins s2 σ H2 D I2 q)
  | false => exact hr.run false pins s2 σ H2 D v u I2 r q
def tMAny (tb : TS) : V → TS := fun _ => tb
theorem pm_any {p : Pos} {body : List Stmt} {rest : List MatchCase} {tb : TS} (hb : PSs X body tb) : PMs X (⟨.MatchAs none none p, none, body⟩ :: rest) (tMAny tb) := by
  refine ⟨fun first pins s σ H D v u I r h => ?_⟩
  refine wpAny_matchCases_cons (wpAny_matchPattern_Capture ?_)
  exact wpAny_pure (hb.run pins s σ H D I h)
def tMatch (te : TE) (t : V → TS) : TS := fun D σ H => te σ H fun v H1 => t v D σ H1
theorem ps_match {e : Expr} {te : TE} {cs : List MatchCase} {t : V → TS} {pos : Pos} (he : PE X e te) (hc : PMs X cs t) : PS X (.Match e cs pos) (tMatch te t) := by
  refine ⟨fun pins s σ H D I h => ?_⟩
  exact wpAny_Match (thn (he.run pins s σ H _ I h) fun u s1 ⟨v, H1, I1, r1, q⟩ => hc.run true pins s1 σ H1 D v u I1 r1 q)
end
end DL
set_option Elab.async false
set_option linter.all false
set_option maxRecDepth 100000
set_option maxHeartbeats 4000000
/-! readings at a known code: what super() wants -/
namespace DL
open PySem PySem.Spec PyProof.Rows L2
abbrev WA {α : Type} (M : Model) (A : Around) (c : Code) (t : Sem α) (Q : α → Shared → Prop) (E : Value → Shared → Prop) (s : Shared) : Prop := _root_.PySem.wpAt M A c t Q E s
section
variable {α β : Type} {M : Model} {A : Around} {c : Code} {E : Value → Shared → Prop} {s : Shared}
theorem wa_any {t : Sem α} {Q : α → Shared → Prop} (h : wpAny M A t Q E s) : WA M A c t Q E s := _root_.PySem.wpAt_of_wpAny h
theorem wa_bind {m : Sem α} {f : α → Sem β} {Q : β → Shared → Prop} (h : WA M A c m (fun a s' => WA M A c (f a) Q E s') E s) : WA M A c (m >>= f) Q E s := _root_.PySem.wpAt_bind h
theorem wa_thn {t : Sem α} {Q Q' : α → Shared → Prop} (h : WA M A c t Q E s) (hQ : ∀ a s, Q a s → Q' a s) : WA M A c t Q' E s := _root_.PySem.wpAt_mono h hQ fun _ _ z => z
theorem wa_hold {vs : List Value} {m : Sem α} {Q : α → Shared → Prop} (h : WA M A c m Q E s) : WA M A c (holding vs m) Q E s := fun Γ p hc hΓ => by rw [Sem.wp_holding]; exact h Γ p hc hΓ
theorem wa_arg1 {f : Value} {t : Sem Value} {Q : Args → Shared → Prop} (h : WA M A c t (fun v s' => Q ⟨[v], []⟩ s') E s) : WA M A c (evalArgs f true [(false, t)] []) Q E s := by
  unfold evalArgs
  show WA M A c (spliced ((false, t) :: []) >>= _) Q E s
  refine wa_bind ?_
  rw [spliced]
  refine wa_bind (wa_thn h fun v s1 h1 => wa_any ?_)
  simp only [Bool.false_eq_true, if_false]
  refine wpAny_bind (wpAny_pure (wpAny_bind (wpAny_holding (wpAny_mono (Q := fun vs s2 => vs = [] ∧ s2 = s1) (PySem.Calls.spliced_nil ⟨rfl, rfl⟩) (fun vs s2 h2 => ?_) fun _ _ z => z))))
  obtain ⟨rfl, rfl⟩ := h2
  refine wpAny_pure (wa_any (wpAny_holding ?_))
  exact wpAny_bind (wpAny_pure (wpAny_bind (wpAny_pure (wpAny_pure h1))))
theorem wa_with1 {prog : Program} {w : World} {pos : Pos} {f : Value} {t : Sem Value} {Q : Value → Shared → Prop} (hf : (∃ T, f = .type T) ∨ ∃ id, f = .builtin id) (h : WA (model prog w) A c t (fun v s1 => wpAny (model prog w) A (call f [v]) Q E s1) E s) : WA (model prog w) A c (callWith pos f [] [(false, t)] []) Q E s := by
  unfold callWith
  refine wa_bind (wa_hold (wa_arg1 (wa_thn h fun v s1 h1 => wa_any (wpAny_bind (wpAny_standAt ?_)))))
  rcases hf with ⟨T, rfl⟩ | ⟨id, rfl⟩
  · exact wpAny_bind (wpAny_pure (wpAny_bind (wpAny_mono h1 (fun r s2 hr => wpAny_bind (wpAny_holding (wpAny_point (wpAny_pure hr)))) fun _ _ z => z)))
  · exact wpAny_bind (wpAny_pure (wpAny_bind (wpAny_mono h1 (fun r s2 hr => wpAny_bind (wpAny_holding (wpAny_point (wpAny_pure hr)))) fun _ _ z => z)))
end
/-! ### the judgements -/
structure PEa (X : Cx) (c : Code) (e : Expr) (t : TE) : Prop where
  run : ∀ (pins : List (Addr × Obj)) (s : Shared) (σ : L2.St) (H : Hp) (Q : VK), Inv X pins σ H s → t σ H Q → WA (model X.prog X.w) X.A c (eval e X.env) (EP X pins σ Q) X.xe s
structure PIa (X : Cx) (c : Code) (tg iter : Expr) (wi : TI) : Prop where
  run : ∀ (pins : List (Addr × Obj)) (s : Shared) (σ : L2.St) (H : Hp) (R : It → Hp → Prop), Inv X pins σ H s → wi σ H R → WA (model X.prog X.w) X.A c (eval iter X.env) (fun v s1 => wpAny (model X.prog X.w) X.A (pyIter v) (PIE X pins σ tg R) X.xe s1) X.xe s
structure PSa (X : Cx) (c : Code) (st : Stmt) (t : TS) : Prop where
  run : ∀ (pins : List (Addr × Obj)) (s : Shared) (σ : L2.St) (H : Hp) (D : Ends), Inv X pins σ H s → t D σ H → WA (model X.prog X.w) X.A c (exec st X.env) (SP X pins D) X.xe s
structure PSsa (X : Cx) (c : Code) (st : List Stmt) (t : TS) : Prop where
  run : ∀ (pins : List (Addr × Obj)) (s : Shared) (σ : L2.St) (H : Hp) (D : Ends), Inv X pins σ H s → t D σ H → WA (model X.prog X.w) X.A c (execs st X.env) (SP X pins D) X.xe s
section
variable {X : Cx} {c : Code} {e : Expr} {te : TE} {st : Stmt} {rest : List Stmt} {t u : TS} {pos p : Pos} {x : Str}
theorem psa_of (h : PS X st t) : PSa X c st t := ⟨fun pins s σ H D I q => wa_any (h.run pins s σ H D I q)⟩
theorem pssa_of (h : PSs X rest t) : PSsa X c rest t := ⟨fun pins s σ H D I q => wa_any (h.run pins s σ H D I q)⟩
theorem pssa_cons (h1 : PSa X c st t) (h2 : PSsa X c rest u) : PSsa X c (st :: rest) (tSeq t u) := by
  refine ⟨fun pins s σ H D I h => ks_wpAt_execs_cons (wa_thn (h1.run pins s σ H { D with nx := u D } I h) fun f s1 q => ?_)⟩
  cases f with
  | next =>
    obtain ⟨σ', H', I', q⟩ := q
    exact h2.run pins s1 σ' H' D I' q
  | ret v => exact q
  | brk => exact q
  | cont => exact q
theorem psa_ret (he : PEa X c e te) : PSa X c (.Return (some e) pos) (tRet te) :=
  ⟨fun pins s σ H D I h => ks_wpAt_Return_some (wa_thn (he.run pins s σ H _ I h) fun v s1 ⟨x, H1, I1, r1, q1⟩ => ⟨x, σ, H1, I1, r1, q1⟩)⟩
theorem pea_ty {T : String} {r : List V → Hp → VK → Prop} (hc : CallR X (.type T) r) (hg : Gl X x) (hm : X.mg x = none) (hv : bootBuiltins x = some (.type T)) (ha : PEa X c e te) (hn : x ≠ "__name__" := by decide) (hdb : (x == ("__debug__" : Str)) = false := by decide)
    (he : starEach [e] X.env = [(false, eval e X.env)] := by rfl) : PEa X c (.Call (.Name x p) [e] [] pos) (fun σ H Q => te σ H fun v H1 => r [v] H1 Q) := by
  refine ⟨fun pins s σ H Q I h => ?_⟩
  show WA _ _ _ (eval (.Name x p) X.env >>= fun f => callWith pos f [] (backTo pos (starEach [e] X.env)) []) _ _ _
  refine wa_bind (wa_any (wpAny_mono (Q := fun f s1 => f = .type T ∧ Inv X pins σ H s1) (ld_blt I hg hm hv ⟨rfl, I⟩ hn hdb) (fun f s1 h1 => ?_) fun _ _ z => z))
  obtain ⟨rfl, I1⟩ := h1
  rw [he]
  exact wa_with1 (.inl ⟨T, rfl⟩) (wa_thn (ha.run pins s1 σ H _ I1 h) fun v s2 ⟨y, H2, I2, r2, q2⟩ => hc pins s2 σ H2 [y] [v] Q I2 (.cons r2 .nil) q2)
theorem pea_bi {id : String} {r : List V → Hp → VK → Prop} (hc : CallR X (.builtin id) r) (hg : Gl X x) (hm : X.mg x = none) (hv : bootBuiltins x = some (.builtin id)) (ha : PEa X c e te) (hn : x ≠ "__name__" := by decide) (hdb : (x == ("__debug__" : Str)) = false := by decide)
    (he : starEach [e] X.env = [(false, eval e X.env)] := by rfl) : PEa X c (.Call (.Name x p) [e] [] pos) (fun σ H Q => te σ H fun v H1 => r [v] H1 Q) := by
  refine ⟨fun pins s σ H Q I h => ?_⟩
  show WA _ _ _ (eval (.Name x p) X.env >>= fun f => callWith pos f [] (backTo pos (starEach [e] X.env)) []) _ _ _
  refine wa_bind (wa_any (wpAny_mono (Q := fun f s1 => f = .builtin id ∧ Inv X pins σ H s1) (ld_blt I hg hm hv ⟨rfl, I⟩ hn hdb) (fun f s1 h1 => ?_) fun _ _ z => z))
  obtain ⟨rfl, I1⟩ := h1
  rw [he]
  exact wa_with1 (.inr ⟨id, rfl⟩) (wa_thn (ha.run pins s1 σ H _ I1 h) fun v s2 ⟨y, H2, I2, r2, q2⟩ => hc pins s2 σ H2 [y] [v] Q I2 (.cons r2 .nil) q2)
theorem wa_sub {value slice : Expr} {M : Model} {A : Around} {E : Value → Shared → Prop} {s : Shared} {env : PySem.Env} {Q : Value → Shared → Prop}
    (h : WA M A c (eval value env) (fun o s₁ => wpAny M A (eval slice env) (fun i s₂ => wpAny M A (subscriptTail value slice o i) Q E s₂) E s₁) E s) : WA M A c (eval (.Subscript value slice pos) env) Q E s := by
  rw [eval_Subscript]
  exact wa_bind (wa_thn h fun o s1 h1 => wa_any (wpAny_bind (wpAny_holding (wpAny_mono h1 (fun i s2 h2 => wpAny_bind (wpAny_standAt h2)) fun _ _ z => z))))
theorem pea_sl {lo hi : Option Expr} {tl th : TO} {p2 : Pos} {r : V → Option Int → Option Int → Hp → VK → Prop} (hr : SlR X r) (he : PEa X c e te) (hl : PO X lo tl) (hu : PO X hi th) : PEa X c (.Subscript e (.Slice lo hi none p2) pos) (tSl r te tl th) := by
  refine ⟨fun pins s σ H Q I h => ?_⟩
  refine wa_sub (wa_thn (he.run pins s σ H _ I h) fun v s1 ⟨x, H1, I1, r1, q1⟩ => ?_)
  refine wpAny_Slice (thn (hl.run pins s1 σ H1 _ I1 q1) fun vl s2 ⟨l, H2, I2, pl, q2⟩ => thn (hu.run pins s2 σ H2 _ I2 q2) fun vu s3 ⟨u, H3, I3, pu, q3⟩ => ?_)
  rw [evalPart_none]
  refine wpAny_pure ?_
  have I4 : Inv X pins σ H3 { s3 with heap := s3.heap.push { cls := .type "slice", data := .fields #[vl, vu, .none] } } := I3.kept (t' := s3.toks) fun b ob q => Heap.get?_push_of_some _ q
  obtain ⟨T, id, hT, ht, hg⟩ := hr pins { s3 with heap := s3.heap.push { cls := .type "slice", data := .fields #[vl, vu, .none] } } σ H3 x v vl vu l u s3.heap.objs.size Q I4 r1 (Heap.IsSliceOf.new ..) pl pu q3
  show wpAny (model X.prog X.w) X.A (subscriptTail e (.Slice lo hi none p2) v (.ref s3.heap.objs.size)) (EP X pins σ Q) X.xe { s3 with heap := s3.heap.push { cls := .type "slice", data := .fields #[vl, vu, .none] } }
  exact tail_any (ops := [.ref s3.heap.objs.size, v]) ht hT hg (by with_unfolding_all rfl)
theorem pea_rev {ts : TO} {stp : Expr} {p3 : Pos} (he : PEa X c e te) (hs : PO X (some stp) ts)
    (hst : ∀ a b, subscripted (.Slice none none (some stp) p3) false (.ref a) (.ref b) = operate [.ref a, .ref b] (getItem (.ref a) (.ref b)) := by intro _ _; with_unfolding_all rfl) : PEa X c (.Subscript e (.Slice none none (some stp) p3) pos) (tRev X.K te ts) := by
  refine ⟨fun pins s σ H Q I h => ?_⟩
  refine wa_sub (wa_thn (he.run pins s σ H _ I h) fun v s1 ⟨x, H1, I1, r1, q1⟩ => ?_)
  refine wpAny_Slice (thn ((po_none (X := X)).run pins s1 σ H1 (fun o H2 => o = none ∧ ts σ H2 (revP X.K Q x)) I1 ⟨rfl, q1⟩) fun vl s2 ⟨l, H2, I2, pl, el, q2⟩ => ?_)
  subst el
  refine thn ((po_none (X := X)).run pins s2 σ H2 (fun o H3 => o = none ∧ ts σ H3 (revP X.K Q x)) I2 ⟨rfl, q2⟩) fun vu s3 ⟨u, H3, I3, pu, eu, q3⟩ => ?_
  subst eu
  refine thn (hs.run pins s3 σ H3 _ I3 q3) fun vs s4 ⟨o, H4, I4, ps, eo, q⟩ => ?_
  subst eo
  cases pl
  cases pu
  have I5 : Inv X pins σ H4 { s4 with heap := s4.heap.push { cls := .type "slice", data := .fields #[.none, .none, vs] } } := I4.kept (t' := s4.toks) fun b ob q => Heap.get?_push_of_some _ q
  rcases q with ⟨a, xs, rfl, hx, q⟩ | ⟨a, xs, rfl, hx, q⟩
  · cases r1
    obtain ⟨its, r, ht, hz⟩ := I5.list hx
    have hlen := r.length
    show wpAny (model X.prog X.w) X.A (subscriptTail e (.Slice none none (some stp) p3) (.ref a) (.ref s4.heap.objs.size)) (EP X pins σ Q) X.xe { s4 with heap := s4.heap.push { cls := .type "slice", data := .fields #[.none, .none, vs] } }
    refine tail_any (ops := [.ref a, .ref s4.heap.objs.size]) ht.isList.typeIs (PySem.slot_list_getitem.lookup) ?_ (hst _ _)
    refine wpAny_getItem_list_slice ht.isList (Heap.IsSliceOf.new _ .none .none vs) .none .none ps (by decide) ?_ (by rw [List.size_toArray]; omega)
    rw [PySem.W.krv_pick]
    refine ⟨.ref _, _, I5.laid (t' := s4.toks) (o := .lst xs.reverse) (fun b ob q => Heap.get?_push_of_some _ q) (Nat.le_refl _) ?_, rfl, q _ (I5.hok.fresh (Nat.le_refl _))⟩
    exact ⟨by rw [List.length_reverse]; exact hz, _, 0, by simpa using r.reverse, Heap.get?_push_size _ rfl⟩
  · cases r1
    obtain ⟨its, r, ht, hz⟩ := I5.tuple hx
    have hlen := r.length
    show wpAny (model X.prog X.w) X.A (subscriptTail e (.Slice none none (some stp) p3) (.ref a) (.ref s4.heap.objs.size)) (EP X pins σ Q) X.xe { s4 with heap := s4.heap.push { cls := .type "slice", data := .fields #[.none, .none, vs] } }
    refine tail_any (ops := [.ref a, .ref s4.heap.objs.size]) ht.typeIs (PyProof.Rows.slot_tuple_getitem.lookup) ?_ (hst _ _)
    refine tup_rev ht (Heap.IsSliceOf.new _ .none .none vs) ps ?_ (by rw [List.size_toArray]; omega)
    refine ⟨.ref _, _, I5.laid (t' := s4.toks) (o := .tup xs.reverse) (fun b ob q => Heap.get?_push_of_some _ q) (Nat.le_refl _) ?_, rfl, q _ (I5.hok.fresh (Nat.le_refl _))⟩
    exact ⟨by rw [List.length_reverse]; exact hz, _, by simpa using r.reverse, ⟨_, Heap.get?_push_size _ rfl, rfl, _, rfl⟩⟩
end
end DL
set_option Elab.async false
set_option linter.all false
set_option maxRecDepth 100000
set_option maxHeartbeats 4000000
/-! instances without fields made; methods of instances of several classes; super() -/
namespace DL
open PySem PySem.Spec PyProof.Rows L2
/-! ### C() -/
structure MkO (K : PySem.W.Frag) (C : Addr) : Prop where
  makes : PySem.W.makesIn K C = true
  init : PySem.W.findIn K (.ref C) "__init__" = some (some (.builtin "object.__init__"))
  kp : PySem.W.keepIn K (.ref C) = true
def tMkO (C : Addr) : TE := fun σ H Q => ∀ x dx, H x = none → H dx = none → dx ≠ x → Q (.ref x) (upd (upd H dx (.own x)) x (.ins C dx []))
theorem run_mkO {X : Cx} {C : Addr} {pins : List (Addr × Obj)} {σ : L2.St} {H : Hp} {s : Shared} {Q : VK} (M : MkO X.K C) (I : Inv X pins σ H s) (h : tMkO C σ H Q) : wpAny (model X.prog X.w) X.A (call (.ref C) []) (EP X pins σ Q) X.xe s := by
  have hq := h (s.heap.objs.size + 1) s.heap.objs.size (I.hok.fresh (Nat.le_succ _)) (I.hok.fresh (Nat.le_refl _)) (Nat.ne_of_lt (Nat.lt_succ_self _))
  have I2 := Inv.made (C := C) I
  refine wpAny_call (make_map0 I.kIn M.makes M.init (fun self => PySem.W.Looks.of_pure (PySem.W.oi_bind self)) ?_)
  have Y := PySem.W.makes_of (M := model X.prog X.w) I.kIn M.makes
  have e2 : ((s.heap.push PySem.W.emptyDict).push (PySem.W.instObj C s.heap.objs.size)).get? (s.heap.objs.size + 1) = some (PySem.W.instObj C s.heap.objs.size) := by
    have := Heap.get?_push_size (s.heap.push PySem.W.emptyDict) (o := PySem.W.instObj C s.heap.objs.size) rfl
    rwa [Heap.size_push] at this
  have t1 : PySem.W.Looks (model X.prog X.w) ((s.heap.push PySem.W.emptyDict).push (PySem.W.instObj C s.heap.objs.size)) (typeOf (.ref (s.heap.objs.size + 1))) (.ref C) := (PySem.W.Looks.ld e2).andThen .now
  have t2 : PySem.W.Looks (model X.prog X.w) ((s.heap.push PySem.W.emptyDict).push (PySem.W.instObj C s.heap.objs.size)) (isInstance (.ref (s.heap.objs.size + 1)) (.type "object")) true := t1.andThen (Y.top.keeps fun b o e => Heap.get?_push_of_some _ (Heap.get?_push_of_some _ e))
  refine codeAny_call_builtin PySem.W.oi_plain PySem.W.entry_oi (@PySem.W.check_slot (model X.prog X.w) _ _ _ "object.__init__" "object" "__init__" (.ref (s.heap.objs.size + 1)) [] [] _ PySem.W.oi_kind PySem.W.oi_split t2 (PySem.W.oi_args (.ref (s.heap.objs.size + 1))) ?_)
  rw [PySem.W.oi_run]
  exact wpAny_pure (And.intro rfl ⟨.ref _, _, I2, rfl, hq⟩)
theorem pe_mkO {X : Cx} {C : Addr} {x : Str} {p pos : Pos} (M : MkO X.K C) (hg : Gl X x) (hm : X.mg x = some (.ref C)) (hdb : (x == ("__debug__" : Str)) = false := by decide) : PE X (.Call (.Name x p) [] [] pos) (tMkO C) := by
  refine ⟨fun pins s σ H Q I h => ?_⟩
  refine wpAny_Call_Name_kw (ld_glob I hg hm ?_ hdb)
  exact PySem.W.callWith_K0 I.kIn M.kp (run_mkO M I h)
def eMkO (C : Str) : EM := fun ρ => .ok (.d (.ins C [])) ρ
theorem ev_mkO {K : Kx} {W : WX} {C : Str} : EvOk K W (tMkO (cA K C)) (eMkO C) := fun σ G H ρ R Q h => by
  intro x dx hx hd hne
  have g1 := Gro.new (o := .own x) R.same hd
  have hx2 : (upd H dx (.own x)) x = none := by rw [upd_ne (fun z => hne z.symm)]; exact hx
  have g2 := Gro.new (o := .ins (cA K C) dx []) g1.s hx2
  refine h _ _ _ (g1.trans g2).stp (R.gro (g1.trans g2)) ?_
  refine .ins upd_same ?_ .nil
  rw [upd_ne hne]
  exact upd_same
theorem je_mkO {X : Cx} {xa : Option XA} {W : WX} {C : Str} {p pos : Pos} (M : MkO X.K (cA X.K C)) (hm : X.mg C = some (.ref (cA X.K C))) (hg : Gl X C := by rfl) (hdb : (C == ("__debug__" : Str)) = false := by decide) : JE X xa W (.Call (.Name C p) [] [] pos) (eMkO C) :=
  ⟨_, pe_mkO M hg hm hdb, ev_mkO⟩
/-! ### what a call leaves -/
def eFin (n : Nat) (F : List L → FRes) (xs : List X) (ρ1 : Env) : Res X := match mkArgs ρ1 xs with
  | none => .bad
  | some as => if xs.length = n ∧ (slots xs).Nodup then (match F as with
    | .ok (.d x) bs => .ok (.d x) (putA ρ1 xs as bs)
    | .ok (.m x) bs => .ok (.d x) (putA ρ1 xs as bs)
    | .ok _ _ => .bad
    | .ex e bs => .ex e (putA ρ1 xs as bs)
    | .bad => .bad) else .bad
theorem eCall_fin {n : Nat} {F : List L → FRes} {ma : AM} : eCall n F ma = fun ρ => bindR (ma ρ) (eFin n F) := rfl
theorem mfin_ok {K : Kx} {W : WX} {n : Nat} {F : List L → FRes} {σ : L2.St} {G1 H1 : Hp} {ρ1 : Env} {vs : List V} {xs : List X} {Q : VK} (R1 : Rel K σ G1 H1 ρ1) (x1 : XsOk K σ G1 vs xs) (h : EPost K W σ G1 H1 ρ1 Q (eFin n F xs ρ1)) : spF K.k n F vs H1 Q (WE W σ) := by
  unfold eFin at h
  split at h
  · exact h.elim
  · rename_i as ea
    split at h
    · rename_i hnn
      have hnd := hnn.2
      refine ⟨x1.len.trans hnn.1, G1, as, sub_ok R1 x1 ea hnd, ?_⟩
      cases eF : F as with
      | bad => rw [eF] at h; exact h
      | ex x bs =>
        rw [eF] at h
        intro c d G' H' S' R' q
        obtain ⟨a, b, _⟩ := sup_ok R1 x1 ea hnd S' R'
        exact h c d G' H' a b q
      | ok l bs =>
        rw [eF] at h
        intro v G' H' S' R' q
        obtain ⟨a, b, o⟩ := sup_ok R1 x1 ea hnd S' R'
        cases l with
        | d x => exact h v G' H' a b q
        | m x =>
          have F : Frs K σ H1 (putA ρ1 xs as bs) G' H' v x := ⟨q.1, fun a ea => ⟨q.2 a ea, fun z => Own.there R1 (o a z) (q.2 a ea)⟩⟩
          obtain ⟨G2, S2, R2, q2⟩ := Frs.lock a b F
          exact h v G2 H' S2 R2 q2
        | r x => exact h.elim
        | xh => exact h.elim
    · exact h.elim
/-! ### o.m(..), o an instance of one of several classes -/
abbrev MTb : Type := List (Str × (List L → FRes))
structure MEnt (P : Program) (w : World) (K : PySem.W.Frag) (mg : Str → Option Value) (base : Heap) (k : Nat) (m : Str) (n : Nat) (C : Str) (R : List L → FRes) : Prop where
  ex : ∃ f fd ps, Cls K (cA K C) ∧ Meth K (cA K C) m f ∧ FnOk P w K mg base (L2.CX P w) k f fd ps (spF K n R) ∧ Binds K fd ps []
def MTab (P : Program) (w : World) (K : PySem.W.Frag) (mg : Str → Option Value) (base : Heap) (k : Nat) (m : Str) (n : Nat) (tb : MTb) : Prop := ∀ q ∈ tb, MEnt P w K mg base k m n q.1 q.2
theorem mtab_nil {P : Program} {w : World} {K : PySem.W.Frag} {mg : Str → Option Value} {base : Heap} {k : Nat} {m : Str} {n : Nat} : MTab P w K mg base k m n [] := fun _ h => nomatch h
theorem mtab_cons {P : Program} {w : World} {K : PySem.W.Frag} {mg : Str → Option Value} {base : Heap} {k : Nat} {m : Str} {n : Nat} {C : Str} {R : List L → FRes} {tb : MTb} (h : MEnt P w K mg base k m n C R) (t : MTab P w K mg base k m n tb) : MTab P w K mg base k m n ((C, R) :: tb) := fun q hq => by
  rcases List.mem_cons.mp hq with rfl | hq
  · exact h
  · exact t q hq
theorem mem_look {tb : MTb} {C : Str} {R : List L → FRes} (h : tb.lookup C = some R) : (C, R) ∈ tb := by
  induction tb with
  | nil => cases h
  | cons q tb ih =>
    obtain ⟨D, S⟩ := q
    unfold List.lookup at h
    split at h
    · rename_i e
      cases Option.some.inj h
      rw [eq_of_beq e]
      exact List.mem_cons_self
    · exact List.mem_cons_of_mem _ (ih h)
def tMethU (K : PySem.W.Frag) (m : Str) (n : Nat) (tb : MTb) (E : L2.St → XK) (ta : TE) (t : TA) : TE := fun σ H Q => ta σ H fun x H1 => ∃ a C R dx fs, x = .ref a ∧ H1 a = some (.ins (cA K C) dx fs) ∧ fs.lookup m = none ∧ tb.lookup C = some R ∧ t σ H1 fun vs H2 => spF K n R (x :: vs) H2 Q (E σ)
section
variable {X : Cx} {xa : Option XA} {W : WX} {o e : Expr} {es : List Expr} {m : Str} {apos pos : Pos} {n k : Nat} {tb : MTb} {E : L2.St → XK} {ta : TE} {t : TA}
theorem pe_methU {pl : Sem Bool} (he : PE X o ta) (T : MTab X.prog X.w X.K X.mg X.base k m n tb) (hr : Room k X.A) (hx : ∀ σ, PassesAt (L2.CX X.prog X.w) X σ (E σ)) (ha : PA X (e :: es) t)
    (hst : starEach (e :: es) X.env = (false, eval e X.env) :: starEach es X.env := by rfl) (hpl : (backTo pos (starEach es X.env)).any (·.1) = false := by rfl)
    (ht : eval (.Call (.Attribute o m apos) (e :: es) [] pos) X.env = (do
      let ov ← eval o X.env
      standAt apos.atName
      let (f, first) ← holding [ov] (getMethod ov m pl)
      callWith pos f first (backTo pos (starEach (e :: es) X.env)) (backToKw pos (keywordEach [] X.env))) := by rfl) :
    PE X (.Call (.Attribute o m apos) (e :: es) [] pos) (tMethU X.K m n tb E ta t) := by
  refine ⟨fun pins s σ H Q I h => ?_⟩
  refine PySem.W.methodCall_KW (pl := pl) (thn (he.run pins s σ H _ I h) fun u s1 ⟨x, H1, I1, rx, a, C, R, dx, fs, ex, ea, l, eR, q⟩ => ?_) ht
  subst ex
  obtain rfl : u = Value.ref a := rx
  obtain ⟨f, fd, ps, hc, hm, F, hb⟩ := (T _ (mem_look eR)).ex
  refine getmeth_ok I1 ea hc hm l ?_
  refine PySem.W.callWith_K (first := [.ref a]) (h₀ := X.base) I.ok.mod.kin hm.kp (thn (ha.run pos pins s1 σ H1 _ I1 q) fun us s2 ⟨vs, H2, I2, r, q2⟩ => ⟨I2.kIn, ?_⟩) hst hpl
  exact run_fnSD (us := .ref a :: us) (vs := .ref a :: vs) F hr hb .nil (hx σ) I2 (.cons rfl r) (by rw [List.append_nil]; exact q2)
theorem pe_methU0 {pl : Sem Bool} (he : PE X o ta) (T : MTab X.prog X.w X.K X.mg X.base k m n tb) (hr : Room k X.A) (hx : ∀ σ, PassesAt (L2.CX X.prog X.w) X σ (E σ))
    (ht : eval (.Call (.Attribute o m apos) [] [] pos) X.env = (do
      let ov ← eval o X.env
      standAt apos.atName
      let (f, first) ← holding [ov] (getMethod ov m pl)
      callWith pos f first (backTo pos (starEach [] X.env)) (backToKw pos (keywordEach [] X.env))) := by rfl) :
    PE X (.Call (.Attribute o m apos) [] [] pos) (tMethU X.K m n tb E ta tNil) := by
  refine ⟨fun pins s σ H Q I h => ?_⟩
  refine PySem.W.methodCall_KW (pl := pl) (thn (he.run pins s σ H _ I h) fun u s1 ⟨x, H1, I1, rx, a, C, R, dx, fs, ex, ea, l, eR, q⟩ => ?_) ht
  subst ex
  obtain rfl : u = Value.ref a := rx
  obtain ⟨f, fd, ps, hc, hm, F, hb⟩ := (T _ (mem_look eR)).ex
  refine getmeth_ok I1 ea hc hm l ?_
  exact PySem.W.callWith_K0 (first := [.ref a]) I1.kIn hm.kp (run_fnSD (us := [.ref a]) (vs := [.ref a]) F hr hb .nil (hx σ) I1 (.cons rfl .nil) (by rw [List.append_nil]; exact q))
end
def kMeth2 (n : Nat) (R : List L → FRes) (x : X) : List X → Env → Res X := fun xs ρ2 => eFin n R (x :: xs) ρ2
def kMeth1 (tb : MTb) (m : Str) (n : Nat) (am : AM) : X → Env → Res X := fun x ρ1 => match look ρ1 x with
  | some (.ins C fs) => (match tb.lookup C, fs.lookup m with
    | some R, none => bindR (am ρ1) (kMeth2 n R x)
    | _, _ => .bad)
  | _ => .bad
/-- o.m(..) by the table of the classes -/
def eMeth (tb : MTb) (m : Str) (n : Nat) (ma : EM) (am : AM) : EM := fun ρ => bindR (ma ρ) (kMeth1 tb m n am)
theorem DqF.lookN {K : PySem.W.Frag} {G : Hp} {m : Str} : ∀ {vs : List (Str × V)} {ds : List (Str × D)}, DqF K G vs ds → ds.lookup m = none → vs.lookup m = none
  | _, _, .nil, _ => rfl
  | _, _, .cons (k := k) _ t, e => by
    unfold List.lookup at e ⊢
    split at e
    · cases e
    · exact DqF.lookN t e
theorem ev_methU {K : Kx} {W : WX} {tb : MTb} {m : Str} {n : Nat} {ta : TE} {t : TA} {ma : EM} {am : AM} (ha : EvOk K W ta ma) (hb : AvOk K W t am) : EvOk K W (tMethU K.k m n tb (WE W) ta t) (eMeth tb m n ma am) := fun σ G H ρ R Q h => by
  unfold eMeth bindR at h
  refine ha.fst R (fun x ρ1 e v G1 H1 S1 R1 x1 => ?_) (fun e ρ1 q => by rw [q] at h; exact h) (fun q => by rw [q] at h; exact h)
  rw [e] at h
  have h := EPost.step S1 h
  simp only at h
  unfold kMeth1 at h
  split at h
  · rename_i C fs el
    split at h
    · rename_i Rr eR ef
      have q : Dq K G1 v (.ins C fs) := look_vw R1 x1 el
      cases q with
      | ins q1 q2 q3 =>
        refine ⟨_, C, Rr, _, _, rfl, R1.same _ _ q1, DqF.lookN q3 ef, eR, ?_⟩
        unfold bindR at h
        refine hb.fst R1 (fun xs ρ2 e2 vs G2 H2 S2 R2 x2 => ?_) (fun e ρ1 q => by rw [q] at h; exact h) (fun q => by rw [q] at h; exact h)
        rw [e2] at h
        exact mfin_ok R2 (.cons (x1.mono S2.g) x2) (EPost.step S2 h)
    · exact h.elim
  · exact h.elim
theorem je_methU {X : Cx} {xa : Option XA} {W : WX} {o e : Expr} {es : List Expr} {m : Str} {apos pos : Pos} {n k : Nat} {tb : MTb} {ma : EM} {am : AM} (pl : Sem Bool) (T : MTab X.prog X.w X.K X.mg X.base k m n tb) (hr : Room k X.A) (tk : Takes X W) (ho : JE X xa W o ma) (ha : JA X xa W (e :: es) am)
    (hst : starEach (e :: es) X.env = (false, eval e X.env) :: starEach es X.env := by rfl) (hpl : (backTo pos (starEach es X.env)).any (·.1) = false := by rfl)
    (ht : eval (.Call (.Attribute o m apos) (e :: es) [] pos) X.env = (do
      let ov ← eval o X.env
      standAt apos.atName
      let (f, first) ← holding [ov] (getMethod ov m pl)
      callWith pos f first (backTo pos (starEach (e :: es) X.env)) (backToKw pos (keywordEach [] X.env))) := by rfl) : JE X xa W (.Call (.Attribute o m apos) (e :: es) [] pos) (eMeth tb m n ma am) :=
  let ⟨_, h1, h2⟩ := ho; let ⟨_, h3, h4⟩ := ha; ⟨_, pe_methU (pl := pl) h1 T hr (fun σ => passAt tk σ) h3 hst hpl ht, ev_methU h2 h4⟩
theorem je_methU0 {X : Cx} {xa : Option XA} {W : WX} {o : Expr} {m : Str} {apos pos : Pos} {n k : Nat} {tb : MTb} {ma : EM} (pl : Sem Bool) (T : MTab X.prog X.w X.K X.mg X.base k m n tb) (hr : Room k X.A) (tk : Takes X W) (ho : JE X xa W o ma)
    (ht : eval (.Call (.Attribute o m apos) [] [] pos) X.env = (do
      let ov ← eval o X.env
      standAt apos.atName
      let (f, first) ← holding [ov] (getMethod ov m pl)
      callWith pos f first (backTo pos (starEach [] X.env)) (backToKw pos (keywordEach [] X.env))) := by rfl) : JE X xa W (.Call (.Attribute o m apos) [] [] pos) (eMeth tb m n ma aNil) :=
  let ⟨_, h1, h2⟩ := ho; ⟨_, pe_methU0 (pl := pl) h1 T hr (fun σ => passAt tk σ) ht, ev_methU h2 av_nil⟩
end DL
set_option Elab.async false
set_option linter.all false
set_option maxRecDepth 100000
set_option maxHeartbeats 4000000
/-! super().m(x) at the code of a method -/
namespace DL
open PySem PySem.Spec PyProof.Rows L2
/-- what the running method must be for its super() -/
structure SupX (X : Cx) (D : Addr) (sn : Str) : Prop where
  fn : ∃ f of fd ar, X.env.func = some f ∧ X.K.lookup f = some of ∧ of.data = .func fd ∧ (fd.params.posonlyargs ++ fd.params.args).head? = some ar ∧ ar.arg = sn
  code : ∃ cda oc vs file tf, X.env.code = .ref cda ∧ X.K.lookup cda = some oc ∧ oc.data = .fields vs ∧ vs[2]? = some (.str file tf) ∧ (X.prog.main.file == file) = true
  cell : ∃ cc cl cld csl, X.env.cells.lookup ("__class__" : Str) = some cc ∧ X.K.lookup cc = some ⟨cl, cld, .cell (some (.ref D)), csl⟩
  cls : ∃ cd, PySem.W.clsIn X.K D = some cd
  ks : X.env.kindOf "super" = some .globalImplicit
  kc : X.env.kindOf "__class__" = some .free
  kself : X.env.kindOf sn = some .local
  mg : X.mg "super" = none
  top : (X.prog.main.scope.names.lookup ("super" : Str)).isSome = false
  opq : PySem.W.nsIn X.K cStatics "thirdparty.any" = some none
/-- what super() gives for the name m, at the class D, for an instance of the class C -/
structure SupC (K : PySem.W.Frag) (D C : Addr) (m : Str) (f2 : Addr) : Prop where
  sub : PySem.W.mroIn K C (.ref D) = some true
  at_ : PySem.W.ks_superIn K C D m = some (some (.ref f2))
  ty : PySem.W.typeIn K (.ref f2) = some (.type "function")
  fi : PySem.W.fnIn K f2 = true
def tSup (i : Nat) (Cs : List Addr) (sp : Sp) (E : L2.St → XK) (t : TA) : TE := fun σ H Q => ∃ a C dx fs, σ[i]? = some (some (.ref a)) ∧ H a = some (.ins C dx fs) ∧ C ∈ Cs ∧ t σ H fun vs H2 => sp (.ref a :: vs) H2 Q (E σ)
section
variable {X : Cx} {D : Addr} {self m : Str} {e : Expr} {i k : Nat} {f2 : Addr} {fd : FuncData} {ps : List Str} {sp : Sp} {E : L2.St → XK} {t : TA} {body : List Stmt} {p0 p1 apos pos : Pos} {Cs : List Addr}
theorem run_cod {pins : List (Addr × Obj)} {σ : L2.St} {H : Hp} {s : Shared} {Q : VK} {us : List Value} {vs : List V} {f : Addr} {EE : XK} (F : FnOk X.prog X.w X.K X.mg X.base (L2.CX X.prog X.w) k f fd ps sp) (hr : Room k X.A) (hb : Binds X.K fd ps []) (hx : PassesAt (L2.CX X.prog X.w) X σ EE)
    (I : Inv X pins σ H s) (r : Vals vs us) (h : sp vs H Q EE) : codeAny (model X.prog X.w) X.A (.call (.ref f) ⟨us, []⟩) (fun r s' => match r with | .ok (.ret v) => EP X pins σ Q v s' | .ok _ => False | .error e => X.xe e s') s := by
  have hl : us.length = ps.length := by rw [← r.length]; exact F.len _ _ _ _ h
  have hb2 := hb s us I.kIn
  simp only [List.append_nil] at hb2
  refine codeAny_mono (F.run X.A X.stack s H ⟨us, []⟩ us vs Q EE hr I.env0 (hb2 hl) r h) fun r s' hq => ?_
  cases r with
  | error z => exact hx pins H s z s' I hq
  | ok fl =>
    cases fl with
    | ret u => exact I.after hq
    | next => exact False.elim hq
    | brk => exact False.elim hq
    | cont => exact False.elim hq
theorem pea_sup (S : SupX X D self) (hC : ∀ C ∈ Cs, SupC X.K D C m f2) (hN : X.N[i]? = some self) (F : FnOk X.prog X.w X.K X.mg X.base (L2.CX X.prog X.w) k f2 fd ps sp) (hb : Binds X.K fd ps []) (hr : Room k X.A) (hx : ∀ σ, PassesAt (L2.CX X.prog X.w) X σ (E σ)) (ha : PA X [e] t)
    (hline : (apos.endLine == pos.line) = true := by rfl) (he : starEach [e] X.env = [(false, eval e X.env)] := by rfl) (hm : (m == ("__class__" : Str)) = false := by decide) :
    PEa X (.func body X.env) (.Call (.Attribute (.Call (.Name "super" p0) [] [] p1) m apos) [e] [] pos) (tSup i Cs sp E t) := by
  refine ⟨fun pins s σ H Q I h => ?_⟩
  obtain ⟨a, C, dx, fs, hσ, hH, hCs, q⟩ := h
  have SC := hC C hCs
  obtain ⟨f, of, fdf, ar, hfu, hof, hfd, hpar, har⟩ := S.fn
  obtain ⟨cda, oc, vs, file, tf, hco, hcda, hocd, hvs, hfile⟩ := S.code
  obtain ⟨cc, cl, cld, csl, hcl, hcc⟩ := S.cell
  obtain ⟨cd, hcd⟩ := S.cls
  have KX := I.kIn
  refine ks_wpAt_MethodCall (pl := (do return (← importBound (.Call (.Name "super" p0) [] [] p1) X.env).getD true)) ?_ (by
    have e1 := PySem.ErrX.call_line (o := .Call (.Name "super" p0) [] [] p1) (e := e) (env := X.env) (name := m) (p2 := apos) (p4 := pos) hline he
    exact e1)
  refine ks_wpAt_super_base (env := X.env) S.ks S.kc hm hfu (KX _ _ hof) hfd hpar hco (KX _ _ hcda) hocd hvs hfile S.top ?_
  obtain ⟨mb, hB1, hB2⟩ := I.mod.blt
  refine PySem.W.ks_loadName_global I.ok.kind S.ks (Calls.loadGlobal_builtin (by rw [I.ok.glob]; exact I.mod.glob.keeps I.bk) S.mg (by rw [I.ok.blt]; exact hB1.keeps I.bk) ((hB2 _ (by decide +kernel)).trans (by first | boot_by_name | rfl | kernel_rfl)) ⟨rfl, ?_⟩)
  refine wpAny_loadName_free I.ok.kind S.kc hcl ⟨_, KX _ _ hcc, rfl⟩ ?_
  obtain ⟨mm, hns, hloc⟩ := I.loc
  obtain ⟨u, ru, lk⟩ := hloc i self (.ref a) hN hσ (.inl S.kself)
  obtain rfl : u = Value.ref a := ru
  have hv : mm self = some (.ref a) := by
    rcases lk with ⟨_, z⟩ | ⟨z, _⟩
    · exact z
    · rw [S.kself] at z
      rcases z with z | z <;> cases z
  rw [har]
  refine wpAny_loadName_local I.ok.kind S.kself hns hv ?_
  obtain ⟨oD, hD1, hD2⟩ : ∃ oD, s.heap.get? D = some oD ∧ oD.data = .cls cd := by
    unfold PySem.W.clsIn at hcd
    split at hcd
    · rename_i c d cd' sl ho
      cases hcd
      exact ⟨_, KX _ _ ho, rfl⟩
    · cases hcd
  refine ks_wpAny_isType_cls hD1 hD2 ⟨rfl, ?_⟩
  obtain ⟨mA, O, _, _, _, _⟩ := ins_get I.hok hH
  have hox : s.heap.get? a = some (PySem.W.instObj C dx) := O.obj
  obtain ⟨hh, g, d, tk, os⟩ := s
  refine ks_wpAny_call_super hD1 hD2 hox rfl (fun c z => nomatch z) (PySem.W.looks_mroIn KX SC.sub) (fun h1 e1 k1 => ?_)
  have I1 : Inv X ((hh.objs.size, PySem.W.ks_superObj D a C) :: pins) σ H ⟨h1, g, d, tk, os⟩ := ClX.pin_new (s := ⟨hh, g, d, tk, os⟩) I (fun b u z => k1 b u z) (Nat.le_refl _) e1 (fun v z => nomatch z)
  have KX1 := I1.kIn
  have at2 := SC.at_
  obtain ⟨cdC, hcdC⟩ : ∃ cdC, PySem.W.clsIn X.K C = some cdC := by
    unfold PySem.W.ks_superIn at at2
    cases z : PySem.W.clsIn X.K C with
    | none => rw [z] at at2; cases at2
    | some c => exact ⟨c, rfl⟩
  unfold PySem.W.ks_superIn at at2
  rw [hcdC] at at2
  obtain ⟨of2, hof2, hofc2⟩ : ∃ o, h1.get? f2 = some o ∧ o.cls = .type "function" := by
    have ht' : (X.K.lookup f2).map (·.cls) = some (.type "function") := SC.ty
    cases z : X.K.lookup f2 with
    | none => rw [z] at ht'; cases ht'
    | some o => rw [z] at ht'; exact ⟨o, KX1 _ _ z, Option.some.inj ht'⟩
  have hne : a ≠ C := by
    rintro rfl
    unfold PySem.W.clsIn at hcdC
    split at hcdC
    · rename_i c d cd' sl ho
      have z := KX _ _ ho
      rw [hox] at z
      cases z
    · cases hcdC
  have hsz : hh.objs.size < h1.objs.size := Heap.lt_size e1
  refine ks_wpAny_getMethod_super e1 (PySem.W.looks_opaque KX1 S.opq) (l₀ := cdC.mro) (fun A Q E s k q => wpAny_bind ((PySem.W.looks_clsIn KX1 hcdC) A _ E s k (wpAny_pure q))) rfl KX1 at2 hof2 hofc2 hne hm ?_
  have I2 : Inv X ((h1.objs.size, PySem.W.methodObj (.ref f2) (.ref a)) :: (hh.objs.size, PySem.W.ks_superObj D a C) :: pins) σ H ⟨h1.push (PySem.W.methodObj (.ref f2) (.ref a)), g, d, tk + 1, os⟩ :=
    ClX.pin_new (s := ⟨h1, g, d, tk, os⟩) I1 (fun _ _ z => Heap.get?_push_of_some _ z) (Nat.le_refl _) (Heap.get?_push_size h1 rfl) (fun v z => nomatch z)
  refine ClX.callwith_cm I2 (ClX.base_none I1 (Nat.le_refl _)) SC.fi (thn (ha.run pos _ _ σ H _ I2 q) fun us s3 ⟨ws, H3, I3, r3, q3⟩ => ⟨⟨ClX.pin_at I3, I3.kIn⟩, ?_⟩) he (by rfl)
  refine thn (wpAny_call (PySem.W.method_call (ClX.pin_at I3) (run_cod (us := .ref a :: us) (vs := .ref a :: ws) F hr hb (hx σ) I3 (.cons rfl r3) q3))) fun _ _ y => ClX.unpinE (ClX.unpinE y)
end
/-! the denotation -/
def kSup (n : Nat) (R : List L → FRes) (i : Nat) : List X → Env → Res X := fun xs ρ2 => eFin n R (.s i :: xs) ρ2
def eSup (i : Nat) (Cs : List Str) (n : Nat) (R : List L → FRes) (am : AM) : EM := fun ρ => match ρ[i]? with
  | some (some (.d (.ins C _))) => if C ∈ Cs then bindR (am ρ) (kSup n R i) else .bad
  | _ => .bad
theorem ev_sup {K : Kx} {W : WX} {i : Nat} {Cs : List Str} {n : Nat} {R : List L → FRes} {t : TA} {am : AM} (hb : AvOk K W t am) : EvOk K W (tSup i (Cs.map (cA K.k)) (spF K.k n R) (WE W) t) (eSup i Cs n R am) := fun σ G H ρ Rl Q h => by
  unfold eSup at h
  split at h
  · rename_i C fs hρ
    split at h
    · rename_i hC
      obtain ⟨v, hv, q⟩ := Rl.at_ i _ hρ
      have q : Dq K G v (.ins C fs) := q
      cases q with
      | ins q1 q2 q3 =>
        refine ⟨_, cA K C, _, _, hv, Rl.same _ _ q1, List.mem_map_of_mem hC, ?_⟩
        unfold bindR at h
        refine hb.fst Rl (fun xs ρ2 e2 vs G2 H2 S2 R2 x2 => ?_) (fun e ρ1 q => by rw [q] at h; exact h) (fun q => by rw [q] at h; exact h)
        rw [e2] at h
        exact mfin_ok R2 (.cons (show XOk K σ G2 _ (.s i) from hv) x2) (EPost.step S2 h)
    · exact h.elim
  · exact h.elim
end DL
set_option Elab.async false
set_option linter.all false
set_option maxRecDepth 100000
set_option maxHeartbeats 4000000
/-! judgements at a method's code; the method with super() by its body -/
namespace DL
open PySem PySem.Spec PyProof.Rows L2
section
variable {X : Cx} {c : Code} {e tg iter : Expr} {te : TE} {pos p : Pos} {x : Str}
theorem pia_seq (hl : PEa X c e te) : PIa X c tg e (iSeq X.K te) := by
  refine ⟨fun pins s σ H R I h => ?_⟩
  refine wa_thn (hl.run pins s σ H _ I h) fun v s1 ⟨x, H1, I1, r1, q1⟩ => ?_
  rcases q1 with ⟨a, e, ⟨xs, hq⟩, q⟩ | ⟨a, e, ⟨xs, hq⟩, q⟩
  · subst e
    cases r1
    obtain ⟨its, rv, p, hz⟩ := I1.list hq
    refine wpAny_pyIter_list p.isList ?_
    refine ⟨s1.heap.objs.size, [s1.heap.objs.size], _, _, H1, rfl, I1.kept (t' := s1.toks) fun b o e => Heap.get?_push_of_some _ e, turn_list a _, ⟨_, Heap.get?_push_size _ rfl, rfl, rfl⟩, fun b hb => ?_, q⟩
    have e : b = s1.heap.objs.size := by simpa using hb
    subst e
    exact I1.fpOk (Nat.le_refl _) (I1.hok.fresh (Nat.le_refl _))
  · subst e
    cases r1
    obtain ⟨its, rv, p, hz⟩ := I1.tuple hq
    refine wpAny_pyIter_tuple (show s1.heap.IsTuple a its.toArray from p) ?_
    refine ⟨s1.heap.objs.size, [s1.heap.objs.size], _, _, H1, rfl, I1.kept (t' := s1.toks) fun b o e => Heap.get?_push_of_some _ e, turn_tuple a _, ⟨_, Heap.get?_push_size _ rfl, rfl, rfl⟩, fun b hb => ?_, q⟩
    have e : b = s1.heap.objs.size := by simpa using hb
    subst e
    exact I1.fpOk (Nat.le_refl _) (I1.hok.fresh (Nat.le_refl _))
theorem psa_set {i : Nat} {p' : Pos} (hN : X.N.Nodup) (hi : X.N[i]? = some x) (hx : Loc X.env.scope x) (he : PEa X c e te) (hs : swapsWith e (some (.Name x p')) pos.line X.env = pure false) (hf : X.fn x = true ∨ X.env.scope.names.lookup x = some .local) : PSa X c (.Assign [.Name x p'] e pos) (tAsg te (gName i)) := by
  refine ⟨fun pins s σ H D I h => ?_⟩
  refine ks_wpAt_Assign_Name (wa_thn (he.run pins s σ H _ I h) fun v s1 ⟨y, H1, I1, r1, q1⟩ => ?_) hs
  exact store_ok I1 hN hi hx r1 (fun s2 I2 => ⟨_, H1, I2, q1⟩) hf
theorem wa_for {M : Model} {A : Around} {E : Value → Shared → Prop} {s : Shared} {env : PySem.Env} {target : Expr} {body orelse : List Stmt} {Q : Flow → Shared → Prop}
    (h : WA M A c (eval iter env) (fun x s₁ => wpAny M A (pyIter x) (fun it s₂ => codeAny M A (.forLoop target it body orelse env) (fun r s' => match r with | .ok f => Q f s' | .error e => cameBackBy M A env E e s') s₂) E s₁) E s)
    (hs : ∀ x, foldedSetIterable iter env x = pure x) : WA M A c (exec (.For target iter body orelse pos) env) Q E s := by
  rw [exec_For]
  exact wa_bind (wa_any (wpAny_standAt (wa_bind (wa_thn h fun x s1 h1 => wa_any (wpAny_bind (wpAny_of_eq (hs x) (wpAny_bind (wpAny_standAt (wpAny_bind (wpAny_holding
    (wpAny_mono h1 (fun it s2 h2 => wpAny_runOwn h2) fun _ _ z => z)))))))))))
theorem psa_for {body : List Stmt} {wi : TI} {g : TG} {tb : TS} (hp : PassesOwn (model X.prog X.w) X.A X.env X.xe) (hc : X.calm = true) (hi : PIa X c tg iter wi) (hg : PG X tg g) (hb : PSs X body tb)
    (hs : ∀ x, foldedSetIterable iter X.env x = pure x) : PSa X c (.For tg iter body [] pos) (tFor wi g tb) := by
  refine ⟨fun pins s σ H D I h => ?_⟩
  refine wa_for (wa_thn (hi.run pins s σ H _ I h) fun v s1 h1 => thn h1 fun itv s2 h2 => ?_) hs
  obtain ⟨it, fp, tn, J, H2, e, I2, T, st2, f2, Wl, ⟨m0, w0⟩, turn⟩ := h2
  subst e
  have stat : ∀ {H' : Hp}, (∀ b ∈ fp, H' b = none) → ∀ b ∈ fp, FpOk X pins H' b := fun hn b hb => ⟨hn b hb, (f2 b hb).2⟩
  refine codeAny_forLoop_any (fun n s' => ∃ i σ' H', Inv X pins σ' H' s' ∧ tn i s'.heap ∧ (∀ b ∈ fp, H' b = none) ∧ Wl i n σ' H') ?_ m0 ⟨0, σ, H2, I2, st2, fun b hb => (f2 b hb).1, w0⟩
  rintro n s3 ⟨i, σ3, H3, I3, st3, fr3, w3⟩
  rcases turn i n σ3 H3 w3 with ⟨stop, qn⟩ | ⟨go, N, hN, step⟩
  · refine wpAny_passesOwn hp (thn (T.done X rfl rfl rfl hc i pins s3 σ3 H3 X.xe I3 (stat fr3) st3 stop) fun r s4 ⟨hr, I4⟩ => ?_)
    subst hr
    exact wpAny_execs_nil ⟨σ3, H3, I4, qn⟩
  · refine wpAny_passesOwn hp (thn (T.item X rfl rfl rfl hc i pins s3 σ3 H3 X.xe I3 (stat fr3) st3 go) fun r s4 ⟨u, hr, h4⟩ => ?_)
    subst hr
    refine wpAny_passesOwn hp (thn h4 fun _ s5 ⟨x, H5, I5, r5, y5, st5, fr5⟩ => ?_)
    have I5' := I5.pinned (stat fr5) (T.obj _ _ st5)
    refine wpAny_passesOwn hp (thn (hg.run _ s5 σ3 H5 x u _ I5' r5 (step x H5 y5)) fun _ s6 ⟨σ6, H6, I6, q6⟩ => ?_)
    refine wpAny_passesOwn hp (thn (hb.run _ s6 σ6 H6 _ I6 q6) fun f s7 q7 => ?_)
    have again : ∀ {σ7 : L2.St} {H7 : Hp}, Inv X (pins ++ pinsAt fp s5.heap) σ7 H7 s7 → N σ7 H7 → ∃ m, m < n ∧ ∃ i σ' H', Inv X pins σ' H' s7 ∧ tn i s7.heap ∧ (∀ b ∈ fp, H' b = none) ∧ Wl i m σ' H' := fun {σ7 H7} I7 n7 => by
      obtain ⟨m', hm, w7⟩ := hN σ7 H7 n7
      refine ⟨m', hm, i + 1, σ7, H7, I7.unpinned, T.keep _ _ _ st5 fun b hb o e => (I7.pin (b, o) (List.mem_append_right _ (List.mem_append_right _ (mem_pinsAt hb e)))).1, fun b hb => ?_, w7⟩
      obtain ⟨o, e, d⟩ := T.obj _ _ st5 b hb
      exact (I7.pin (b, o) (List.mem_append_right _ (List.mem_append_right _ (mem_pinsAt hb e)))).2.1
    cases f with
    | next => obtain ⟨σ7, H7, I7, n7⟩ := q7; exact again I7 n7
    | cont => obtain ⟨σ7, H7, I7, n7⟩ := q7; exact again I7 n7
    | brk => obtain ⟨σ7, H7, I7, q7⟩ := q7; exact ⟨σ7, H7, I7.unpinned, q7⟩
    | ret v => obtain ⟨x7, σ7, H7, I7, r7, q7⟩ := q7; exact ⟨x7, σ7, H7, I7.unpinned, r7, q7⟩
end
/-! ### judgements -/
section
variable (X : Cx) (c : Code) (xa : Option XA) (W : WX)
def JEa (e : Expr) (m : EM) : Prop := ∃ t, PEa X c e t ∧ EvOk ⟨X.K, xa⟩ W t m
def JIa (tg e : Expr) (m : IM) : Prop := ∃ t, PIa X c tg e t ∧ IvOk ⟨X.K, xa⟩ W t m
def JSa (st : Stmt) (m : SM) : Prop := ∃ t, PSa X c st t ∧ StOk ⟨X.K, xa⟩ W t m
def JSsa (st : List Stmt) (m : SM) : Prop := ∃ t, PSsa X c st t ∧ StOk ⟨X.K, xa⟩ W t m
end
section
variable {X : Cx} {c : Code} {xa : Option XA} {W : WX} {e tg iter : Expr} {m : EM} {im : IM} {st : Stmt} {sts body : List Stmt} {n o : SM} {pos p : Pos} {x : Str} {js : List Nat} {gm : GM} {i : Nat}
theorem jsa_of (h : JS X xa W st n) : JSa X c xa W st n := let ⟨t, a, b⟩ := h; ⟨t, psa_of a, b⟩
theorem jssa_of (h : JSs X xa W sts n) : JSsa X c xa W sts n := let ⟨t, a, b⟩ := h; ⟨t, pssa_of a, b⟩
theorem jssa_cons (h1 : JSa X c xa W st n) (h2 : JSsa X c xa W sts o) : JSsa X c xa W (st :: sts) (sSeq n o) := let ⟨_, a, b⟩ := h1; let ⟨_, c, d⟩ := h2; ⟨_, pssa_cons a c, st_seq b d⟩
theorem jsa_ret (h : JEa X c xa W e m) : JSa X c xa W (.Return (some e) pos) (sRet m) := let ⟨_, a, b⟩ := h; ⟨_, psa_ret a, st_ret b⟩
theorem jsa_set (hN : X.N.Nodup) (h : JEa X c xa W e m) (hi : X.N[i]? = some x := by rfl) (hx : Loc X.env.scope x := by first | exact .inl rfl | exact .inr rfl) (hs : swapsWith e (some (.Name x p)) pos.line X.env = pure false := by rfl) (hf : X.fn x = true ∨ X.env.scope.names.lookup x = some .local := by first | exact .inl rfl | exact .inr rfl) :
    JSa X c xa W (.Assign [.Name x p] e pos) (sAsg (gmName i) m) := let ⟨_, a, b⟩ := h; ⟨_, psa_set hN hi hx a hs hf, st_asg b (go_name i)⟩
theorem jia_seq (h : JEa X c xa W e m) : JIa X c xa W tg e (mSeq m) := let ⟨_, h1, h2⟩ := h; ⟨_, pia_seq h1, iv_seq h2⟩
theorem jsa_for (hp : PassesOwn (model X.prog X.w) X.A X.env X.xe) (hc : X.calm = true) (hi : JIa X c xa W tg iter im) (hg : JG X xa js tg gm) (hb : JSs X xa W body n) (hs : ∀ x, foldedSetIterable iter X.env x = pure x := by intro _; rfl) :
    JSa X c xa W (.For tg iter body [] pos) (sFor im gm n) := let ⟨_, a1, a2⟩ := hi; let ⟨_, b1, b2⟩ := hg; let ⟨_, c1, c2⟩ := hb; ⟨_, psa_for hp hc a1 b1 c1 hs, st_for a2 b2 c2⟩
theorem jsa_fg {js : List Nat} (h : JSa X c xa W st n) : JSa X c xa W st (sFg js n) := let ⟨t, h1, h2⟩ := h; ⟨t, h1, st_fg h2⟩
theorem jea_ct {T : String} {g : List D → Option D} (hc : CallR X (.type T) (rDn X.K g)) (hm : X.mg x = none) (hv : bootBuiltins x = some (.type T)) (ha : JEa X c xa W e m) (hg : Gl X x := by rfl) (hn : x ≠ "__name__" := by decide) (hdb : (x == ("__debug__" : Str)) = false := by decide)
    (he : starEach [e] X.env = [(false, eval e X.env)] := by rfl) : JEa X c xa W (.Call (.Name x p) [e] [] pos) (eCB g (aCons m aNil)) := by
  obtain ⟨t, h1, h2⟩ := ha
  refine ⟨_, pea_ty hc hg hm hv h1 hn hdb he, ?_⟩
  have q := ev_cb (g := g) (av_cons h2 (av_nil (K := ⟨X.K, xa⟩) (W := W)))
  exact q
theorem jea_cb {id : String} {g : List D → Option D} (hc : CallR X (.builtin id) (rDn X.K g)) (hm : X.mg x = none) (hv : bootBuiltins x = some (.builtin id)) (ha : JEa X c xa W e m) (hg : Gl X x := by rfl) (hn : x ≠ "__name__" := by decide) (hdb : (x == ("__debug__" : Str)) = false := by decide)
    (he : starEach [e] X.env = [(false, eval e X.env)] := by rfl) : JEa X c xa W (.Call (.Name x p) [e] [] pos) (eCB g (aCons m aNil)) := by
  obtain ⟨t, h1, h2⟩ := ha
  refine ⟨_, pea_bi hc hg hm hv h1 hn hdb he, ?_⟩
  have q := ev_cb (g := g) (av_cons h2 (av_nil (K := ⟨X.K, xa⟩) (W := W)))
  exact q
theorem jea_cbF {id : String} {g : List D → Option (List D)} (hc : CallR X (.builtin id) (rFn X.K g)) (hm : X.mg x = none) (hv : bootBuiltins x = some (.builtin id)) (ha : JEa X c xa W e m) (hg : Gl X x := by rfl) (hn : x ≠ "__name__" := by decide) (hdb : (x == ("__debug__" : Str)) = false := by decide)
    (he : starEach [e] X.env = [(false, eval e X.env)] := by rfl) : JEa X c xa W (.Call (.Name x p) [e] [] pos) (eF (fCB g (aCons m aNil))) := by
  obtain ⟨t, h1, h2⟩ := ha
  refine ⟨_, pea_bi hc hg hm hv h1 hn hdb he, ?_⟩
  have q := (fv_cb (g := g) (av_cons h2 (av_nil (K := ⟨X.K, xa⟩) (W := W)))).ev
  exact q
theorem jea_sl {lo hi : Option Expr} {ol oh : OM} {p2 : Pos} (ha : JEa X c xa W e m) (hl : JO X xa W lo ol) (hh : JO X xa W hi oh) : JEa X c xa W (.Subscript e (.Slice lo hi none p2) pos) (eSl slD m ol oh) :=
  let ⟨_, h1, h2⟩ := ha; let ⟨_, h3, h4⟩ := hl; let ⟨_, h5, h6⟩ := hh; ⟨_, pea_sl sl_D h1 h3 h5, ev_sl h2 h4 h6⟩
theorem jea_rev {stp : Expr} {os : OM} {p2 : Pos} (ha : JEa X c xa W e m) (hs : JO X xa W (some stp) os)
    (hst : ∀ a b, subscripted (.Slice none none (some stp) p2) false (.ref a) (.ref b) = operate [.ref a, .ref b] (getItem (.ref a) (.ref b)) := by intro _ _; with_unfolding_all rfl) : JEa X c xa W (.Subscript e (.Slice none none (some stp) p2) pos) (eRev m os) :=
  let ⟨_, h1, h2⟩ := ha; let ⟨_, h7, h8⟩ := hs; ⟨_, pea_rev h1 h7 hst, ev_rev h2 h8⟩
end
/-! ### methods -/
abbrev maA (K : PySem.W.Frag) (C m : Str) : Addr := He.ma K (cA K C) m
/-- the method m written in the class C keeps its promise R -/
structure FnM (P : Program) (w : World) (K : PySem.W.Frag) (mg : Str → Option Value) (base : Heap) (k : Nat) (C m : Str) (n : Nat) (R : List L → FRes) : Prop where
  ex : ∃ fd ps, FnOk P w K mg base (L2.CX P w) k (maA K C m) fd ps (spF K n R) ∧ Binds K fd ps []
/-- a class as its instances want it -/
structure ClsM (K : PySem.W.Frag) (C : Str) : Prop where
  cls : Cls K (cA K C)
/-- the class C has the method m of the class C2 -/
structure HasM (K : PySem.W.Frag) (C m C2 : Str) : Prop where
  mt : Meth K (cA K C) m (maA K C2 m)
theorem ment_of {P : Program} {w : World} {K : PySem.W.Frag} {mg : Str → Option Value} {base : Heap} {j k : Nat} {C C2 m : Str} {n : Nat} {R : List L → FRes} (c : Cls K (cA K C)) (h : Meth K (cA K C) m (maA K C2 m)) (F : FnM P w K mg base j C2 m n R) (hj : j ≤ k) : MEnt P w K mg base k m n C R := by
  obtain ⟨fd, ps, F, hb⟩ := F.ex
  exact ⟨⟨_, fd, ps, c, h, F.mono hj, hb⟩⟩
theorem FnM.mono {P : Program} {w : World} {K : PySem.W.Frag} {mg : Str → Option Value} {base : Heap} {j k : Nat} {C m : Str} {n : Nat} {R : List L → FRes} (F : FnM P w K mg base j C m n R) (hj : j ≤ k) : FnM P w K mg base k C m n R := by
  obtain ⟨fd, ps, F, hb⟩ := F.ex
  exact ⟨⟨fd, ps, F.mono hj, hb⟩⟩
theorem jea_sup {X : Cx} {xa : Option XA} {W : WX} {D D2 sn m : Str} {e : Expr} {i k j n : Nat} {R : List L → FRes} {am : EM} {body : List Stmt} {p0 p1 apos pos : Pos} {Cs : List Str} (S : SupX X (cA X.K D) sn) (hC : ∀ C ∈ Cs, SupC X.K (cA X.K D) (cA X.K C) m (maA X.K D2 m)) (F : FnM X.prog X.w X.K X.mg X.base j D2 m n R) (hj : j ≤ k) (hr : Room k X.A) (tk : Takes X W) (ha : JE X xa W e am)
    (hN : X.N[i]? = some sn := by rfl) (hline : (apos.endLine == pos.line) = true := by rfl) (he : starEach [e] X.env = [(false, eval e X.env)] := by rfl) (hs : starEach (e :: []) X.env = (false, eval e X.env) :: starEach [] X.env := by rfl) (hm : (m == ("__class__" : Str)) = false := by decide) :
    JEa X (.func body X.env) xa W (.Call (.Attribute (.Call (.Name "super" p0) [] [] p1) m apos) [e] [] pos) (eSup i Cs n R (aCons am aNil)) := by
  obtain ⟨fd, ps, F, hb⟩ := (F.mono hj).ex
  obtain ⟨t, h1, h2⟩ := ha
  refine ⟨_, pea_sup (Cs := Cs.map (cA X.K)) S (fun C hC' => ?_) hN F hb hr (fun σ => passAt tk σ) (pa_cons h1 pa_nil hs) hline he hm, ev_sup (av_cons h2 av_nil)⟩
  obtain ⟨c, hc, rfl⟩ := List.mem_map.mp hC'
  exact hC c hc
end DL
set_option Elab.async false
set_option linter.all false
set_option maxRecDepth 100000
set_option maxHeartbeats 4000000
/-! a method with super(), by its body; the facts of classes by Bools -/
namespace DL
open PySem PySem.Spec PyProof.Rows L2
/-- a method of the text that holds its class's cell, as it stands behind the top -/
structure FunS (P : Program) (K : PySem.W.Frag) (C m : Str) (x qual : Str) (st : Stmt) : Prop where
  ex : ∃ oc od sl kV dc pm an cda ct cc, K.lookup (maA K C m) = some ⟨oc, od, .func (PySem.W.ksFn x qual (defArgs st) (defBody st) (defScope st) .none kV dc pm an (.ref cda) ct cc), sl⟩ ∧ PySem.W.codeIn K (.ref cda) qual = true ∧
    (∃ ccl cdd vs ccs file tf, K.lookup cda = some ⟨ccl, cdd, .fields vs, ccs⟩ ∧ vs[2]? = some (.str file tf) ∧ (P.main.file == file) = true) ∧ (∃ cl cld csl, K.lookup cc = some ⟨cl, cld, .cell (some (.ref (cA K C))), csl⟩)
  cls : ∃ cd, PySem.W.clsIn K (cA K C) = some cd
  opq : PySem.W.nsIn K cStatics "thirdparty.any" = some none
  top : (P.main.scope.names.lookup ("super" : Str)).isSome = false
abbrev nfS (x qual : Str) (st : Stmt) (cda cc : Addr) : NdefX.NF := ⟨x, qual, defArgs st, defBody st, defScope st, [("__class__", cc)], cda⟩
abbrev cxS (P : Program) (w : World) (K : PySem.W.Frag) (mg : Str → Option Value) (base : Heap) (N : List Str) (x qual : Str) (st : Stmt) (f cda cc : Addr) (A : Around) (outer : List PySem.Env) (s : Shared) (H : Hp) (E : XK) : Cx :=
  NdefX.ncx (L2.CX P w) P w K mg base N (nfS x qual st cda cc) f A outer s H E
theorem fnS_mk {P : Program} {w : World} {K : PySem.W.Frag} {mg : Str → Option Value} {base : Heap} {C m x qual sn : Str} {st : Stmt} {N ps : List Str} {k : Nat} {body : SM} (F : FunS P K C m x qual st) (hsup : mg "super" = none) (S : NdefX.NScope N ps ["__class__"] (defScope st))
    (hpar : ∃ ar, ((defArgs st).posonlyargs ++ (defArgs st).args).head? = some ar ∧ ar.arg = sn) (ksn : (defScope st).names.lookup sn = some .local) (ksu : (defScope st).names.lookup ("super" : Str) = some .globalImplicit)
    (hbind : ∀ (kV doc pm : Value) (an : Option Addr) (cdv ct : Value) (cc : Addr) (us : List Value), us.length = ps.length → bindArgs (PySem.W.ksFn x qual (defArgs st) (defBody st) (defScope st) .none kV doc pm an cdv ct cc) ⟨us, []⟩ = pure (ps.zip us))
    (hb : ∀ (f cda cc : Addr) (A : Around) (outer : List PySem.Env) (s : Shared) (H : Hp) (E : XK), Room k (A.deeper (PySem.W.ksEnv qual (defScope st) s.heap.objs.size f (.ref cda) cc)) → SupX (cxS P w K mg base N x qual st f cda cc A outer s H E) (cA K C) sn →
      JSsa (cxS P w K mg base N x qual st f cda cc A outer s H E) (.func (defBody st) (cxS P w K mg base N x qual st f cda cc A outer s H E).env) none (fun cls d _ H => E cls d H) (defBody st) body) :
    FnM P w K mg base (k + 1) C m ps.length (runFn N.length body) := by
  obtain ⟨oc, od, sl, kV, dc, pm, an, cda, ct, cc, lk, hcd, hcode, hcell⟩ := F.ex
  refine ⟨⟨PySem.W.ksFn x qual (defArgs st) (defBody st) (defScope st) .none kV dc pm an (.ref cda) ct cc, ps, ⟨fun vs H Q E h => h.1, fun A outer s H args us vs Q E hr e0 hba r hsp => ?_⟩, ?_⟩⟩
  rotate_left
  · exact Binds.all (hbind kV dc pm an _ ct cc)
  have hl := hsp.1
  have KX : K.In s.heap := e0.mod.kin.keeps fun b o e => (e0.bs b o e).1
  have lim : s.heap.NoLimit := e0.mod.nolimit.keeps fun b o e => (e0.bs b o e).1
  obtain ⟨cl, cld, csl, hcc⟩ := hcell
  have CA : NdefX.CellsAt [(("__class__" : Str), cc)] ["__class__"] [none] s.heap H := by
    have hc0 : H cc = none := (e0.bs _ _ (e0.mod.kin _ _ hcc)).2
    have one : ∀ {y : Str} {c : Addr}, List.lookup y [(("__class__" : Str), cc)] = some c → y = "__class__" ∧ c = cc := fun {y c} e => by
      unfold List.lookup at e
      split at e
      · rename_i q
        exact ⟨eq_of_beq q, (Option.some.inj e).symm⟩
      · cases e
    refine ⟨rfl, fun y c e => ?_, fun x y c e1 e2 => ?_, fun i y e => ?_⟩
    · obtain ⟨_, rfl⟩ := one e
      exact ⟨hc0, _, _, KX _ _ hcc, rfl⟩
    · rw [(one e1).1, (one e2).1]
    · cases i with
      | zero =>
        cases Option.some.inj e
        refine ⟨cc, by simp [List.lookup], fun v hv => ?_⟩
        cases hv
      | succ i => simp at e
  refine codeAny_call_function hr.depth (KX _ _ lk) rfl S.co S.gen rfl (PySem.W.codeRec_of KX hcd) (hba _ _ _ _ ?_)
  refine wpAny_newFunctionEnv S.nocell (fun ⟨n, _⟩ hy => S.par n (List.of_mem_zip hy).1) (fun h₁ hns hsb => ⟨lim.fresh _ hsb, ?_⟩) S.kind
  show codeAny _ _ (.func (defBody st) (cxS P w K mg base N x qual st (maA K C m) cda cc A outer s H E).env) _ _
  refine ks_codeAny_funcAt ?_
  have kp : ∀ b o, s.heap.get? b = some o → h₁.get? b = some o := fun b o e => hsb.extBut b o (Nat.ne_of_lt (Heap.lt_size e)) (Heap.get?_push_of_some _ e)
  have I : Inv (cxS P w K mg base N x qual st (maA K C m) cda cc A outer s H E) [] (NdefX.startF N vs [none]) H { s with heap := h₁, toks := s.toks + (ps.zip us).length } := NdefX.inv_startN S hr.hd e0 hl r CA hns kp
  have SX : SupX (cxS P w K mg base N x qual st (maA K C m) cda cc A outer s H E) (cA K C) sn := by
    obtain ⟨ar, h1, h2⟩ := hpar
    obtain ⟨ccl, cdd, vs2, ccs, file, tf, q1, q2, q3⟩ := hcode
    exact ⟨⟨_, _, _, ar, rfl, lk, rfl, h1, h2⟩, ⟨cda, _, vs2, file, tf, rfl, q1, rfl, q2, q3⟩, ⟨cc, cl, cld, csl, by show List.lookup _ [(("__class__" : Str), cc)] = some cc; simp [List.lookup], hcc⟩, F.cls, ksu, S.frk _ List.mem_cons_self, ksn, hsup, F.top, F.opq⟩
  obtain ⟨t, ht1, ht2⟩ := hb (maA K C m) cda cc A outer s H E (hr.deeper _) SX
  obtain ⟨_, G, as, Aok, hp⟩ := hsp
  have len : as.length = vs.length := by
    have := Aok.1.len
    simpa using this.symm
  have hpl : ps.length + 1 ≤ N.length := by
    have q := congrArg List.length S.pre
    rw [List.length_take, List.length_append] at q
    simp only [List.length_cons, List.length_nil] at q
    omega
  have est : NdefX.startF N vs [none] = vs.map some ++ List.replicate (N.length - as.length) none := by
    unfold NdefX.startF
    rw [len]
    congr 1
    rw [show N.length - vs.length = (N.length - vs.length - 1) + 1 by omega, List.replicate_succ]
    rfl
  have hq : t { nx := fun _ H' => Q .non H', rt := Q } (NdefX.startF N vs [none]) H := by
    rw [est]
    refine ht2 _ G H (as.map some ++ List.replicate (N.length - as.length) none) (Rel.enter Aok) _ ?_
    unfold runFn at hp
    cases e : body (as.map some ++ List.replicate (N.length - as.length) none) with
    | bad => rw [e] at hp; exact hp
    | ex x ρ' =>
      rw [e] at hp
      intro c d σ' G' H' S' R' q
      obtain ⟨a, b⟩ := Rel.leave Aok S' R'
      exact hp c d G' H' a b q
    | ok fl ρ' =>
      rw [e] at hp
      cases fl with
      | nx =>
        intro σ' G' H' S' R'
        obtain ⟨a, b⟩ := Rel.leave Aok S' R'
        exact hp _ G' H' a b .non
      | bk => exact hp.elim
      | ct => exact hp.elim
      | rt l =>
        intro σ' v G' H' S' R' q
        obtain ⟨a, b⟩ := Rel.leave Aok S' R'
        refine hp v G' H' a b ?_
        cases l with
        | d x => exact q
        | r x => exact q.elim
        | xh => exact q.elim
        | m x =>
          refine ⟨q.1, fun b eb => ?_⟩
          rcases q.2 b eb with h | ⟨i, l, e1, o, _⟩
          · exact h
          · have := Aok.2 l (List.mem_of_getElem? (pad_get e1))
            rw [o] at this
            cases this
  have fin : ∀ {σ' : L2.St} {H' : Hp} {v : V} {u : Value} {s' : Shared}, Inv (cxS P w K mg base N x qual st (maA K C m) cda cc A outer s H E) [] σ' H' s' → L2.RelV v u → Q v H' → CE outer P w H s Q u s' :=
    fun {σ' H' v u s'} J rv q => ⟨v, H', J.os, J.bare, J.base, J.hok, rv, q⟩
  refine wa_thn (ht1.run [] _ (NdefX.startF N vs [none]) H _ I hq) fun fl s' hs => ?_
  cases fl with
  | ret u =>
    obtain ⟨v, σ', H', J, rv, q⟩ := hs
    exact fin J rv q
  | next =>
    obtain ⟨σ', H', J, q⟩ := hs
    exact fin (v := V.non) (u := Value.none) J rfl q
  | brk =>
    obtain ⟨_, _, _, q⟩ := hs
    exact False.elim q
  | cont =>
    obtain ⟨_, _, _, q⟩ := hs
    exact False.elim q
/-- a method without super() -/
theorem fnM_mk {P : Program} {w : World} {K : PySem.W.Frag} {mg : Str → Option Value} {base : Heap} {C m x qual : Str} {st : Stmt} {N ps : List Str} {k : Nat} {body : SM} (F : ∃ fd, FunD K x qual (defArgs st) (defBody st) (defScope st) [] [] (maA K C m) fd) (S : FnScope N ps (defScope st))
    (hbind : ∀ (kV doc pm : Value) (an : Option Addr) (cdv ct : Value) (us : List Value), us.length = ps.length → bindArgs (PySem.W.fnOf x qual (defArgs st) (defBody st) (defScope st) .none kV doc pm an cdv ct) ⟨us, []⟩ = pure (ps.zip us))
    (hb : ∀ (cdv : Value) (A : Around) (outer : List PySem.Env) (s : Shared) (H : Hp) (E : XK), Room k (A.deeper (envOfC qual (defScope st) s.heap.objs.size (maA K C m) cdv)) →
      JSs (cxOf (L2.CX P w) P w K mg base N qual (defScope st) (maA K C m) cdv A outer s H E) none (fun cls d _ H => E cls d H) (defBody st) body) :
    FnM P w K mg base (k + 1) C m ps.length (runFn N.length body) := by
  obtain ⟨fd, F⟩ := F
  exact ⟨⟨fd, ps, fn_ok (funD_fun F) S hb, (funD_fun F).binds hbind⟩⟩
/-! ### Bools -/
def mkOB (K : PySem.W.Frag) (C : Str) : Bool := PySem.W.makesIn K (cA K C) && (eO (PySem.W.findIn K (.ref (cA K C)) "__init__") (some (some (.builtin "object.__init__"))) && PySem.W.keepIn K (.ref (cA K C)))
theorem mkOB_ok {K : PySem.W.Frag} {C : Str} (q : mkOB K C = true) : MkO K (cA K C) := by
  unfold mkOB at q
  simp only [Bool.and_eq_true] at q
  exact ⟨q.1, He.eqO_ok q.2.1, q.2.2⟩
def clsB (K : PySem.W.Frag) (C : Str) : Bool := PySem.W.plainGet K (cA K C) Str.empty && (PySem.W.hasDictIn K (cA K C) && (PySem.W.plainOver K (cA K C) && eO (PySem.W.findIn K (.ref (cA K C)) "__setattr__") (some (some (.builtin "object.__setattr__")))))
theorem clsB_ok {K : PySem.W.Frag} {C : Str} (q : clsB K C = true) : Cls K (cA K C) := by
  unfold clsB at q
  simp only [Bool.and_eq_true] at q
  exact ⟨q.1, q.2.1, q.2.2.1, He.eqO_ok q.2.2.2⟩
/-- the class C has the method m of C2 -/
def mthB (K : PySem.W.Frag) (C m C2 : Str) : Bool := eO (PySem.W.findIn K (.ref (cA K C)) m) (some (some (.ref (maA K C2 m)))) && (PySem.W.isFn K (.ref (maA K C2 m)) && PySem.W.keepIn K (.ref (maA K C2 m)))
theorem mthB_ok {K : PySem.W.Frag} {C m C2 : Str} (q : mthB K C m C2 = true) : Meth K (cA K C) m (maA K C2 m) := by
  unfold mthB at q
  simp only [Bool.and_eq_true] at q
  exact ⟨He.eqO_ok q.1, q.2.1, q.2.2⟩
/-- super() at D, of an instance of C, gives the method m of C2 -/
def supB (K : PySem.W.Frag) (D C m C2 : Str) : Bool := decide (PySem.W.mroIn K (cA K C) (.ref (cA K D)) = some true) && (eO (PySem.W.ks_superIn K (cA K C) (cA K D) m) (some (some (.ref (maA K C2 m)))) && (decide (PySem.W.typeIn K (.ref (maA K C2 m)) = some (.type "function")) && PySem.W.fnIn K (maA K C2 m)))
theorem supB_ok {K : PySem.W.Frag} {D C m C2 : Str} (q : supB K D C m C2 = true) : SupC K (cA K D) (cA K C) m (maA K C2 m) := by
  unfold supB at q
  simp only [Bool.and_eq_true] at q
  exact ⟨of_decide_eq_true q.1, He.eqO_ok q.2.1, of_decide_eq_true q.2.2.1, q.2.2.2⟩
def clsSB (K : PySem.W.Frag) (C : Str) : Bool := (PySem.W.clsIn K (cA K C)).isSome && eO (PySem.W.nsIn K cStatics "thirdparty.any") (some none)
theorem funS_of {P : Program} {K : PySem.W.Frag} {C m : Str} {d : FO} {st : Stmt} (e : fnC K d.at_ = d.val) (hat : d.at_ = (C, some m)) (hp : d.params = defArgs st) (hbd : d.body = defBody st) (hsc : d.scope = defScope st) (q : iniB K P.main.file (cA K C) (maA K C m) d.qual = true) (q2 : clsSB K C = true) (tp : (P.main.scope.names.lookup ("super" : Str)).isSome = false) : FunS P K C m d.name d.qual st := by
  obtain ⟨oc, od, sl, fd, lk, h1, h2, h3, h4, h5, h6, h7, h8⟩ := lkW e
  rw [hat] at lk
  have lk : K.lookup (maA K C m) = some ⟨oc, od, .func fd, sl⟩ := lk
  unfold clsSB at q2
  rw [Bool.and_eq_true] at q2
  refine ⟨?_, Option.isSome_iff_exists.mp q2.1, He.eqO_ok q2.2, tp⟩
  unfold iniB at q
  rw [lk] at q
  simp only at q
  obtain ⟨n1, n2, n3, n4, n5, n6, n7, n8, n9, n10, n11, n12, n13, n14, n15⟩ := fd
  simp only at h1 h2 h3 h4 h5 h6 h7 h8 q
  split at q
  · rename_i cn cc cda lk2
    subst h1 h2 h3 h4 h5 h6 h8
    simp only [List.map_cons, List.map_nil, List.cons.injEq, and_true] at h7
    subst h7
    simp only [Bool.and_eq_true] at q
    obtain ⟨r1, r2, r3⟩ := q
    split at r2
    · rename_i ccl cdd vs ccs hcda
      split at r2
      · rename_i fl tf hvs
        split at r3
        · rename_i cl cld C' csl hcc
          have r3 : C' = cA K C := eq_of_beq r3
          subst r3
          refine ⟨oc, od, sl, n9, n10, n11, n12, cda, n14, cc, ?_, r1, ⟨ccl, cdd, vs, ccs, fl, tf, hcda, hvs, r2⟩, ⟨cl, cld, csl, hcc⟩⟩
          rw [← hp, ← hbd, ← hsc]
          exact lk
        · cases r3
      · cases r2
    · cases r2
  · cases q
end DL
set_option Elab.async false
set_option linter.all false
set_option maxRecDepth 100000
set_option maxHeartbeats 4000000
/-! sorted of ints; sorted(set(..)); list of a dict; list.index -/
namespace DL
open PySem PySem.Spec PyProof.Rows L2
/-! ### sorted -/
def rSortT (K : PySem.W.Frag) : List V → Hp → VK → Prop := fun vs H Q => ∃ (a : Addr) (ns : List Int), vs = [V.ref a] ∧ SqT K H a (ns.map V.int) ∧
  ∀ (ns' : List Int) (p : Addr), ns'.Perm ns → ns'.Pairwise (· ≤ ·) → H p = none → Q (.ref p) (upd H p (.lst (ns'.map V.int)))
theorem cr_sortT {X : Cx} : CallR X (.builtin "sorted") (rSortT X.K) := by
  intro pins s σ H vs us Q I r h
  obtain ⟨a, ns, rfl, hs, q⟩ := h
  obtain ⟨its, rv, ht, hz⟩ := I.tuple hs
  obtain ⟨o, ho, hc, n, hd⟩ := id ht
  rw [Vals.ref1 r]
  have hi := rv.ints
  have hz' : its.length ≤ sizeLine := by rw [← rv.length]; exact hz
  refine Calls.call_function_entry kind_sorted plain_sorted entry_sorted (args_sorted1 _) ?_
  unfold Builtin.«sorted»
  refine wpAny_bind (m := checkCount "sorted" 1 1 _) (wpAny_pure ?_)
  refine wpAny_bind (wpAny_collect_seq a (.inr rfl) ho hc hd (fun h' hk => ?_) (by rw [List.size_toArray]; exact hz'))
  have el : its.toArray.toList = its := by simp
  rw [el]
  have I' : Inv X pins σ H { s with heap := h' } := I.kept (t' := s.toks) hk
  refine wpAny_bind (wpAny_newList ?_ hz')
  have hoL : (h'.push (seqObj "list" its.toArray 0)).get? h'.objs.size = some (seqObj "list" its.toArray 0) := Heap.get?_push_size _ rfl
  refine wpAny_bind (wpAny_holding (wpAny_call_entry slot_list_sort ⟨_, hoL, rfl⟩ entry_list_sort
    (SrtO.list_sort_ord SrtO.swo_int hoL hz' (fun h2 => SrtO.ints_sortable hi h2) fun out h1 h2 => ⟨_, rfl, ?_⟩) (args_list_sort _)))
  obtain ⟨k1, k2, k3⟩ := SrtO.ints_out hi h1 h2
  obtain ⟨ep, he'⟩ := sortedHeap_at (vs := its) (out := out.toArray) hoL
  have hlen : ((out.map SrtO.iv).map V.int).length ≤ sizeLine := by
    rw [List.length_map, k2.length_eq]
    rw [List.length_map] at hz
    exact hz
  refine wpAny_pure ⟨_, rfl, .ref _, upd H h'.objs.size (.lst ((out.map SrtO.iv).map V.int)), I'.laid (t' := s.toks) (fun b u e => ?_) (Nat.le_refl _) ⟨hlen, out, ep, vals_of_ints k1, he'⟩, rfl, q _ _ k2 k3 (I'.hok.fresh (Nat.le_refl _))⟩
  have hlt := Heap.lt_size e
  show (sortedHeap (h'.push (seqObj "list" its.toArray 0)) h'.objs.size its out.toArray).get? b = some u
  rw [sortedHeap_old (Nat.ne_of_lt hlt) (by rw [size_push']; exact Nat.lt_succ_of_lt hlt)]
  exact Heap.get?_push_of_some _ e
def insI (x : Int) : List Int → List Int
  | [] => [x]
  | y :: ys => if x ≤ y then x :: y :: ys else y :: insI x ys
def srtI : List Int → List Int
  | [] => []
  | x :: xs => insI x (srtI xs)
theorem insI_perm (x : Int) : ∀ ys : List Int, (insI x ys).Perm (x :: ys)
  | [] => .refl _
  | y :: ys => by
    unfold insI
    split
    · exact .refl _
    · exact ((insI_perm x ys).cons y).trans (.swap x y ys)
theorem srtI_perm : ∀ xs : List Int, (srtI xs).Perm xs
  | [] => .refl _
  | x :: xs => (insI_perm x _).trans ((srtI_perm xs).cons x)
theorem insI_srt (x : Int) : ∀ {ys : List Int}, ys.Pairwise (· ≤ ·) → (insI x ys).Pairwise (· ≤ ·)
  | [], _ => List.pairwise_singleton _ _
  | y :: ys, h => by
    unfold insI
    obtain ⟨h1, h2⟩ := List.pairwise_cons.mp h
    split
    · rename_i hxy
      refine List.pairwise_cons.mpr ⟨fun z hz => ?_, h⟩
      rcases List.mem_cons.mp hz with rfl | hz
      · exact hxy
      · exact Int.le_trans hxy (h1 z hz)
    · rename_i hxy
      refine List.pairwise_cons.mpr ⟨fun z hz => ?_, insI_srt x h2⟩
      rcases List.mem_cons.mp ((insI_perm x ys).mem_iff.mp hz) with rfl | hz
      · omega
      · exact h1 z hz
theorem srtI_srt : ∀ xs : List Int, (srtI xs).Pairwise (· ≤ ·)
  | [] => List.Pairwise.nil
  | x :: xs => insI_srt x (srtI_srt xs)
theorem srt_uniq : ∀ {xs ys : List Int}, xs.Perm ys → xs.Pairwise (· ≤ ·) → ys.Pairwise (· ≤ ·) → xs = ys
  | [], ys, p, _, _ => by rw [List.nil_perm.mp p]
  | x :: xs, [], p, _, _ => nomatch (List.perm_nil.mp p)
  | x :: xs, y :: ys, p, h1, h2 => by
    obtain ⟨a1, a2⟩ := List.pairwise_cons.mp h1
    obtain ⟨b1, b2⟩ := List.pairwise_cons.mp h2
    have e : x = y := by
      have hx : x ∈ y :: ys := p.mem_iff.mp List.mem_cons_self
      have hy : y ∈ x :: xs := p.mem_iff.mpr List.mem_cons_self
      rcases List.mem_cons.mp hx with e | hx
      · exact e
      · rcases List.mem_cons.mp hy with e | hy
        · exact e.symm
        · have := a1 y hy
          have := b1 x hx
          omega
    subst e
    rw [srt_uniq (p.cons_inv) a2 b2]
/-- sorted(xs), ints -/
def sortF : List D → Option (List D)
  | [a] => match seqD a with
    | some ds => match intsD ds with
      | some ns => some ((srtI ns).map .int)
      | none => none
    | none => none
  | _ => none
theorem cr_sortF {X : Cx} : CallR X (.builtin "sorted") (rFn X.K sortF) := by
  intro pins s σ H xs us Q I r h
  obtain ⟨G, as, d, sG, va, e, q⟩ := h
  unfold sortF at e
  split at e
  · split at e
    · rename_i ds es
      split at e
      · rename_i ns ei
        cases Option.some.inj e
        obtain ⟨x, rfl, hx⟩ := pair1 va
        obtain ⟨p, ys, rfl, h1, h2⟩ := seqD_vw sG hx es
        have ey : ys = ns.map V.int := by
          have ed := intsD_some ei
          subst ed
          exact h2.ints
        subst ey
        have fin : ∀ (ns' : List Int) (l : Addr), ns'.Perm ns → ns'.Pairwise (· ≤ ·) → H l = none → Q (.ref l) (upd H l (.lst (ns'.map V.int))) := fun ns' l hp hw hl => by
          have en : ns' = srtI ns := srt_uniq (hp.trans (srtI_perm ns).symm) hw (srtI_srt ns)
          subst en
          exact q l _ hl (DqA.of_ints _)
        rcases h1 with h1 | h1
        · exact cr_sortedI pins s σ H _ us Q I r ⟨p, ns, rfl, h1, fin⟩
        · exact cr_sortT pins s σ H _ us Q I r ⟨p, ns, rfl, h1, fin⟩
      · cases e
    · cases e
  · cases e
end DL
set_option Elab.async false
set_option linter.all false
set_option maxRecDepth 100000
set_option maxHeartbeats 4000000
/-! sorted(set(..)); list of a dict; list.index -/
namespace DL
open PySem PySem.Spec PyProof.Rows L2
/-! ### set(t) -/
def dedI : List Int → List Int
  | [] => []
  | x :: xs => if x ∈ xs then dedI xs else x :: dedI xs
theorem mem_dedI {k : Int} : ∀ {xs : List Int}, k ∈ dedI xs ↔ k ∈ xs
  | [] => Iff.rfl
  | x :: xs => by
    unfold dedI
    split
    · rename_i h
      rw [mem_dedI, List.mem_cons]
      exact ⟨.inr, fun z => z.elim (fun e => e ▸ h) id⟩
    · rw [List.mem_cons, List.mem_cons, mem_dedI]
theorem nodup_dedI : ∀ xs : List Int, (dedI xs).Nodup
  | [] => List.nodup_nil
  | x :: xs => by
    unfold dedI
    split
    · exact nodup_dedI xs
    · rename_i h
      exact List.nodup_cons.mpr ⟨fun z => h (mem_dedI.mp z), nodup_dedI xs⟩
def rSetT (w : World) (K : PySem.W.Frag) : List V → Hp → VK → Prop := fun vs H Q => ∃ (a : Addr) (ns : List Int), vs = [V.ref a] ∧ SqT K H a (ns.map V.int) ∧ ns.length ≤ 1000 ∧ ∀ p, H p = none → Q (.ref p) (upd H p (L2.SetO w p (fun j => decide (j ∈ ns)) (dedI ns).length))
theorem cr_setT {X : Cx} (hc : X.calm = true) : CallR X (.type "set") (rSetT X.w X.K) := by
  intro pins s σ H vs us Q I r h
  obtain ⟨a, ns, rfl, hs, hl, q⟩ := h
  obtain ⟨its, rv, ht, hz⟩ := I.tuple hs
  rw [Vals.ref1 r]
  have hi : IntsAre its.toArray.toList ns := by
    have e : its.toArray.toList = its := by simp
    rw [e]
    exact rv.ints
  refine call_set_tupI ns (I.ok.hd hc) (show s.heap.IsTuple a its.toArray from ht) hi (by have : scanBound = 4096 := rfl; omega) fun h' tk c R hle hk => ?_
  have ec : c = (dedI ns).length := by
    obtain ⟨o, es, ep, t, ho, hex, hd, g, nd, hm, hb, hf, hn, hr, hl2⟩ := R
    have pp : (es.toList.map L2.keyOf).Perm (dedI ns) := (List.perm_ext_iff_of_nodup nd (nodup_dedI ns)).mpr fun k => by
      rw [mem_dedI, ← hm k]
      simp
    have e2 := pp.length_eq
    rw [List.length_map, Array.length_toList, hn] at e2
    exact e2
  subst ec
  exact ⟨.ref _, _, I.laid (t' := tk) hk (Nat.le_refl _) (L2.setO_new R), rfl, q _ (I.hok.fresh (Nat.le_refl _))⟩
/-- sorted(set(t)): t a tuple of ints -/
def srE (o : Option D) (ρ : Env) : Res D := match o with
  | some (.tup ds) => (match intsD ds with
    | some ns => if ns.length ≤ 1000 ∧ (dedI ns).length < 64 then .ok (.lst ((srtI (dedI ns)).map .int)) ρ else .bad
    | none => .bad)
  | _ => .bad
def kSS (x : X) (ρ1 : Env) : Res D := srE (look ρ1 x) ρ1
def fSS (m : EM) : FM := fun ρ => bindR (m ρ) kSS
theorem fv_ss {K : Kx} {W : WX} {w : World} {te : TE} {m : EM} (ht : EvOk K W te m) : FvOk K W (tCB (L2.rSortedSet w) (tCons (tCB (rSetT w K.k) (tCons te tNil)) tNil)) (fSS m) := fun σ G H ρ R Q h => by
  unfold fSS bindR at h
  refine ht.fst R (fun x ρ1 e v G1 H1 S1 R1 x1 => ?_) (fun e ρ1 q => by rw [q] at h; exact h) (fun q => by rw [q] at h; exact h)
  rw [e] at h
  have h := FPost.step S1 h
  simp only at h
  unfold kSS srE at h
  split at h
  · rename_i ds el
    split at h
    · rename_i ns ei
      split at h
      · rename_i hh
        have q : Vw K G1 H1 v (.tup ds) := look_vw R1 x1 el
        obtain ⟨a, xs, rfl, h1, h2⟩ := q.tup
        have ed := intsD_some ei
        subst ed
        have ex := h2.ints
        subst ex
        refine ⟨a, ns, rfl, Same.seqT R1.same h1, hh.1, fun p hp => ?_⟩
        refine ⟨p, _, _, rfl, upd_same, hh.2, fun ns' l hw hm hl hpl => ?_⟩
        have en : ns' = srtI (dedI ns) := by
          have hnd : ns'.Nodup := hw.imp fun h => by omega
          refine srt_uniq (((List.perm_ext_iff_of_nodup hnd (nodup_dedI ns)).mpr fun k => ?_).trans (srtI_perm _).symm) (hw.imp fun h => by omega) (srtI_srt _)
          rw [hm k, mem_dedI]
          simp
        subst en
        have g1 := Gro.newH (o := L2.SetO w p (fun j => decide (j ∈ ns)) (dedI ns).length) R1.same hp
        have hpl' : (upd H1 p (L2.SetO w p (fun j => decide (j ∈ ns)) (dedI ns).length)) l = none := hpl
        have g2 := Gro.newH (o := .lst ((srtI (dedI ns)).map V.int)) g1.s hpl'
        have g := g1.trans g2
        have hH1l : H1 l = none := g1.h.free hpl'
        refine h _ _ _ g.stp (R1.gro g) ⟨⟨l, _, rfl, ?_, upd_same, DqA.of_ints _⟩, fun b eb => ?_⟩
        · exact R1.same.free hH1l
        · cases eb
          refine ⟨hH1l, fun z => Own.there R1 z hH1l⟩
      · exact h.elim
    · exact h.elim
  · exact h.elim
section
variable {X : Cx} {xa : Option XA} {W : WX} {e : Expr} {m : EM} {p p2 p3 pos : Pos}
theorem jf_ss (hc : X.calm = true) (hm1 : X.mg "sorted" = none) (hm2 : X.mg "set" = none) (hv1 : bootBuiltins "sorted" = some (.builtin "sorted")) (hv2 : bootBuiltins "set" = some (.type "set")) (h : JE X xa W e m) (hg1 : Gl X "sorted" := by rfl) (hg2 : Gl X "set" := by rfl)
    (he : starEach [e] X.env = (false, eval e X.env) :: starEach [] X.env := by rfl) (hpl : (backTo p3 (starEach [] X.env)).any (·.1) = false := by rfl)
    (he2 : starEach [.Call (.Name "set" p2) [e] [] p3] X.env = (false, eval (.Call (.Name "set" p2) [e] [] p3) X.env) :: starEach [] X.env := by rfl) (hpl2 : (backTo pos (starEach [] X.env)).any (·.1) = false := by rfl) :
    JF X xa W (.Call (.Name "sorted" p) [.Call (.Name "set" p2) [e] [] p3] [] pos) (fSS m) := by
  obtain ⟨t, h1, h2⟩ := h
  exact ⟨_, L2.pe_callB (L2.cr_sortedSet hc) hg1 hm1 hv1 (pa_cons (L2.pe_callTy (cr_setT hc) hg2 hm2 hv2 (pa_cons h1 pa_nil he) (by decide) (by decide) he hpl) pa_nil he2) (by decide) (by decide) he2 hpl2, fv_ss h2⟩
end
/-! ### list(d) -/
def keyV : Key → D
  | .inl i => .int i
  | .inr x => .str x
def listX : List D → Option (List D)
  | [.dct kvs] => some (kvs.map fun kv => keyV kv.1)
  | [a] => seqD a
  | _ => none
theorem DqK.keysA {K : PySem.W.Frag} {G : Hp} : ∀ {vs : List (Key × V)} {ds : List (Key × D)}, DqK K G vs ds → DqA K G (vs.map fun kv => kV kv.1) (ds.map fun kv => keyV kv.1)
  | _, _, .nil => .nil
  | _, _, .cons (k := k) _ t => by
    refine .cons ?_ (DqK.keysA t)
    cases k with
    | inl i => exact .int i
    | inr x => exact .str x
theorem cr_listX {X : Cx} (hc : X.calm = true) : CallR X (.type "list") (rFn X.K listX) := by
  intro pins s σ H xs us Q I r h
  obtain ⟨G, as, d, sG, va, e, q⟩ := h
  unfold listX at e
  split at e
  · rename_i kvs
    cases Option.some.inj e
    obtain ⟨x, rfl, hx⟩ := pair1 va
    obtain ⟨p, ys, rfl, hp, hq⟩ := (show Vw X.K G H x (.dct kvs) from hx)
    exact call_list_dK hc pins s σ H _ us Q I r ⟨p, ys, rfl, hp, fun l hl => q l _ hl hq.keysA⟩
  · exact cr_listF pins s σ H xs us Q I r ⟨G, _, d, sG, va, e, q⟩
  · cases e
/-! ### xs.index(k), ints -/
def idxI (ns : List Int) (k : Int) : Option Nat := ns.findIdx? (fun x => decide (x = k))
def idE (o y : Option D) (ρ : Env) : Res X := match o, y with
  | some a, some (.int k) => (match seqL a with
    | some ds => (match intsD ds with
      | some ns => (match idxI ns k with
        | some j => .ok (.d (.int (j : Nat))) ρ
        | none => .bad)
      | none => .bad)
    | none => .bad)
  | _, _ => .bad
def kIdx2 (x : X) : X → Env → Res X := fun y ρ2 => idE (look ρ2 x) (look ρ2 y) ρ2
def lsO : Option D → Bool
  | some a => (seqL a).isSome
  | none => false
def kIdx1 (mb : EM) : X → Env → Res X := fun x ρ1 => if lsO (look ρ1 x) = true then bindR (mb ρ1) (kIdx2 x) else .bad
def eIdx (ma mb : EM) : EM := fun ρ => bindR (ma ρ) (kIdx1 mb)
theorem ev_idx {K : Kx} {W : WX} {ta tb : TE} {ma mb : EM} (ha : EvOk K W ta ma) (hb : EvOk K W tb mb) : EvOk K W (tBM K.k "list" (rIndex K.k) ta (tCons tb tNil)) (eIdx ma mb) := fun σ G H ρ R Q h => by
  unfold eIdx bindR at h
  refine ha.fst R (fun x ρ1 e v G1 H1 S1 R1 x1 => ?_) (fun e ρ1 q => by rw [q] at h; exact h) (fun q => by rw [q] at h; exact h)
  rw [e] at h
  have h := EPost.step S1 h
  simp only at h
  unfold kIdx1 at h
  split at h
  · rename_i hh
    unfold lsO at hh
    split at hh
    · rename_i a ea
      obtain ⟨ds0, es0⟩ := Option.isSome_iff_exists.mp hh
      obtain ⟨p, xs, rfl, h1, _⟩ := seqL_vw R1.same (look_vw R1 x1 ea) es0
      refine ⟨.inl ⟨rfl, xs, h1⟩, ?_⟩
      unfold bindR at h
      refine hb.fst R1 (fun y ρ2 e2 u G2 H2 S2 R2 x2 => ?_) (fun e ρ1 q => by rw [q] at h; exact h) (fun q => by rw [q] at h; exact h)
      rw [e2] at h
      have h := EPost.step S2 h
      simp only at h
      unfold kIdx2 idE at h
      split at h
      · rename_i a2 k eL eR
        split at h
        · rename_i ds es
          split at h
          · rename_i ns ei
            split at h
            · rename_i j ej
              have q := look_vw R2 (x1.mono S2.g) eL
              obtain ⟨p', ys, ep, hy1, hy2⟩ := seqL_vw R2.same q es
              have ed := intsD_some ei
              subst ed
              have ex := hy2.ints
              subst ex
              have eu := (look_vw R2 x2 eR).int
              subst eu
              unfold idxI at ej
              obtain ⟨hj, hp1, hp2⟩ := List.findIdx?_eq_some_iff_getElem.mp ej
              refine ⟨p', ns.map V.int, .int k, j, .int k, ep, rfl, hy1, rfl, List.all_eq_true.mpr fun z hz => ?_, ?_, ?_, fun m z' hm hz => ?_, h _ _ _ (Stp.refl _ _ _ _) R2 (.int _)⟩
              · obtain ⟨i, _, rfl⟩ := List.mem_map.mp hz
                rfl
              · have hp1 := of_decide_eq_true hp1
                rw [List.getElem?_map, List.getElem?_eq_getElem hj, hp1] <;> rfl
              · simp [eqV]
              · have hlt : m < ns.length := Nat.lt_trans hm hj
                have hne := hp2 m hm
                rw [List.getElem?_map, List.getElem?_eq_getElem hlt] at hz
                cases hz
                have hne : ns[m] ≠ k := by simpa using hne
                simp [eqV, hne]
            · exact h.elim
          · exact h.elim
        · exact h.elim
      · exact h.elim
    · cases hh
  · exact h.elim
theorem je_idx {X : Cx} {xa : Option XA} {W : WX} {o e : Expr} {ma mb : EM} {apos pos : Pos} (ho : JE X xa W o ma) (he : JE X xa W e mb)
    (hbase : attributeBase o "index" X.env (eval o X.env) = eval o X.env := by rfl)
    (hfew : ((backTo pos (starEach [e] X.env)).all (fun x => !x.1) && (backToKw pos (keywordEach [] X.env)).all (fun x => x.1.isSome)
      && decide ([e].length + ([] : List Keyword).length + (if ([] : List Keyword).isEmpty then 0 else 1) < 30)) = true := by rfl)
    (hline : (apos.endLine == pos.line) = true := by rfl) (hs : starEach [e] X.env = (false, eval e X.env) :: starEach [] X.env := by rfl) (hpl : (backTo pos (starEach [] X.env)).any (·.1) = false := by rfl) :
    JE X xa W (.Call (.Attribute o "index" apos) [e] [] pos) (eIdx ma mb) :=
  let ⟨_, h1, h2⟩ := ho; let ⟨_, h3, h4⟩ := he; ⟨_, pe_bm PySem.F.plainAttrs_list PySem.F.slot_list_index PySem.F.type_list_index mt_index h1 (pa_cons h3 pa_nil hs) hbase hfew hline hs hpl, ev_idx h2 h4⟩
end DL
set_option Elab.async false
set_option linter.all false
set_option maxRecDepth 100000
set_option maxHeartbeats 4000000
/-! match over texts: what it denotes -/
namespace DL
open PySem PySem.Spec PyProof.Rows L2
def MvOk (K : Kx) (W : WX) (t : V → TS) (m : D → SM) : Prop := ∀ v d σ G H ρ, Rel K σ G H ρ → Dq K G v d → ∀ D, SPost K W σ G H ρ D (m d ρ) → t v D σ H
def mcNil : D → SM := fun _ => sNop
def mcL (o : Option Bool) (mb mr : SM) : SM := fun ρ => match o with
  | some true => mb ρ
  | some false => mr ρ
  | none => .bad
def mcLit (x : Str) (mb : SM) (mr : D → SM) : D → SM := fun d => mcL (eqB d (.str x)) mb (mr d)
def mcAny (mb : SM) : D → SM := fun _ => mb
section
variable {K : Kx} {W : WX}
theorem mv_nil : MvOk K W tMNil mcNil := fun v d σ G H ρ R q D h => st_nop σ G H ρ R D h
theorem mv_any {tb : TS} {mb : SM} (hb : StOk K W tb mb) : MvOk K W (tMAny tb) (mcAny mb) := fun v d σ G H ρ R q D h => hb σ G H ρ R D h
theorem mv_lit {x : Str} {tb : TS} {tr : V → TS} {mb : SM} {mr : D → SM} (hb : StOk K W tb mb) (hr : MvOk K W tr mr) : MvOk K W (tMLit K.k x tb tr) (mcLit x mb mr) := fun v d σ G H ρ R q D h => by
  unfold mcLit mcL at h
  cases e : eqB d (.str x) with
  | none => rw [e] at h; exact h.elim
  | some c =>
    rw [e] at h
    refine ⟨G, d, .str x, .bl c, R.same, Dq.vw R.same q, Dq.vw R.same (.str x), by unfold eqD; rw [e]; rfl, fun w G' H' g qw => ?_⟩
    cases qw
    refine ⟨c, rfl, ?_⟩
    cases c with
    | true => exact hb σ G' H' ρ (R.gro g) D (SPost.step g.stp h)
    | false => exact hr v d σ G' H' ρ (R.gro g) (q.mono g.g) D (SPost.step g.stp h)
def datX (ρ : Env) : X → Option D
  | .d x => some x
  | .s i => match ρ[i]? with
    | some (some (.d x)) => some x
    | _ => none
def mtE (mc : D → SM) (o : Option D) (ρ : Env) : Res Fl := match o with
  | some d => mc d ρ
  | none => .bad
def kMt (mc : D → SM) : X → Env → Res Fl := fun x ρ1 => mtE mc (datX ρ1 x) ρ1
def sMatch (me : EM) (mc : D → SM) : SM := fun ρ => bindR (me ρ) (kMt mc)
theorem st_match {te : TE} {t : V → TS} {me : EM} {mc : D → SM} (he : EvOk K W te me) (hc : MvOk K W t mc) : StOk K W (tMatch te t) (sMatch me mc) := fun σ G H ρ R D h => by
  unfold sMatch bindR at h
  refine he.fst R (fun x ρ1 e v G1 H1 S1 R1 x1 => ?_) (fun e ρ1 q => by rw [q] at h; exact SPost.x h) (fun q => by rw [q] at h; exact h)
  rw [e] at h
  have h := SPost.step S1 h
  simp only at h
  unfold kMt mtE at h
  cases ed : datX ρ1 x with
  | none => rw [ed] at h; exact h.elim
  | some d =>
    rw [ed] at h
    refine hc v d σ G1 H1 ρ1 R1 ?_ D h
    cases x with
    | d y =>
      cases Option.some.inj ed
      exact x1
    | s i =>
      unfold datX at ed
      simp only at ed
      split at ed
      · rename_i y hy
        cases Option.some.inj ed
        obtain ⟨u, h1, h2⟩ := R1.at_ i _ hy
        have hv : σ[i]? = some (some v) := x1
        rw [hv] at h1
        cases Option.some.inj (Option.some.inj h1)
        exact h2
      · cases ed
end
def JM (X : Cx) (xa : Option XA) (W : WX) (cs : List MatchCase) (m : D → SM) : Prop := ∃ t, PMs X cs t ∧ MvOk ⟨X.K, xa⟩ W t m
section
variable {X : Cx} {xa : Option XA} {W : WX} {e : Expr} {m : EM} {pos p p2 : Pos} {body : List Stmt} {rest : List MatchCase} {mb : SM} {mr : D → SM} {x : Str} {j : Nat}
theorem jm_nil : JM X xa W [] mcNil := ⟨_, pm_nil, mv_nil⟩
theorem jm_lit (hu : X.A.units + 64 < cLine) (hb : JSs X xa W body mb) (hr : JM X xa W rest mr) : JM X xa W (⟨.MatchValue (.Constant (.str x) j p) p2, none, body⟩ :: rest) (mcLit x mb mr) :=
  let ⟨_, a, b⟩ := hb; let ⟨_, c, d⟩ := hr; ⟨_, pm_lit hu a c, mv_lit b d⟩
theorem jm_any (hb : JSs X xa W body mb) : JM X xa W (⟨.MatchAs none none p, none, body⟩ :: rest) (mcAny mb) := let ⟨_, a, b⟩ := hb; ⟨_, pm_any a, mv_any b⟩
theorem js_match {cs : List MatchCase} {mc : D → SM} (he : JE X xa W e m) (hc : JM X xa W cs mc) : JS X xa W (.Match e cs pos) (sMatch m mc) := let ⟨_, a, b⟩ := he; let ⟨_, c, d⟩ := hc; ⟨_, ps_match a c, st_match b d⟩
end
theorem bt_sorted : bootBuiltins "sorted" = some (.builtin "sorted") := by first | boot_by_name | rfl | kernel_rfl
theorem bt_set : bootBuiltins "set" = some (.type "set") := by first | boot_by_name | rfl | kernel_rfl
end DL
set_option Elab.async false
set_option linter.all false
set_option maxRecDepth 100000
set_option maxHeartbeats 4000000
/-! constants of the module, of classes, through instances; isinstance of an instance and an own class -/
namespace DL
open PySem PySem.Spec PyProof.Rows L2
mutual
def valB (K : PySem.W.Frag) (u : Value) : D → Bool
  | .non => decide (u = .none)
  | .bl b => decide (u = .bool b)
  | .int i => match u with
    | .int j _ => decide (i = j)
    | _ => false
  | .str x => match u with
    | .str y _ => decide (x = y)
    | _ => false
  | .tup ds => match u with
    | .ref a => (match K.lookup a with
      | some o => decide (o.cls = .type "tuple") && (match o.data with
        | .seq its _ => decide (its.size ≤ sizeLine) && valsB K its.toList ds
        | _ => false)
      | none => false)
    | _ => false
  | _ => false
def valsB (K : PySem.W.Frag) (us : List Value) : List D → Bool
  | [] => us.isEmpty
  | d :: ds => match us with
    | u :: us => valB K u d && valsB K us ds
    | [] => false
end
mutual
theorem valB_ok {K : PySem.W.Frag} : ∀ {d : D} {u : Value}, valB K u d = true → ∃ v, RelV v u ∧ ∀ G, Dq K G v d
  | .non, u, h => by
    unfold valB at h
    have h := of_decide_eq_true h
    exact ⟨.non, h, fun G => .non⟩
  | .bl b, u, h => by
    unfold valB at h
    have h := of_decide_eq_true h
    exact ⟨.bl b, h, fun G => .bl b⟩
  | .int i, u, h => by
    unfold valB at h
    split at h
    · rename_i j t
      have h := of_decide_eq_true h
      subst h
      exact ⟨.int i, ⟨t, rfl⟩, fun G => .int i⟩
    · cases h
  | .str x, u, h => by
    unfold valB at h
    split at h
    · rename_i y t
      have h := of_decide_eq_true h
      subst h
      exact ⟨.str x, ⟨t, rfl⟩, fun G => .str x⟩
    · cases h
  | .tup ds, u, h => by
    unfold valB at h
    split at h
    · rename_i a
      split at h
      · rename_i o ho
        rw [Bool.and_eq_true] at h
        obtain ⟨h1, h2⟩ := h
        split at h2
        · rename_i its n hd
          rw [Bool.and_eq_true] at h2
          obtain ⟨vs, r, q⟩ := valsB_ok h2.2
          exact ⟨.ref a, rfl, fun G => .tup (.inr ⟨o, its, n, ho, of_decide_eq_true h1, hd, of_decide_eq_true h2.1, r⟩) (q G)⟩
        · cases h2
      · cases h
    · cases h
  | .lst ds, u, h => by simp [valB] at h
  | .ro ds, u, h => by simp [valB] at h
  | .dct ds, u, h => by simp [valB] at h
  | .ins _ _, u, h => by simp [valB] at h
theorem valsB_ok {K : PySem.W.Frag} : ∀ {ds : List D} {us : List Value}, valsB K us ds = true → ∃ vs, Vals vs us ∧ ∀ G, DqA K G vs ds
  | [], us, h => by
    unfold valsB at h
    have h := List.isEmpty_iff.mp h
    subst h
    exact ⟨[], .nil, fun G => .nil⟩
  | d :: ds, us, h => by
    unfold valsB at h
    split at h
    · rename_i u us
      rw [Bool.and_eq_true] at h
      obtain ⟨v, r, q⟩ := valB_ok h.1
      obtain ⟨vs, r2, q2⟩ := valsB_ok h.2
      exact ⟨v :: vs, .cons r r2, fun G => .cons (q G) (q2 G)⟩
    · cases h
end
theorem ev_cD {K : Kx} {W : WX} {v : V} {d : D} (q : ∀ G, Dq K G v d) : EvOk K W (tC v) (eC d) := fun σ G H ρ R Q h => h v G H (Stp.refl _ _ _ _) R (q G)
/-! ### a constant of the module -/
structure GlC (K : PySem.W.Frag) (mg : Str → Option Value) (x : Str) (d : D) : Prop where
  ex : ∃ u v, mg x = some u ∧ RelV v u ∧ ∀ G, Dq K G v d
def glcB (K : PySem.W.Frag) (x : Str) (d : D) : Bool := match PySem.W.nsIn K mainGlobals x with
  | some (some u) => valB K u d
  | _ => false
theorem glcB_ok {K : PySem.W.Frag} {h : Heap} {mg : Str → Option Value} (X : K.In h) (G : h.Ns mainGlobals mg) {x : Str} {d : D} (c : glcB K x d = true) : GlC K mg x d := by
  unfold glcB at c
  split at c
  · rename_i u hu
    obtain ⟨v, r, q⟩ := valB_ok c
    exact ⟨⟨u, v, PySem.W.mg_of X G hu, r, q⟩⟩
  · cases c
theorem je_glc {X : Cx} {xa : Option XA} {W : WX} {x : Str} {d : D} {pos : Pos} (c : GlC X.K X.mg x d) (hg : Gl X x := by rfl) (hd : (x == ("__debug__" : Str)) = false := by decide) : JE X xa W (.Name x pos) (eC d) := by
  obtain ⟨u, v, hm, r, q⟩ := c.ex
  exact ⟨_, pe_glob hg hm r hd, ev_cD q⟩
/-! ### a constant of a class, read off the class -/
structure CvC (K : PySem.W.Frag) (C f : Str) (d : D) : Prop where
  ex : ∃ mc u v, ClX.CRead K (cA K C) mc ∧ ClX.CVal K (cA K C) mc f v u ∧ ∀ G, Dq K G v d
def cvB (K : PySem.W.Frag) (C f : Str) (d : D) : Bool := PySem.W.readsIn K (cA K C) (.type "type") && (eO (PySem.W.specialIn K (.ref (cA K C)) "__getattribute__") (some (some (.builtin "type.__getattribute__"))) && (match PySem.W.findCls K (.ref (cA K C)) (.type "type") f with
  | some (.val u) => valB K u d
  | _ => false))
theorem cvB_ok {K : PySem.W.Frag} {C f : Str} {d : D} (c : cvB K C f d = true) : CvC K C f d := by
  unfold cvB at c
  simp only [Bool.and_eq_true] at c
  obtain ⟨c1, c2, c3⟩ := c
  split at c3
  · rename_i u hu
    obtain ⟨v, r, q⟩ := valB_ok c3
    exact ⟨⟨_, u, v, ⟨c1, He.eqO_ok c2⟩, ⟨hu, r⟩, q⟩⟩
  · cases c3
theorem je_cv {X : Cx} {xa : Option XA} {W : WX} {C f : Str} {d : D} {p pos : Pos} (c : CvC X.K C f d) (hm : X.mg C = some (.ref (cA X.K C))) (hg : Gl X C := by rfl) (hd : (C == ("__debug__" : Str)) = false := by decide) (hb : attributeBase (.Name C p) f X.env (eval (.Name C p) X.env) = eval (.Name C p) X.env := by rfl) :
    JE X xa W (.Attribute (.Name C p) f pos) (eC d) := by
  obtain ⟨mc, u, v, h1, h2, q⟩ := c.ex
  exact ⟨_, ClX.pe_cval (pe_glob (v := .ref (cA X.K C)) hg hm rfl hd) hb, fun σ G H ρ R Q h => ⟨_, mc, v, u, rfl, h1, h2, h v G H (Stp.refl _ _ _ _) R (q G)⟩⟩
/-! ### .. through an instance of one of several classes -/
abbrev CTb : Type := List (Str × D)
def ConT (K : PySem.W.Frag) (f : Str) (tb : CTb) : Prop := ∀ q ∈ tb, Cls K (cA K q.1) ∧ ∃ v u, L2.Con K (cA K q.1) f v u ∧ ∀ G, Dq K G v q.2
def conB (K : PySem.W.Frag) (f : Str) (q : Str × D) : Bool := clsB K q.1 && match PySem.W.findIn K (.ref (cA K q.1)) f with
  | some (some u) => valB K u q.2 && (eO (PySem.W.specialIn K u "__get__") (some none) && !PySem.W.copiedNames.contains f)
  | _ => false
theorem conB_ok {K : PySem.W.Frag} {f : Str} {tb : CTb} (c : tb.all (conB K f) = true) : ConT K f tb := fun q hq => by
  have c := List.all_eq_true.mp c q hq
  unfold conB at c
  rw [Bool.and_eq_true] at c
  refine ⟨clsB_ok c.1, ?_⟩
  have c := c.2
  split at c
  · rename_i u hu
    simp only [Bool.and_eq_true, Bool.not_eq_true'] at c
    obtain ⟨v, r, q⟩ := valB_ok c.1
    exact ⟨v, u, ⟨hu, r, He.eqO_ok c.2.1, c.2.2⟩, q⟩
  · cases c
theorem memC_look {tb : CTb} {C : Str} {d : D} (h : tb.lookup C = some d) : (C, d) ∈ tb := by
  induction tb with
  | nil => cases h
  | cons q tb ih =>
    obtain ⟨c, e⟩ := q
    unfold List.lookup at h
    split at h
    · rename_i e1
      cases Option.some.inj h
      rw [eq_of_beq e1]
      exact List.mem_cons_self
    · exact List.mem_cons_of_mem _ (ih h)
def ctG (o p : Option D) (ρ : Env) : Res X := match o, p with
  | some d, none => .ok (.d d) ρ
  | _, _ => .bad
def ctF (tb : CTb) (f : Str) (o : Option D) (ρ : Env) : Res X := match o with
  | some (.ins C fs) => ctG (tb.lookup C) (fs.lookup f) ρ
  | _ => .bad
def kCon (tb : CTb) (f : Str) : X → Env → Res X := fun x ρ1 => ctF tb f (look ρ1 x) ρ1
def eCon (tb : CTb) (f : Str) (m : EM) : EM := fun ρ => bindR (m ρ) (kCon tb f)
theorem ev_con {K : Kx} {W : WX} {tb : CTb} {f : Str} {t : TE} {m : EM} (T : ConT K.k f tb) (ht : EvOk K W t m) : EvOk K W (tCon K.k t f) (eCon tb f m) := fun σ G H ρ R Q h => by
  unfold eCon bindR at h
  refine ht.fst R (fun x ρ1 e v G1 H1 S1 R1 x1 => ?_) (fun e ρ1 q => by rw [q] at h; exact h) (fun q => by rw [q] at h; exact h)
  rw [e] at h
  have h := EPost.step S1 h
  simp only at h
  unfold kCon ctF at h
  split at h
  · rename_i C fs el
    unfold ctG at h
    split at h
    · rename_i d el2 ef
      obtain ⟨hc, w, u, hcon, q⟩ := T _ (memC_look el2)
      have qv : Dq K G1 v (.ins C fs) := look_vw R1 x1 el
      cases qv with
      | ins q1 q2 q3 => exact ⟨_, _, _, _, w, u, rfl, R1.same _ _ q1, hc, hcon, DqF.lookN q3 ef, h w G1 H1 (Stp.refl _ _ _ _) R1 (q G1)⟩
    · exact h.elim
  · exact h.elim
theorem je_con {X : Cx} {xa : Option XA} {W : WX} {e : Expr} {f : Str} {m : EM} {pos : Pos} {tb : CTb} (T : ConT X.K f tb) (ha : JE X xa W e m) (hb : attributeBase e f X.env (eval e X.env) = eval e X.env := by rfl) : JE X xa W (.Attribute e f pos) (eCon tb f m) :=
  let ⟨_, h1, h2⟩ := ha; ⟨_, pe_con h1 hb, ev_con T h2⟩
/-! ### isinstance(o, C) -/
abbrev ITb : Type := List (Str × Bool)
structure IsiC (K : PySem.W.Frag) (C : Str) : Prop where
  cl : Cls K (cA K C)
  ha : PySem.W.findIn K (.ref (cA K C)) "__class__" = some (some (.builtin "object.__class__"))
  hn : PySem.W.specialIn K (.builtin "object.__class__") "__get__" = some (some (.builtin "getset_descriptor.__get__"))
  htk : PySem.W.takesIn K (.builtin "object.__class__") = some true
  hm : PySem.W.mroIn K (cA K C) (.type "object") = some true
def IsiT (K : PySem.W.Frag) (C : Str) (tb : ITb) : Prop := ∀ q ∈ tb, IsiC K q.1 ∧ PySem.W.kitOne K (.ref (cA K q.1)) (.ref (cA K C)) = some q.2
def isiIB (K : PySem.W.Frag) (C : Str) (q : Str × Bool) : Bool := clsB K q.1 && (eO (PySem.W.findIn K (.ref (cA K q.1)) "__class__") (some (some (.builtin "object.__class__"))) && (eO (PySem.W.specialIn K (.builtin "object.__class__") "__get__") (some (some (.builtin "getset_descriptor.__get__"))) &&
  (decide (PySem.W.takesIn K (.builtin "object.__class__") = some true) && (decide (PySem.W.mroIn K (cA K q.1) (.type "object") = some true) && decide (PySem.W.kitOne K (.ref (cA K q.1)) (.ref (cA K C)) = some q.2)))))
theorem isiIB_ok {K : PySem.W.Frag} {C : Str} {tb : ITb} (c : tb.all (isiIB K C) = true) : IsiT K C tb := fun q hq => by
  have c := List.all_eq_true.mp c q hq
  unfold isiIB at c
  simp only [Bool.and_eq_true] at c
  obtain ⟨c1, c2, c3, c4, c5, c6⟩ := c
  exact ⟨⟨clsB_ok c1, He.eqO_ok c2, He.eqO_ok c3, of_decide_eq_true c4, of_decide_eq_true c5⟩, of_decide_eq_true c6⟩
theorem memI_look {tb : ITb} {C : Str} {d : Bool} (h : tb.lookup C = some d) : (C, d) ∈ tb := by
  induction tb with
  | nil => cases h
  | cons q tb ih =>
    obtain ⟨c, e⟩ := q
    unfold List.lookup at h
    split at h
    · rename_i e1
      cases Option.some.inj h
      rw [eq_of_beq e1]
      exact List.mem_cons_self
    · exact List.mem_cons_of_mem _ (ih h)
def iiG (o : Option Bool) (ρ : Env) : Res X := match o with
  | some b => .ok (.d (.bl b)) ρ
  | none => .bad
def iiF (tb : ITb) (o : Option D) (ρ : Env) : Res X := match o with
  | some (.ins C _) => iiG (tb.lookup C) ρ
  | _ => .bad
def kIsI (tb : ITb) : X → Env → Res X := fun x ρ1 => iiF tb (look ρ1 x) ρ1
def eIsI (tb : ITb) (m : EM) : EM := fun ρ => bindR (m ρ) (kIsI tb)
theorem ev_isI {K : Kx} {W : WX} {tb : ITb} {C : Str} {t : TE} {m : EM} (T : IsiT K.k C tb) (ht : EvOk K W t m) : EvOk K W (tCB (rIsi K.k) (tCons t (tCons (tC (.ref (cA K.k C))) tNil))) (eIsI tb m) := fun σ G H ρ R Q h => by
  unfold eIsI bindR at h
  refine ht.fst R (fun x ρ1 e v G1 H1 S1 R1 x1 => ?_) (fun e ρ1 q => by rw [q] at h; exact h) (fun q => by rw [q] at h; exact h)
  rw [e] at h
  have h := EPost.step S1 h
  simp only at h
  unfold kIsI iiF at h
  split at h
  · rename_i D fs el
    unfold iiG at h
    split at h
    · rename_i b el2
      obtain ⟨hc, hk⟩ := T _ (memI_look el2)
      have qv : Dq K G1 v (.ins D fs) := look_vw R1 x1 el
      cases qv with
      | ins q1 q2 q3 => exact ⟨_, _, _, _, b, rfl, .own _, .base (.ins (R1.same _ _ q1) hc.cl hc.ha hc.hn hc.htk hc.hm), hk, h _ _ _ (Stp.refl _ _ _ _) R1 (.bl b)⟩
    · exact h.elim
  · exact h.elim
theorem je_isI {X : Cx} {xa : Option XA} {W : WX} {C : Str} {e : Expr} {m : EM} {tb : ITb} {p p' pos : Pos} (T : IsiT X.K C tb) (hm : X.mg "isinstance" = none) (hC : X.mg C = some (.ref (cA X.K C))) (ha : JE X xa W e m)
    (hg : Gl X "isinstance" := by rfl) (hgC : Gl X C := by rfl) (hdb : (C == ("__debug__" : Str)) = false := by decide)
    (he : starEach [e, .Name C p'] X.env = (false, eval e X.env) :: starEach [.Name C p'] X.env := by rfl) (he2 : starEach [.Name C p'] X.env = (false, eval (.Name C p') X.env) :: starEach [] X.env := by rfl) (hpl : (backTo pos (starEach [.Name C p'] X.env)).any (·.1) = false := by rfl) :
    JE X xa W (.Call (.Name "isinstance" p) [e, .Name C p'] [] pos) (eIsI tb m) :=
  let ⟨_, h1, h2⟩ := ha; ⟨_, L2.pe_callB call_isi hg hm (by first | boot_by_name | rfl | kernel_rfl) (pa_cons h1 (pa_cons (pe_glob (v := .ref (cA X.K C)) hgC hC rfl hdb) pa_nil he2) he) (by decide) (by decide) he hpl, ev_isI T h2⟩
end DL
set_option Elab.async false
set_option linter.all false
set_option maxRecDepth 100000
set_option maxHeartbeats 4000000
/-! texts: split, walked, int(text); lists unpacked; in over data of any depth -/
namespace DL
open PySem PySem.Spec PyProof.Rows L2
/-! ### a.split(b) -/
theorem strs_A {K : PySem.W.Frag} {G : Hp} : ∀ (ys : List Str), DqA K G (ys.map V.str) (ys.map D.str)
  | [] => .nil
  | y :: ys => .cons (.str y) (strs_A ys)
def spE (o p : Option D) (ρ : Env) : Res D := match o, p with
  | some (.str a), some (.str b) => if (b.length == 0) = false ∧ a.length + 2 ≤ 100000 then .ok (.lst ((Txt.split a b).map .str)) ρ else .bad
  | _, _ => .bad
def isTx : Option D → Bool
  | some (.str _) => true
  | _ => false
def kSp2 (x : X) : X → Env → Res D := fun y ρ2 => spE (look ρ2 x) (look ρ2 y) ρ2
def kSp1 (me : EM) : X → Env → Res D := fun x ρ1 => if isTx (look ρ1 x) = true then bindR (me ρ1) (kSp2 x) else .bad
def fSplit (mo me : EM) : FM := fun ρ => bindR (mo ρ) (kSp1 me)
abbrev rSplit : V → List V → Hp → VK → Prop := fun x xs H Q => ∃ a b, x = .str a ∧ xs = [.str b] ∧ (b.length == 0) = false ∧ a.length + 2 ≤ sizeLine ∧ rNewStrs (Txt.split a b) H Q
theorem fv_split {K : Kx} {W : WX} {to te : TE} {mo me : EM} (ho : EvOk K W to mo) (he : EvOk K W te me) : FvOk K W (tM1 rSplit to te) (fSplit mo me) := fun σ G H ρ R Q h => by
  unfold fSplit bindR at h
  refine ho.fst R (fun x ρ1 e v G1 H1 S1 R1 x1 => ?_) (fun e ρ1 q => by rw [q] at h; exact h) (fun q => by rw [q] at h; exact h)
  rw [e] at h
  have h := FPost.step S1 h
  simp only at h
  unfold kSp1 at h
  split at h
  · rename_i ht
    unfold isTx at ht
    split at ht
    · rename_i a ea
      have ev := (look_vw R1 x1 ea).str
      refine ⟨⟨a, ev⟩, ?_⟩
      unfold bindR at h
      refine he.fst R1 (fun y ρ2 e2 u G2 H2 S2 R2 x2 => ?_) (fun e ρ1 q => by rw [q] at h; exact h) (fun q => by rw [q] at h; exact h)
      rw [e2] at h
      have h := FPost.step S2 h
      simp only at h
      unfold kSp2 spE at h
      split at h
      · rename_i a2 b2 e3 e4
        split at h
        · rename_i hh
          have ev2 := (look_vw R2 (x1.mono S2.g) e3).str
          have ev3 := (look_vw R2 x2 e4).str
          subst ev2 ev3
          refine ⟨a2, b2, rfl, rfl, hh.1, Nat.le_trans hh.2 (by rw [sizeLine_eq]; decide), fun p hp => ?_⟩
          have g := Gro.newH (o := .lst ((Txt.split a2 b2).map V.str)) R2.same hp
          refine h _ _ _ g.stp (R2.gro g) ⟨⟨p, _, rfl, R2.same.free hp, upd_same, strs_A _⟩, fun b eb => ?_⟩
          cases eb
          exact ⟨hp, fun z => Own.there R2 z hp⟩
        · exact h.elim
      · exact h.elim
    · cases ht
  · exact h.elim
theorem jf_split {X : Cx} {xa : Option XA} {W : WX} {o e : Expr} {mo me : EM} {apos pos : Pos} (ho : JE X xa W o mo) (he : JE X xa W e me) (hs : starEach [e] X.env = [(false, eval e X.env)] := by rfl) (hbase : attributeBase o "split" X.env (eval o X.env) = eval o X.env := by rfl) (hline : (apos.endLine == pos.line) = true := by rfl) :
    JF X xa W (.Call (.Attribute o "split" apos) [e] [] pos) (fSplit mo me) :=
  let ⟨_, h1, h2⟩ := ho; let ⟨_, h3, h4⟩ := he; ⟨_, pe_m1 PySem.F.slot_str_split PySem.F.type_str_split mt_split h1 h3 hs hbase hline, fv_split h2 h4⟩
/-! ### a, b = a list -/
def gmLst (n : Nat) (gs : GMs) : GM := fun d ρ => match seqL d with
  | some ds => if ds.length = n then gs ds ρ else none
  | none => none
theorem seqL_dq {K : PySem.W.Frag} {G : Hp} {v : V} {d : D} {ds : List D} (q : Dq K G v d) (e : seqL d = some ds) : ∃ a xs, v = .ref a ∧ SqL K G a xs ∧ DqA K G xs ds := by
  cases d <;> simp only [seqL, reduceCtorEq, Option.some.injEq] at e
  · subst e
    cases q with
    | lst h a => exact ⟨_, _, rfl, .inl (.inl h), a⟩
  · subst e
    cases q with
    | ro h a => exact ⟨_, _, rfl, h, a⟩
theorem go_lst {K : Kx} {js : List Nat} {n : Nat} {gs : TGs} {gms : GMs} (hs : GsOk K js gs gms) : GOk K js (gLst K.k n gs) (gmLst n gms) := fun σ G H ρ v d ρ' R q e Q h => by
  unfold gmLst at e
  split at e
  · rename_i ds es
    split at e
    · rename_i hl
      obtain ⟨a, xs, rfl, h1, h2⟩ := seqL_dq q es
      exact ⟨a, xs, rfl, R.same.seq h1, by rw [h2.length]; exact hl, hs _ _ _ _ _ _ _ R h2 e Q h⟩
    · cases e
  · cases e
theorem jg_lst {X : Cx} {xa : Option XA} {js : List Nat} {tgs : List Expr} {gms : GMs} {pos : Pos} {k n : Nat} (hc : X.calm = true) (h : JGs X xa js tgs gms) (hn : (assignEach tgs X.env).length = n := by rfl) (hst : (assignEach tgs X.env).findIdx? (·.1) = none := by rfl) : JG X xa js (.Tuple tgs k pos) (gmLst n gms) :=
  let ⟨_, a1, a2⟩ := h; ⟨_, pg_lst hc a1 hn hst, go_lst a2⟩
/-! ### a text walked -/
def chD (s : Str) : List D := s.cps.toList.map fun c => D.str ⟨#[c]⟩
def stF (o : Option D) (ρ : Env) : Res (List D) := match o with
  | some (.str s) => .ok (chD s) ρ
  | _ => .bad
def kStr : X → Env → Res (List D) := fun x ρ1 => stF (look ρ1 x) ρ1
def mStr (m : EM) : IM := fun ρ => bindR (m ρ) kStr
theorem iv_str {K : Kx} {W : WX} {t : TE} {m : EM} (ht : EvOk K W t m) : IvOk K W (iStr t) (mStr m) := fun σ G H ρ R Q h => by
  unfold mStr bindR at h
  refine ht.fst R (fun x ρ1 e v G1 H1 S1 R1 x1 => ?_) (fun e ρ1 q => by rw [q] at h; exact h) (fun q => by rw [q] at h; exact h)
  rw [e] at h
  have h := IPost.step S1 h
  simp only at h
  unfold kStr stF at h
  split at h
  · rename_i s es
    have ev := (look_vw R1 x1 es).str
    refine ⟨s, ev, h _ G1 H1 (Stp.refl _ _ _ _) R1 fun G3 H3 s1 s2 => ⟨fun i d hd => ?_, ?_⟩⟩
    · unfold chD at hd
      rw [List.getElem?_map] at hd
      obtain ⟨c, hc, rfl⟩ := Option.map_eq_some_iff.mp hd
      have hc' : s.cps[i]? = some c := by rw [← Array.getElem?_toList]; exact hc
      refine ⟨(Array.getElem?_eq_some_iff.mp hc').1, fun y H' ⟨e1, c2, h2, h3⟩ => ?_⟩
      subst e1 h3
      rw [hc'] at h2
      cases Option.some.inj h2
      exact ⟨G3, Gro.refl s2, .str _⟩
    · show s.cps.size ≤ (chD s).length
      unfold chD
      simp
  · exact h.elim
theorem ji_str {X : Cx} {xa : Option XA} {W : WX} {tg l : Expr} {m : EM} (h : JE X xa W l m) : JI X xa W tg l (mStr m) := let ⟨_, h1, h2⟩ := h; ⟨_, pi_str h1, iv_str h2⟩
/-! ### int of a text -/
def intX : List D → Option D
  | [.str a] => if a.length ≤ 640 then (PySem.intText? a).map .int else none
  | xs => intD xs
theorem cr_intX {X : Cx} : CallR X (.type "int") (rDn X.K intX) := by
  intro pins s σ H xs us Q I r h
  obtain ⟨G, as, d, sG, va, e, q⟩ := h
  unfold intX at e
  split at e
  · rename_i a
    split at e
    · rename_i hl
      obtain ⟨n, hn, rfl⟩ := Option.map_eq_some_iff.mp e
      obtain ⟨x, rfl, hx⟩ := pair1 va
      have ev := hx.str
      subst ev
      exact call_int_str pins s σ H _ us Q I r ⟨a, n, rfl, hn, hl, dend_int sG q⟩
    · cases e
  · exact cr_intD pins s σ H xs us Q I r ⟨G, _, d, sG, va, e, q⟩
/-! ### in, of any depth -/
def inP (a b : D) : Option Bool := match seqL b, toP a with
  | some ds, some p => (match toPs ds with
    | some ps => if SeqAt.shaped p = true ∧ SeqAt.shaped (.list ps) = true then some (ps.any fun z => PyData.eqv z p) else none
    | none => none)
  | _, _ => none
def inBY (a b : D) : Option Bool := match inB a b with
  | some c => some c
  | none => inP a b
def inY (a b : D) : Option D := (inBY a b).map .bl
def ninY (a b : D) : Option D := (inBY a b).map fun c => .bl (!c)
theorem inP_dp {K : PySem.W.Frag} {G H : Hp} {x y : V} {a b : D} {c : Bool} (sG : Same G H) (va : Vw K G H x a) (vb : Vw K G H y b) (e : inP a b = some c) : ∃ d ds, Dp K H x d ∧ Dp K H y (.list ds) ∧ SeqAt.shaped d = true ∧ SeqAt.shaped (.list ds) = true ∧ (ds.any fun z => PyData.eqv z d) = c := by
  unfold inP at e
  split at e
  · rename_i ds p es ep
    split at e
    · rename_i ps eps
      split at e
      · rename_i hh
        cases Option.some.inj e
        have eb : toP b = some (.list ps) := by
          cases b <;> simp only [seqL, reduceCtorEq, Option.some.injEq] at es
          · subst es; unfold toP; rw [eps]; rfl
          · subst es; unfold toP; rw [eps]; rfl
        exact ⟨p, ps, Vw.dp sG va ep, Vw.dp sG vb eb, hh.1, hh.2, rfl⟩
      · cases e
    · cases e
  · cases e
theorem op_inY {X : Cx} (hu : X.A.units + 65 < cLine) : OpR X (compareOp .In) (rD2 X.K inY) := by
  intro pins s σ H x y v u Q I rx ry h
  obtain ⟨G, a, b, d, sG, va, vb, e, q⟩ := h
  obtain ⟨c, e1, rfl⟩ := Option.map_eq_some_iff.mp e
  unfold inBY at e1
  split at e1
  · rename_i c' e2
    cases Option.some.inj e1
    exact DL.op_inD pins s σ H x y v u Q I rx ry ⟨G, a, b, _, sG, va, vb, by unfold inD; rw [e2]; rfl, q⟩
  · obtain ⟨p, ps, h1, h2, h3, h4, h5⟩ := inP_dp sG va vb e1
    exact L2.op_inD hu pins s σ H x y v u Q I rx ry ⟨p, ps, h1, h2, h3, h4, by rw [h5]; exact dend_bl sG q⟩
theorem op_ninY {X : Cx} (hu : X.A.units + 65 < cLine) : OpR X (compareOp .NotIn) (rD2 X.K ninY) := by
  intro pins s σ H x y v u Q I rx ry h
  obtain ⟨G, a, b, d, sG, va, vb, e, q⟩ := h
  obtain ⟨c, e1, rfl⟩ := Option.map_eq_some_iff.mp e
  unfold inBY at e1
  split at e1
  · rename_i c' e2
    cases Option.some.inj e1
    exact DL.op_ninD pins s σ H x y v u Q I rx ry ⟨G, a, b, _, sG, va, vb, by unfold ninD; rw [e2]; rfl, q⟩
  · obtain ⟨p, ps, h1, h2, h3, h4, h5⟩ := inP_dp sG va vb e1
    exact L2.op_notInD hu pins s σ H x y v u Q I rx ry ⟨p, ps, h1, h2, h3, h4, by rw [h5]; exact dend_bl sG q⟩
theorem hu65 {k : Nat} {A : Around} (hr : Room k A) : A.units + 65 < cLine := by have := hr.un; omega
end DL
set_option Elab.async false
set_option linter.all false
set_option maxRecDepth 100000
set_option maxHeartbeats 4000000
/-! evaluating: instances, methods, super, match, sorted, sets, list of a dict, index -/
namespace DL
open PySem L2
section
variable {ρ ρ1 ρ2 : Env} {e : Exn} {i j : Int} {a b d : D} {ds es : List D} {x y : X} {C m : Str} {n : Nat} {R : List L → FRes} {tb : MTb} {fs : List (Str × D)}
@[simp] theorem eMkO_ap : eMkO C ρ = .ok (.d (.ins C [])) ρ := (rfl)
theorem eFin_cl {xs : List X} : eFin n R xs ρ = clL n R xs (mkArgs ρ xs) ρ := by
  have h := eCall_ap (ρ := ρ) (n := n) (F := R) (ma := fun ρ => .ok xs ρ)
  exact h
@[simp] theorem eMeth_ap {ma : EM} {am : AM} : eMeth tb m n ma am ρ = bindR (ma ρ) (kMeth1 tb m n am) := (rfl)
def mtF (tb : MTb) (m : Str) (n : Nat) (am : AM) (x : X) (o : Option D) (ρ1 : Env) : Res X := match o with
  | some (.ins C fs) => (match tb.lookup C, fs.lookup m with
    | some R, none => bindR (am ρ1) (kMeth2 n R x)
    | _, _ => .bad)
  | _ => .bad
@[simp] theorem kMeth1_ap {am : AM} : kMeth1 tb m n am x ρ = mtF tb m n am x (look ρ x) ρ := (rfl)
def mtG (n : Nat) (am : AM) (x : X) (o : Option (List L → FRes)) (p : Option D) (ρ1 : Env) : Res X := match o, p with
  | some R, none => bindR (am ρ1) (kMeth2 n R x)
  | _, _ => .bad
@[simp] theorem mtF_ok {am : AM} : mtF tb m n am x (some (.ins C fs)) ρ = mtG n am x (tb.lookup C) (fs.lookup m) ρ := (rfl)
@[simp] theorem mtG_ok {am : AM} : mtG n am x (some R) none ρ = bindR (am ρ) (kMeth2 n R x) := (rfl)
@[simp] theorem kMeth2_ap {xs : List X} : kMeth2 n R x xs ρ = clL n R (x :: xs) (mkArgs ρ (x :: xs)) ρ := by
  unfold kMeth2
  exact eFin_cl
def spF' (Cs : List Str) (n : Nat) (R : List L → FRes) (am : AM) (i : Nat) (o : Option (Option L)) (ρ : Env) : Res X := match o with
  | some (some (.d (.ins C _))) => if C ∈ Cs then bindR (am ρ) (kSup n R i) else .bad
  | _ => .bad
@[simp] theorem eSup_ap {k : Nat} {Cs : List Str} {am : AM} : eSup k Cs n R am ρ = spF' Cs n R am k ρ[k]? ρ := (rfl)
@[simp] theorem spF'_ok {k : Nat} {Cs : List Str} {am : AM} : spF' Cs n R am k (some (some (.d (.ins C fs)))) ρ = if C ∈ Cs then bindR (am ρ) (kSup n R k) else .bad := (rfl)
@[simp] theorem kSup_ap {k : Nat} {xs : List X} : kSup n R k xs ρ = clL n R (.s k :: xs) (mkArgs ρ (.s k :: xs)) ρ := by
  unfold kSup
  exact eFin_cl
/-! match -/
@[simp] theorem sMatch_ap {me : EM} {mc : D → SM} : sMatch me mc ρ = bindR (me ρ) (kMt mc) := (rfl)
@[simp] theorem kMt_ap {mc : D → SM} : kMt mc x ρ = mtE mc (datX ρ x) ρ := (rfl)
@[simp] theorem mtE_ok {mc : D → SM} : mtE mc (some d) ρ = mc d ρ := (rfl)
def dsE : Option (Option L) → Option D
  | some (some (.d x)) => some x
  | _ => none
@[simp] theorem datX_d : datX ρ (.d d) = some d := (rfl)
@[simp] theorem datX_s {k : Nat} : datX ρ (.s k) = dsE ρ[k]? := (rfl)
@[simp] theorem dsE_ok : dsE (some (some (.d d))) = some d := (rfl)
@[simp] theorem mcLit_ap {s : Str} {mb : SM} {mr : D → SM} : mcLit s mb mr d ρ = mcL (eqB d (.str s)) mb (mr d) ρ := (rfl)
@[simp] theorem mcL_t {mb mr : SM} : mcL (some true) mb mr ρ = mb ρ := (rfl)
@[simp] theorem mcL_f {mb mr : SM} : mcL (some false) mb mr ρ = mr ρ := (rfl)
@[simp] theorem mcAny_ap {mb : SM} : mcAny mb d ρ = mb ρ := (rfl)
/-! sorted -/
def sfE : Option (List Int) → Option (List D)
  | some ns => some ((srtI ns).map .int)
  | none => none
@[simp] theorem sortF_l : sortF [.lst ds] = sfE (intsD ds) := by unfold sortF sfE; simp; try (cases intsD ds <;> rfl)
@[simp] theorem sortF_r : sortF [.ro ds] = sfE (intsD ds) := by unfold sortF sfE; simp; try (cases intsD ds <;> rfl)
@[simp] theorem sortF_t : sortF [.tup ds] = sfE (intsD ds) := by unfold sortF sfE; simp; try (cases intsD ds <;> rfl)
@[simp] theorem sfE_ok {ns : List Int} : sfE (some ns) = some ((srtI ns).map .int) := (rfl)
@[simp] theorem fSS_ap {me : EM} : fSS me ρ = bindR (me ρ) kSS := (rfl)
@[simp] theorem kSS_ap : kSS x ρ = srE (look ρ x) ρ := (rfl)
def srG (o : Option (List Int)) (ρ : Env) : Res D := match o with
  | some ns => if ns.length ≤ 1000 ∧ (dedI ns).length < 64 then .ok (.lst ((srtI (dedI ns)).map .int)) ρ else .bad
  | none => .bad
@[simp] theorem srE_t : srE (some (.tup ds)) ρ = srG (intsD ds) ρ := (rfl)
@[simp] theorem srG_ok {ns : List Int} : srG (some ns) ρ = if ns.length ≤ 1000 ∧ (dedI ns).length < 64 then .ok (.lst ((srtI (dedI ns)).map .int)) ρ else .bad := (rfl)
@[simp] theorem listX_k {kvs : List (Key × D)} : listX [.dct kvs] = some (kvs.map fun kv => keyV kv.1) := (rfl)
@[simp] theorem listX_l : listX [.lst ds] = some ds := (rfl)
@[simp] theorem keyV_i : keyV (.inl i) = .int i := (rfl)
@[simp] theorem keyV_s {s : Str} : keyV (.inr s) = .str s := (rfl)
/-! index -/
@[simp] theorem eIdx_ap {ma mb : EM} : eIdx ma mb ρ = bindR (ma ρ) (kIdx1 mb) := (rfl)
@[simp] theorem kIdx1_ap {mb : EM} : kIdx1 mb x ρ = if lsO (look ρ x) = true then bindR (mb ρ) (kIdx2 x) else .bad := (rfl)
@[simp] theorem lsO_l : lsO (some (.lst ds)) = true := (rfl)
@[simp] theorem lsO_r : lsO (some (.ro ds)) = true := (rfl)
@[simp] theorem kIdx2_ap : kIdx2 x y ρ = idE (look ρ x) (look ρ y) ρ := (rfl)
def idF (o : Option Nat) (ρ : Env) : Res X := match o with
  | some j => .ok (.d (.int (j : Nat))) ρ
  | none => .bad
def idG (o : Option (List Int)) (k : Int) (ρ : Env) : Res X := match o with
  | some ns => idF (idxI ns k) ρ
  | none => .bad
@[simp] theorem idE_l {k : Int} : idE (some (.lst ds)) (some (.int k)) ρ = idG (intsD ds) k ρ := (rfl)
@[simp] theorem idE_r {k : Int} : idE (some (.ro ds)) (some (.int k)) ρ = idG (intsD ds) k ρ := (rfl)
@[simp] theorem idG_ok {ns : List Int} {k : Int} : idG (some ns) k ρ = idF (idxI ns k) ρ := (rfl)
@[simp] theorem idF_ok {j : Nat} : idF (some j) ρ = .ok (.d (.int (j : Nat))) ρ := (rfl)
end
/-! slices -/
theorem cut_1 {ds : List D} : cutD ds none (some 1) = ds.take 1 := by
  unfold cutD
  cases ds with
  | nil => simp [HT.sIx]
  | cons d ds => simp [HT.sIx]
theorem cut_l {ds : List D} : cutD ds (some (-1)) none = ds.drop (ds.length - 1) := by
  unfold cutD
  cases ds with
  | nil => simp [HT.sIx]
  | cons d ds =>
    simp [HT.sIx]
    rw [show (-1 + ((ds.length : Int) + 1)).toNat = ds.length by omega]
    exact List.take_of_length_le (by simp)
theorem cut_n {ds : List D} {k : Nat} : cutD ds none (some (k : Int)) = ds.take k := by
  unfold cutD
  rw [HT.sIx_none, HT.sIx_nat]
  simp
theorem atI_eq {ds : List D} (n : Nat) : L2.atI ds (n : Int) = ds[n]? := by
  unfold L2.atI L2.ixN
  by_cases h : n < ds.length
  · simp [h]
  · have h1 : ¬ (n : Int) < ds.length := by omega
    simp [h1]
    omega
@[simp] theorem atI_k4 {ds : List D} : L2.atI ds 4 = ds[4]? := atI_eq 4
@[simp] theorem atI_k5 {ds : List D} : L2.atI ds 5 = ds[5]? := atI_eq 5
@[simp] theorem atI_k6 {ds : List D} : L2.atI ds 6 = ds[6]? := atI_eq 6
@[simp] theorem atI_k7 {ds : List D} : L2.atI ds 7 = ds[7]? := atI_eq 7
@[simp] theorem atI_k8 {ds : List D} : L2.atI ds 8 = ds[8]? := atI_eq 8
@[simp] theorem atI_k9 {ds : List D} : L2.atI ds 9 = ds[9]? := atI_eq 9
@[simp] theorem atI_k10 {ds : List D} : L2.atI ds 10 = ds[10]? := atI_eq 10
@[simp] theorem atI_k11 {ds : List D} : L2.atI ds 11 = ds[11]? := atI_eq 11
@[simp] theorem atI_k12 {ds : List D} : L2.atI ds 12 = ds[12]? := atI_eq 12
/-! comprehensions that draw -/
section
variable {gm : GM} {me : EM} {js : List Nat} {ρ ρ0 : Env} {d : D} {im : IM}
theorem lcF2_some {o : Option Env} {p : D × Env} (h : lcF2 me ρ0 js o = some p) : ∃ ρ2 z ρ3 ρ4, o = some ρ2 ∧ me ρ2 = .ok z ρ3 ∧ fz ρ3 z = some (p.1, ρ4) ∧ restE ρ0 ρ4 js = p.2 := by
  cases o with
  | none => cases h
  | some ρ2 =>
    rw [lcF2_ok] at h
    cases e2 : me ρ2 with
    | bad => rw [e2] at h; cases h
    | ex x ρ3 => rw [e2] at h; cases h
    | ok z ρ3 =>
      rw [e2, lcF3_ok] at h
      cases e3 : fz ρ3 z with
      | none => rw [e3] at h; cases h
      | some q =>
        obtain ⟨y, ρ4⟩ := q
        rw [e3, lcF4_ok] at h
        cases Option.some.inj h
        exact ⟨ρ2, z, ρ3, ρ4, rfl, e2, e3, rfl⟩
theorem lcGo_ex {α S Y : Type} (c : α → D) (f : S → Env) (e : Y → D) (P : Y → Prop) : ∀ {xs : List α} {acc : List D} {s : S}, acc.length + xs.length ≤ mx →
    (∀ x ∈ xs, ∀ s1, ∃ y s2, P y ∧ lcF2 me ρ0 js (gm (c x) (wipeE (f s1) js)) = some (e y, f s2)) → ∃ (ys : List Y) (s' : S), lcGo js gm mYes me ρ0 (xs.map c) acc (f s) = .ok (acc ++ ys.map e) (f s') ∧ ys.length = xs.length ∧ ∀ y ∈ ys, P y
  | [], acc, s, _, _ => ⟨[], s, by simp [lcGo], rfl, fun _ h => nomatch h⟩
  | x :: xs, acc, s, hl, h => by
    obtain ⟨y, s2, hp, he⟩ := h x List.mem_cons_self s
    obtain ⟨ρ2, z, ρ3, ρ4, e1, e2, e3, e4⟩ := lcF2_some he
    obtain ⟨ys, s', q1, q2, q3⟩ := lcGo_ex c f e P (xs := xs) (acc := acc ++ [e y]) (s := s2) (by simp at hl ⊢; omega) fun x hx => h x (List.mem_cons_of_mem _ hx)
    have hl' : acc.length < mx := by simp at hl; omega
    simp only at e3 e4
    refine ⟨y :: ys, s', ?_, by simp [q2], fun w hw => (List.mem_cons.mp hw).elim (fun e => e ▸ hp) (q3 w)⟩
    rw [List.map_cons]
    unfold lcGo
    simp only [e1, mYes, bindR, e2, e3, e4, hl', if_true, q1]
    simp
theorem lc_ex {α S Y : Type} {xs : List α} {s : S} (c : α → D) (f : S → Env) (e : Y → D) (P : Y → Prop) (hi : im ρ = .ok (xs.map c) (f s)) (hc : clean (f s) js = true) (hl : xs.length ≤ mx)
    (h : ∀ x ∈ xs, ∀ s1, ∃ y s2, P y ∧ lcF2 me (f s) js (gm (c x) (wipeE (f s1) js)) = some (e y, f s2)) : ∃ (ys : List Y) (s' : S), fLc im js gm mYes me ρ = .ok (.lst (ys.map e)) (f s') ∧ ys.length = xs.length ∧ ∀ y ∈ ys, P y := by
  obtain ⟨ys, s', q1, q2, q3⟩ := lcGo_ex (me := me) (gm := gm) (js := js) (ρ0 := f s) c f e P (xs := xs) (acc := []) (s := s) (by simpa using hl) h
  refine ⟨ys, s', ?_, q2, q3⟩
  unfold fLc
  simp only [hi, bindR, hc, if_true, q1]
  simp
end
end DL
set_option Elab.async false
set_option linter.all false
set_option maxRecDepth 100000
set_option maxHeartbeats 4000000
/-! evaluating: constants through instances, isinstance of instances, texts -/
namespace DL
open PySem L2
section
variable {ρ : Env} {i j : Int} {a b d : D} {ds es : List D} {x y : X} {C f : Str} {tb : CTb} {it : ITb} {fs : List (Str × D)} {s t : Str}
@[simp] theorem eCon_ap {m : EM} : eCon tb f m ρ = bindR (m ρ) (kCon tb f) := (rfl)
@[simp] theorem kCon_ap : kCon tb f x ρ = ctF tb f (look ρ x) ρ := (rfl)
@[simp] theorem ctF_ok : ctF tb f (some (.ins C fs)) ρ = ctG (tb.lookup C) (fs.lookup f) ρ := (rfl)
@[simp] theorem ctG_ok : ctG (some d) none ρ = .ok (.d d) ρ := (rfl)
@[simp] theorem eIsI_ap {m : EM} : eIsI it m ρ = bindR (m ρ) (kIsI it) := (rfl)
@[simp] theorem kIsI_ap : kIsI it x ρ = iiF it (look ρ x) ρ := (rfl)
@[simp] theorem iiF_ok : iiF it (some (.ins C fs)) ρ = iiG (it.lookup C) ρ := (rfl)
@[simp] theorem iiG_ok {b : Bool} : iiG (some b) ρ = .ok (.d (.bl b)) ρ := (rfl)
@[simp] theorem fSplit_ap {mo me : EM} : fSplit mo me ρ = bindR (mo ρ) (kSp1 me) := (rfl)
@[simp] theorem kSp1_ap {me : EM} : kSp1 me x ρ = if isTx (look ρ x) = true then bindR (me ρ) (kSp2 x) else .bad := (rfl)
@[simp] theorem isTx_s : isTx (some (.str s)) = true := (rfl)
@[simp] theorem kSp2_ap : kSp2 x y ρ = spE (look ρ x) (look ρ y) ρ := (rfl)
@[simp] theorem spE_ok : spE (some (.str s)) (some (.str t)) ρ = if (t.length == 0) = false ∧ s.length + 2 ≤ 100000 then .ok (.lst ((Txt.split s t).map .str)) ρ else .bad := (rfl)
@[simp] theorem gmLst_l {n : Nat} {gs : GMs} : gmLst n gs (.lst ds) ρ = if ds.length = n then gs ds ρ else none := (rfl)
@[simp] theorem mStr_ap {m : EM} : mStr m ρ = bindR (m ρ) kStr := (rfl)
@[simp] theorem kStr_ap : kStr x ρ = stF (look ρ x) ρ := (rfl)
@[simp] theorem stF_ok : stF (some (.str s)) ρ = .ok (chD s) ρ := (rfl)
@[simp] theorem intX_s : intX [.str s] = if s.length ≤ 640 then (PySem.intText? s).map .int else none := (rfl)
@[simp] theorem intX_i : intX [.int i] = some (.int i) := (rfl)
@[simp] theorem inY_ap : inY a b = (inBY a b).map .bl := (rfl)
@[simp] theorem ninY_ap : ninY a b = (inBY a b).map fun c => .bl (!c) := (rfl)
end
@[simp] theorem isi2_di : isiB "dict" "int" = false := by decide
@[simp] theorem isi2_nb : isiB "NoneType" "bool" = false := by decide
@[simp] theorem isi2_sb : isiB "str" "bool" = false := by decide
@[simp] theorem isi2_lb : isiB "list" "bool" = false := by decide
@[simp] theorem isi2_tb : isiB "tuple" "bool" = false := by decide
@[simp] theorem isi2_db : isiB "dict" "bool" = false := by decide
@[simp] theorem isi2_ns : isiB "NoneType" "str" = false := by decide
@[simp] theorem isi2_bs : isiB "bool" "str" = false := by decide
@[simp] theorem isi2_is : isiB "int" "str" = false := by decide
@[simp] theorem isi2_ss : isiB "str" "str" = true := by decide
@[simp] theorem isi2_ls : isiB "list" "str" = false := by decide
@[simp] theorem isi2_ts : isiB "tuple" "str" = false := by decide
@[simp] theorem isi2_ds : isiB "dict" "str" = false := by decide
@[simp] theorem isi2_dt : isiB "dict" "tuple" = false := by decide
@[simp] theorem isi2_dl : isiB "dict" "list" = false := by decide
@[simp] theorem isi2_nd : isiB "NoneType" "dict" = false := by decide
@[simp] theorem isi2_bd : isiB "bool" "dict" = false := by decide
@[simp] theorem isi2_id : isiB "int" "dict" = false := by decide
@[simp] theorem isi2_sd : isiB "str" "dict" = false := by decide
@[simp] theorem isi2_ld : isiB "list" "dict" = false := by decide
@[simp] theorem isi2_td : isiB "tuple" "dict" = false := by decide
@[simp] theorem isi2_dd : isiB "dict" "dict" = true := by decide
end DL
set_option Elab.async false
set_option linter.all false
set_option maxRecDepth 100000
set_option maxHeartbeats 4000000
namespace Law
open PySem PySem.Spec PyProof.Rows L2 DL
def ctb_IDEMPOTENT : CTb := [("Kind", (.bl false)), ("BagKind", (.bl false)), ("SetKind", (.bl true)), ("HeadsKind", (.bl true)), ("FirstKind", (.bl true)), ("TailsKind", (.bl true)), ("LastKind", (.bl true)), ("EndsKind", (.bl true))]
def ctb_NAME : CTb := [("Kind", (.str "list")), ("BagKind", (.str "bag")), ("SetKind", (.str "set")), ("HeadsKind", (.str "heads")), ("FirstKind", (.str "first")), ("TailsKind", (.str "tails")), ("LastKind", (.str "last")), ("EndsKind", (.str "ends"))]
def ctb_ORDERLESS : CTb := [("Kind", (.bl false)), ("BagKind", (.bl true)), ("SetKind", (.bl true)), ("HeadsKind", (.bl false)), ("FirstKind", (.bl false)), ("TailsKind", (.bl false)), ("LastKind", (.bl false)), ("EndsKind", (.bl false))]
def ctb_OUTER : CTb := [("Kind", (.bl false)), ("BagKind", (.bl false)), ("SetKind", (.bl false)), ("HeadsKind", (.bl false)), ("FirstKind", (.bl true)), ("TailsKind", (.bl false)), ("LastKind", (.bl true)), ("EndsKind", (.bl true))]
def ctb_RULES : CTb := [("Kind", (.tup [])), ("BagKind", (.tup [(.str "12=21")])), ("SetKind", (.tup [(.str "12=21"), (.str "11=1")])), ("HeadsKind", (.tup [(.str "11=1"), (.str "121=12")])), ("FirstKind", (.tup [(.str "12=1")])), ("TailsKind", (.tup [(.str "11=1"), (.str "121=21")])), ("LastKind", (.tup [(.str "12=2")])), ("EndsKind", (.tup [(.str "11=1"), (.str "123=13")]))]
def itb_BagKind : ITb := [("Kind", false), ("BagKind", true), ("SetKind", true), ("HeadsKind", false), ("FirstKind", false), ("TailsKind", false), ("LastKind", false), ("EndsKind", false)]
def itb_EndsKind : ITb := [("Kind", false), ("BagKind", false), ("SetKind", false), ("HeadsKind", false), ("FirstKind", false), ("TailsKind", false), ("LastKind", false), ("EndsKind", true)]
def itb_FirstKind : ITb := [("Kind", false), ("BagKind", false), ("SetKind", false), ("HeadsKind", false), ("FirstKind", true), ("TailsKind", false), ("LastKind", false), ("EndsKind", false)]
def itb_HeadsKind : ITb := [("Kind", false), ("BagKind", false), ("SetKind", false), ("HeadsKind", true), ("FirstKind", true), ("TailsKind", false), ("LastKind", false), ("EndsKind", false)]
def itb_Kind : ITb := [("Kind", true), ("BagKind", true), ("SetKind", true), ("HeadsKind", true), ("FirstKind", true), ("TailsKind", true), ("LastKind", true), ("EndsKind", true)]
def itb_LastKind : ITb := [("Kind", false), ("BagKind", false), ("SetKind", false), ("HeadsKind", false), ("FirstKind", false), ("TailsKind", false), ("LastKind", true), ("EndsKind", false)]
def itb_SetKind : ITb := [("Kind", false), ("BagKind", false), ("SetKind", true), ("HeadsKind", false), ("FirstKind", false), ("TailsKind", false), ("LastKind", false), ("EndsKind", false)]
def itb_TailsKind : ITb := [("Kind", false), ("BagKind", false), ("SetKind", false), ("HeadsKind", false), ("FirstKind", false), ("TailsKind", true), ("LastKind", true), ("EndsKind", false)]
-- Kind_plain: 0=self 1=word
def d_Kind_plain : SM := (sSeq (sRet (eCB tupleD (aCons (eVar 1) aNil)))
  sNop)
def r_Kind_plain : List L → FRes := runFn 2 d_Kind_plain
-- kind_named: 0=name
def d_kind_named : SM := (sSeq (sMatch (eVar 0)
  (mcLit "list" (sSeq (sRet (eMkO "Kind"))
  sNop)
  (mcLit "bag" (sSeq (sRet (eMkO "BagKind"))
  sNop)
  (mcLit "set" (sSeq (sRet (eMkO "SetKind"))
  sNop)
  (mcLit "first" (sSeq (sRet (eMkO "FirstKind"))
  sNop)
  (mcLit "last" (sSeq (sRet (eMkO "LastKind"))
  sNop)
  (mcLit "ends" (sSeq (sRet (eMkO "EndsKind"))
  sNop)
  (mcLit "heads" (sSeq (sRet (eMkO "HeadsKind"))
  sNop)
  (mcLit "tails" (sSeq (sRet (eMkO "TailsKind"))
  sNop)
  (mcAny (sSeq (sRaise "BadKind" "name" (aCons (eVar 0) aNil))
  sNop)))))))))))
  sNop)
def r_kind_named : List L → FRes := runFn 1 d_kind_named
-- rule_words: 0=rule 1=left 2=right 3=letter
def d_rule_words : SM := (sSeq (sAsg (gmLst 2 (gmCons (gmName 1) (gmCons (gmName 2) gmNil))) (eF (fSplit (eVar 0) (eC (.str "=")))))
  (sSeq (sRet (eTup (aCons (eCB tupleD (aCons (eF (fLc (mStr (eVar 1)) [3] (gmName 3) mYes (eCB intX (aCons (eVar 3) aNil)))) aNil)) (aCons (eCB tupleD (aCons (eF (fLc (mStr (eVar 2)) [3] (gmName 3) mYes (eCB intX (aCons (eVar 3) aNil)))) aNil)) aNil))))
  sNop))
def r_rule_words : List L → FRes := runFn 4 d_rule_words
-- repeated_letter: 0=word 1=seen 2=letter
def b_repeated_letter_1 : SM := (sFg [2]
  (sSeq (sIf (tBl (eOp inX (eVar 2) (eVar 1)))
  (sSeq (sRet (eVar 2))
  sNop)
  sNop)
  (sSeq (sSetK 1 (eVar 2) (eC (.bl true)))
  sNop)))
def d_repeated_letter : SM := (sSeq (sAsgM 1 fDct)
  (sSeq (sFor (mSeq (eVar 0)) (gmName 2)
  b_repeated_letter_1)
  (sSeq (sRet (eC .non))
  sNop)))
def r_repeated_letter : List L → FRes := runFn 3 d_repeated_letter
-- _law_stream: 0=_law_script 1=_law_numbers 2=_law_place 3=_law_cell 4=_law_rest 5=_law_turn 6=_law_mixed
def b__law_stream_1 : SM := (sFg [5, 6]
  (sSeq (sAsg (gmName 6) (eOp modD (eCB intD (aCons (eOp mulD (eOp addD (eVar 3) (eC (.int 1))) (eOp addD (eOp addD (eC (.int 48271)) (eOp mulD (eC (.int 6)) (eVar 2))) (eOp mulD (eC (.int 2)) (eVar 5)))) aNil)) (eC (.int 2147483629))))
  (sSeq (sDrop (eApp 1 (eOp modD (eCB intD (aCons (eOp mulD (eVar 6) (eVar 6)) aNil)) (eC (.int 1000003)))))
  sNop)))
def b__law_stream_2 : SM := (sFg [5]
  (sSeq (sIf (tBl (eOp gtD (eVar 4) (eC (.int 0))))
  (sSeq (sDrop (eApp 1 (eOp modD (eCB intD (aCons (eVar 4) aNil)) (eC (.int 1000)))))
  (sSeq (sAsg (gmName 4) (eOp fdivD (eVar 4) (eC (.int 1000))))
  sNop))
  sNop)
  sNop))
def b__law_stream_3 : SM := (sFg [2, 3, 4]
  (sSeq (sAsg (gmName 3) (eCB intD (aCons (eOp ixD (eVar 0) (eVar 2)) aNil)))
  (sSeq (sAsg (gmName 4) (eCB absD (aCons (eVar 3) aNil)))
  (sSeq (sFg [4] (sIf (mAnd (tBl (eOp geD (eVar 3) (eC (.int 0)))) (tBl (eOp ltD (eVar 3) (eOp powD (eC (.int 10)) (eC (.int 18))))))
  (sSeq (sFor (mRng1 (aCons (eC (.int 3)) aNil)) (gmName 5)
  b__law_stream_1)
  sNop)
  (sSeq (sFor (mRng1 (aCons (eC (.int 60)) aNil)) (gmName 5)
  b__law_stream_2)
  sNop)))
  sNop))))
def d__law_stream : SM := (sSeq (sAsgM 1 (fLst aNil))
  (sSeq (sFor (mRng1 (aCons (eCB min2D (aCons (eCB lenD (aCons (eVar 0) aNil)) (aCons (eC (.int 63)) aNil))) aNil)) (gmName 2)
  b__law_stream_3)
  (sSeq (sRetF (fSlS (eVar 1) oNone oNone (oSome (eUn negD (eC (.int 1))))))
  sNop)))
def r__law_stream : List L → FRes := runFn 7 d__law_stream
-- _law_draw: 0=_law_stream_here 1=_law_many
def d__law_draw : SM := (sSeq (sIf (tBl (eOp eqD (eCB lenD (aCons (eVar 0) aNil)) (eC (.int 0))))
  (sSeq (sRet (eC (.int 0)))
  sNop)
  sNop)
  (sSeq (sRet (eOp modD (eCB intD (aCons (ePop 0) aNil)) (eVar 1)))
  sNop))
def r__law_draw : List L → FRes := runFn 2 d__law_draw
-- _law_plain: 0=_law_kind 1=_law_word_here 2=_law_rest 3=_law_seen 4=_law_letter 5=_law_kept
def b__law_plain_1 : SM := (sFg [4]
  (sSeq (sSetK 3 (eVar 4) (eC (.bl true)))
  sNop))
def d__law_plain : SM := (sSeq (sIf (tBl (eOp eqD (eVar 0) (eC (.str "list"))))
  (sSeq (sRet (eCB tupleD (aCons (eVar 1) aNil)))
  sNop)
  sNop)
  (sSeq (sIf (tBl (eOp eqD (eVar 0) (eC (.str "bag"))))
  (sSeq (sRet (eCB tupleD (aCons (eF (fCB sortF (aCons (eF (fCB listF (aCons (eVar 1) aNil))) aNil))) aNil)))
  sNop)
  sNop)
  (sSeq (sIf (tBl (eOp eqD (eVar 0) (eC (.str "set"))))
  (sSeq (sRet (eCB tupleD (aCons (eF (fSS (eVar 1))) aNil)))
  sNop)
  sNop)
  (sSeq (sIf (tBl (eOp eqD (eVar 0) (eC (.str "first"))))
  (sSeq (sRet (eCB tupleD (aCons (eSl slD (eVar 1) oNone (oSome (eC (.int 1)))) aNil)))
  sNop)
  sNop)
  (sSeq (sIf (tBl (eOp eqD (eVar 0) (eC (.str "last"))))
  (sSeq (sRet (eCB tupleD (aCons (eSl slD (eVar 1) (oSome (eUn negD (eC (.int 1)))) oNone) aNil)))
  sNop)
  sNop)
  (sSeq (sIf (tBl (eOp eqD (eVar 0) (eC (.str "ends"))))
  (sSeq (sRet (eOp addD (eCB tupleD (aCons (eSl slD (eVar 1) oNone (oSome (eC (.int 1)))) aNil)) (eCB tupleD (aCons (eSl slD (eVar 1) (oSome (eUn negD (eC (.int 1)))) oNone) aNil))))
  sNop)
  sNop)
  (sSeq (sAsg (gmName 2) (eF (fCB listF (aCons (eVar 1) aNil))))
  (sSeq (sIf (tBl (eOp eqD (eVar 0) (eC (.str "tails"))))
  (sSeq (sAsg (gmName 2) (eRev (eVar 2) (oSome (eUn negD (eC (.int 1))))))
  sNop)
  sNop)
  (sSeq (sAsgM 3 fDct)
  (sSeq (sFor (mSeq (eVar 2)) (gmName 4)
  b__law_plain_1)
  (sSeq (sAsg (gmName 5) (eF (fCB listX (aCons (eVar 3) aNil))))
  (sSeq (sIf (tBl (eOp eqD (eVar 0) (eC (.str "tails"))))
  (sSeq (sAsg (gmName 5) (eRev (eVar 5) (oSome (eUn negD (eC (.int 1))))))
  sNop)
  sNop)
  (sSeq (sRet (eCB tupleD (aCons (eVar 5) aNil)))
  sNop)))))))))))))
def r__law_plain : List L → FRes := runFn 6 d__law_plain
-- _law_is_word: 0=_law_told 1=_law_due 2=_law_letter
def b__law_is_word_1 : SM := (sFg [2]
  (sSeq (sIf (mOr (mNot (mTru (eIsT "int" (eVar 2)))) (mTru (eIsT "bool" (eVar 2))))
  (sSeq (sRet (eC (.bl false)))
  sNop)
  sNop)
  sNop))
def d__law_is_word : SM := (sSeq (sIf (mOr (mNot (mTru (eIsT "tuple" (eVar 0)))) (tBl (eOp neD (eCB lenD (aCons (eVar 0) aNil)) (eCB lenD (aCons (eVar 1) aNil)))))
  (sSeq (sRet (eC (.bl false)))
  sNop)
  sNop)
  (sSeq (sFor (mSeq (eVar 0)) (gmName 2)
  b__law_is_word_1)
  (sSeq (sRet (eOp eqD (eVar 0) (eCB tupleD (aCons (eVar 1) aNil))))
  sNop)))
def r__law_is_word : List L → FRes := runFn 3 d__law_is_word
-- _law_rules: 0=_law_kind
def d__law_rules : SM := (sSeq (sIf (tBl (eOp eqD (eVar 0) (eC (.str "bag"))))
  (sSeq (sRet (eTup (aCons (eC (.str "12=21")) aNil)))
  sNop)
  sNop)
  (sSeq (sIf (tBl (eOp eqD (eVar 0) (eC (.str "set"))))
  (sSeq (sRet (eTup (aCons (eC (.str "12=21")) (aCons (eC (.str "11=1")) aNil))))
  sNop)
  sNop)
  (sSeq (sIf (tBl (eOp eqD (eVar 0) (eC (.str "first"))))
  (sSeq (sRet (eTup (aCons (eC (.str "12=1")) aNil)))
  sNop)
  sNop)
  (sSeq (sIf (tBl (eOp eqD (eVar 0) (eC (.str "last"))))
  (sSeq (sRet (eTup (aCons (eC (.str "12=2")) aNil)))
  sNop)
  sNop)
  (sSeq (sIf (tBl (eOp eqD (eVar 0) (eC (.str "ends"))))
  (sSeq (sRet (eTup (aCons (eC (.str "11=1")) (aCons (eC (.str "123=13")) aNil))))
  sNop)
  sNop)
  (sSeq (sIf (tBl (eOp eqD (eVar 0) (eC (.str "heads"))))
  (sSeq (sRet (eTup (aCons (eC (.str "11=1")) (aCons (eC (.str "121=12")) aNil))))
  sNop)
  sNop)
  (sSeq (sIf (tBl (eOp eqD (eVar 0) (eC (.str "tails"))))
  (sSeq (sRet (eTup (aCons (eC (.str "11=1")) (aCons (eC (.str "121=21")) aNil))))
  sNop)
  sNop)
  (sSeq (sRet (eTup aNil))
  sNop))))))))
def r__law_rules : List L → FRes := runFn 1 d__law_rules
-- _law_sides: 0=_law_rule 1=_law_left 2=_law_right 3=_law_digit
def d__law_sides : SM := (sSeq (sAsg (gmLst 2 (gmCons (gmName 1) (gmCons (gmName 2) gmNil))) (eF (fSplit (eVar 0) (eC (.str "=")))))
  (sSeq (sRet (eTup (aCons (eCB tupleD (aCons (eF (fLc (mStr (eVar 1)) [3] (gmName 3) mYes (eCB intX (aCons (eVar 3) aNil)))) aNil)) (aCons (eCB tupleD (aCons (eF (fLc (mStr (eVar 2)) [3] (gmName 3) mYes (eCB intX (aCons (eVar 3) aNil)))) aNil)) aNil))))
  sNop))
def r__law_sides : List L → FRes := runFn 4 d__law_sides
-- _law_put: 0=_law_side 1=_law_words 2=_law_ahead 3=_law_behind 4=_law_put_here 5=_law_digit
def b__law_put_1 : SM := (sFg [5]
  (sSeq (sAsg (gmName 4) (eOp addD (eVar 4) (eOp ixD (eVar 1) (eOp subD (eVar 5) (eC (.int 1))))))
  sNop))
def d__law_put : SM := (sSeq (sAsg (gmName 4) (eVar 2))
  (sSeq (sFor (mSeq (eVar 0)) (gmName 5)
  b__law_put_1)
  (sSeq (sRet (eOp addD (eVar 4) (eVar 3)))
  sNop)))
def r__law_put : List L → FRes := runFn 6 d__law_put
-- _law_narrow: 0=_law_kind 1=_law_other 2=_law_pairs
def d__law_narrow : SM := (sSeq (sAsg (gmName 2) (eF (fLst (aCons (eTup (aCons (eC (.str "set")) (aCons (eC (.str "bag")) aNil))) (aCons (eTup (aCons (eC (.str "set")) (aCons (eC (.str "heads")) aNil))) (aCons (eTup (aCons (eC (.str "set")) (aCons (eC (.str "tails")) aNil))) (aCons (eTup (aCons (eC (.str "first")) (aCons (eC (.str "ends")) aNil))) (aCons (eTup (aCons (eC (.str "first")) (aCons (eC (.str "heads")) aNil))) aNil))))))))
  (sSeq (sRet (eOr (eOp eqD (eVar 0) (eVar 1)) (eOr (eOp eqD (eVar 1) (eC (.str "list"))) (eOp inY (eTup (aCons (eVar 0) (aCons (eVar 1) aNil))) (eOp addD (eVar 2) (eF (fLst (aCons (eTup (aCons (eC (.str "last")) (aCons (eC (.str "ends")) aNil))) (aCons (eTup (aCons (eC (.str "last")) (aCons (eC (.str "tails")) aNil))) aNil)))))))))
  sNop))
def r__law_narrow : List L → FRes := runFn 3 d__law_narrow
-- _law_class: 0=_law_kind
def d__law_class : SM := (sSeq (sIf (tBl (eOp eqD (eVar 0) (eC (.str "list"))))
  (sSeq (sRetF (fLst (aCons (eC (.str "list")) (aCons (eC (.tup [])) (aCons (eC (.bl false)) (aCons (eC (.bl false)) (aCons (eC (.bl false)) aNil)))))))
  sNop)
  sNop)
  (sSeq (sIf (tBl (eOp eqD (eVar 0) (eC (.str "bag"))))
  (sSeq (sRetF (fLst (aCons (eC (.str "bag")) (aCons (eC (.tup [(.str "12=21")])) (aCons (eC (.bl false)) (aCons (eC (.bl true)) (aCons (eC (.bl false)) aNil)))))))
  sNop)
  sNop)
  (sSeq (sIf (tBl (eOp eqD (eVar 0) (eC (.str "set"))))
  (sSeq (sRetF (fLst (aCons (eC (.str "set")) (aCons (eC (.tup [(.str "12=21"), (.str "11=1")])) (aCons (eC (.bl true)) (aCons (eC (.bl true)) (aCons (eC (.bl false)) aNil)))))))
  sNop)
  sNop)
  (sSeq (sIf (tBl (eOp eqD (eVar 0) (eC (.str "first"))))
  (sSeq (sRetF (fLst (aCons (eC (.str "first")) (aCons (eC (.tup [(.str "12=1")])) (aCons (eC (.bl true)) (aCons (eC (.bl false)) (aCons (eC (.bl true)) aNil)))))))
  sNop)
  sNop)
  (sSeq (sIf (tBl (eOp eqD (eVar 0) (eC (.str "last"))))
  (sSeq (sRetF (fLst (aCons (eC (.str "last")) (aCons (eC (.tup [(.str "12=2")])) (aCons (eC (.bl true)) (aCons (eC (.bl false)) (aCons (eC (.bl true)) aNil)))))))
  sNop)
  sNop)
  (sSeq (sIf (tBl (eOp eqD (eVar 0) (eC (.str "ends"))))
  (sSeq (sRetF (fLst (aCons (eC (.str "ends")) (aCons (eC (.tup [(.str "11=1"), (.str "123=13")])) (aCons (eC (.bl true)) (aCons (eC (.bl false)) (aCons (eC (.bl true)) aNil)))))))
  sNop)
  sNop)
  (sSeq (sIf (tBl (eOp eqD (eVar 0) (eC (.str "heads"))))
  (sSeq (sRetF (fLst (aCons (eC (.str "heads")) (aCons (eC (.tup [(.str "11=1"), (.str "121=12")])) (aCons (eC (.bl true)) (aCons (eC (.bl false)) (aCons (eC (.bl false)) aNil)))))))
  sNop)
  sNop)
  (sSeq (sRetF (fLst (aCons (eC (.str "tails")) (aCons (eC (.tup [(.str "11=1"), (.str "121=21")])) (aCons (eC (.bl true)) (aCons (eC (.bl false)) (aCons (eC (.bl false)) aNil)))))))
  sNop))))))))
def r__law_class : List L → FRes := runFn 1 d__law_class
-- _law_family: 0=_law_kind 1=_law_merging 2=_law_told 3=_law_due
def d__law_family : SM := (sSeq (sAsg (gmName 2) (eF (fLst (aCons (eIsI itb_Kind (eVar 1)) (aCons (eIsI itb_BagKind (eVar 1)) (aCons (eIsI itb_SetKind (eVar 1)) aNil))))))
  (sSeq (sAsg (gmName 2) (eOp addD (eVar 2) (eF (fLst (aCons (eIsI itb_HeadsKind (eVar 1)) (aCons (eIsI itb_FirstKind (eVar 1)) (aCons (eIsI itb_TailsKind (eVar 1)) aNil)))))))
  (sSeq (sAsg (gmName 2) (eOp addD (eVar 2) (eF (fLst (aCons (eIsI itb_LastKind (eVar 1)) (aCons (eIsI itb_EndsKind (eVar 1)) aNil))))))
  (sSeq (sAsg (gmName 3) (eF (fLst (aCons (eC (.bl true)) (aCons (eOp inD (eVar 0) (eF (fLst (aCons (eC (.str "bag")) (aCons (eC (.str "set")) aNil))))) (aCons (eOp eqD (eVar 0) (eC (.str "set"))) (aCons (eOp inD (eVar 0) (eF (fLst (aCons (eC (.str "heads")) (aCons (eC (.str "first")) aNil))))) (aCons (eOp eqD (eVar 0) (eC (.str "first"))) aNil))))))))
  (sSeq (sRet (eOp eqD (eVar 2) (eOp addD (eVar 3) (eF (fLst (aCons (eOp inD (eVar 0) (eF (fLst (aCons (eC (.str "tails")) (aCons (eC (.str "last")) aNil))))) (aCons (eOp eqD (eVar 0) (eC (.str "last"))) (aCons (eOp eqD (eVar 0) (eC (.str "ends"))) aNil))))))))
  sNop)))))
def r__law_family : List L → FRes := runFn 4 d__law_family
-- _law_made: 0=_law_kind
def d__law_made : SM := (sSeq (sIf (tBl (eOp eqD (eVar 0) (eC (.str "bag"))))
  (sSeq (sRet (eMkO "BagKind"))
  sNop)
  sNop)
  (sSeq (sIf (tBl (eOp eqD (eVar 0) (eC (.str "set"))))
  (sSeq (sRet (eMkO "SetKind"))
  sNop)
  sNop)
  (sSeq (sIf (tBl (eOp eqD (eVar 0) (eC (.str "first"))))
  (sSeq (sRet (eMkO "FirstKind"))
  sNop)
  sNop)
  (sSeq (sIf (tBl (eOp eqD (eVar 0) (eC (.str "last"))))
  (sSeq (sRet (eMkO "LastKind"))
  sNop)
  sNop)
  (sSeq (sIf (tBl (eOp eqD (eVar 0) (eC (.str "ends"))))
  (sSeq (sRet (eMkO "EndsKind"))
  sNop)
  sNop)
  (sSeq (sIf (tBl (eOp eqD (eVar 0) (eC (.str "heads"))))
  (sSeq (sRet (eMkO "HeadsKind"))
  sNop)
  sNop)
  (sSeq (sIf (tBl (eOp eqD (eVar 0) (eC (.str "tails"))))
  (sSeq (sRet (eMkO "TailsKind"))
  sNop)
  sNop)
  (sSeq (sRet (eMkO "Kind"))
  sNop))))))))
def r__law_made : List L → FRes := runFn 1 d__law_made
-- _law_flag: 0=_law_told 1=_law_due
def d__law_flag : SM := (sSeq (sIf (mTru (eVar 1))
  (sSeq (sRet (eOp isD (eVar 0) (eC (.bl true))))
  sNop)
  sNop)
  (sSeq (sRet (eOp isD (eVar 0) (eC (.bl false))))
  sNop))
def r__law_flag : List L → FRes := runFn 2 d__law_flag
-- _law_repeated: 0=_law_word_here 1=_law_place
def b__law_repeated_1 : SM := (sFg [1]
  (sSeq (sIf (tBl (eOp inD (eOp ixD (eVar 0) (eVar 1)) (eSl slD (eVar 0) oNone (oSome (eVar 1)))))
  (sSeq (sRet (eOp ixD (eVar 0) (eVar 1)))
  sNop)
  sNop)
  sNop))
def d__law_repeated : SM := (sSeq (sFor (mRng1 (aCons (eCB lenD (aCons (eVar 0) aNil)) aNil)) (gmName 1)
  b__law_repeated_1)
  (sSeq (sRet (eC .non))
  sNop))
def r__law_repeated : List L → FRes := runFn 2 d__law_repeated
-- BagKind_plain: 0=self 1=word 2=__class__
def d_BagKind_plain : SM := (sSeq (sRet (eCB tupleD (aCons (eF (fCB sortF (aCons (eSup 0 ["BagKind", "SetKind"] 2 r_Kind_plain (aCons (eVar 1) aNil)) aNil))) aNil)))
  sNop)
def r_BagKind_plain : List L → FRes := runFn 3 d_BagKind_plain
-- HeadsKind_plain: 0=self 1=word 2=__class__ 3=kept 4=letter
def b_HeadsKind_plain_1 : SM := (sFg [4]
  (sSeq (sSetK 3 (eVar 4) (eC (.bl true)))
  sNop))
def d_HeadsKind_plain : SM := (sSeq (sAsgM 3 fDct)
  (sSeq (sFor (mSeq (eSup 0 ["HeadsKind", "FirstKind"] 2 r_Kind_plain (aCons (eVar 1) aNil))) (gmName 4)
  b_HeadsKind_plain_1)
  (sSeq (sRet (eCB tupleD (aCons (eF (fCB listX (aCons (eVar 3) aNil))) aNil)))
  sNop)))
def r_HeadsKind_plain : List L → FRes := runFn 5 d_HeadsKind_plain
-- TailsKind_plain: 0=self 1=word 2=__class__ 3=kept 4=letter
def b_TailsKind_plain_1 : SM := (sFg [4]
  (sSeq (sSetK 3 (eVar 4) (eC (.bl true)))
  sNop))
def d_TailsKind_plain : SM := (sSeq (sAsgM 3 fDct)
  (sSeq (sFor (mSeq (eRev (eSup 0 ["TailsKind", "LastKind"] 2 r_Kind_plain (aCons (eVar 1) aNil)) (oSome (eUn negD (eC (.int 1)))))) (gmName 4)
  b_TailsKind_plain_1)
  (sSeq (sRet (eCB tupleD (aCons (eRev (eF (fCB listX (aCons (eVar 3) aNil))) (oSome (eUn negD (eC (.int 1))))) aNil)))
  sNop)))
def r_TailsKind_plain : List L → FRes := runFn 5 d_TailsKind_plain
-- EndsKind_plain: 0=self 1=word 2=__class__ 3=whole
def d_EndsKind_plain : SM := (sSeq (sAsg (gmName 3) (eSup 0 ["EndsKind"] 2 r_Kind_plain (aCons (eVar 1) aNil)))
  (sSeq (sRet (eOp addD (eSl slD (eVar 3) oNone (oSome (eC (.int 1)))) (eSl slD (eVar 3) (oSome (eUn negD (eC (.int 1)))) oNone)))
  sNop))
def r_EndsKind_plain : List L → FRes := runFn 4 d_EndsKind_plain
-- _law_letters: 0=_law_stream_here 1=_law_many 2=_law_letters_here 3=_law_letter 4=_law_form 5=_law_turn
def b__law_letters_1 : SM := (sFg [5]
  (sSeq (sIf (tBl (eOp eqD (eVar 4) (eC (.int 2))))
  (sSeq (sAsg (gmName 3) (eOp addD (eVar 3) (eCall 2 r__law_draw (aCons (eVar 0) (aCons (eC (.int 30)) aNil)))))
  sNop)
  sNop)
  (sSeq (sIf (tBl (eOp eqD (eVar 4) (eC (.int 3))))
  (sSeq (sAsg (gmName 3) (eOp addD (eVar 3) (eOp mulD (eCall 2 r__law_draw (aCons (eVar 0) (aCons (eC (.int 1000)) aNil))) (eOp powD (eC (.int 10)) (eC (.int 50))))))
  sNop)
  sNop)
  (sSeq (sDrop (eApp 2 (eVar 3)))
  (sSeq (sAsg (gmName 3) (eOp addD (eVar 3) (eC (.int 1))))
  sNop)))))
def d__law_letters : SM := (sSeq (sAsgM 2 (fLst aNil))
  (sSeq (sAsg (gmName 3) (eC (.int 0)))
  (sSeq (sAsg (gmName 4) (eCall 2 r__law_draw (aCons (eVar 0) (aCons (eC (.int 4)) aNil))))
  (sSeq (sFor (mRng1 (aCons (eVar 1) aNil)) (gmName 5)
  b__law_letters_1)
  (sSeq (sRet (eVar 2))
  sNop)))))
def r__law_letters : List L → FRes := runFn 6 d__law_letters
-- _law_word: 0=_law_stream_here 1=_law_size 2=_law_letters_here 3=_law_turn
def d__law_word : SM := (sSeq (sRet (eCB tupleD (aCons (eF (fLc (mRng1 (aCons (eVar 1) aNil)) [3] (gmName 3) mYes (eOp ixD (eVar 2) (eCall 2 r__law_draw (aCons (eVar 0) (aCons (eCB lenD (aCons (eVar 2) aNil)) aNil)))))) aNil)))
  sNop)
def r__law_word : List L → FRes := runFn 4 d__law_word
-- _law_broken: 0=_law_kind 1=_law_other 2=_law_rule 3=_law_left 4=_law_right
def b__law_broken_1 : SM := (sFg [2, 3, 4]
  (sSeq (sAsg (gmTup 2 (gmCons (gmName 3) (gmCons (gmName 4) gmNil))) (eCall 1 r__law_sides (aCons (eVar 2) aNil)))
  (sSeq (sIf (tBl (eOp neD (eCall 2 r__law_plain (aCons (eVar 0) (aCons (eVar 3) aNil))) (eCall 2 r__law_plain (aCons (eVar 0) (aCons (eVar 4) aNil)))))
  (sSeq (sRet (eVar 2))
  sNop)
  sNop)
  sNop)))
def d__law_broken : SM := (sSeq (sFor (mSeq (eCall 1 r__law_rules (aCons (eVar 1) aNil))) (gmName 2)
  b__law_broken_1)
  (sSeq (sRet (eC .non))
  sNop))
def r__law_broken : List L → FRes := runFn 5 d__law_broken
-- _law_is_sides: 0=_law_told 1=_law_due
def d__law_is_sides : SM := (sSeq (sIf (mOr (mNot (mTru (eIsT "tuple" (eVar 0)))) (tBl (eOp neD (eCB lenD (aCons (eVar 0) aNil)) (eC (.int 2)))))
  (sSeq (sRet (eC (.bl false)))
  sNop)
  sNop)
  (sSeq (sRet (eAnd (eCall 2 r__law_is_word (aCons (eOp ixD (eVar 0) (eC (.int 0))) (aCons (eOp ixD (eVar 1) (eC (.int 0))) aNil))) (eCall 2 r__law_is_word (aCons (eOp ixD (eVar 0) (eC (.int 1))) (aCons (eOp ixD (eVar 1) (eC (.int 1))) aNil)))))
  sNop))
def r__law_is_sides : List L → FRes := runFn 2 d__law_is_sides
-- SetKind_plain: 0=self 1=word 2=__class__ 3=kept 4=letter
def b_SetKind_plain_1 : SM := (sFg [4]
  (sSeq (sIf (mOr (mNot (mTru (eVar 3))) (tBl (eOp neD (eOp ixD (eVar 3) (eUn negD (eC (.int 1)))) (eVar 4))))
  (sSeq (sDrop (eApp 3 (eVar 4)))
  sNop)
  sNop)
  sNop))
def d_SetKind_plain : SM := (sSeq (sAsgM 3 (fLst aNil))
  (sSeq (sFor (mSeq (eSup 0 ["SetKind"] 2 r_BagKind_plain (aCons (eVar 1) aNil))) (gmName 4)
  b_SetKind_plain_1)
  (sSeq (sRet (eCB tupleD (aCons (eVar 3) aNil)))
  sNop)))
def r_SetKind_plain : List L → FRes := runFn 5 d_SetKind_plain
-- FirstKind_plain: 0=self 1=word 2=__class__
def d_FirstKind_plain : SM := (sSeq (sRet (eSl slD (eSup 0 ["FirstKind"] 2 r_HeadsKind_plain (aCons (eVar 1) aNil)) oNone (oSome (eC (.int 1)))))
  sNop)
def r_FirstKind_plain : List L → FRes := runFn 3 d_FirstKind_plain
-- LastKind_plain: 0=self 1=word 2=__class__
def d_LastKind_plain : SM := (sSeq (sRet (eSl slD (eSup 0 ["LastKind"] 2 r_TailsKind_plain (aCons (eVar 1) aNil)) (oSome (eUn negD (eC (.int 1)))) oNone))
  sNop)
def r_LastKind_plain : List L → FRes := runFn 3 d_LastKind_plain
def tb_plain : MTb := [("Kind", r_Kind_plain), ("BagKind", r_BagKind_plain), ("SetKind", r_SetKind_plain), ("HeadsKind", r_HeadsKind_plain), ("FirstKind", r_FirstKind_plain), ("TailsKind", r_TailsKind_plain), ("LastKind", r_LastKind_plain), ("EndsKind", r_EndsKind_plain)]
-- Kind_merged: 0=self 1=left 2=right
def d_Kind_merged : SM := (sSeq (sRet (eMeth tb_plain "plain" 2 (eVar 0) (aCons (eOp addD (eCB tupleD (aCons (eVar 1) aNil)) (eCB tupleD (aCons (eVar 2) aNil))) aNil)))
  sNop)
def r_Kind_merged : List L → FRes := runFn 3 d_Kind_merged
-- plain_value: 0=kind 1=word
def d_plain_value : SM := (sSeq (sRet (eMeth tb_plain "plain" 2 (eCall 1 r_kind_named (aCons (eVar 0) aNil)) (aCons (eVar 1) aNil)))
  sNop)
def r_plain_value : List L → FRes := runFn 2 d_plain_value
-- alike: 0=kind 1=left 2=right 3=merging
def d_alike : SM := (sSeq (sAsg (gmName 3) (eCall 1 r_kind_named (aCons (eVar 0) aNil)))
  (sSeq (sRet (eOp eqD (eMeth tb_plain "plain" 2 (eVar 3) (aCons (eVar 1) aNil)) (eMeth tb_plain "plain" 2 (eVar 3) (aCons (eVar 2) aNil))))
  sNop))
def r_alike : List L → FRes := runFn 4 d_alike
-- broken_rule: 0=kind 1=other 2=merging 3=wide 4=rule 5=left 6=right
def b_broken_rule_1 : SM := (sFg [4, 5, 6]
  (sSeq (sAsg (gmTup 2 (gmCons (gmName 5) (gmCons (gmName 6) gmNil))) (eCall 1 r_rule_words (aCons (eVar 4) aNil)))
  (sSeq (sIf (tBl (eOp neD (eMeth tb_plain "plain" 2 (eVar 2) (aCons (eVar 5) aNil)) (eMeth tb_plain "plain" 2 (eVar 2) (aCons (eVar 6) aNil))))
  (sSeq (sRet (eVar 4))
  sNop)
  sNop)
  sNop)))
def d_broken_rule : SM := (sSeq (sAsg (gmName 2) (eCall 1 r_kind_named (aCons (eVar 0) aNil)))
  (sSeq (sAsg (gmName 3) (eCall 1 r_kind_named (aCons (eVar 1) aNil)))
  (sSeq (sFor (mSeq (eCon ctb_RULES "RULES" (eVar 3))) (gmName 4)
  b_broken_rule_1)
  (sSeq (sRet (eC .non))
  sNop))))
def r_broken_rule : List L → FRes := runFn 7 d_broken_rule
-- under: 0=kind 1=other
def d_under : SM := (sSeq (sRet (eOp isD (eCall 2 r_broken_rule (aCons (eVar 0) (aCons (eVar 1) aNil))) (eC .non)))
  sNop)
def r_under : List L → FRes := runFn 2 d_under
def tb_merged : MTb := [("Kind", r_Kind_merged), ("BagKind", r_Kind_merged), ("SetKind", r_Kind_merged), ("HeadsKind", r_Kind_merged), ("FirstKind", r_Kind_merged), ("TailsKind", r_Kind_merged), ("LastKind", r_Kind_merged), ("EndsKind", r_Kind_merged)]
-- _law_names: 0=_law_kind 1=_law_twice 2=_law_ahead 3=_law_made_here 4=_law_merging 5=_law_flags 6=_law_due 7=_law_told
def b__law_names_1 : SM := (sFg [7]
  (sSeq (sIf (mNot (mTru (eIsT "bool" (eVar 7))))
  (sSeq (sRet (eC (.bl false)))
  sNop)
  sNop)
  sNop))
def d__law_names : SM := (sSeq (sAsg (gmName 3) (eCall 1 r__law_made (aCons (eVar 0) aNil)))
  (sSeq (sIf (mOr (mNot (mTru (eCall 2 r__law_family (aCons (eVar 0) (aCons (eVar 3) aNil))))) (mNot (mTru (eCall 2 r__law_is_word (aCons (eMeth tb_plain "plain" 2 (eVar 3) (aCons (eVar 1) aNil)) (aCons (eCall 2 r__law_plain (aCons (eVar 0) (aCons (eVar 1) aNil))) aNil))))))
  (sSeq (sRet (eC (.bl false)))
  sNop)
  sNop)
  (sSeq (sIf (mNot (mTru (eCall 2 r__law_is_word (aCons (eMeth tb_merged "merged" 3 (eVar 3) (aCons (eVar 2) (aCons (eF (fCB listF (aCons (eVar 1) aNil))) aNil))) (aCons (eCall 2 r__law_plain (aCons (eVar 0) (aCons (eOp addD (eVar 2) (eVar 1)) aNil))) aNil)))))
  (sSeq (sRet (eC (.bl false)))
  sNop)
  sNop)
  (sSeq (sAsg (gmName 4) (eCall 1 r_kind_named (aCons (eVar 0) aNil)))
  (sSeq (sAsg (gmName 5) (eF (fLst (aCons (eOp ninD (eVar 0) (eF (fLst (aCons (eC (.str "list")) (aCons (eC (.str "bag")) aNil))))) (aCons (eOp inD (eVar 0) (eF (fLst (aCons (eC (.str "bag")) (aCons (eC (.str "set")) aNil))))) (aCons (eOp inD (eVar 0) (eF (fLst (aCons (eC (.str "first")) (aCons (eC (.str "last")) (aCons (eC (.str "ends")) aNil)))))) aNil))))))
  (sSeq (sAsg (gmName 6) (eOp addD (eF (fLst (aCons (eVar 0) (aCons (eCall 1 r__law_rules (aCons (eVar 0) aNil)) aNil)))) (eVar 5)))
  (sSeq (sIf (mOr (tBl (eOp neD (eCall 1 r__law_class (aCons (eVar 0) aNil)) (eVar 6))) (mNot (mTru (eCall 2 r__law_family (aCons (eVar 0) (aCons (eVar 4) aNil))))))
  (sSeq (sRet (eC (.bl false)))
  sNop)
  sNop)
  (sSeq (sIf (tBl (eOp neD (eF (fLst (aCons (eCon ctb_NAME "NAME" (eVar 4)) (aCons (eCon ctb_RULES "RULES" (eVar 4)) (aCons (eCon ctb_IDEMPOTENT "IDEMPOTENT" (eVar 4)) (aCons (eCon ctb_ORDERLESS "ORDERLESS" (eVar 4)) (aCons (eCon ctb_OUTER "OUTER" (eVar 4)) aNil))))))) (eVar 6)))
  (sSeq (sRet (eC (.bl false)))
  sNop)
  sNop)
  (sSeq (sFor (mSeq (eF (fLst (aCons (eCon ctb_IDEMPOTENT "IDEMPOTENT" (eVar 4)) (aCons (eCon ctb_ORDERLESS "ORDERLESS" (eVar 4)) (aCons (eCon ctb_OUTER "OUTER" (eVar 4)) aNil)))))) (gmName 7)
  b__law_names_1)
  (sSeq (sIf (mOr (mNot (mTru (eIsT "tuple" (eCon ctb_RULES "RULES" (eVar 4))))) (tBl (eOp neD (eCall 3 r_alike (aCons (eVar 0) (aCons (eOp addD (eVar 1) (eVar 1)) (aCons (eVar 1) aNil)))) (eCon ctb_IDEMPOTENT "IDEMPOTENT" (eVar 4)))))
  (sSeq (sRet (eC (.bl false)))
  sNop)
  sNop)
  (sSeq (sRet (eOr (eNot (eCon ctb_ORDERLESS "ORDERLESS" (eVar 4))) (eOp isD (eCall 3 r_alike (aCons (eVar 0) (aCons (eOp addD (eVar 1) (eVar 2)) (aCons (eOp addD (eVar 2) (eVar 1)) aNil)))) (eC (.bl true)))))
  sNop)))))))))))
def r__law_names : List L → FRes := runFn 8 d__law_names
-- _law_pair: 0=_law_kind 1=_law_other 2=_law_words 3=_law_ahead 4=_law_behind 5=_law_word_here 6=_law_due 7=_law_narrow_here 8=_law_told 9=_law_rule 10=_law_one 11=_law_two 12=_law_left 13=_law_right
def b__law_pair_1 : SM := (sFg [9, 10, 11, 12, 13]
  (sSeq (sAsg (gmTup 2 (gmCons (gmName 12) (gmCons (gmName 13) gmNil))) (eCall 1 r__law_sides (aCons (eVar 9) aNil)))
  (sSeq (sAsg (gmName 10) (eCall 4 r__law_put (aCons (eVar 12) (aCons (eVar 2) (aCons (eVar 3) (aCons (eVar 4) aNil))))))
  (sSeq (sAsg (gmName 11) (eCall 4 r__law_put (aCons (eVar 13) (aCons (eVar 2) (aCons (eVar 3) (aCons (eVar 4) aNil))))))
  (sSeq (sIf (mOr (mNot (mTru (eCall 2 r__law_is_sides (aCons (eCall 1 r_rule_words (aCons (eVar 9) aNil)) (aCons (eTup (aCons (eVar 12) (aCons (eVar 13) aNil))) aNil))))) (tBl (eOp isnD (eCall 3 r_alike (aCons (eVar 1) (aCons (eVar 10) (aCons (eVar 11) aNil)))) (eC (.bl true)))))
  (sSeq (sRet (eC (.bl false)))
  sNop)
  sNop)
  (sSeq (sIf (mAnd (mTru (eVar 7)) (tBl (eOp isnD (eCall 3 r_alike (aCons (eVar 0) (aCons (eVar 10) (aCons (eVar 11) aNil)))) (eC (.bl true)))))
  (sSeq (sRet (eC (.bl false)))
  sNop)
  sNop)
  sNop))))))
def d__law_pair : SM := (sSeq (sAsg (gmName 6) (eCall 2 r__law_broken (aCons (eVar 0) (aCons (eVar 1) aNil))))
  (sSeq (sAsg (gmName 7) (eCall 2 r__law_narrow (aCons (eVar 0) (aCons (eVar 1) aNil))))
  (sSeq (sAsg (gmName 8) (eCall 2 r_broken_rule (aCons (eVar 0) (aCons (eVar 1) aNil))))
  (sSeq (sIf (mNot (mTru (eCall 2 r__law_flag (aCons (eCall 2 r_under (aCons (eVar 0) (aCons (eVar 1) aNil))) (aCons (eVar 7) aNil)))))
  (sSeq (sRet (eC (.bl false)))
  sNop)
  sNop)
  (sSeq (sFor (mSeq (eCall 1 r__law_rules (aCons (eVar 1) aNil))) (gmName 9)
  b__law_pair_1)
  (sSeq (sIf (mTru (eVar 7))
  (sSeq (sRet (eAnd (eOp isD (eVar 8) (eC .non)) (eAnd (eOp isD (eVar 6) (eC .non)) (eCall 2 r__law_is_word (aCons (eCall 2 r_plain_value (aCons (eVar 0) (aCons (eCall 2 r_plain_value (aCons (eVar 1) (aCons (eVar 5) aNil))) aNil))) (aCons (eCall 2 r__law_plain (aCons (eVar 0) (aCons (eVar 5) aNil))) aNil))))))
  sNop)
  sNop)
  (sSeq (sIf (mOr (mNot (mTru (eIsT "str" (eVar 8)))) (tBl (eOp neD (eVar 8) (eVar 6))))
  (sSeq (sRet (eC (.bl false)))
  sNop)
  sNop)
  (sSeq (sAsg (gmTup 2 (gmCons (gmName 12) (gmCons (gmName 13) gmNil))) (eCall 1 r_rule_words (aCons (eVar 8) aNil)))
  (sSeq (sRet (eAnd (eOp isD (eCall 3 r_alike (aCons (eVar 1) (aCons (eVar 12) (aCons (eVar 13) aNil)))) (eC (.bl true))) (eOp isD (eCall 3 r_alike (aCons (eVar 0) (aCons (eVar 12) (aCons (eVar 13) aNil)))) (eC (.bl false)))))
  sNop)))))))))
def r__law_pair : List L → FRes := runFn 14 d__law_pair
-- _law_odd: 0=_law_pick 1=_law_odd_here 2=_law_kind 3=e 4=_law_told
def d__law_odd : SM := (sSeq (sAsg (gmName 4) (eC .non))
  (sSeq (sTry (exOne "BadKind") 3
  (sSeq (sIf (tBl (eOp eqD (eVar 0) (eC (.int 0))))
  (sSeq (sDrop (eCall 2 r_broken_rule (aCons (eVar 1) (aCons (eC (.str "tail")) aNil))))
  sNop)
  (sSeq (sIf (tBl (eOp eqD (eVar 0) (eC (.int 1))))
  (sSeq (sDrop (eCall 2 r_broken_rule (aCons (eVar 2) (aCons (eVar 1) aNil))))
  sNop)
  (sSeq (sIf (tBl (eOp eqD (eVar 0) (eC (.int 2))))
  (sSeq (sDrop (eCall 2 r_under (aCons (eVar 1) (aCons (eC (.str "tail")) aNil))))
  sNop)
  (sSeq (sDrop (eCall 2 r_under (aCons (eVar 2) (aCons (eVar 1) aNil))))
  sNop))
  sNop))
  sNop))
  sNop)
  fun ex => (sSeq (sAsg (gmName 4) (eF (fLst (aCons (eXf ex "BadKind" "name" 3) (aCons (eIsX ex "BadKind" true 3) (aCons (eIsX ex "BadKind" true 3) (aCons (eIsX ex "BadKind" false 3) aNil)))))))
  sNop))
  (sSeq (sRet (eOp eqD (eVar 4) (eF (fLst (aCons (eVar 1) (aCons (eC (.bl true)) (aCons (eC (.bl true)) (aCons (eC (.bl false)) aNil))))))))
  sNop)))
def r__law_odd : List L → FRes := runFn 5 d__law_odd
-- law: 0=_law_script 1=_law_stream_here 2=_law_letters_here 3=_law_words 4=_law_digit 5=_law_ahead 6=_law_behind 7=_law_word_here 8=_law_kinds 9=_law_pick 10=_law_odd_here 11=_law_whole 12=_law_kind 13=_law_other
def b_law_1 : SM := (sFg [13]
  (sSeq (sIf (mNot (mTru (eCall 6 r__law_pair (aCons (eVar 12) (aCons (eVar 13) (aCons (eVar 3) (aCons (eVar 5) (aCons (eVar 6) (aCons (eVar 7) aNil)))))))))
  (sSeq (sRet (eC (.bl false)))
  sNop)
  sNop)
  sNop))
def b_law_2 : SM := (sFg [12]
  (sSeq (sIf (mNot (mTru (eCall 3 r__law_names (aCons (eVar 12) (aCons (eOp addD (eOp ixD (eVar 3) (eC (.int 0))) (eVar 7)) (aCons (eVar 5) aNil))))))
  (sSeq (sRet (eC (.bl false)))
  sNop)
  sNop)
  (sSeq (sFor (mSeq (eVar 8)) (gmName 13)
  b_law_1)
  sNop)))
def d_law : SM := (sSeq (sAsgM 1 (fCall 1 r__law_stream (aCons (eVar 0) aNil)))
  (sSeq (sAsg (gmName 2) (eCall 2 r__law_letters (aCons (eVar 1) (aCons (eOp addD (eC (.int 1)) (eCall 2 r__law_draw (aCons (eVar 1) (aCons (eC (.int 4)) aNil)))) aNil))))
  (sSeq (sAsg (gmName 3) (eF (fLc (mRng1 (aCons (eC (.int 3)) aNil)) [4] (gmName 4) mYes (eCall 3 r__law_word (aCons (eVar 1) (aCons (eOp addD (eC (.int 1)) (eCall 2 r__law_draw (aCons (eVar 1) (aCons (eC (.int 3)) aNil)))) (aCons (eVar 2) aNil)))))))
  (sSeq (sAsg (gmName 5) (eCall 3 r__law_word (aCons (eVar 1) (aCons (eCall 2 r__law_draw (aCons (eVar 1) (aCons (eC (.int 4)) aNil))) (aCons (eVar 2) aNil)))))
  (sSeq (sAsg (gmName 6) (eCall 3 r__law_word (aCons (eVar 1) (aCons (eCall 2 r__law_draw (aCons (eVar 1) (aCons (eC (.int 4)) aNil))) (aCons (eVar 2) aNil)))))
  (sSeq (sAsg (gmName 7) (eCall 3 r__law_word (aCons (eVar 1) (aCons (eCall 2 r__law_draw (aCons (eVar 1) (aCons (eC (.int 13)) aNil))) (aCons (eVar 2) aNil)))))
  (sSeq (sAsg (gmName 8) (eF (fLst (aCons (eC (.str "list")) (aCons (eC (.str "bag")) (aCons (eC (.str "set")) (aCons (eC (.str "first")) (aCons (eC (.str "last")) (aCons (eC (.str "ends")) (aCons (eC (.str "heads")) (aCons (eC (.str "tails")) aNil)))))))))))
  (sSeq (sAsg (gmName 9) (eCall 2 r__law_draw (aCons (eVar 1) (aCons (eC (.int 4)) aNil))))
  (sSeq (sAsg (gmName 10) (eOp ixD (eF (fLst (aCons (eC (.str "Heads")) (aCons (eC (.str "")) (aCons (eC .non) (aCons (eC (.int 3)) (aCons (eTup (aCons (eC (.str "set")) aNil)) (aCons (eC (.str "first ")) (aCons (eF (fLst (aCons (eC (.str "set")) aNil))) aNil))))))))) (eCall 2 r__law_draw (aCons (eVar 1) (aCons (eC (.int 7)) aNil)))))
  (sSeq (sAsg (gmName 11) (eTup (aCons (eC (.str "list")) (aCons (eC (.str "bag")) (aCons (eC (.str "set")) (aCons (eC (.str "heads")) (aCons (eC (.str "tails")) aNil)))))))
  (sSeq (sIf (mOr (tBl (eOp neD (eC (.tup [(.str "list"), (.str "bag"), (.str "set"), (.str "first"), (.str "last"), (.str "ends"), (.str "heads"), (.str "tails")])) (eCB tupleD (aCons (eVar 8) aNil)))) (mOr (tBl (eOp neD (eC (.tup [(.str "list"), (.str "bag"), (.str "set"), (.str "heads"), (.str "tails")])) (eVar 11))) (tBl (eOp neD (eCall 1 r_repeated_letter (aCons (eVar 7) aNil)) (eCall 1 r__law_repeated (aCons (eVar 7) aNil))))))
  (sSeq (sRet (eC (.bl false)))
  sNop)
  sNop)
  (sSeq (sIf (tBl (eOp neD (eCall 1 r_repeated_letter (aCons (eF (fCB listF (aCons (eVar 7) aNil))) aNil)) (eCall 1 r__law_repeated (aCons (eVar 7) aNil))))
  (sSeq (sRet (eC (.bl false)))
  sNop)
  sNop)
  (sSeq (sFor (mSeq (eVar 8)) (gmName 12)
  b_law_2)
  (sSeq (sRet (eCall 3 r__law_odd (aCons (eVar 9) (aCons (eVar 10) (aCons (eOp ixD (eVar 8) (eCall 2 r__law_draw (aCons (eVar 1) (aCons (eC (.int 8)) aNil)))) aNil)))))
  sNop))))))))))))))
def r_law : List L → FRes := runFn 14 d_law
end Law
set_option Elab.async false
set_option linter.all false
set_option maxRecDepth 100000
set_option maxHeartbeats 4000000
namespace Law
open PySem PySem.Spec PyProof.Rows L2 DL
structure Txt (P : Program) (K : PySem.W.Frag) (mg : Str → Option Value) : Prop where
  b_ValueError : mg "ValueError" = none
  b_abs : mg "abs" = none
  b_bool : mg "bool" = none
  b_int : mg "int" = none
  b_isinstance : mg "isinstance" = none
  b_len : mg "len" = none
  b_list : mg "list" = none
  b_min : mg "min" = none
  b_range : mg "range" = none
  b_set : mg "set" = none
  b_sorted : mg "sorted" = none
  b_str : mg "str" = none
  b_super : mg "super" = none
  b_tuple : mg "tuple" = none
  e_BadKind : ErrF P K mg "BadKind" "name"
  g_kind_named : mg "kind_named" = some (.ref (cA K "kind_named"))
  g_rule_words : mg "rule_words" = some (.ref (cA K "rule_words"))
  g_repeated_letter : mg "repeated_letter" = some (.ref (cA K "repeated_letter"))
  g__law_stream : mg "_law_stream" = some (.ref (cA K "_law_stream"))
  g__law_draw : mg "_law_draw" = some (.ref (cA K "_law_draw"))
  g__law_plain : mg "_law_plain" = some (.ref (cA K "_law_plain"))
  g__law_is_word : mg "_law_is_word" = some (.ref (cA K "_law_is_word"))
  g__law_rules : mg "_law_rules" = some (.ref (cA K "_law_rules"))
  g__law_sides : mg "_law_sides" = some (.ref (cA K "_law_sides"))
  g__law_put : mg "_law_put" = some (.ref (cA K "_law_put"))
  g__law_narrow : mg "_law_narrow" = some (.ref (cA K "_law_narrow"))
  g__law_class : mg "_law_class" = some (.ref (cA K "_law_class"))
  g__law_family : mg "_law_family" = some (.ref (cA K "_law_family"))
  g__law_made : mg "_law_made" = some (.ref (cA K "_law_made"))
  g__law_flag : mg "_law_flag" = some (.ref (cA K "_law_flag"))
  g__law_repeated : mg "_law_repeated" = some (.ref (cA K "_law_repeated"))
  g__law_letters : mg "_law_letters" = some (.ref (cA K "_law_letters"))
  g__law_word : mg "_law_word" = some (.ref (cA K "_law_word"))
  g__law_broken : mg "_law_broken" = some (.ref (cA K "_law_broken"))
  g__law_is_sides : mg "_law_is_sides" = some (.ref (cA K "_law_is_sides"))
  g_plain_value : mg "plain_value" = some (.ref (cA K "plain_value"))
  g_alike : mg "alike" = some (.ref (cA K "alike"))
  g_broken_rule : mg "broken_rule" = some (.ref (cA K "broken_rule"))
  g_under : mg "under" = some (.ref (cA K "under"))
  g__law_names : mg "_law_names" = some (.ref (cA K "_law_names"))
  g__law_pair : mg "_law_pair" = some (.ref (cA K "_law_pair"))
  g__law_odd : mg "_law_odd" = some (.ref (cA K "_law_odd"))
  g_law : mg "law" = some (.ref (cA K "law"))
  k_BagKind : Cls K (cA K "BagKind")
  k_EndsKind : Cls K (cA K "EndsKind")
  k_FirstKind : Cls K (cA K "FirstKind")
  k_HeadsKind : Cls K (cA K "HeadsKind")
  k_Kind : Cls K (cA K "Kind")
  k_LastKind : Cls K (cA K "LastKind")
  k_SetKind : Cls K (cA K "SetKind")
  k_TailsKind : Cls K (cA K "TailsKind")
  o_BagKind : MkO K (cA K "BagKind")
  o_EndsKind : MkO K (cA K "EndsKind")
  o_FirstKind : MkO K (cA K "FirstKind")
  o_HeadsKind : MkO K (cA K "HeadsKind")
  o_Kind : MkO K (cA K "Kind")
  o_LastKind : MkO K (cA K "LastKind")
  o_SetKind : MkO K (cA K "SetKind")
  o_TailsKind : MkO K (cA K "TailsKind")
  m_BagKind_merged : Meth K (cA K "BagKind") "merged" (maA K "Kind" "merged")
  m_BagKind_plain : Meth K (cA K "BagKind") "plain" (maA K "BagKind" "plain")
  m_EndsKind_merged : Meth K (cA K "EndsKind") "merged" (maA K "Kind" "merged")
  m_EndsKind_plain : Meth K (cA K "EndsKind") "plain" (maA K "EndsKind" "plain")
  m_FirstKind_merged : Meth K (cA K "FirstKind") "merged" (maA K "Kind" "merged")
  m_FirstKind_plain : Meth K (cA K "FirstKind") "plain" (maA K "FirstKind" "plain")
  m_HeadsKind_merged : Meth K (cA K "HeadsKind") "merged" (maA K "Kind" "merged")
  m_HeadsKind_plain : Meth K (cA K "HeadsKind") "plain" (maA K "HeadsKind" "plain")
  m_Kind_merged : Meth K (cA K "Kind") "merged" (maA K "Kind" "merged")
  m_Kind_plain : Meth K (cA K "Kind") "plain" (maA K "Kind" "plain")
  m_LastKind_merged : Meth K (cA K "LastKind") "merged" (maA K "Kind" "merged")
  m_LastKind_plain : Meth K (cA K "LastKind") "plain" (maA K "LastKind" "plain")
  m_SetKind_merged : Meth K (cA K "SetKind") "merged" (maA K "Kind" "merged")
  m_SetKind_plain : Meth K (cA K "SetKind") "plain" (maA K "SetKind" "plain")
  m_TailsKind_merged : Meth K (cA K "TailsKind") "merged" (maA K "Kind" "merged")
  m_TailsKind_plain : Meth K (cA K "TailsKind") "plain" (maA K "TailsKind" "plain")
  gc_FULL_KINDS : GlC K mg "FULL_KINDS" (.tup [(.str "list"), (.str "bag"), (.str "set"), (.str "heads"), (.str "tails")])
  gc_KIND_NAMES : GlC K mg "KIND_NAMES" (.tup [(.str "list"), (.str "bag"), (.str "set"), (.str "first"), (.str "last"), (.str "ends"), (.str "heads"), (.str "tails")])
  v_BagKind_IDEMPOTENT : CvC K "BagKind" "IDEMPOTENT" (.bl false)
  v_BagKind_NAME : CvC K "BagKind" "NAME" (.str "bag")
  v_BagKind_ORDERLESS : CvC K "BagKind" "ORDERLESS" (.bl true)
  v_BagKind_OUTER : CvC K "BagKind" "OUTER" (.bl false)
  v_BagKind_RULES : CvC K "BagKind" "RULES" (.tup [(.str "12=21")])
  v_EndsKind_IDEMPOTENT : CvC K "EndsKind" "IDEMPOTENT" (.bl true)
  v_EndsKind_NAME : CvC K "EndsKind" "NAME" (.str "ends")
  v_EndsKind_ORDERLESS : CvC K "EndsKind" "ORDERLESS" (.bl false)
  v_EndsKind_OUTER : CvC K "EndsKind" "OUTER" (.bl true)
  v_EndsKind_RULES : CvC K "EndsKind" "RULES" (.tup [(.str "11=1"), (.str "123=13")])
  v_FirstKind_IDEMPOTENT : CvC K "FirstKind" "IDEMPOTENT" (.bl true)
  v_FirstKind_NAME : CvC K "FirstKind" "NAME" (.str "first")
  v_FirstKind_ORDERLESS : CvC K "FirstKind" "ORDERLESS" (.bl false)
  v_FirstKind_OUTER : CvC K "FirstKind" "OUTER" (.bl true)
  v_FirstKind_RULES : CvC K "FirstKind" "RULES" (.tup [(.str "12=1")])
  v_HeadsKind_IDEMPOTENT : CvC K "HeadsKind" "IDEMPOTENT" (.bl true)
  v_HeadsKind_NAME : CvC K "HeadsKind" "NAME" (.str "heads")
  v_HeadsKind_ORDERLESS : CvC K "HeadsKind" "ORDERLESS" (.bl false)
  v_HeadsKind_OUTER : CvC K "HeadsKind" "OUTER" (.bl false)
  v_HeadsKind_RULES : CvC K "HeadsKind" "RULES" (.tup [(.str "11=1"), (.str "121=12")])
  v_Kind_IDEMPOTENT : CvC K "Kind" "IDEMPOTENT" (.bl false)
  v_Kind_NAME : CvC K "Kind" "NAME" (.str "list")
  v_Kind_ORDERLESS : CvC K "Kind" "ORDERLESS" (.bl false)
  v_Kind_OUTER : CvC K "Kind" "OUTER" (.bl false)
  v_Kind_RULES : CvC K "Kind" "RULES" (.tup [])
  v_LastKind_IDEMPOTENT : CvC K "LastKind" "IDEMPOTENT" (.bl true)
  v_LastKind_NAME : CvC K "LastKind" "NAME" (.str "last")
  v_LastKind_ORDERLESS : CvC K "LastKind" "ORDERLESS" (.bl false)
  v_LastKind_OUTER : CvC K "LastKind" "OUTER" (.bl true)
  v_LastKind_RULES : CvC K "LastKind" "RULES" (.tup [(.str "12=2")])
  v_SetKind_IDEMPOTENT : CvC K "SetKind" "IDEMPOTENT" (.bl true)
  v_SetKind_NAME : CvC K "SetKind" "NAME" (.str "set")
  v_SetKind_ORDERLESS : CvC K "SetKind" "ORDERLESS" (.bl true)
  v_SetKind_OUTER : CvC K "SetKind" "OUTER" (.bl false)
  v_SetKind_RULES : CvC K "SetKind" "RULES" (.tup [(.str "12=21"), (.str "11=1")])
  v_TailsKind_IDEMPOTENT : CvC K "TailsKind" "IDEMPOTENT" (.bl true)
  v_TailsKind_NAME : CvC K "TailsKind" "NAME" (.str "tails")
  v_TailsKind_ORDERLESS : CvC K "TailsKind" "ORDERLESS" (.bl false)
  v_TailsKind_OUTER : CvC K "TailsKind" "OUTER" (.bl false)
  v_TailsKind_RULES : CvC K "TailsKind" "RULES" (.tup [(.str "11=1"), (.str "121=21")])
  ct_IDEMPOTENT : ConT K "IDEMPOTENT" ctb_IDEMPOTENT
  ct_NAME : ConT K "NAME" ctb_NAME
  ct_ORDERLESS : ConT K "ORDERLESS" ctb_ORDERLESS
  ct_OUTER : ConT K "OUTER" ctb_OUTER
  ct_RULES : ConT K "RULES" ctb_RULES
  it_BagKind : IsiT K "BagKind" itb_BagKind
  it_EndsKind : IsiT K "EndsKind" itb_EndsKind
  it_FirstKind : IsiT K "FirstKind" itb_FirstKind
  it_HeadsKind : IsiT K "HeadsKind" itb_HeadsKind
  it_Kind : IsiT K "Kind" itb_Kind
  it_LastKind : IsiT K "LastKind" itb_LastKind
  it_SetKind : IsiT K "SetKind" itb_SetKind
  it_TailsKind : IsiT K "TailsKind" itb_TailsKind
  u_BagKind_plain : ∀ C ∈ (["BagKind", "SetKind"] : List Str), SupC K (cA K "BagKind") (cA K C) "plain" (maA K "Kind" "plain")
  u_EndsKind_plain : ∀ C ∈ (["EndsKind"] : List Str), SupC K (cA K "EndsKind") (cA K C) "plain" (maA K "Kind" "plain")
  u_FirstKind_plain : ∀ C ∈ (["FirstKind"] : List Str), SupC K (cA K "FirstKind") (cA K C) "plain" (maA K "HeadsKind" "plain")
  u_HeadsKind_plain : ∀ C ∈ (["HeadsKind", "FirstKind"] : List Str), SupC K (cA K "HeadsKind") (cA K C) "plain" (maA K "Kind" "plain")
  u_LastKind_plain : ∀ C ∈ (["LastKind"] : List Str), SupC K (cA K "LastKind") (cA K C) "plain" (maA K "TailsKind" "plain")
  u_SetKind_plain : ∀ C ∈ (["SetKind"] : List Str), SupC K (cA K "SetKind") (cA K C) "plain" (maA K "BagKind" "plain")
  u_TailsKind_plain : ∀ C ∈ (["TailsKind", "LastKind"] : List Str), SupC K (cA K "TailsKind") (cA K C) "plain" (maA K "Kind" "plain")
  c_BadTable : mg "BadTable" = some (.ref (cA K "BadTable"))
  c_BagKind : mg "BagKind" = some (.ref (cA K "BagKind"))
  c_EndsKind : mg "EndsKind" = some (.ref (cA K "EndsKind"))
  c_FirstKind : mg "FirstKind" = some (.ref (cA K "FirstKind"))
  c_FoldError : mg "FoldError" = some (.ref (cA K "FoldError"))
  c_HeadsKind : mg "HeadsKind" = some (.ref (cA K "HeadsKind"))
  c_Kind : mg "Kind" = some (.ref (cA K "Kind"))
  c_LastKind : mg "LastKind" = some (.ref (cA K "LastKind"))
  c_SetKind : mg "SetKind" = some (.ref (cA K "SetKind"))
  c_TailsKind : mg "TailsKind" = some (.ref (cA K "TailsKind"))
  x_BadKind : L2.ExcC K (cA K "BadKind")
  is_0 : PySem.W.kitOne K (.ref (cA K "BadKind")) (CN.u K (.own "BadTable")) = some false
  is_1 : PySem.W.kitOne K (.ref (cA K "BadKind")) (CN.u K (.ty "ValueError")) = some true
  is_2 : PySem.W.kitOne K (.ref (cA K "BadKind")) (CN.u K (.own "FoldError")) = some true
def clsM (s : Stmt) (i : Nat) : Stmt := match s with
  | .ClassDef (body := b) .. => b.getD i (.Pass ⟨0, 0, 0, 0⟩)
  | s => s
def top (i : Nat) : Stmt := PySem.Challenge.pw_unseenfolds_k03_narrower_kinds.main.body.getD i (.Pass ⟨0, 0, 0, 0⟩)
abbrev s_Kind_plain : Stmt := clsM (top 7) 5
abbrev s_kind_named : Stmt := top 15
abbrev s_rule_words : Stmt := top 18
abbrev s_repeated_letter : Stmt := top 21
abbrev s__law_stream : Stmt := top 23
abbrev s__law_draw : Stmt := top 24
abbrev s__law_plain : Stmt := top 25
abbrev s__law_is_word : Stmt := top 28
abbrev s__law_rules : Stmt := top 29
abbrev s__law_sides : Stmt := top 30
abbrev s__law_put : Stmt := top 31
abbrev s__law_narrow : Stmt := top 33
abbrev s__law_class : Stmt := top 34
abbrev s__law_family : Stmt := top 35
abbrev s__law_made : Stmt := top 36
abbrev s__law_flag : Stmt := top 38
abbrev s__law_repeated : Stmt := top 42
abbrev s_BagKind_plain : Stmt := clsM (top 8) 5
abbrev s_HeadsKind_plain : Stmt := clsM (top 10) 5
abbrev s_TailsKind_plain : Stmt := clsM (top 12) 5
abbrev s_EndsKind_plain : Stmt := clsM (top 14) 5
abbrev s__law_letters : Stmt := top 26
abbrev s__law_word : Stmt := top 27
abbrev s__law_broken : Stmt := top 32
abbrev s__law_is_sides : Stmt := top 39
abbrev s_SetKind_plain : Stmt := clsM (top 9) 5
abbrev s_FirstKind_plain : Stmt := clsM (top 11) 5
abbrev s_LastKind_plain : Stmt := clsM (top 13) 5
abbrev s_Kind_merged : Stmt := clsM (top 7) 6
abbrev s_plain_value : Stmt := top 16
abbrev s_alike : Stmt := top 17
abbrev s_broken_rule : Stmt := top 19
abbrev s_under : Stmt := top 20
abbrev s__law_names : Stmt := top 37
abbrev s__law_pair : Stmt := top 40
abbrev s__law_odd : Stmt := top 41
abbrev s_law : Stmt := top 43
end Law
set_option Elab.async false
set_option linter.all false
set_option maxRecDepth 100000
set_option maxHeartbeats 4000000
namespace Law
open PySem PySem.Spec PyProof.Rows L2 DL
theorem sc_Kind_plain : FnScope ["self", "word"] ["self", "word"] (defScope s_Kind_plain) := ⟨rfl, rfl, rfl, by decide +kernel, rfl, by decide +kernel, by decide +kernel⟩
theorem ok_Kind_plain {P : Program} {w : World} {K : PySem.W.Frag} {mg : Str → Option Value} {base : Heap} (F : ∃ fd, FunD K "plain" "Kind.plain" (defArgs s_Kind_plain) (defBody s_Kind_plain) (defScope s_Kind_plain) [] [] (maA K "Kind" "plain") fd) (T : Txt P K mg) : FnM P w K mg base 1 "Kind" "plain" 2 r_Kind_plain := by
  have nd := sc_Kind_plain.nd
  refine fnM_mk (P := P) (w := w) (K := K) (mg := mg) (base := base) (C := "Kind") (m := "plain") (x := "plain") (qual := "Kind.plain") (st := s_Kind_plain) (N := ["self", "word"]) (ps := ["self", "word"]) (k := 0) (body := d_Kind_plain) F sc_Kind_plain (fun _ _ _ _ _ _ us hl => match us, hl with | [_, _], _ => rfl) (fun cdv A outer s H E hr => ?_)
  unfold d_Kind_plain
  refine jss_cons ?_ ?_
  · refine js_ret ?_
    · refine je_ct cr_tupleD T.b_tuple bt_tuple ?_
      · refine ja_cons ?_ ?_
        · refine je_var (i := 1)
        · refine ja_nil
  · refine jss_nil
end Law
set_option Elab.async false
set_option linter.all false
set_option maxRecDepth 100000
set_option maxHeartbeats 4000000
namespace Law
open PySem PySem.Spec PyProof.Rows L2 DL
theorem sc_kind_named : FnScope ["name"] ["name"] (defScope s_kind_named) := ⟨rfl, rfl, rfl, by decide +kernel, rfl, by decide +kernel, by decide +kernel⟩
theorem ok_kind_named {P : Program} {w : World} {K : PySem.W.Frag} {mg : Str → Option Value} {base : Heap} (F : FnF K "kind_named" s_kind_named) (T : Txt P K mg) : FnB P w K mg base 1 "kind_named" ["name"] r_kind_named := by
  have nd := sc_kind_named.nd
  refine fnB_mk (P := P) (w := w) (K := K) (mg := mg) (base := base) (x := "kind_named") (st := s_kind_named) (N := ["name"]) (ps := ["name"]) (k := 0) (body := d_kind_named) F T.g_kind_named sc_kind_named (fun _ _ _ _ _ _ us hl => match us, hl with | [_], _ => rfl) (fun cdv A outer s H E hr => ?_)
  unfold d_kind_named
  refine jss_cons ?_ ?_
  · refine js_match ?_ ?_
    · refine je_var (i := 0)
    · refine jm_lit hr.units ?_ ?_
      · refine jss_cons ?_ ?_
        · refine js_ret ?_
          · refine je_mkO T.o_Kind T.c_Kind
        · refine jss_nil
      · refine jm_lit hr.units ?_ ?_
        · refine jss_cons ?_ ?_
          · refine js_ret ?_
            · refine je_mkO T.o_BagKind T.c_BagKind
          · refine jss_nil
        · refine jm_lit hr.units ?_ ?_
          · refine jss_cons ?_ ?_
            · refine js_ret ?_
              · refine je_mkO T.o_SetKind T.c_SetKind
            · refine jss_nil
          · refine jm_lit hr.units ?_ ?_
            · refine jss_cons ?_ ?_
              · refine js_ret ?_
                · refine je_mkO T.o_FirstKind T.c_FirstKind
              · refine jss_nil
            · refine jm_lit hr.units ?_ ?_
              · refine jss_cons ?_ ?_
                · refine js_ret ?_
                  · refine je_mkO T.o_LastKind T.c_LastKind
                · refine jss_nil
              · refine jm_lit hr.units ?_ ?_
                · refine jss_cons ?_ ?_
                  · refine js_ret ?_
                    · refine je_mkO T.o_EndsKind T.c_EndsKind
                  · refine jss_nil
                · refine jm_lit hr.units ?_ ?_
                  · refine jss_cons ?_ ?_
                    · refine js_ret ?_
                      · refine je_mkO T.o_HeadsKind T.c_HeadsKind
                    · refine jss_nil
                  · refine jm_lit hr.units ?_ ?_
                    · refine jss_cons ?_ ?_
                      · refine js_ret ?_
                        · refine je_mkO T.o_TailsKind T.c_TailsKind
                      · refine jss_nil
                    · refine jm_any ?_
                      · refine jss_cons ?_ ?_
                        · refine js_raise T.e_BadKind.txt rfl hr (takes_of rfl rfl rfl rfl) ?_
                          · refine ja_cons ?_ ?_
                            · refine je_var (i := 0)
                            · refine ja_nil
                        · refine jss_nil
  · refine jss_nil
end Law
set_option Elab.async false
set_option linter.all false
set_option maxRecDepth 100000
set_option maxHeartbeats 4000000
namespace Law
open PySem PySem.Spec PyProof.Rows L2 DL
theorem sc_rule_words : FnScope ["rule", "left", "right", "letter"] ["rule"] (defScope s_rule_words) := ⟨rfl, rfl, rfl, by decide +kernel, rfl, by decide +kernel, by decide +kernel⟩
theorem ok_rule_words {P : Program} {w : World} {K : PySem.W.Frag} {mg : Str → Option Value} {base : Heap} (F : FnF K "rule_words" s_rule_words) (T : Txt P K mg) : FnB P w K mg base 1 "rule_words" ["rule"] r_rule_words := by
  have nd := sc_rule_words.nd
  refine fnB_mk (P := P) (w := w) (K := K) (mg := mg) (base := base) (x := "rule_words") (st := s_rule_words) (N := ["rule", "left", "right", "letter"]) (ps := ["rule"]) (k := 0) (body := d_rule_words) F T.g_rule_words sc_rule_words (fun _ _ _ _ _ _ us hl => match us, hl with | [_], _ => rfl) (fun cdv A outer s H E hr => ?_)
  unfold d_rule_words
  refine jss_cons ?_ ?_
  · refine js_asg (js := ([1] ++ ([2] ++ []))) ?_ ?_
    · refine je_f ?_
      · refine jf_split ?_ ?_
        · refine je_var (i := 0)
        · refine je_str
    · refine jg_lst rfl ?_
      · refine jgs_cons ?_ ?_
        · refine jg_name (i := 1) nd
        · refine jgs_cons ?_ ?_
          · refine jg_name (i := 2) nd
          · refine jgs_nil
  · refine jss_cons ?_ ?_
    · refine js_ret ?_
      · refine je_tup ?_
        · refine ja_cons ?_ ?_
          · refine je_ct cr_tupleD T.b_tuple bt_tuple ?_
            · refine ja_cons ?_ ?_
              · refine je_f ?_
                · refine jf_lc rfl nd (own := [("letter", 3)]) ?_ ?_ (fun _ _ _ _ _ => ?_) (go_name 3) (by decide) (fun _ _ _ _ _ => ?_)
                  · refine ji_str ?_
                    · refine je_var (i := 1)
                  · refine blkOk_by (N := ["rule", "left", "right", "letter"]) (sc := defScope s_rule_words) (own := [("letter", 3)]) (by decide +kernel)
                  · refine pg_name (i := 3) nd rfl (by first | exact .inl rfl | exact .inr rfl)
                  · refine je_ct cr_intX T.b_int bt_int ?_
                    · refine ja_cons ?_ ?_
                      · refine je_var (i := 3)
                      · refine ja_nil
              · refine ja_nil
          · refine ja_cons ?_ ?_
            · refine je_ct cr_tupleD T.b_tuple bt_tuple ?_
              · refine ja_cons ?_ ?_
                · refine je_f ?_
                  · refine jf_lc rfl nd (own := [("letter", 3)]) ?_ ?_ (fun _ _ _ _ _ => ?_) (go_name 3) (by decide) (fun _ _ _ _ _ => ?_)
                    · refine ji_str ?_
                      · refine je_var (i := 2)
                    · refine blkOk_by (N := ["rule", "left", "right", "letter"]) (sc := defScope s_rule_words) (own := [("letter", 3)]) (by decide +kernel)
                    · refine pg_name (i := 3) nd rfl (by first | exact .inl rfl | exact .inr rfl)
                    · refine je_ct cr_intX T.b_int bt_int ?_
                      · refine ja_cons ?_ ?_
                        · refine je_var (i := 3)
                        · refine ja_nil
                · refine ja_nil
            · refine ja_nil
    · refine jss_nil
end Law
set_option Elab.async false
set_option linter.all false
set_option maxRecDepth 100000
set_option maxHeartbeats 4000000
namespace Law
open PySem PySem.Spec PyProof.Rows L2 DL
theorem sc_repeated_letter : FnScope ["word", "seen", "letter"] ["word"] (defScope s_repeated_letter) := ⟨rfl, rfl, rfl, by decide +kernel, rfl, by decide +kernel, by decide +kernel⟩
theorem ok_repeated_letter {P : Program} {w : World} {K : PySem.W.Frag} {mg : Str → Option Value} {base : Heap} (F : FnF K "repeated_letter" s_repeated_letter) (T : Txt P K mg) : FnB P w K mg base 1 "repeated_letter" ["word"] r_repeated_letter := by
  have nd := sc_repeated_letter.nd
  refine fnB_mk (P := P) (w := w) (K := K) (mg := mg) (base := base) (x := "repeated_letter") (st := s_repeated_letter) (N := ["word", "seen", "letter"]) (ps := ["word"]) (k := 0) (body := d_repeated_letter) F T.g_repeated_letter sc_repeated_letter (fun _ _ _ _ _ _ us hl => match us, hl with | [_], _ => rfl) (fun cdv A outer s H E hr => ?_)
  unfold d_repeated_letter
  refine jss_cons ?_ ?_
  · refine js_setM (i := 1) nd ?_
    · refine jf_dct
  · refine jss_cons ?_ ?_
    · refine js_for (js := [2]) (passes_of rfl) rfl ?_ ?_ ?_
      · refine ji_seq ?_
        · refine je_var (i := 0)
      · refine jg_name (i := 2) nd
      · refine jss_fg (js := [2]) ?_
        · refine jss_cons ?_ ?_
          · refine js_if ?_ ?_ ?_
            · refine jt_cmp (op_inX (hu_of hr)) ?_ ?_
              · refine je_var (i := 2)
              · refine je_var (i := 1)
            · refine jss_cons ?_ ?_
              · refine js_ret ?_
                · refine je_var (i := 2)
              · refine jss_nil
            · refine jss_nil
          · refine jss_cons ?_ ?_
            · refine js_setK (i := 1) (hu_of hr) ?_ ?_
              · refine je_bl
              · refine je_var (i := 2)
            · refine jss_nil
    · refine jss_cons ?_ ?_
      · refine js_ret ?_
        · refine je_non
      · refine jss_nil
end Law
set_option Elab.async false
set_option linter.all false
set_option maxRecDepth 100000
set_option maxHeartbeats 4000000
namespace Law
open PySem PySem.Spec PyProof.Rows L2 DL
theorem sc__law_stream : FnScope ["_law_script", "_law_numbers", "_law_place", "_law_cell", "_law_rest", "_law_turn", "_law_mixed"] ["_law_script"] (defScope s__law_stream) := ⟨rfl, rfl, rfl, by decide +kernel, rfl, by decide +kernel, by decide +kernel⟩
theorem ok__law_stream {P : Program} {w : World} {K : PySem.W.Frag} {mg : Str → Option Value} {base : Heap} (F : FnF K "_law_stream" s__law_stream) (T : Txt P K mg) : FnB P w K mg base 1 "_law_stream" ["_law_script"] r__law_stream := by
  have nd := sc__law_stream.nd
  refine fnB_mk (P := P) (w := w) (K := K) (mg := mg) (base := base) (x := "_law_stream") (st := s__law_stream) (N := ["_law_script", "_law_numbers", "_law_place", "_law_cell", "_law_rest", "_law_turn", "_law_mixed"]) (ps := ["_law_script"]) (k := 0) (body := d__law_stream) F T.g__law_stream sc__law_stream (fun _ _ _ _ _ _ us hl => match us, hl with | [_], _ => rfl) (fun cdv A outer s H E hr => ?_)
  unfold d__law_stream
  refine jss_cons ?_ ?_
  · refine js_setM (i := 1) nd ?_
    · refine jf_lst ?_
      · refine ja_nil
  · refine jss_cons ?_ ?_
    · refine js_for (js := [2]) (passes_of rfl) rfl ?_ ?_ ?_
      · refine ji_rng1 T.b_range ?_
        · refine ja_cons ?_ ?_
          · refine je_cb (cr_min2D rfl) T.b_min bt_min ?_
            · refine ja_cons ?_ ?_
              · refine je_cb cr_lenD T.b_len bt_len ?_
                · refine ja_cons ?_ ?_
                  · refine je_var (i := 0)
                  · refine ja_nil
              · refine ja_cons ?_ ?_
                · refine je_int
                · refine ja_nil
          · refine ja_nil
      · refine jg_name (i := 2) nd
      · refine jss_fg (js := [2, 3, 4]) ?_
        · refine jss_cons ?_ ?_
          · refine js_set (i := 3) nd ?_
            · refine je_ct cr_intD T.b_int bt_int ?_
              · refine ja_cons ?_ ?_
                · refine je_ix ?_ ?_
                  · refine je_var (i := 0)
                  · refine je_var (i := 2)
                · refine ja_nil
          · refine jss_cons ?_ ?_
            · refine js_set (i := 4) nd ?_
              · refine je_cb cr_absD T.b_abs bt_abs ?_
                · refine ja_cons ?_ ?_
                  · refine je_var (i := 3)
                  · refine ja_nil
            · refine jss_cons ?_ ?_
              · refine js_fg (js := [4]) ?_
                · refine js_if ?_ ?_ ?_
                  · refine jt_w ?_
                    · refine jw_and ?_ ?_
                      · refine jt_cmp op_geD ?_ ?_
                        · refine je_var (i := 3)
                        · refine je_int
                      · refine jw_and1 (op := ?_)
                        · refine jt_cmp op_ltD ?_ ?_
                          · refine je_var (i := 3)
                          · refine je_op op_powD ?_ ?_
                            · refine je_int
                            · refine je_int
                  · refine jss_cons ?_ ?_
                    · refine js_for (js := [5]) (passes_of rfl) rfl ?_ ?_ ?_
                      · refine ji_rng1 T.b_range ?_
                        · refine ja_cons ?_ ?_
                          · refine je_int
                          · refine ja_nil
                      · refine jg_name (i := 5) nd
                      · refine jss_fg (js := [5, 6]) ?_
                        · refine jss_cons ?_ ?_
                          · refine js_set (i := 6) nd ?_
                            · refine je_op op_modD ?_ ?_
                              · refine je_ct cr_intD T.b_int bt_int ?_
                                · refine ja_cons ?_ ?_
                                  · refine je_op op_mulD ?_ ?_
                                    · refine je_op op_addD ?_ ?_
                                      · refine je_var (i := 3)
                                      · refine je_int
                                    · refine je_op op_addD ?_ ?_
                                      · refine je_op op_addD ?_ ?_
                                        · refine je_int
                                        · refine je_op op_mulD ?_ ?_
                                          · refine je_int
                                          · refine je_var (i := 2)
                                      · refine je_op op_mulD ?_ ?_
                                        · refine je_int
                                        · refine je_var (i := 5)
                                  · refine ja_nil
                              · refine je_int
                          · refine jss_cons ?_ ?_
                            · refine js_expr ?_
                              · refine je_app (i := 1) ?_
                                · refine je_op op_modD ?_ ?_
                                  · refine je_ct cr_intD T.b_int bt_int ?_
                                    · refine ja_cons ?_ ?_
                                      · refine je_op op_mulD ?_ ?_
                                        · refine je_var (i := 6)
                                        · refine je_var (i := 6)
                                      · refine ja_nil
                                  · refine je_int
                            · refine jss_nil
                    · refine jss_nil
                  · refine jss_cons ?_ ?_
                    · refine js_for (js := [5]) (passes_of rfl) rfl ?_ ?_ ?_
                      · refine ji_rng1 T.b_range ?_
                        · refine ja_cons ?_ ?_
                          · refine je_int
                          · refine ja_nil
                      · refine jg_name (i := 5) nd
                      · refine jss_fg (js := [5]) ?_
                        · refine jss_cons ?_ ?_
                          · refine js_if ?_ ?_ ?_
                            · refine jt_cmp op_gtD ?_ ?_
                              · refine je_var (i := 4)
                              · refine je_int
                            · refine jss_cons ?_ ?_
                              · refine js_expr ?_
                                · refine je_app (i := 1) ?_
                                  · refine je_op op_modD ?_ ?_
                                    · refine je_ct cr_intD T.b_int bt_int ?_
                                      · refine ja_cons ?_ ?_
                                        · refine je_var (i := 4)
                                        · refine ja_nil
                                    · refine je_int
                              · refine jss_cons ?_ ?_
                                · refine js_set (i := 4) nd ?_
                                  · refine je_op op_fdivD ?_ ?_
                                    · refine je_var (i := 4)
                                    · refine je_int
                                · refine jss_nil
                            · refine jss_nil
                          · refine jss_nil
                    · refine jss_nil
              · refine jss_nil
    · refine jss_cons ?_ ?_
      · refine js_retF ?_
        · refine jf_slS ?_ ?_ ?_ ?_
          · refine je_var (i := 1)
          · refine jo_none
          · refine jo_none
          · refine jo_some ?_
            · refine je_un un_negD ?_
              · refine je_int
      · refine jss_nil
end Law
set_option Elab.async false
set_option linter.all false
set_option maxRecDepth 100000
set_option maxHeartbeats 4000000
namespace Law
open PySem PySem.Spec PyProof.Rows L2 DL
theorem sc__law_draw : FnScope ["_law_stream_here", "_law_many"] ["_law_stream_here", "_law_many"] (defScope s__law_draw) := ⟨rfl, rfl, rfl, by decide +kernel, rfl, by decide +kernel, by decide +kernel⟩
theorem ok__law_draw {P : Program} {w : World} {K : PySem.W.Frag} {mg : Str → Option Value} {base : Heap} (F : FnF K "_law_draw" s__law_draw) (T : Txt P K mg) : FnB P w K mg base 1 "_law_draw" ["_law_stream_here", "_law_many"] r__law_draw := by
  have nd := sc__law_draw.nd
  refine fnB_mk (P := P) (w := w) (K := K) (mg := mg) (base := base) (x := "_law_draw") (st := s__law_draw) (N := ["_law_stream_here", "_law_many"]) (ps := ["_law_stream_here", "_law_many"]) (k := 0) (body := d__law_draw) F T.g__law_draw sc__law_draw (fun _ _ _ _ _ _ us hl => match us, hl with | [_, _], _ => rfl) (fun cdv A outer s H E hr => ?_)
  unfold d__law_draw
  refine jss_cons ?_ ?_
  · refine js_if ?_ ?_ ?_
    · refine jt_cmp (op_eqD' hr.units) ?_ ?_
      · refine je_cb cr_lenD T.b_len bt_len ?_
        · refine ja_cons ?_ ?_
          · refine je_var (i := 0)
          · refine ja_nil
      · refine je_int
    · refine jss_cons ?_ ?_
      · refine js_ret ?_
        · refine je_int
      · refine jss_nil
    · refine jss_nil
  · refine jss_cons ?_ ?_
    · refine js_ret ?_
      · refine je_op op_modD ?_ ?_
        · refine je_ct cr_intD T.b_int bt_int ?_
          · refine ja_cons ?_ ?_
            · refine je_pop (i := 0)
            · refine ja_nil
        · refine je_var (i := 1)
    · refine jss_nil
end Law
set_option Elab.async false
set_option linter.all false
set_option maxRecDepth 100000
set_option maxHeartbeats 4000000
namespace Law
open PySem PySem.Spec PyProof.Rows L2 DL
theorem sc__law_plain : FnScope ["_law_kind", "_law_word_here", "_law_rest", "_law_seen", "_law_letter", "_law_kept"] ["_law_kind", "_law_word_here"] (defScope s__law_plain) := ⟨rfl, rfl, rfl, by decide +kernel, rfl, by decide +kernel, by decide +kernel⟩
theorem ok__law_plain {P : Program} {w : World} {K : PySem.W.Frag} {mg : Str → Option Value} {base : Heap} (F : FnF K "_law_plain" s__law_plain) (T : Txt P K mg) : FnB P w K mg base 1 "_law_plain" ["_law_kind", "_law_word_here"] r__law_plain := by
  have nd := sc__law_plain.nd
  refine fnB_mk (P := P) (w := w) (K := K) (mg := mg) (base := base) (x := "_law_plain") (st := s__law_plain) (N := ["_law_kind", "_law_word_here", "_law_rest", "_law_seen", "_law_letter", "_law_kept"]) (ps := ["_law_kind", "_law_word_here"]) (k := 0) (body := d__law_plain) F T.g__law_plain sc__law_plain (fun _ _ _ _ _ _ us hl => match us, hl with | [_, _], _ => rfl) (fun cdv A outer s H E hr => ?_)
  unfold d__law_plain
  refine jss_cons ?_ ?_
  · refine js_if ?_ ?_ ?_
    · refine jt_cmp (op_eqD' hr.units) ?_ ?_
      · refine je_var (i := 0)
      · refine je_str
    · refine jss_cons ?_ ?_
      · refine js_ret ?_
        · refine je_ct cr_tupleD T.b_tuple bt_tuple ?_
          · refine ja_cons ?_ ?_
            · refine je_var (i := 1)
            · refine ja_nil
      · refine jss_nil
    · refine jss_nil
  · refine jss_cons ?_ ?_
    · refine js_if ?_ ?_ ?_
      · refine jt_cmp (op_eqD' hr.units) ?_ ?_
        · refine je_var (i := 0)
        · refine je_str
      · refine jss_cons ?_ ?_
        · refine js_ret ?_
          · refine je_ct cr_tupleD T.b_tuple bt_tuple ?_
            · refine ja_cons ?_ ?_
              · refine je_f ?_
                · refine jf_cb cr_sortF T.b_sorted bt_sorted ?_
                  · refine ja_cons ?_ ?_
                    · refine je_f ?_
                      · refine jf_ct cr_listF T.b_list bt_list ?_
                        · refine ja_cons ?_ ?_
                          · refine je_var (i := 1)
                          · refine ja_nil
                    · refine ja_nil
              · refine ja_nil
        · refine jss_nil
      · refine jss_nil
    · refine jss_cons ?_ ?_
      · refine js_if ?_ ?_ ?_
        · refine jt_cmp (op_eqD' hr.units) ?_ ?_
          · refine je_var (i := 0)
          · refine je_str
        · refine jss_cons ?_ ?_
          · refine js_ret ?_
            · refine je_ct cr_tupleD T.b_tuple bt_tuple ?_
              · refine ja_cons ?_ ?_
                · refine je_f ?_
                  · refine jf_ss rfl T.b_sorted T.b_set bt_sorted bt_set ?_
                    · refine je_var (i := 1)
                · refine ja_nil
          · refine jss_nil
        · refine jss_nil
      · refine jss_cons ?_ ?_
        · refine js_if ?_ ?_ ?_
          · refine jt_cmp (op_eqD' hr.units) ?_ ?_
            · refine je_var (i := 0)
            · refine je_str
          · refine jss_cons ?_ ?_
            · refine js_ret ?_
              · refine je_ct cr_tupleD T.b_tuple bt_tuple ?_
                · refine ja_cons ?_ ?_
                  · refine je_sl ?_ ?_ ?_
                    · refine je_var (i := 1)
                    · refine jo_none
                    · refine jo_some ?_
                      · refine je_int
                  · refine ja_nil
            · refine jss_nil
          · refine jss_nil
        · refine jss_cons ?_ ?_
          · refine js_if ?_ ?_ ?_
            · refine jt_cmp (op_eqD' hr.units) ?_ ?_
              · refine je_var (i := 0)
              · refine je_str
            · refine jss_cons ?_ ?_
              · refine js_ret ?_
                · refine je_ct cr_tupleD T.b_tuple bt_tuple ?_
                  · refine ja_cons ?_ ?_
                    · refine je_sl ?_ ?_ ?_
                      · refine je_var (i := 1)
                      · refine jo_some ?_
                        · refine je_un un_negD ?_
                          · refine je_int
                      · refine jo_none
                    · refine ja_nil
              · refine jss_nil
            · refine jss_nil
          · refine jss_cons ?_ ?_
            · refine js_if ?_ ?_ ?_
              · refine jt_cmp (op_eqD' hr.units) ?_ ?_
                · refine je_var (i := 0)
                · refine je_str
              · refine jss_cons ?_ ?_
                · refine js_ret ?_
                  · refine je_op op_addD ?_ ?_
                    · refine je_ct cr_tupleD T.b_tuple bt_tuple ?_
                      · refine ja_cons ?_ ?_
                        · refine je_sl ?_ ?_ ?_
                          · refine je_var (i := 1)
                          · refine jo_none
                          · refine jo_some ?_
                            · refine je_int
                        · refine ja_nil
                    · refine je_ct cr_tupleD T.b_tuple bt_tuple ?_
                      · refine ja_cons ?_ ?_
                        · refine je_sl ?_ ?_ ?_
                          · refine je_var (i := 1)
                          · refine jo_some ?_
                            · refine je_un un_negD ?_
                              · refine je_int
                          · refine jo_none
                        · refine ja_nil
                · refine jss_nil
              · refine jss_nil
            · refine jss_cons ?_ ?_
              · refine js_set (i := 2) nd ?_
                · refine je_f ?_
                  · refine jf_ct cr_listF T.b_list bt_list ?_
                    · refine ja_cons ?_ ?_
                      · refine je_var (i := 1)
                      · refine ja_nil
              · refine jss_cons ?_ ?_
                · refine js_if ?_ ?_ ?_
                  · refine jt_cmp (op_eqD' hr.units) ?_ ?_
                    · refine je_var (i := 0)
                    · refine je_str
                  · refine jss_cons ?_ ?_
                    · refine js_set (i := 2) nd ?_
                      · refine je_rev ?_ ?_
                        · refine je_var (i := 2)
                        · refine jo_some ?_
                          · refine je_un un_negD ?_
                            · refine je_int
                    · refine jss_nil
                  · refine jss_nil
                · refine jss_cons ?_ ?_
                  · refine js_setM (i := 3) nd ?_
                    · refine jf_dct
                  · refine jss_cons ?_ ?_
                    · refine js_for (js := [4]) (passes_of rfl) rfl ?_ ?_ ?_
                      · refine ji_seq ?_
                        · refine je_var (i := 2)
                      · refine jg_name (i := 4) nd
                      · refine jss_fg (js := [4]) ?_
                        · refine jss_cons ?_ ?_
                          · refine js_setK (i := 3) (hu_of hr) ?_ ?_
                            · refine je_bl
                            · refine je_var (i := 4)
                          · refine jss_nil
                    · refine jss_cons ?_ ?_
                      · refine js_set (i := 5) nd ?_
                        · refine je_f ?_
                          · refine jf_ct (cr_listX rfl) T.b_list bt_list ?_
                            · refine ja_cons ?_ ?_
                              · refine je_var (i := 3)
                              · refine ja_nil
                      · refine jss_cons ?_ ?_
                        · refine js_if ?_ ?_ ?_
                          · refine jt_cmp (op_eqD' hr.units) ?_ ?_
                            · refine je_var (i := 0)
                            · refine je_str
                          · refine jss_cons ?_ ?_
                            · refine js_set (i := 5) nd ?_
                              · refine je_rev ?_ ?_
                                · refine je_var (i := 5)
                                · refine jo_some ?_
                                  · refine je_un un_negD ?_
                                    · refine je_int
                            · refine jss_nil
                          · refine jss_nil
                        · refine jss_cons ?_ ?_
                          · refine js_ret ?_
                            · refine je_ct cr_tupleD T.b_tuple bt_tuple ?_
                              · refine ja_cons ?_ ?_
                                · refine je_var (i := 5)
                                · refine ja_nil
                          · refine jss_nil
end Law
set_option Elab.async false
set_option linter.all false
set_option maxRecDepth 100000
set_option maxHeartbeats 4000000
namespace Law
open PySem PySem.Spec PyProof.Rows L2 DL
theorem sc__law_is_word : FnScope ["_law_told", "_law_due", "_law_letter"] ["_law_told", "_law_due"] (defScope s__law_is_word) := ⟨rfl, rfl, rfl, by decide +kernel, rfl, by decide +kernel, by decide +kernel⟩
theorem ok__law_is_word {P : Program} {w : World} {K : PySem.W.Frag} {mg : Str → Option Value} {base : Heap} (F : FnF K "_law_is_word" s__law_is_word) (T : Txt P K mg) : FnB P w K mg base 1 "_law_is_word" ["_law_told", "_law_due"] r__law_is_word := by
  have nd := sc__law_is_word.nd
  refine fnB_mk (P := P) (w := w) (K := K) (mg := mg) (base := base) (x := "_law_is_word") (st := s__law_is_word) (N := ["_law_told", "_law_due", "_law_letter"]) (ps := ["_law_told", "_law_due"]) (k := 0) (body := d__law_is_word) F T.g__law_is_word sc__law_is_word (fun _ _ _ _ _ _ us hl => match us, hl with | [_, _], _ => rfl) (fun cdv A outer s H E hr => ?_)
  unfold d__law_is_word
  refine jss_cons ?_ ?_
  · refine js_if ?_ ?_ ?_
    · refine jt_w ?_
      · refine jw_or ?_ ?_
        · refine jt_not ?_
          · refine jt_tru ?_
            · refine je_isT "tuple" T.b_isinstance T.b_tuple bt_tuple kit_tuple ?_
              · refine je_var (i := 0)
        · refine jw_or1 (op := ?_)
          · refine jt_cmp (op_neD' hr.units) ?_ ?_
            · refine je_cb cr_lenD T.b_len bt_len ?_
              · refine ja_cons ?_ ?_
                · refine je_var (i := 0)
                · refine ja_nil
            · refine je_cb cr_lenD T.b_len bt_len ?_
              · refine ja_cons ?_ ?_
                · refine je_var (i := 1)
                · refine ja_nil
    · refine jss_cons ?_ ?_
      · refine js_ret ?_
        · refine je_bl
      · refine jss_nil
    · refine jss_nil
  · refine jss_cons ?_ ?_
    · refine js_for (js := [2]) (passes_of rfl) rfl ?_ ?_ ?_
      · refine ji_seq ?_
        · refine je_var (i := 0)
      · refine jg_name (i := 2) nd
      · refine jss_fg (js := [2]) ?_
        · refine jss_cons ?_ ?_
          · refine js_if ?_ ?_ ?_
            · refine jt_w ?_
              · refine jw_or ?_ ?_
                · refine jt_not ?_
                  · refine jt_tru ?_
                    · refine je_isT "int" T.b_isinstance T.b_int bt_int kit_int ?_
                      · refine je_var (i := 2)
                · refine jw_or1 (op := ?_)
                  · refine jt_tru ?_
                    · refine je_isT "bool" T.b_isinstance T.b_bool bt_bool kit_bool ?_
                      · refine je_var (i := 2)
            · refine jss_cons ?_ ?_
              · refine js_ret ?_
                · refine je_bl
              · refine jss_nil
            · refine jss_nil
          · refine jss_nil
    · refine jss_cons ?_ ?_
      · refine js_ret ?_
        · refine je_cmp (op_eqD' hr.units) ?_ ?_
          · refine je_var (i := 0)
          · refine je_ct cr_tupleD T.b_tuple bt_tuple ?_
            · refine ja_cons ?_ ?_
              · refine je_var (i := 1)
              · refine ja_nil
      · refine jss_nil
end Law
set_option Elab.async false
set_option linter.all false
set_option maxRecDepth 100000
set_option maxHeartbeats 4000000
namespace Law
open PySem PySem.Spec PyProof.Rows L2 DL
theorem sc__law_rules : FnScope ["_law_kind"] ["_law_kind"] (defScope s__law_rules) := ⟨rfl, rfl, rfl, by decide +kernel, rfl, by decide +kernel, by decide +kernel⟩
theorem ok__law_rules {P : Program} {w : World} {K : PySem.W.Frag} {mg : Str → Option Value} {base : Heap} (F : FnF K "_law_rules" s__law_rules) (T : Txt P K mg) : FnB P w K mg base 1 "_law_rules" ["_law_kind"] r__law_rules := by
  have nd := sc__law_rules.nd
  refine fnB_mk (P := P) (w := w) (K := K) (mg := mg) (base := base) (x := "_law_rules") (st := s__law_rules) (N := ["_law_kind"]) (ps := ["_law_kind"]) (k := 0) (body := d__law_rules) F T.g__law_rules sc__law_rules (fun _ _ _ _ _ _ us hl => match us, hl with | [_], _ => rfl) (fun cdv A outer s H E hr => ?_)
  unfold d__law_rules
  refine jss_cons ?_ ?_
  · refine js_if ?_ ?_ ?_
    · refine jt_cmp (op_eqD' hr.units) ?_ ?_
      · refine je_var (i := 0)
      · refine je_str
    · refine jss_cons ?_ ?_
      · refine js_ret ?_
        · refine je_tup ?_
          · refine ja_cons ?_ ?_
            · refine je_str
            · refine ja_nil
      · refine jss_nil
    · refine jss_nil
  · refine jss_cons ?_ ?_
    · refine js_if ?_ ?_ ?_
      · refine jt_cmp (op_eqD' hr.units) ?_ ?_
        · refine je_var (i := 0)
        · refine je_str
      · refine jss_cons ?_ ?_
        · refine js_ret ?_
          · refine je_tup ?_
            · refine ja_cons ?_ ?_
              · refine je_str
              · refine ja_cons ?_ ?_
                · refine je_str
                · refine ja_nil
        · refine jss_nil
      · refine jss_nil
    · refine jss_cons ?_ ?_
      · refine js_if ?_ ?_ ?_
        · refine jt_cmp (op_eqD' hr.units) ?_ ?_
          · refine je_var (i := 0)
          · refine je_str
        · refine jss_cons ?_ ?_
          · refine js_ret ?_
            · refine je_tup ?_
              · refine ja_cons ?_ ?_
                · refine je_str
                · refine ja_nil
          · refine jss_nil
        · refine jss_nil
      · refine jss_cons ?_ ?_
        · refine js_if ?_ ?_ ?_
          · refine jt_cmp (op_eqD' hr.units) ?_ ?_
            · refine je_var (i := 0)
            · refine je_str
          · refine jss_cons ?_ ?_
            · refine js_ret ?_
              · refine je_tup ?_
                · refine ja_cons ?_ ?_
                  · refine je_str
                  · refine ja_nil
            · refine jss_nil
          · refine jss_nil
        · refine jss_cons ?_ ?_
          · refine js_if ?_ ?_ ?_
            · refine jt_cmp (op_eqD' hr.units) ?_ ?_
              · refine je_var (i := 0)
              · refine je_str
            · refine jss_cons ?_ ?_
              · refine js_ret ?_
                · refine je_tup ?_
                  · refine ja_cons ?_ ?_
                    · refine je_str
                    · refine ja_cons ?_ ?_
                      · refine je_str
                      · refine ja_nil
              · refine jss_nil
            · refine jss_nil
          · refine jss_cons ?_ ?_
            · refine js_if ?_ ?_ ?_
              · refine jt_cmp (op_eqD' hr.units) ?_ ?_
                · refine je_var (i := 0)
                · refine je_str
              · refine jss_cons ?_ ?_
                · refine js_ret ?_
                  · refine je_tup ?_
                    · refine ja_cons ?_ ?_
                      · refine je_str
                      · refine ja_cons ?_ ?_
                        · refine je_str
                        · refine ja_nil
                · refine jss_nil
              · refine jss_nil
            · refine jss_cons ?_ ?_
              · refine js_if ?_ ?_ ?_
                · refine jt_cmp (op_eqD' hr.units) ?_ ?_
                  · refine je_var (i := 0)
                  · refine je_str
                · refine jss_cons ?_ ?_
                  · refine js_ret ?_
                    · refine je_tup ?_
                      · refine ja_cons ?_ ?_
                        · refine je_str
                        · refine ja_cons ?_ ?_
                          · refine je_str
                          · refine ja_nil
                  · refine jss_nil
                · refine jss_nil
              · refine jss_cons ?_ ?_
                · refine js_ret ?_
                  · refine je_tup ?_
                    · refine ja_nil
                · refine jss_nil
end Law
set_option Elab.async false
set_option linter.all false
set_option maxRecDepth 100000
set_option maxHeartbeats 4000000
namespace Law
open PySem PySem.Spec PyProof.Rows L2 DL
theorem sc__law_sides : FnScope ["_law_rule", "_law_left", "_law_right", "_law_digit"] ["_law_rule"] (defScope s__law_sides) := ⟨rfl, rfl, rfl, by decide +kernel, rfl, by decide +kernel, by decide +kernel⟩
theorem ok__law_sides {P : Program} {w : World} {K : PySem.W.Frag} {mg : Str → Option Value} {base : Heap} (F : FnF K "_law_sides" s__law_sides) (T : Txt P K mg) : FnB P w K mg base 1 "_law_sides" ["_law_rule"] r__law_sides := by
  have nd := sc__law_sides.nd
  refine fnB_mk (P := P) (w := w) (K := K) (mg := mg) (base := base) (x := "_law_sides") (st := s__law_sides) (N := ["_law_rule", "_law_left", "_law_right", "_law_digit"]) (ps := ["_law_rule"]) (k := 0) (body := d__law_sides) F T.g__law_sides sc__law_sides (fun _ _ _ _ _ _ us hl => match us, hl with | [_], _ => rfl) (fun cdv A outer s H E hr => ?_)
  unfold d__law_sides
  refine jss_cons ?_ ?_
  · refine js_asg (js := ([1] ++ ([2] ++ []))) ?_ ?_
    · refine je_f ?_
      · refine jf_split ?_ ?_
        · refine je_var (i := 0)
        · refine je_str
    · refine jg_lst rfl ?_
      · refine jgs_cons ?_ ?_
        · refine jg_name (i := 1) nd
        · refine jgs_cons ?_ ?_
          · refine jg_name (i := 2) nd
          · refine jgs_nil
  · refine jss_cons ?_ ?_
    · refine js_ret ?_
      · refine je_tup ?_
        · refine ja_cons ?_ ?_
          · refine je_ct cr_tupleD T.b_tuple bt_tuple ?_
            · refine ja_cons ?_ ?_
              · refine je_f ?_
                · refine jf_lc rfl nd (own := [("_law_digit", 3)]) ?_ ?_ (fun _ _ _ _ _ => ?_) (go_name 3) (by decide) (fun _ _ _ _ _ => ?_)
                  · refine ji_str ?_
                    · refine je_var (i := 1)
                  · refine blkOk_by (N := ["_law_rule", "_law_left", "_law_right", "_law_digit"]) (sc := defScope s__law_sides) (own := [("_law_digit", 3)]) (by decide +kernel)
                  · refine pg_name (i := 3) nd rfl (by first | exact .inl rfl | exact .inr rfl)
                  · refine je_ct cr_intX T.b_int bt_int ?_
                    · refine ja_cons ?_ ?_
                      · refine je_var (i := 3)
                      · refine ja_nil
              · refine ja_nil
          · refine ja_cons ?_ ?_
            · refine je_ct cr_tupleD T.b_tuple bt_tuple ?_
              · refine ja_cons ?_ ?_
                · refine je_f ?_
                  · refine jf_lc rfl nd (own := [("_law_digit", 3)]) ?_ ?_ (fun _ _ _ _ _ => ?_) (go_name 3) (by decide) (fun _ _ _ _ _ => ?_)
                    · refine ji_str ?_
                      · refine je_var (i := 2)
                    · refine blkOk_by (N := ["_law_rule", "_law_left", "_law_right", "_law_digit"]) (sc := defScope s__law_sides) (own := [("_law_digit", 3)]) (by decide +kernel)
                    · refine pg_name (i := 3) nd rfl (by first | exact .inl rfl | exact .inr rfl)
                    · refine je_ct cr_intX T.b_int bt_int ?_
                      · refine ja_cons ?_ ?_
                        · refine je_var (i := 3)
                        · refine ja_nil
                · refine ja_nil
            · refine ja_nil
    · refine jss_nil
end Law
set_option Elab.async false
set_option linter.all false
set_option maxRecDepth 100000
set_option maxHeartbeats 4000000
namespace Law
open PySem PySem.Spec PyProof.Rows L2 DL
theorem sc__law_put : FnScope ["_law_side", "_law_words", "_law_ahead", "_law_behind", "_law_put_here", "_law_digit"] ["_law_side", "_law_words", "_law_ahead", "_law_behind"] (defScope s__law_put) := ⟨rfl, rfl, rfl, by decide +kernel, rfl, by decide +kernel, by decide +kernel⟩
theorem ok__law_put {P : Program} {w : World} {K : PySem.W.Frag} {mg : Str → Option Value} {base : Heap} (F : FnF K "_law_put" s__law_put) (T : Txt P K mg) : FnB P w K mg base 1 "_law_put" ["_law_side", "_law_words", "_law_ahead", "_law_behind"] r__law_put := by
  have nd := sc__law_put.nd
  refine fnB_mk (P := P) (w := w) (K := K) (mg := mg) (base := base) (x := "_law_put") (st := s__law_put) (N := ["_law_side", "_law_words", "_law_ahead", "_law_behind", "_law_put_here", "_law_digit"]) (ps := ["_law_side", "_law_words", "_law_ahead", "_law_behind"]) (k := 0) (body := d__law_put) F T.g__law_put sc__law_put (fun _ _ _ _ _ _ us hl => match us, hl with | [_, _, _, _], _ => rfl) (fun cdv A outer s H E hr => ?_)
  unfold d__law_put
  refine jss_cons ?_ ?_
  · refine js_set (i := 4) nd ?_
    · refine je_var (i := 2)
  · refine jss_cons ?_ ?_
    · refine js_for (js := [5]) (passes_of rfl) rfl ?_ ?_ ?_
      · refine ji_seq ?_
        · refine je_var (i := 0)
      · refine jg_name (i := 5) nd
      · refine jss_fg (js := [5]) ?_
        · refine jss_cons ?_ ?_
          · refine js_set (i := 4) nd ?_
            · refine je_op op_addD ?_ ?_
              · refine je_var (i := 4)
              · refine je_ix ?_ ?_
                · refine je_var (i := 1)
                · refine je_op op_subD ?_ ?_
                  · refine je_var (i := 5)
                  · refine je_int
          · refine jss_nil
    · refine jss_cons ?_ ?_
      · refine js_ret ?_
        · refine je_op op_addD ?_ ?_
          · refine je_var (i := 4)
          · refine je_var (i := 3)
      · refine jss_nil
end Law
set_option Elab.async false
set_option linter.all false
set_option maxRecDepth 100000
set_option maxHeartbeats 4000000
namespace Law
open PySem PySem.Spec PyProof.Rows L2 DL
theorem sc__law_narrow : FnScope ["_law_kind", "_law_other", "_law_pairs"] ["_law_kind", "_law_other"] (defScope s__law_narrow) := ⟨rfl, rfl, rfl, by decide +kernel, rfl, by decide +kernel, by decide +kernel⟩
theorem ok__law_narrow {P : Program} {w : World} {K : PySem.W.Frag} {mg : Str → Option Value} {base : Heap} (F : FnF K "_law_narrow" s__law_narrow) (T : Txt P K mg) : FnB P w K mg base 1 "_law_narrow" ["_law_kind", "_law_other"] r__law_narrow := by
  have nd := sc__law_narrow.nd
  refine fnB_mk (P := P) (w := w) (K := K) (mg := mg) (base := base) (x := "_law_narrow") (st := s__law_narrow) (N := ["_law_kind", "_law_other", "_law_pairs"]) (ps := ["_law_kind", "_law_other"]) (k := 0) (body := d__law_narrow) F T.g__law_narrow sc__law_narrow (fun _ _ _ _ _ _ us hl => match us, hl with | [_, _], _ => rfl) (fun cdv A outer s H E hr => ?_)
  unfold d__law_narrow
  refine jss_cons ?_ ?_
  · refine js_set (i := 2) nd ?_
    · refine je_f ?_
      · refine jf_lst ?_
        · refine ja_cons ?_ ?_
          · refine je_tup ?_
            · refine ja_cons ?_ ?_
              · refine je_str
              · refine ja_cons ?_ ?_
                · refine je_str
                · refine ja_nil
          · refine ja_cons ?_ ?_
            · refine je_tup ?_
              · refine ja_cons ?_ ?_
                · refine je_str
                · refine ja_cons ?_ ?_
                  · refine je_str
                  · refine ja_nil
            · refine ja_cons ?_ ?_
              · refine je_tup ?_
                · refine ja_cons ?_ ?_
                  · refine je_str
                  · refine ja_cons ?_ ?_
                    · refine je_str
                    · refine ja_nil
              · refine ja_cons ?_ ?_
                · refine je_tup ?_
                  · refine ja_cons ?_ ?_
                    · refine je_str
                    · refine ja_cons ?_ ?_
                      · refine je_str
                      · refine ja_nil
                · refine ja_cons ?_ ?_
                  · refine je_tup ?_
                    · refine ja_cons ?_ ?_
                      · refine je_str
                      · refine ja_cons ?_ ?_
                        · refine je_str
                        · refine ja_nil
                  · refine ja_nil
  · refine jss_cons ?_ ?_
    · refine js_ret ?_
      · refine je_or ?_ ?_
        · refine je_cmp (op_eqD' hr.units) ?_ ?_
          · refine je_var (i := 0)
          · refine je_var (i := 1)
        · refine je_or ?_ ?_
          · refine je_cmp (op_eqD' hr.units) ?_ ?_
            · refine je_var (i := 1)
            · refine je_str
          · refine je_one ?_
            · refine je_cmp (op_inY (hu65 hr)) ?_ ?_
              · refine je_tup ?_
                · refine ja_cons ?_ ?_
                  · refine je_var (i := 0)
                  · refine ja_cons ?_ ?_
                    · refine je_var (i := 1)
                    · refine ja_nil
              · refine je_op op_addD ?_ ?_
                · refine je_var (i := 2)
                · refine je_f ?_
                  · refine jf_lst ?_
                    · refine ja_cons ?_ ?_
                      · refine je_tup ?_
                        · refine ja_cons ?_ ?_
                          · refine je_str
                          · refine ja_cons ?_ ?_
                            · refine je_str
                            · refine ja_nil
                      · refine ja_cons ?_ ?_
                        · refine je_tup ?_
                          · refine ja_cons ?_ ?_
                            · refine je_str
                            · refine ja_cons ?_ ?_
                              · refine je_str
                              · refine ja_nil
                        · refine ja_nil
    · refine jss_nil
end Law
set_option Elab.async false
set_option linter.all false
set_option maxRecDepth 100000
set_option maxHeartbeats 4000000
namespace Law
open PySem PySem.Spec PyProof.Rows L2 DL
theorem sc__law_class : FnScope ["_law_kind"] ["_law_kind"] (defScope s__law_class) := ⟨rfl, rfl, rfl, by decide +kernel, rfl, by decide +kernel, by decide +kernel⟩
theorem ok__law_class {P : Program} {w : World} {K : PySem.W.Frag} {mg : Str → Option Value} {base : Heap} (F : FnF K "_law_class" s__law_class) (T : Txt P K mg) : FnB P w K mg base 1 "_law_class" ["_law_kind"] r__law_class := by
  have nd := sc__law_class.nd
  refine fnB_mk (P := P) (w := w) (K := K) (mg := mg) (base := base) (x := "_law_class") (st := s__law_class) (N := ["_law_kind"]) (ps := ["_law_kind"]) (k := 0) (body := d__law_class) F T.g__law_class sc__law_class (fun _ _ _ _ _ _ us hl => match us, hl with | [_], _ => rfl) (fun cdv A outer s H E hr => ?_)
  unfold d__law_class
  refine jss_cons ?_ ?_
  · refine js_if ?_ ?_ ?_
    · refine jt_cmp (op_eqD' hr.units) ?_ ?_
      · refine je_var (i := 0)
      · refine je_str
    · refine jss_cons ?_ ?_
      · refine js_retF ?_
        · refine jf_lst ?_
          · refine ja_cons ?_ ?_
            · refine je_cv T.v_Kind_NAME T.c_Kind
            · refine ja_cons ?_ ?_
              · refine je_cv T.v_Kind_RULES T.c_Kind
              · refine ja_cons ?_ ?_
                · refine je_cv T.v_Kind_IDEMPOTENT T.c_Kind
                · refine ja_cons ?_ ?_
                  · refine je_cv T.v_Kind_ORDERLESS T.c_Kind
                  · refine ja_cons ?_ ?_
                    · refine je_cv T.v_Kind_OUTER T.c_Kind
                    · refine ja_nil
      · refine jss_nil
    · refine jss_nil
  · refine jss_cons ?_ ?_
    · refine js_if ?_ ?_ ?_
      · refine jt_cmp (op_eqD' hr.units) ?_ ?_
        · refine je_var (i := 0)
        · refine je_str
      · refine jss_cons ?_ ?_
        · refine js_retF ?_
          · refine jf_lst ?_
            · refine ja_cons ?_ ?_
              · refine je_cv T.v_BagKind_NAME T.c_BagKind
              · refine ja_cons ?_ ?_
                · refine je_cv T.v_BagKind_RULES T.c_BagKind
                · refine ja_cons ?_ ?_
                  · refine je_cv T.v_BagKind_IDEMPOTENT T.c_BagKind
                  · refine ja_cons ?_ ?_
                    · refine je_cv T.v_BagKind_ORDERLESS T.c_BagKind
                    · refine ja_cons ?_ ?_
                      · refine je_cv T.v_BagKind_OUTER T.c_BagKind
                      · refine ja_nil
        · refine jss_nil
      · refine jss_nil
    · refine jss_cons ?_ ?_
      · refine js_if ?_ ?_ ?_
        · refine jt_cmp (op_eqD' hr.units) ?_ ?_
          · refine je_var (i := 0)
          · refine je_str
        · refine jss_cons ?_ ?_
          · refine js_retF ?_
            · refine jf_lst ?_
              · refine ja_cons ?_ ?_
                · refine je_cv T.v_SetKind_NAME T.c_SetKind
                · refine ja_cons ?_ ?_
                  · refine je_cv T.v_SetKind_RULES T.c_SetKind
                  · refine ja_cons ?_ ?_
                    · refine je_cv T.v_SetKind_IDEMPOTENT T.c_SetKind
                    · refine ja_cons ?_ ?_
                      · refine je_cv T.v_SetKind_ORDERLESS T.c_SetKind
                      · refine ja_cons ?_ ?_
                        · refine je_cv T.v_SetKind_OUTER T.c_SetKind
                        · refine ja_nil
          · refine jss_nil
        · refine jss_nil
      · refine jss_cons ?_ ?_
        · refine js_if ?_ ?_ ?_
          · refine jt_cmp (op_eqD' hr.units) ?_ ?_
            · refine je_var (i := 0)
            · refine je_str
          · refine jss_cons ?_ ?_
            · refine js_retF ?_
              · refine jf_lst ?_
                · refine ja_cons ?_ ?_
                  · refine je_cv T.v_FirstKind_NAME T.c_FirstKind
                  · refine ja_cons ?_ ?_
                    · refine je_cv T.v_FirstKind_RULES T.c_FirstKind
                    · refine ja_cons ?_ ?_
                      · refine je_cv T.v_FirstKind_IDEMPOTENT T.c_FirstKind
                      · refine ja_cons ?_ ?_
                        · refine je_cv T.v_FirstKind_ORDERLESS T.c_FirstKind
                        · refine ja_cons ?_ ?_
                          · refine je_cv T.v_FirstKind_OUTER T.c_FirstKind
                          · refine ja_nil
            · refine jss_nil
          · refine jss_nil
        · refine jss_cons ?_ ?_
          · refine js_if ?_ ?_ ?_
            · refine jt_cmp (op_eqD' hr.units) ?_ ?_
              · refine je_var (i := 0)
              · refine je_str
            · refine jss_cons ?_ ?_
              · refine js_retF ?_
                · refine jf_lst ?_
                  · refine ja_cons ?_ ?_
                    · refine je_cv T.v_LastKind_NAME T.c_LastKind
                    · refine ja_cons ?_ ?_
                      · refine je_cv T.v_LastKind_RULES T.c_LastKind
                      · refine ja_cons ?_ ?_
                        · refine je_cv T.v_LastKind_IDEMPOTENT T.c_LastKind
                        · refine ja_cons ?_ ?_
                          · refine je_cv T.v_LastKind_ORDERLESS T.c_LastKind
                          · refine ja_cons ?_ ?_
                            · refine je_cv T.v_LastKind_OUTER T.c_LastKind
                            · refine ja_nil
              · refine jss_nil
            · refine jss_nil
          · refine jss_cons ?_ ?_
            · refine js_if ?_ ?_ ?_
              · refine jt_cmp (op_eqD' hr.units) ?_ ?_
                · refine je_var (i := 0)
                · refine je_str
              · refine jss_cons ?_ ?_
                · refine js_retF ?_
                  · refine jf_lst ?_
                    · refine ja_cons ?_ ?_
                      · refine je_cv T.v_EndsKind_NAME T.c_EndsKind
                      · refine ja_cons ?_ ?_
                        · refine je_cv T.v_EndsKind_RULES T.c_EndsKind
                        · refine ja_cons ?_ ?_
                          · refine je_cv T.v_EndsKind_IDEMPOTENT T.c_EndsKind
                          · refine ja_cons ?_ ?_
                            · refine je_cv T.v_EndsKind_ORDERLESS T.c_EndsKind
                            · refine ja_cons ?_ ?_
                              · refine je_cv T.v_EndsKind_OUTER T.c_EndsKind
                              · refine ja_nil
                · refine jss_nil
              · refine jss_nil
            · refine jss_cons ?_ ?_
              · refine js_if ?_ ?_ ?_
                · refine jt_cmp (op_eqD' hr.units) ?_ ?_
                  · refine je_var (i := 0)
                  · refine je_str
                · refine jss_cons ?_ ?_
                  · refine js_retF ?_
                    · refine jf_lst ?_
                      · refine ja_cons ?_ ?_
                        · refine je_cv T.v_HeadsKind_NAME T.c_HeadsKind
                        · refine ja_cons ?_ ?_
                          · refine je_cv T.v_HeadsKind_RULES T.c_HeadsKind
                          · refine ja_cons ?_ ?_
                            · refine je_cv T.v_HeadsKind_IDEMPOTENT T.c_HeadsKind
                            · refine ja_cons ?_ ?_
                              · refine je_cv T.v_HeadsKind_ORDERLESS T.c_HeadsKind
                              · refine ja_cons ?_ ?_
                                · refine je_cv T.v_HeadsKind_OUTER T.c_HeadsKind
                                · refine ja_nil
                  · refine jss_nil
                · refine jss_nil
              · refine jss_cons ?_ ?_
                · refine js_retF ?_
                  · refine jf_lst ?_
                    · refine ja_cons ?_ ?_
                      · refine je_cv T.v_TailsKind_NAME T.c_TailsKind
                      · refine ja_cons ?_ ?_
                        · refine je_cv T.v_TailsKind_RULES T.c_TailsKind
                        · refine ja_cons ?_ ?_
                          · refine je_cv T.v_TailsKind_IDEMPOTENT T.c_TailsKind
                          · refine ja_cons ?_ ?_
                            · refine je_cv T.v_TailsKind_ORDERLESS T.c_TailsKind
                            · refine ja_cons ?_ ?_
                              · refine je_cv T.v_TailsKind_OUTER T.c_TailsKind
                              · refine ja_nil
                · refine jss_nil
end Law
set_option Elab.async false
set_option linter.all false
set_option maxRecDepth 100000
set_option maxHeartbeats 4000000
namespace Law
open PySem PySem.Spec PyProof.Rows L2 DL
theorem sc__law_family : FnScope ["_law_kind", "_law_merging", "_law_told", "_law_due"] ["_law_kind", "_law_merging"] (defScope s__law_family) := ⟨rfl, rfl, rfl, by decide +kernel, rfl, by decide +kernel, by decide +kernel⟩
theorem ok__law_family {P : Program} {w : World} {K : PySem.W.Frag} {mg : Str → Option Value} {base : Heap} (F : FnF K "_law_family" s__law_family) (T : Txt P K mg) : FnB P w K mg base 1 "_law_family" ["_law_kind", "_law_merging"] r__law_family := by
  have nd := sc__law_family.nd
  refine fnB_mk (P := P) (w := w) (K := K) (mg := mg) (base := base) (x := "_law_family") (st := s__law_family) (N := ["_law_kind", "_law_merging", "_law_told", "_law_due"]) (ps := ["_law_kind", "_law_merging"]) (k := 0) (body := d__law_family) F T.g__law_family sc__law_family (fun _ _ _ _ _ _ us hl => match us, hl with | [_, _], _ => rfl) (fun cdv A outer s H E hr => ?_)
  unfold d__law_family
  refine jss_cons ?_ ?_
  · refine js_set (i := 2) nd ?_
    · refine je_f ?_
      · refine jf_lst ?_
        · refine ja_cons ?_ ?_
          · refine je_isI T.it_Kind T.b_isinstance T.c_Kind ?_
            · refine je_var (i := 1)
          · refine ja_cons ?_ ?_
            · refine je_isI T.it_BagKind T.b_isinstance T.c_BagKind ?_
              · refine je_var (i := 1)
            · refine ja_cons ?_ ?_
              · refine je_isI T.it_SetKind T.b_isinstance T.c_SetKind ?_
                · refine je_var (i := 1)
              · refine ja_nil
  · refine jss_cons ?_ ?_
    · refine js_set (i := 2) nd ?_
      · refine je_op op_addD ?_ ?_
        · refine je_var (i := 2)
        · refine je_f ?_
          · refine jf_lst ?_
            · refine ja_cons ?_ ?_
              · refine je_isI T.it_HeadsKind T.b_isinstance T.c_HeadsKind ?_
                · refine je_var (i := 1)
              · refine ja_cons ?_ ?_
                · refine je_isI T.it_FirstKind T.b_isinstance T.c_FirstKind ?_
                  · refine je_var (i := 1)
                · refine ja_cons ?_ ?_
                  · refine je_isI T.it_TailsKind T.b_isinstance T.c_TailsKind ?_
                    · refine je_var (i := 1)
                  · refine ja_nil
    · refine jss_cons ?_ ?_
      · refine js_set (i := 2) nd ?_
        · refine je_op op_addD ?_ ?_
          · refine je_var (i := 2)
          · refine je_f ?_
            · refine jf_lst ?_
              · refine ja_cons ?_ ?_
                · refine je_isI T.it_LastKind T.b_isinstance T.c_LastKind ?_
                  · refine je_var (i := 1)
                · refine ja_cons ?_ ?_
                  · refine je_isI T.it_EndsKind T.b_isinstance T.c_EndsKind ?_
                    · refine je_var (i := 1)
                  · refine ja_nil
      · refine jss_cons ?_ ?_
        · refine js_set (i := 3) nd ?_
          · refine je_f ?_
            · refine jf_lst ?_
              · refine ja_cons ?_ ?_
                · refine je_bl
                · refine ja_cons ?_ ?_
                  · refine je_cmp op_inD ?_ ?_
                    · refine je_var (i := 0)
                    · refine je_f ?_
                      · refine jf_lst ?_
                        · refine ja_cons ?_ ?_
                          · refine je_str
                          · refine ja_cons ?_ ?_
                            · refine je_str
                            · refine ja_nil
                  · refine ja_cons ?_ ?_
                    · refine je_cmp (op_eqD' hr.units) ?_ ?_
                      · refine je_var (i := 0)
                      · refine je_str
                    · refine ja_cons ?_ ?_
                      · refine je_cmp op_inD ?_ ?_
                        · refine je_var (i := 0)
                        · refine je_f ?_
                          · refine jf_lst ?_
                            · refine ja_cons ?_ ?_
                              · refine je_str
                              · refine ja_cons ?_ ?_
                                · refine je_str
                                · refine ja_nil
                      · refine ja_cons ?_ ?_
                        · refine je_cmp (op_eqD' hr.units) ?_ ?_
                          · refine je_var (i := 0)
                          · refine je_str
                        · refine ja_nil
        · refine jss_cons ?_ ?_
          · refine js_ret ?_
            · refine je_cmp (op_eqD' hr.units) ?_ ?_
              · refine je_var (i := 2)
              · refine je_op op_addD ?_ ?_
                · refine je_var (i := 3)
                · refine je_f ?_
                  · refine jf_lst ?_
                    · refine ja_cons ?_ ?_
                      · refine je_cmp op_inD ?_ ?_
                        · refine je_var (i := 0)
                        · refine je_f ?_
                          · refine jf_lst ?_
                            · refine ja_cons ?_ ?_
                              · refine je_str
                              · refine ja_cons ?_ ?_
                                · refine je_str
                                · refine ja_nil
                      · refine ja_cons ?_ ?_
                        · refine je_cmp (op_eqD' hr.units) ?_ ?_
                          · refine je_var (i := 0)
                          · refine je_str
                        · refine ja_cons ?_ ?_
                          · refine je_cmp (op_eqD' hr.units) ?_ ?_
                            · refine je_var (i := 0)
                            · refine je_str
                          · refine ja_nil
          · refine jss_nil
end Law
set_option Elab.async false
set_option linter.all false
set_option maxRecDepth 100000
set_option maxHeartbeats 4000000
namespace Law
open PySem PySem.Spec PyProof.Rows L2 DL
theorem sc__law_made : FnScope ["_law_kind"] ["_law_kind"] (defScope s__law_made) := ⟨rfl, rfl, rfl, by decide +kernel, rfl, by decide +kernel, by decide +kernel⟩
theorem ok__law_made {P : Program} {w : World} {K : PySem.W.Frag} {mg : Str → Option Value} {base : Heap} (F : FnF K "_law_made" s__law_made) (T : Txt P K mg) : FnB P w K mg base 1 "_law_made" ["_law_kind"] r__law_made := by
  have nd := sc__law_made.nd
  refine fnB_mk (P := P) (w := w) (K := K) (mg := mg) (base := base) (x := "_law_made") (st := s__law_made) (N := ["_law_kind"]) (ps := ["_law_kind"]) (k := 0) (body := d__law_made) F T.g__law_made sc__law_made (fun _ _ _ _ _ _ us hl => match us, hl with | [_], _ => rfl) (fun cdv A outer s H E hr => ?_)
  unfold d__law_made
  refine jss_cons ?_ ?_
  · refine js_if ?_ ?_ ?_
    · refine jt_cmp (op_eqD' hr.units) ?_ ?_
      · refine je_var (i := 0)
      · refine je_str
    · refine jss_cons ?_ ?_
      · refine js_ret ?_
        · refine je_mkO T.o_BagKind T.c_BagKind
      · refine jss_nil
    · refine jss_nil
  · refine jss_cons ?_ ?_
    · refine js_if ?_ ?_ ?_
      · refine jt_cmp (op_eqD' hr.units) ?_ ?_
        · refine je_var (i := 0)
        · refine je_str
      · refine jss_cons ?_ ?_
        · refine js_ret ?_
          · refine je_mkO T.o_SetKind T.c_SetKind
        · refine jss_nil
      · refine jss_nil
    · refine jss_cons ?_ ?_
      · refine js_if ?_ ?_ ?_
        · refine jt_cmp (op_eqD' hr.units) ?_ ?_
          · refine je_var (i := 0)
          · refine je_str
        · refine jss_cons ?_ ?_
          · refine js_ret ?_
            · refine je_mkO T.o_FirstKind T.c_FirstKind
          · refine jss_nil
        · refine jss_nil
      · refine jss_cons ?_ ?_
        · refine js_if ?_ ?_ ?_
          · refine jt_cmp (op_eqD' hr.units) ?_ ?_
            · refine je_var (i := 0)
            · refine je_str
          · refine jss_cons ?_ ?_
            · refine js_ret ?_
              · refine je_mkO T.o_LastKind T.c_LastKind
            · refine jss_nil
          · refine jss_nil
        · refine jss_cons ?_ ?_
          · refine js_if ?_ ?_ ?_
            · refine jt_cmp (op_eqD' hr.units) ?_ ?_
              · refine je_var (i := 0)
              · refine je_str
            · refine jss_cons ?_ ?_
              · refine js_ret ?_
                · refine je_mkO T.o_EndsKind T.c_EndsKind
              · refine jss_nil
            · refine jss_nil
          · refine jss_cons ?_ ?_
            · refine js_if ?_ ?_ ?_
              · refine jt_cmp (op_eqD' hr.units) ?_ ?_
                · refine je_var (i := 0)
                · refine je_str
              · refine jss_cons ?_ ?_
                · refine js_ret ?_
                  · refine je_mkO T.o_HeadsKind T.c_HeadsKind
                · refine jss_nil
              · refine jss_nil
            · refine jss_cons ?_ ?_
              · refine js_if ?_ ?_ ?_
                · refine jt_cmp (op_eqD' hr.units) ?_ ?_
                  · refine je_var (i := 0)
                  · refine je_str
                · refine jss_cons ?_ ?_
                  · refine js_ret ?_
                    · refine je_mkO T.o_TailsKind T.c_TailsKind
                  · refine jss_nil
                · refine jss_nil
              · refine jss_cons ?_ ?_
                · refine js_ret ?_
                  · refine je_mkO T.o_Kind T.c_Kind
                · refine jss_nil
end Law
set_option Elab.async false
set_option linter.all false
set_option maxRecDepth 100000
set_option maxHeartbeats 4000000
namespace Law
open PySem PySem.Spec PyProof.Rows L2 DL
theorem sc__law_flag : FnScope ["_law_told", "_law_due"] ["_law_told", "_law_due"] (defScope s__law_flag) := ⟨rfl, rfl, rfl, by decide +kernel, rfl, by decide +kernel, by decide +kernel⟩
theorem ok__law_flag {P : Program} {w : World} {K : PySem.W.Frag} {mg : Str → Option Value} {base : Heap} (F : FnF K "_law_flag" s__law_flag) (T : Txt P K mg) : FnB P w K mg base 1 "_law_flag" ["_law_told", "_law_due"] r__law_flag := by
  have nd := sc__law_flag.nd
  refine fnB_mk (P := P) (w := w) (K := K) (mg := mg) (base := base) (x := "_law_flag") (st := s__law_flag) (N := ["_law_told", "_law_due"]) (ps := ["_law_told", "_law_due"]) (k := 0) (body := d__law_flag) F T.g__law_flag sc__law_flag (fun _ _ _ _ _ _ us hl => match us, hl with | [_, _], _ => rfl) (fun cdv A outer s H E hr => ?_)
  unfold d__law_flag
  refine jss_cons ?_ ?_
  · refine js_if ?_ ?_ ?_
    · refine jt_tru ?_
      · refine je_var (i := 1)
    · refine jss_cons ?_ ?_
      · refine js_ret ?_
        · refine je_cmp op_isD ?_ ?_
          · refine je_var (i := 0)
          · refine je_bl
      · refine jss_nil
    · refine jss_nil
  · refine jss_cons ?_ ?_
    · refine js_ret ?_
      · refine je_cmp op_isD ?_ ?_
        · refine je_var (i := 0)
        · refine je_bl
    · refine jss_nil
end Law
set_option Elab.async false
set_option linter.all false
set_option maxRecDepth 100000
set_option maxHeartbeats 4000000
namespace Law
open PySem PySem.Spec PyProof.Rows L2 DL
theorem sc__law_repeated : FnScope ["_law_word_here", "_law_place"] ["_law_word_here"] (defScope s__law_repeated) := ⟨rfl, rfl, rfl, by decide +kernel, rfl, by decide +kernel, by decide +kernel⟩
theorem ok__law_repeated {P : Program} {w : World} {K : PySem.W.Frag} {mg : Str → Option Value} {base : Heap} (F : FnF K "_law_repeated" s__law_repeated) (T : Txt P K mg) : FnB P w K mg base 1 "_law_repeated" ["_law_word_here"] r__law_repeated := by
  have nd := sc__law_repeated.nd
  refine fnB_mk (P := P) (w := w) (K := K) (mg := mg) (base := base) (x := "_law_repeated") (st := s__law_repeated) (N := ["_law_word_here", "_law_place"]) (ps := ["_law_word_here"]) (k := 0) (body := d__law_repeated) F T.g__law_repeated sc__law_repeated (fun _ _ _ _ _ _ us hl => match us, hl with | [_], _ => rfl) (fun cdv A outer s H E hr => ?_)
  unfold d__law_repeated
  refine jss_cons ?_ ?_
  · refine js_for (js := [1]) (passes_of rfl) rfl ?_ ?_ ?_
    · refine ji_rng1 T.b_range ?_
      · refine ja_cons ?_ ?_
        · refine je_cb cr_lenD T.b_len bt_len ?_
          · refine ja_cons ?_ ?_
            · refine je_var (i := 0)
            · refine ja_nil
        · refine ja_nil
    · refine jg_name (i := 1) nd
    · refine jss_fg (js := [1]) ?_
      · refine jss_cons ?_ ?_
        · refine js_if ?_ ?_ ?_
          · refine jt_cmp op_inD ?_ ?_
            · refine je_ix ?_ ?_
              · refine je_var (i := 0)
              · refine je_var (i := 1)
            · refine je_sl ?_ ?_ ?_
              · refine je_var (i := 0)
              · refine jo_none
              · refine jo_some ?_
                · refine je_var (i := 1)
          · refine jss_cons ?_ ?_
            · refine js_ret ?_
              · refine je_ix ?_ ?_
                · refine je_var (i := 0)
                · refine je_var (i := 1)
            · refine jss_nil
          · refine jss_nil
        · refine jss_nil
  · refine jss_cons ?_ ?_
    · refine js_ret ?_
      · refine je_non
    · refine jss_nil
end Law
set_option Elab.async false
set_option linter.all false
set_option maxRecDepth 100000
set_option maxHeartbeats 4000000
namespace Law
open PySem PySem.Spec PyProof.Rows L2 DL
theorem sc_BagKind_plain : NdefX.NScope ["self", "word", "__class__"] ["self", "word"] ["__class__"] (defScope s_BagKind_plain) := NdefX.nscope_by (by decide +kernel)
theorem ok_BagKind_plain {P : Program} {w : World} {K : PySem.W.Frag} {mg : Str → Option Value} {base : Heap} (F : FunS P K "BagKind" "plain" "plain" "BagKind.plain" s_BagKind_plain) (T : Txt P K mg) (B_Kind_plain : FnM P w K mg base 1 "Kind" "plain" 2 r_Kind_plain) : FnM P w K mg base 2 "BagKind" "plain" 2 r_BagKind_plain := by
  have nd := sc_BagKind_plain.nd
  refine fnS_mk (P := P) (w := w) (K := K) (mg := mg) (base := base) (C := "BagKind") (m := "plain") (x := "plain") (qual := "BagKind.plain") (sn := "self") (st := s_BagKind_plain) (N := ["self", "word", "__class__"]) (ps := ["self", "word"]) (k := 1) (body := d_BagKind_plain) F T.b_super sc_BagKind_plain ⟨_, rfl, rfl⟩ (by decide +kernel) (by decide +kernel) (fun _ _ _ _ _ _ _ us hl => match us, hl with | [_, _], _ => rfl) (fun f cda cc A outer s H E hr SX => ?_)
  unfold d_BagKind_plain
  refine jssa_cons ?_ ?_
  · refine jsa_ret ?_
    · refine jea_ct cr_tupleD T.b_tuple bt_tuple ?_
      · refine jea_cbF cr_sortF T.b_sorted bt_sorted ?_
        · refine jea_sup (D := "BagKind") (D2 := "Kind") (i := 0) (k := 1) (Cs := ["BagKind", "SetKind"]) (R := r_Kind_plain) (n := 2) SX T.u_BagKind_plain B_Kind_plain (by decide) (hr.mono (by decide)) (takes_of rfl rfl rfl rfl) ?_
          · refine je_var (i := 1)
  · refine jssa_of ?_
    · refine jss_nil
end Law
set_option Elab.async false
set_option linter.all false
set_option maxRecDepth 100000
set_option maxHeartbeats 4000000
namespace Law
open PySem PySem.Spec PyProof.Rows L2 DL
theorem sc_HeadsKind_plain : NdefX.NScope ["self", "word", "__class__", "kept", "letter"] ["self", "word"] ["__class__"] (defScope s_HeadsKind_plain) := NdefX.nscope_by (by decide +kernel)
theorem ok_HeadsKind_plain {P : Program} {w : World} {K : PySem.W.Frag} {mg : Str → Option Value} {base : Heap} (F : FunS P K "HeadsKind" "plain" "plain" "HeadsKind.plain" s_HeadsKind_plain) (T : Txt P K mg) (B_Kind_plain : FnM P w K mg base 1 "Kind" "plain" 2 r_Kind_plain) : FnM P w K mg base 2 "HeadsKind" "plain" 2 r_HeadsKind_plain := by
  have nd := sc_HeadsKind_plain.nd
  refine fnS_mk (P := P) (w := w) (K := K) (mg := mg) (base := base) (C := "HeadsKind") (m := "plain") (x := "plain") (qual := "HeadsKind.plain") (sn := "self") (st := s_HeadsKind_plain) (N := ["self", "word", "__class__", "kept", "letter"]) (ps := ["self", "word"]) (k := 1) (body := d_HeadsKind_plain) F T.b_super sc_HeadsKind_plain ⟨_, rfl, rfl⟩ (by decide +kernel) (by decide +kernel) (fun _ _ _ _ _ _ _ us hl => match us, hl with | [_, _], _ => rfl) (fun f cda cc A outer s H E hr SX => ?_)
  unfold d_HeadsKind_plain
  refine jssa_cons ?_ ?_
  · refine jsa_of ?_
    · refine js_setM (i := 3) nd ?_
      · refine jf_dct
  · refine jssa_cons ?_ ?_
    · refine jsa_for (js := [4]) (passes_of rfl) rfl ?_ ?_ ?_
      · refine jia_seq ?_
        · refine jea_sup (D := "HeadsKind") (D2 := "Kind") (i := 0) (k := 1) (Cs := ["HeadsKind", "FirstKind"]) (R := r_Kind_plain) (n := 2) SX T.u_HeadsKind_plain B_Kind_plain (by decide) (hr.mono (by decide)) (takes_of rfl rfl rfl rfl) ?_
          · refine je_var (i := 1)
      · refine jg_name (i := 4) nd
      · refine jss_fg (js := [4]) ?_
        · refine jss_cons ?_ ?_
          · refine js_setK (i := 3) (hu_of hr) ?_ ?_
            · refine je_bl
            · refine je_var (i := 4)
          · refine jss_nil
    · refine jssa_of ?_
      · refine jss_cons ?_ ?_
        · refine js_ret ?_
          · refine je_ct cr_tupleD T.b_tuple bt_tuple ?_
            · refine ja_cons ?_ ?_
              · refine je_f ?_
                · refine jf_ct (cr_listX rfl) T.b_list bt_list ?_
                  · refine ja_cons ?_ ?_
                    · refine je_var (i := 3)
                    · refine ja_nil
              · refine ja_nil
        · refine jss_nil
end Law
set_option Elab.async false
set_option linter.all false
set_option maxRecDepth 100000
set_option maxHeartbeats 4000000
namespace Law
open PySem PySem.Spec PyProof.Rows L2 DL
theorem sc_TailsKind_plain : NdefX.NScope ["self", "word", "__class__", "kept", "letter"] ["self", "word"] ["__class__"] (defScope s_TailsKind_plain) := NdefX.nscope_by (by decide +kernel)
theorem ok_TailsKind_plain {P : Program} {w : World} {K : PySem.W.Frag} {mg : Str → Option Value} {base : Heap} (F : FunS P K "TailsKind" "plain" "plain" "TailsKind.plain" s_TailsKind_plain) (T : Txt P K mg) (B_Kind_plain : FnM P w K mg base 1 "Kind" "plain" 2 r_Kind_plain) : FnM P w K mg base 2 "TailsKind" "plain" 2 r_TailsKind_plain := by
  have nd := sc_TailsKind_plain.nd
  refine fnS_mk (P := P) (w := w) (K := K) (mg := mg) (base := base) (C := "TailsKind") (m := "plain") (x := "plain") (qual := "TailsKind.plain") (sn := "self") (st := s_TailsKind_plain) (N := ["self", "word", "__class__", "kept", "letter"]) (ps := ["self", "word"]) (k := 1) (body := d_TailsKind_plain) F T.b_super sc_TailsKind_plain ⟨_, rfl, rfl⟩ (by decide +kernel) (by decide +kernel) (fun _ _ _ _ _ _ _ us hl => match us, hl with | [_, _], _ => rfl) (fun f cda cc A outer s H E hr SX => ?_)
  unfold d_TailsKind_plain
  refine jssa_cons ?_ ?_
  · refine jsa_of ?_
    · refine js_setM (i := 3) nd ?_
      · refine jf_dct
  · refine jssa_cons ?_ ?_
    · refine jsa_for (js := [4]) (passes_of rfl) rfl ?_ ?_ ?_
      · refine jia_seq ?_
        · refine jea_rev ?_ ?_
          · refine jea_sup (D := "TailsKind") (D2 := "Kind") (i := 0) (k := 1) (Cs := ["TailsKind", "LastKind"]) (R := r_Kind_plain) (n := 2) SX T.u_TailsKind_plain B_Kind_plain (by decide) (hr.mono (by decide)) (takes_of rfl rfl rfl rfl) ?_
            · refine je_var (i := 1)
          · refine jo_some ?_
            · refine je_un un_negD ?_
              · refine je_int
      · refine jg_name (i := 4) nd
      · refine jss_fg (js := [4]) ?_
        · refine jss_cons ?_ ?_
          · refine js_setK (i := 3) (hu_of hr) ?_ ?_
            · refine je_bl
            · refine je_var (i := 4)
          · refine jss_nil
    · refine jssa_of ?_
      · refine jss_cons ?_ ?_
        · refine js_ret ?_
          · refine je_ct cr_tupleD T.b_tuple bt_tuple ?_
            · refine ja_cons ?_ ?_
              · refine je_rev ?_ ?_
                · refine je_f ?_
                  · refine jf_ct (cr_listX rfl) T.b_list bt_list ?_
                    · refine ja_cons ?_ ?_
                      · refine je_var (i := 3)
                      · refine ja_nil
                · refine jo_some ?_
                  · refine je_un un_negD ?_
                    · refine je_int
              · refine ja_nil
        · refine jss_nil
end Law
set_option Elab.async false
set_option linter.all false
set_option maxRecDepth 100000
set_option maxHeartbeats 4000000
namespace Law
open PySem PySem.Spec PyProof.Rows L2 DL
theorem sc_EndsKind_plain : NdefX.NScope ["self", "word", "__class__", "whole"] ["self", "word"] ["__class__"] (defScope s_EndsKind_plain) := NdefX.nscope_by (by decide +kernel)
theorem ok_EndsKind_plain {P : Program} {w : World} {K : PySem.W.Frag} {mg : Str → Option Value} {base : Heap} (F : FunS P K "EndsKind" "plain" "plain" "EndsKind.plain" s_EndsKind_plain) (T : Txt P K mg) (B_Kind_plain : FnM P w K mg base 1 "Kind" "plain" 2 r_Kind_plain) : FnM P w K mg base 2 "EndsKind" "plain" 2 r_EndsKind_plain := by
  have nd := sc_EndsKind_plain.nd
  refine fnS_mk (P := P) (w := w) (K := K) (mg := mg) (base := base) (C := "EndsKind") (m := "plain") (x := "plain") (qual := "EndsKind.plain") (sn := "self") (st := s_EndsKind_plain) (N := ["self", "word", "__class__", "whole"]) (ps := ["self", "word"]) (k := 1) (body := d_EndsKind_plain) F T.b_super sc_EndsKind_plain ⟨_, rfl, rfl⟩ (by decide +kernel) (by decide +kernel) (fun _ _ _ _ _ _ _ us hl => match us, hl with | [_, _], _ => rfl) (fun f cda cc A outer s H E hr SX => ?_)
  unfold d_EndsKind_plain
  refine jssa_cons ?_ ?_
  · refine jsa_set (i := 3) nd ?_
    · refine jea_sup (D := "EndsKind") (D2 := "Kind") (i := 0) (k := 1) (Cs := ["EndsKind"]) (R := r_Kind_plain) (n := 2) SX T.u_EndsKind_plain B_Kind_plain (by decide) (hr.mono (by decide)) (takes_of rfl rfl rfl rfl) ?_
      · refine je_var (i := 1)
  · refine jssa_of ?_
    · refine jss_cons ?_ ?_
      · refine js_ret ?_
        · refine je_op op_addD ?_ ?_
          · refine je_sl ?_ ?_ ?_
            · refine je_var (i := 3)
            · refine jo_none
            · refine jo_some ?_
              · refine je_int
          · refine je_sl ?_ ?_ ?_
            · refine je_var (i := 3)
            · refine jo_some ?_
              · refine je_un un_negD ?_
                · refine je_int
            · refine jo_none
      · refine jss_nil
end Law
set_option Elab.async false
set_option linter.all false
set_option maxRecDepth 100000
set_option maxHeartbeats 4000000
namespace Law
open PySem PySem.Spec PyProof.Rows L2 DL
theorem sc__law_letters : FnScope ["_law_stream_here", "_law_many", "_law_letters_here", "_law_letter", "_law_form", "_law_turn"] ["_law_stream_here", "_law_many"] (defScope s__law_letters) := ⟨rfl, rfl, rfl, by decide +kernel, rfl, by decide +kernel, by decide +kernel⟩
theorem ok__law_letters {P : Program} {w : World} {K : PySem.W.Frag} {mg : Str → Option Value} {base : Heap} (F : FnF K "_law_letters" s__law_letters) (T : Txt P K mg) (B__law_draw : FnB P w K mg base 1 "_law_draw" ["_law_stream_here", "_law_many"] r__law_draw) : FnB P w K mg base 2 "_law_letters" ["_law_stream_here", "_law_many"] r__law_letters := by
  have nd := sc__law_letters.nd
  refine fnB_mk (P := P) (w := w) (K := K) (mg := mg) (base := base) (x := "_law_letters") (st := s__law_letters) (N := ["_law_stream_here", "_law_many", "_law_letters_here", "_law_letter", "_law_form", "_law_turn"]) (ps := ["_law_stream_here", "_law_many"]) (k := 1) (body := d__law_letters) F T.g__law_letters sc__law_letters (fun _ _ _ _ _ _ us hl => match us, hl with | [_, _], _ => rfl) (fun cdv A outer s H E hr => ?_)
  unfold d__law_letters
  refine jss_cons ?_ ?_
  · refine js_setM (i := 2) nd ?_
    · refine jf_lst ?_
      · refine ja_nil
  · refine jss_cons ?_ ?_
    · refine js_set (i := 3) nd ?_
      · refine je_int
    · refine jss_cons ?_ ?_
      · refine js_set (i := 4) nd ?_
        · refine je_callB (ps := ["_law_stream_here", "_law_many"]) (R := r__law_draw) B__law_draw (hr.mono (by decide)) (takes_of rfl rfl rfl rfl) ?_
          · refine ja_cons ?_ ?_
            · refine je_var (i := 0)
            · refine ja_cons ?_ ?_
              · refine je_int
              · refine ja_nil
      · refine jss_cons ?_ ?_
        · refine js_for (js := [5]) (passes_of rfl) rfl ?_ ?_ ?_
          · refine ji_rng1 T.b_range ?_
            · refine ja_cons ?_ ?_
              · refine je_var (i := 1)
              · refine ja_nil
          · refine jg_name (i := 5) nd
          · refine jss_fg (js := [5]) ?_
            · refine jss_cons ?_ ?_
              · refine js_if ?_ ?_ ?_
                · refine jt_cmp (op_eqD' hr.units) ?_ ?_
                  · refine je_var (i := 4)
                  · refine je_int
                · refine jss_cons ?_ ?_
                  · refine js_set (i := 3) nd ?_
                    · refine je_op op_addD ?_ ?_
                      · refine je_var (i := 3)
                      · refine je_callB (ps := ["_law_stream_here", "_law_many"]) (R := r__law_draw) B__law_draw (hr.mono (by decide)) (takes_of rfl rfl rfl rfl) ?_
                        · refine ja_cons ?_ ?_
                          · refine je_var (i := 0)
                          · refine ja_cons ?_ ?_
                            · refine je_int
                            · refine ja_nil
                  · refine jss_nil
                · refine jss_nil
              · refine jss_cons ?_ ?_
                · refine js_if ?_ ?_ ?_
                  · refine jt_cmp (op_eqD' hr.units) ?_ ?_
                    · refine je_var (i := 4)
                    · refine je_int
                  · refine jss_cons ?_ ?_
                    · refine js_set (i := 3) nd ?_
                      · refine je_op op_addD ?_ ?_
                        · refine je_var (i := 3)
                        · refine je_op op_mulD ?_ ?_
                          · refine je_callB (ps := ["_law_stream_here", "_law_many"]) (R := r__law_draw) B__law_draw (hr.mono (by decide)) (takes_of rfl rfl rfl rfl) ?_
                            · refine ja_cons ?_ ?_
                              · refine je_var (i := 0)
                              · refine ja_cons ?_ ?_
                                · refine je_int
                                · refine ja_nil
                          · refine je_op op_powD ?_ ?_
                            · refine je_int
                            · refine je_int
                    · refine jss_nil
                  · refine jss_nil
                · refine jss_cons ?_ ?_
                  · refine js_expr ?_
                    · refine je_app (i := 2) ?_
                      · refine je_var (i := 3)
                  · refine jss_cons ?_ ?_
                    · refine js_set (i := 3) nd ?_
                      · refine je_op op_addD ?_ ?_
                        · refine je_var (i := 3)
                        · refine je_int
                    · refine jss_nil
        · refine jss_cons ?_ ?_
          · refine js_ret ?_
            · refine je_var (i := 2)
          · refine jss_nil
end Law
set_option Elab.async false
set_option linter.all false
set_option maxRecDepth 100000
set_option maxHeartbeats 4000000
namespace Law
open PySem PySem.Spec PyProof.Rows L2 DL
theorem sc__law_word : FnScope ["_law_stream_here", "_law_size", "_law_letters_here", "_law_turn"] ["_law_stream_here", "_law_size", "_law_letters_here"] (defScope s__law_word) := ⟨rfl, rfl, rfl, by decide +kernel, rfl, by decide +kernel, by decide +kernel⟩
theorem ok__law_word {P : Program} {w : World} {K : PySem.W.Frag} {mg : Str → Option Value} {base : Heap} (F : FnF K "_law_word" s__law_word) (T : Txt P K mg) (B__law_draw : FnB P w K mg base 1 "_law_draw" ["_law_stream_here", "_law_many"] r__law_draw) : FnB P w K mg base 2 "_law_word" ["_law_stream_here", "_law_size", "_law_letters_here"] r__law_word := by
  have nd := sc__law_word.nd
  refine fnB_mk (P := P) (w := w) (K := K) (mg := mg) (base := base) (x := "_law_word") (st := s__law_word) (N := ["_law_stream_here", "_law_size", "_law_letters_here", "_law_turn"]) (ps := ["_law_stream_here", "_law_size", "_law_letters_here"]) (k := 1) (body := d__law_word) F T.g__law_word sc__law_word (fun _ _ _ _ _ _ us hl => match us, hl with | [_, _, _], _ => rfl) (fun cdv A outer s H E hr => ?_)
  unfold d__law_word
  refine jss_cons ?_ ?_
  · refine js_ret ?_
    · refine je_ct cr_tupleD T.b_tuple bt_tuple ?_
      · refine ja_cons ?_ ?_
        · refine je_f ?_
          · refine jf_lc rfl nd (own := [("_law_turn", 3)]) ?_ ?_ (fun _ _ _ _ _ => ?_) (go_name 3) (by decide) (fun _ _ _ _ _ => ?_)
            · refine ji_rng1 T.b_range ?_
              · refine ja_cons ?_ ?_
                · refine je_var (i := 1)
                · refine ja_nil
            · refine blkOk_by (N := ["_law_stream_here", "_law_size", "_law_letters_here", "_law_turn"]) (sc := defScope s__law_word) (own := [("_law_turn", 3)]) (by decide +kernel)
            · refine pg_name (i := 3) nd rfl (by first | exact .inl rfl | exact .inr rfl)
            · refine je_ix ?_ ?_
              · refine je_var (i := 2)
              · refine je_callB (ps := ["_law_stream_here", "_law_many"]) (R := r__law_draw) B__law_draw (hr.mono (by decide)) takes0 ?_
                · refine ja_cons ?_ ?_
                  · refine je_var (i := 0)
                  · refine ja_cons ?_ ?_
                    · refine je_cb cr_lenD T.b_len bt_len ?_
                      · refine ja_cons ?_ ?_
                        · refine je_var (i := 2)
                        · refine ja_nil
                    · refine ja_nil
        · refine ja_nil
  · refine jss_nil
end Law
set_option Elab.async false
set_option linter.all false
set_option maxRecDepth 100000
set_option maxHeartbeats 4000000
namespace Law
open PySem PySem.Spec PyProof.Rows L2 DL
theorem sc__law_broken : FnScope ["_law_kind", "_law_other", "_law_rule", "_law_left", "_law_right"] ["_law_kind", "_law_other"] (defScope s__law_broken) := ⟨rfl, rfl, rfl, by decide +kernel, rfl, by decide +kernel, by decide +kernel⟩
theorem ok__law_broken {P : Program} {w : World} {K : PySem.W.Frag} {mg : Str → Option Value} {base : Heap} (F : FnF K "_law_broken" s__law_broken) (T : Txt P K mg) (B__law_rules : FnB P w K mg base 1 "_law_rules" ["_law_kind"] r__law_rules) (B__law_sides : FnB P w K mg base 1 "_law_sides" ["_law_rule"] r__law_sides) (B__law_plain : FnB P w K mg base 1 "_law_plain" ["_law_kind", "_law_word_here"] r__law_plain) : FnB P w K mg base 2 "_law_broken" ["_law_kind", "_law_other"] r__law_broken := by
  have nd := sc__law_broken.nd
  refine fnB_mk (P := P) (w := w) (K := K) (mg := mg) (base := base) (x := "_law_broken") (st := s__law_broken) (N := ["_law_kind", "_law_other", "_law_rule", "_law_left", "_law_right"]) (ps := ["_law_kind", "_law_other"]) (k := 1) (body := d__law_broken) F T.g__law_broken sc__law_broken (fun _ _ _ _ _ _ us hl => match us, hl with | [_, _], _ => rfl) (fun cdv A outer s H E hr => ?_)
  unfold d__law_broken
  refine jss_cons ?_ ?_
  · refine js_for (js := [2]) (passes_of rfl) rfl ?_ ?_ ?_
    · refine ji_seq ?_
      · refine je_callB (ps := ["_law_kind"]) (R := r__law_rules) B__law_rules (hr.mono (by decide)) (takes_of rfl rfl rfl rfl) ?_
        · refine ja_cons ?_ ?_
          · refine je_var (i := 1)
          · refine ja_nil
    · refine jg_name (i := 2) nd
    · refine jss_fg (js := [2, 3, 4]) ?_
      · refine jss_cons ?_ ?_
        · refine js_asg (js := ([3] ++ ([4] ++ []))) ?_ ?_
          · refine je_callB (ps := ["_law_rule"]) (R := r__law_sides) B__law_sides (hr.mono (by decide)) (takes_of rfl rfl rfl rfl) ?_
            · refine ja_cons ?_ ?_
              · refine je_var (i := 2)
              · refine ja_nil
          · refine jg_tup rfl ?_
            · refine jgs_cons ?_ ?_
              · refine jg_name (i := 3) nd
              · refine jgs_cons ?_ ?_
                · refine jg_name (i := 4) nd
                · refine jgs_nil
        · refine jss_cons ?_ ?_
          · refine js_if ?_ ?_ ?_
            · refine jt_cmp (op_neD' hr.units) ?_ ?_
              · refine je_callB (ps := ["_law_kind", "_law_word_here"]) (R := r__law_plain) B__law_plain (hr.mono (by decide)) (takes_of rfl rfl rfl rfl) ?_
                · refine ja_cons ?_ ?_
                  · refine je_var (i := 0)
                  · refine ja_cons ?_ ?_
                    · refine je_var (i := 3)
                    · refine ja_nil
              · refine je_callB (ps := ["_law_kind", "_law_word_here"]) (R := r__law_plain) B__law_plain (hr.mono (by decide)) (takes_of rfl rfl rfl rfl) ?_
                · refine ja_cons ?_ ?_
                  · refine je_var (i := 0)
                  · refine ja_cons ?_ ?_
                    · refine je_var (i := 4)
                    · refine ja_nil
            · refine jss_cons ?_ ?_
              · refine js_ret ?_
                · refine je_var (i := 2)
              · refine jss_nil
            · refine jss_nil
          · refine jss_nil
  · refine jss_cons ?_ ?_
    · refine js_ret ?_
      · refine je_non
    · refine jss_nil
end Law
set_option Elab.async false
set_option linter.all false
set_option maxRecDepth 100000
set_option maxHeartbeats 4000000
namespace Law
open PySem PySem.Spec PyProof.Rows L2 DL
theorem sc__law_is_sides : FnScope ["_law_told", "_law_due"] ["_law_told", "_law_due"] (defScope s__law_is_sides) := ⟨rfl, rfl, rfl, by decide +kernel, rfl, by decide +kernel, by decide +kernel⟩
theorem ok__law_is_sides {P : Program} {w : World} {K : PySem.W.Frag} {mg : Str → Option Value} {base : Heap} (F : FnF K "_law_is_sides" s__law_is_sides) (T : Txt P K mg) (B__law_is_word : FnB P w K mg base 1 "_law_is_word" ["_law_told", "_law_due"] r__law_is_word) : FnB P w K mg base 2 "_law_is_sides" ["_law_told", "_law_due"] r__law_is_sides := by
  have nd := sc__law_is_sides.nd
  refine fnB_mk (P := P) (w := w) (K := K) (mg := mg) (base := base) (x := "_law_is_sides") (st := s__law_is_sides) (N := ["_law_told", "_law_due"]) (ps := ["_law_told", "_law_due"]) (k := 1) (body := d__law_is_sides) F T.g__law_is_sides sc__law_is_sides (fun _ _ _ _ _ _ us hl => match us, hl with | [_, _], _ => rfl) (fun cdv A outer s H E hr => ?_)
  unfold d__law_is_sides
  refine jss_cons ?_ ?_
  · refine js_if ?_ ?_ ?_
    · refine jt_w ?_
      · refine jw_or ?_ ?_
        · refine jt_not ?_
          · refine jt_tru ?_
            · refine je_isT "tuple" T.b_isinstance T.b_tuple bt_tuple kit_tuple ?_
              · refine je_var (i := 0)
        · refine jw_or1 (op := ?_)
          · refine jt_cmp (op_neD' hr.units) ?_ ?_
            · refine je_cb cr_lenD T.b_len bt_len ?_
              · refine ja_cons ?_ ?_
                · refine je_var (i := 0)
                · refine ja_nil
            · refine je_int
    · refine jss_cons ?_ ?_
      · refine js_ret ?_
        · refine je_bl
      · refine jss_nil
    · refine jss_nil
  · refine jss_cons ?_ ?_
    · refine js_ret ?_
      · refine je_and ?_ ?_
        · refine je_callB (ps := ["_law_told", "_law_due"]) (R := r__law_is_word) B__law_is_word (hr.mono (by decide)) (takes_of rfl rfl rfl rfl) ?_
          · refine ja_cons ?_ ?_
            · refine je_ix ?_ ?_
              · refine je_var (i := 0)
              · refine je_int
            · refine ja_cons ?_ ?_
              · refine je_ix ?_ ?_
                · refine je_var (i := 1)
                · refine je_int
              · refine ja_nil
        · refine je_one ?_
          · refine je_callB (ps := ["_law_told", "_law_due"]) (R := r__law_is_word) B__law_is_word (hr.mono (by decide)) (takes_of rfl rfl rfl rfl) ?_
            · refine ja_cons ?_ ?_
              · refine je_ix ?_ ?_
                · refine je_var (i := 0)
                · refine je_int
              · refine ja_cons ?_ ?_
                · refine je_ix ?_ ?_
                  · refine je_var (i := 1)
                  · refine je_int
                · refine ja_nil
    · refine jss_nil
end Law
set_option Elab.async false
set_option linter.all false
set_option maxRecDepth 100000
set_option maxHeartbeats 4000000
namespace Law
open PySem PySem.Spec PyProof.Rows L2 DL
theorem sc_SetKind_plain : NdefX.NScope ["self", "word", "__class__", "kept", "letter"] ["self", "word"] ["__class__"] (defScope s_SetKind_plain) := NdefX.nscope_by (by decide +kernel)
theorem ok_SetKind_plain {P : Program} {w : World} {K : PySem.W.Frag} {mg : Str → Option Value} {base : Heap} (F : FunS P K "SetKind" "plain" "plain" "SetKind.plain" s_SetKind_plain) (T : Txt P K mg) (B_BagKind_plain : FnM P w K mg base 2 "BagKind" "plain" 2 r_BagKind_plain) : FnM P w K mg base 3 "SetKind" "plain" 2 r_SetKind_plain := by
  have nd := sc_SetKind_plain.nd
  refine fnS_mk (P := P) (w := w) (K := K) (mg := mg) (base := base) (C := "SetKind") (m := "plain") (x := "plain") (qual := "SetKind.plain") (sn := "self") (st := s_SetKind_plain) (N := ["self", "word", "__class__", "kept", "letter"]) (ps := ["self", "word"]) (k := 2) (body := d_SetKind_plain) F T.b_super sc_SetKind_plain ⟨_, rfl, rfl⟩ (by decide +kernel) (by decide +kernel) (fun _ _ _ _ _ _ _ us hl => match us, hl with | [_, _], _ => rfl) (fun f cda cc A outer s H E hr SX => ?_)
  unfold d_SetKind_plain
  refine jssa_cons ?_ ?_
  · refine jsa_of ?_
    · refine js_setM (i := 3) nd ?_
      · refine jf_lst ?_
        · refine ja_nil
  · refine jssa_cons ?_ ?_
    · refine jsa_for (js := [4]) (passes_of rfl) rfl ?_ ?_ ?_
      · refine jia_seq ?_
        · refine jea_sup (D := "SetKind") (D2 := "BagKind") (i := 0) (k := 2) (Cs := ["SetKind"]) (R := r_BagKind_plain) (n := 2) SX T.u_SetKind_plain B_BagKind_plain (by decide) (hr.mono (by decide)) (takes_of rfl rfl rfl rfl) ?_
          · refine je_var (i := 1)
      · refine jg_name (i := 4) nd
      · refine jss_fg (js := [4]) ?_
        · refine jss_cons ?_ ?_
          · refine js_if ?_ ?_ ?_
            · refine jt_w ?_
              · refine jw_or ?_ ?_
                · refine jt_not ?_
                  · refine jt_tru ?_
                    · refine je_var (i := 3)
                · refine jw_or1 (op := ?_)
                  · refine jt_cmp (op_neD' hr.units) ?_ ?_
                    · refine je_ix ?_ ?_
                      · refine je_var (i := 3)
                      · refine je_un un_negD ?_
                        · refine je_int
                    · refine je_var (i := 4)
            · refine jss_cons ?_ ?_
              · refine js_expr ?_
                · refine je_app (i := 3) ?_
                  · refine je_var (i := 4)
              · refine jss_nil
            · refine jss_nil
          · refine jss_nil
    · refine jssa_of ?_
      · refine jss_cons ?_ ?_
        · refine js_ret ?_
          · refine je_ct cr_tupleD T.b_tuple bt_tuple ?_
            · refine ja_cons ?_ ?_
              · refine je_var (i := 3)
              · refine ja_nil
        · refine jss_nil
end Law
set_option Elab.async false
set_option linter.all false
set_option maxRecDepth 100000
set_option maxHeartbeats 4000000
namespace Law
open PySem PySem.Spec PyProof.Rows L2 DL
theorem sc_FirstKind_plain : NdefX.NScope ["self", "word", "__class__"] ["self", "word"] ["__class__"] (defScope s_FirstKind_plain) := NdefX.nscope_by (by decide +kernel)
theorem ok_FirstKind_plain {P : Program} {w : World} {K : PySem.W.Frag} {mg : Str → Option Value} {base : Heap} (F : FunS P K "FirstKind" "plain" "plain" "FirstKind.plain" s_FirstKind_plain) (T : Txt P K mg) (B_HeadsKind_plain : FnM P w K mg base 2 "HeadsKind" "plain" 2 r_HeadsKind_plain) : FnM P w K mg base 3 "FirstKind" "plain" 2 r_FirstKind_plain := by
  have nd := sc_FirstKind_plain.nd
  refine fnS_mk (P := P) (w := w) (K := K) (mg := mg) (base := base) (C := "FirstKind") (m := "plain") (x := "plain") (qual := "FirstKind.plain") (sn := "self") (st := s_FirstKind_plain) (N := ["self", "word", "__class__"]) (ps := ["self", "word"]) (k := 2) (body := d_FirstKind_plain) F T.b_super sc_FirstKind_plain ⟨_, rfl, rfl⟩ (by decide +kernel) (by decide +kernel) (fun _ _ _ _ _ _ _ us hl => match us, hl with | [_, _], _ => rfl) (fun f cda cc A outer s H E hr SX => ?_)
  unfold d_FirstKind_plain
  refine jssa_cons ?_ ?_
  · refine jsa_ret ?_
    · refine jea_sl ?_ ?_ ?_
      · refine jea_sup (D := "FirstKind") (D2 := "HeadsKind") (i := 0) (k := 2) (Cs := ["FirstKind"]) (R := r_HeadsKind_plain) (n := 2) SX T.u_FirstKind_plain B_HeadsKind_plain (by decide) (hr.mono (by decide)) (takes_of rfl rfl rfl rfl) ?_
        · refine je_var (i := 1)
      · refine jo_none
      · refine jo_some ?_
        · refine je_int
  · refine jssa_of ?_
    · refine jss_nil
end Law
set_option Elab.async false
set_option linter.all false
set_option maxRecDepth 100000
set_option maxHeartbeats 4000000
namespace Law
open PySem PySem.Spec PyProof.Rows L2 DL
theorem sc_LastKind_plain : NdefX.NScope ["self", "word", "__class__"] ["self", "word"] ["__class__"] (defScope s_LastKind_plain) := NdefX.nscope_by (by decide +kernel)
theorem ok_LastKind_plain {P : Program} {w : World} {K : PySem.W.Frag} {mg : Str → Option Value} {base : Heap} (F : FunS P K "LastKind" "plain" "plain" "LastKind.plain" s_LastKind_plain) (T : Txt P K mg) (B_TailsKind_plain : FnM P w K mg base 2 "TailsKind" "plain" 2 r_TailsKind_plain) : FnM P w K mg base 3 "LastKind" "plain" 2 r_LastKind_plain := by
  have nd := sc_LastKind_plain.nd
  refine fnS_mk (P := P) (w := w) (K := K) (mg := mg) (base := base) (C := "LastKind") (m := "plain") (x := "plain") (qual := "LastKind.plain") (sn := "self") (st := s_LastKind_plain) (N := ["self", "word", "__class__"]) (ps := ["self", "word"]) (k := 2) (body := d_LastKind_plain) F T.b_super sc_LastKind_plain ⟨_, rfl, rfl⟩ (by decide +kernel) (by decide +kernel) (fun _ _ _ _ _ _ _ us hl => match us, hl with | [_, _], _ => rfl) (fun f cda cc A outer s H E hr SX => ?_)
  unfold d_LastKind_plain
  refine jssa_cons ?_ ?_
  · refine jsa_ret ?_
    · refine jea_sl ?_ ?_ ?_
      · refine jea_sup (D := "LastKind") (D2 := "TailsKind") (i := 0) (k := 2) (Cs := ["LastKind"]) (R := r_TailsKind_plain) (n := 2) SX T.u_LastKind_plain B_TailsKind_plain (by decide) (hr.mono (by decide)) (takes_of rfl rfl rfl rfl) ?_
        · refine je_var (i := 1)
      · refine jo_some ?_
        · refine je_un un_negD ?_
          · refine je_int
      · refine jo_none
  · refine jssa_of ?_
    · refine jss_nil
end Law
set_option Elab.async false
set_option linter.all false
set_option maxRecDepth 100000
set_option maxHeartbeats 4000000
namespace Law
open PySem PySem.Spec PyProof.Rows L2 DL
theorem sc_Kind_merged : FnScope ["self", "left", "right"] ["self", "left", "right"] (defScope s_Kind_merged) := ⟨rfl, rfl, rfl, by decide +kernel, rfl, by decide +kernel, by decide +kernel⟩
theorem ok_Kind_merged {P : Program} {w : World} {K : PySem.W.Frag} {mg : Str → Option Value} {base : Heap} (F : ∃ fd, FunD K "merged" "Kind.merged" (defArgs s_Kind_merged) (defBody s_Kind_merged) (defScope s_Kind_merged) [] [] (maA K "Kind" "merged") fd) (T : Txt P K mg) (MT_plain : MTab P w K mg base 3 "plain" 2 tb_plain) : FnM P w K mg base 4 "Kind" "merged" 3 r_Kind_merged := by
  have nd := sc_Kind_merged.nd
  refine fnM_mk (P := P) (w := w) (K := K) (mg := mg) (base := base) (C := "Kind") (m := "merged") (x := "merged") (qual := "Kind.merged") (st := s_Kind_merged) (N := ["self", "left", "right"]) (ps := ["self", "left", "right"]) (k := 3) (body := d_Kind_merged) F sc_Kind_merged (fun _ _ _ _ _ _ us hl => match us, hl with | [_, _, _], _ => rfl) (fun cdv A outer s H E hr => ?_)
  unfold d_Kind_merged
  refine jss_cons ?_ ?_
  · refine js_ret ?_
    · refine je_methU _ (k := 3) (tb := tb_plain) (n := 2) MT_plain (hr.mono (by decide)) (takes_of rfl rfl rfl rfl) ?_ ?_
      · refine je_var (i := 0)
      · refine ja_cons ?_ ?_
        · refine je_op op_addD ?_ ?_
          · refine je_ct cr_tupleD T.b_tuple bt_tuple ?_
            · refine ja_cons ?_ ?_
              · refine je_var (i := 1)
              · refine ja_nil
          · refine je_ct cr_tupleD T.b_tuple bt_tuple ?_
            · refine ja_cons ?_ ?_
              · refine je_var (i := 2)
              · refine ja_nil
        · refine ja_nil
  · refine jss_nil
end Law
set_option Elab.async false
set_option linter.all false
set_option maxRecDepth 100000
set_option maxHeartbeats 4000000
namespace Law
open PySem PySem.Spec PyProof.Rows L2 DL
theorem sc_plain_value : FnScope ["kind", "word"] ["kind", "word"] (defScope s_plain_value) := ⟨rfl, rfl, rfl, by decide +kernel, rfl, by decide +kernel, by decide +kernel⟩
theorem ok_plain_value {P : Program} {w : World} {K : PySem.W.Frag} {mg : Str → Option Value} {base : Heap} (F : FnF K "plain_value" s_plain_value) (T : Txt P K mg) (MT_plain : MTab P w K mg base 3 "plain" 2 tb_plain) (B_kind_named : FnB P w K mg base 1 "kind_named" ["name"] r_kind_named) : FnB P w K mg base 4 "plain_value" ["kind", "word"] r_plain_value := by
  have nd := sc_plain_value.nd
  refine fnB_mk (P := P) (w := w) (K := K) (mg := mg) (base := base) (x := "plain_value") (st := s_plain_value) (N := ["kind", "word"]) (ps := ["kind", "word"]) (k := 3) (body := d_plain_value) F T.g_plain_value sc_plain_value (fun _ _ _ _ _ _ us hl => match us, hl with | [_, _], _ => rfl) (fun cdv A outer s H E hr => ?_)
  unfold d_plain_value
  refine jss_cons ?_ ?_
  · refine js_ret ?_
    · refine je_methU _ (k := 3) (tb := tb_plain) (n := 2) MT_plain (hr.mono (by decide)) (takes_of rfl rfl rfl rfl) ?_ ?_
      · refine je_callB (ps := ["name"]) (R := r_kind_named) B_kind_named (hr.mono (by decide)) (takes_of rfl rfl rfl rfl) ?_
        · refine ja_cons ?_ ?_
          · refine je_var (i := 0)
          · refine ja_nil
      · refine ja_cons ?_ ?_
        · refine je_var (i := 1)
        · refine ja_nil
  · refine jss_nil
end Law
set_option Elab.async false
set_option linter.all false
set_option maxRecDepth 100000
set_option maxHeartbeats 4000000
namespace Law
open PySem PySem.Spec PyProof.Rows L2 DL
theorem sc_alike : FnScope ["kind", "left", "right", "merging"] ["kind", "left", "right"] (defScope s_alike) := ⟨rfl, rfl, rfl, by decide +kernel, rfl, by decide +kernel, by decide +kernel⟩
theorem ok_alike {P : Program} {w : World} {K : PySem.W.Frag} {mg : Str → Option Value} {base : Heap} (F : FnF K "alike" s_alike) (T : Txt P K mg) (B_kind_named : FnB P w K mg base 1 "kind_named" ["name"] r_kind_named) (MT_plain : MTab P w K mg base 3 "plain" 2 tb_plain) : FnB P w K mg base 4 "alike" ["kind", "left", "right"] r_alike := by
  have nd := sc_alike.nd
  refine fnB_mk (P := P) (w := w) (K := K) (mg := mg) (base := base) (x := "alike") (st := s_alike) (N := ["kind", "left", "right", "merging"]) (ps := ["kind", "left", "right"]) (k := 3) (body := d_alike) F T.g_alike sc_alike (fun _ _ _ _ _ _ us hl => match us, hl with | [_, _, _], _ => rfl) (fun cdv A outer s H E hr => ?_)
  unfold d_alike
  refine jss_cons ?_ ?_
  · refine js_set (i := 3) nd ?_
    · refine je_callB (ps := ["name"]) (R := r_kind_named) B_kind_named (hr.mono (by decide)) (takes_of rfl rfl rfl rfl) ?_
      · refine ja_cons ?_ ?_
        · refine je_var (i := 0)
        · refine ja_nil
  · refine jss_cons ?_ ?_
    · refine js_ret ?_
      · refine je_cmp (op_eqD' hr.units) ?_ ?_
        · refine je_methU _ (k := 3) (tb := tb_plain) (n := 2) MT_plain (hr.mono (by decide)) (takes_of rfl rfl rfl rfl) ?_ ?_
          · refine je_var (i := 3)
          · refine ja_cons ?_ ?_
            · refine je_var (i := 1)
            · refine ja_nil
        · refine je_methU _ (k := 3) (tb := tb_plain) (n := 2) MT_plain (hr.mono (by decide)) (takes_of rfl rfl rfl rfl) ?_ ?_
          · refine je_var (i := 3)
          · refine ja_cons ?_ ?_
            · refine je_var (i := 2)
            · refine ja_nil
    · refine jss_nil
end Law
set_option Elab.async false
set_option linter.all false
set_option maxRecDepth 100000
set_option maxHeartbeats 4000000
namespace Law
open PySem PySem.Spec PyProof.Rows L2 DL
theorem sc_broken_rule : FnScope ["kind", "other", "merging", "wide", "rule", "left", "right"] ["kind", "other"] (defScope s_broken_rule) := ⟨rfl, rfl, rfl, by decide +kernel, rfl, by decide +kernel, by decide +kernel⟩
theorem ok_broken_rule {P : Program} {w : World} {K : PySem.W.Frag} {mg : Str → Option Value} {base : Heap} (F : FnF K "broken_rule" s_broken_rule) (T : Txt P K mg) (B_kind_named : FnB P w K mg base 1 "kind_named" ["name"] r_kind_named) (B_rule_words : FnB P w K mg base 1 "rule_words" ["rule"] r_rule_words) (MT_plain : MTab P w K mg base 3 "plain" 2 tb_plain) : FnB P w K mg base 4 "broken_rule" ["kind", "other"] r_broken_rule := by
  have nd := sc_broken_rule.nd
  refine fnB_mk (P := P) (w := w) (K := K) (mg := mg) (base := base) (x := "broken_rule") (st := s_broken_rule) (N := ["kind", "other", "merging", "wide", "rule", "left", "right"]) (ps := ["kind", "other"]) (k := 3) (body := d_broken_rule) F T.g_broken_rule sc_broken_rule (fun _ _ _ _ _ _ us hl => match us, hl with | [_, _], _ => rfl) (fun cdv A outer s H E hr => ?_)
  unfold d_broken_rule
  refine jss_cons ?_ ?_
  · refine js_set (i := 2) nd ?_
    · refine je_callB (ps := ["name"]) (R := r_kind_named) B_kind_named (hr.mono (by decide)) (takes_of rfl rfl rfl rfl) ?_
      · refine ja_cons ?_ ?_
        · refine je_var (i := 0)
        · refine ja_nil
  · refine jss_cons ?_ ?_
    · refine js_set (i := 3) nd ?_
      · refine je_callB (ps := ["name"]) (R := r_kind_named) B_kind_named (hr.mono (by decide)) (takes_of rfl rfl rfl rfl) ?_
        · refine ja_cons ?_ ?_
          · refine je_var (i := 1)
          · refine ja_nil
    · refine jss_cons ?_ ?_
      · refine js_for (js := [4]) (passes_of rfl) rfl ?_ ?_ ?_
        · refine ji_seq ?_
          · refine je_con T.ct_RULES ?_
            · refine je_var (i := 3)
        · refine jg_name (i := 4) nd
        · refine jss_fg (js := [4, 5, 6]) ?_
          · refine jss_cons ?_ ?_
            · refine js_asg (js := ([5] ++ ([6] ++ []))) ?_ ?_
              · refine je_callB (ps := ["rule"]) (R := r_rule_words) B_rule_words (hr.mono (by decide)) (takes_of rfl rfl rfl rfl) ?_
                · refine ja_cons ?_ ?_
                  · refine je_var (i := 4)
                  · refine ja_nil
              · refine jg_tup rfl ?_
                · refine jgs_cons ?_ ?_
                  · refine jg_name (i := 5) nd
                  · refine jgs_cons ?_ ?_
                    · refine jg_name (i := 6) nd
                    · refine jgs_nil
            · refine jss_cons ?_ ?_
              · refine js_if ?_ ?_ ?_
                · refine jt_cmp (op_neD' hr.units) ?_ ?_
                  · refine je_methU _ (k := 3) (tb := tb_plain) (n := 2) MT_plain (hr.mono (by decide)) (takes_of rfl rfl rfl rfl) ?_ ?_
                    · refine je_var (i := 2)
                    · refine ja_cons ?_ ?_
                      · refine je_var (i := 5)
                      · refine ja_nil
                  · refine je_methU _ (k := 3) (tb := tb_plain) (n := 2) MT_plain (hr.mono (by decide)) (takes_of rfl rfl rfl rfl) ?_ ?_
                    · refine je_var (i := 2)
                    · refine ja_cons ?_ ?_
                      · refine je_var (i := 6)
                      · refine ja_nil
                · refine jss_cons ?_ ?_
                  · refine js_ret ?_
                    · refine je_var (i := 4)
                  · refine jss_nil
                · refine jss_nil
              · refine jss_nil
      · refine jss_cons ?_ ?_
        · refine js_ret ?_
          · refine je_non
        · refine jss_nil
end Law
set_option Elab.async false
set_option linter.all false
set_option maxRecDepth 100000
set_option maxHeartbeats 4000000
namespace Law
open PySem PySem.Spec PyProof.Rows L2 DL
theorem sc_under : FnScope ["kind", "other"] ["kind", "other"] (defScope s_under) := ⟨rfl, rfl, rfl, by decide +kernel, rfl, by decide +kernel, by decide +kernel⟩
theorem ok_under {P : Program} {w : World} {K : PySem.W.Frag} {mg : Str → Option Value} {base : Heap} (F : FnF K "under" s_under) (T : Txt P K mg) (B_broken_rule : FnB P w K mg base 4 "broken_rule" ["kind", "other"] r_broken_rule) : FnB P w K mg base 5 "under" ["kind", "other"] r_under := by
  have nd := sc_under.nd
  refine fnB_mk (P := P) (w := w) (K := K) (mg := mg) (base := base) (x := "under") (st := s_under) (N := ["kind", "other"]) (ps := ["kind", "other"]) (k := 4) (body := d_under) F T.g_under sc_under (fun _ _ _ _ _ _ us hl => match us, hl with | [_, _], _ => rfl) (fun cdv A outer s H E hr => ?_)
  unfold d_under
  refine jss_cons ?_ ?_
  · refine js_ret ?_
    · refine je_cmp op_isD ?_ ?_
      · refine je_callB (ps := ["kind", "other"]) (R := r_broken_rule) B_broken_rule (hr.mono (by decide)) (takes_of rfl rfl rfl rfl) ?_
        · refine ja_cons ?_ ?_
          · refine je_var (i := 0)
          · refine ja_cons ?_ ?_
            · refine je_var (i := 1)
            · refine ja_nil
      · refine je_non
  · refine jss_nil
end Law
set_option Elab.async false
set_option linter.all false
set_option maxRecDepth 100000
set_option maxHeartbeats 4000000
namespace Law
open PySem PySem.Spec PyProof.Rows L2 DL
theorem sc__law_names : FnScope ["_law_kind", "_law_twice", "_law_ahead", "_law_made_here", "_law_merging", "_law_flags", "_law_due", "_law_told"] ["_law_kind", "_law_twice", "_law_ahead"] (defScope s__law_names) := ⟨rfl, rfl, rfl, by decide +kernel, rfl, by decide +kernel, by decide +kernel⟩
theorem ok__law_names {P : Program} {w : World} {K : PySem.W.Frag} {mg : Str → Option Value} {base : Heap} (F : FnF K "_law_names" s__law_names) (T : Txt P K mg) (B__law_made : FnB P w K mg base 1 "_law_made" ["_law_kind"] r__law_made) (B_kind_named : FnB P w K mg base 1 "kind_named" ["name"] r_kind_named) (B__law_is_word : FnB P w K mg base 1 "_law_is_word" ["_law_told", "_law_due"] r__law_is_word) (B__law_family : FnB P w K mg base 1 "_law_family" ["_law_kind", "_law_merging"] r__law_family) (MT_merged : MTab P w K mg base 4 "merged" 3 tb_merged) (B__law_plain : FnB P w K mg base 1 "_law_plain" ["_law_kind", "_law_word_here"] r__law_plain) (B__law_rules : FnB P w K mg base 1 "_law_rules" ["_law_kind"] r__law_rules) (B__law_class : FnB P w K mg base 1 "_law_class" ["_law_kind"] r__law_class) (B_alike : FnB P w K mg base 4 "alike" ["kind", "left", "right"] r_alike) (MT_plain : MTab P w K mg base 3 "plain" 2 tb_plain) : FnB P w K mg base 5 "_law_names" ["_law_kind", "_law_twice", "_law_ahead"] r__law_names := by
  have nd := sc__law_names.nd
  refine fnB_mk (P := P) (w := w) (K := K) (mg := mg) (base := base) (x := "_law_names") (st := s__law_names) (N := ["_law_kind", "_law_twice", "_law_ahead", "_law_made_here", "_law_merging", "_law_flags", "_law_due", "_law_told"]) (ps := ["_law_kind", "_law_twice", "_law_ahead"]) (k := 4) (body := d__law_names) F T.g__law_names sc__law_names (fun _ _ _ _ _ _ us hl => match us, hl with | [_, _, _], _ => rfl) (fun cdv A outer s H E hr => ?_)
  unfold d__law_names
  refine jss_cons ?_ ?_
  · refine js_set (i := 3) nd ?_
    · refine je_callB (ps := ["_law_kind"]) (R := r__law_made) B__law_made (hr.mono (by decide)) (takes_of rfl rfl rfl rfl) ?_
      · refine ja_cons ?_ ?_
        · refine je_var (i := 0)
        · refine ja_nil
  · refine jss_cons ?_ ?_
    · refine js_if ?_ ?_ ?_
      · refine jt_w ?_
        · refine jw_or ?_ ?_
          · refine jt_not ?_
            · refine jt_tru ?_
              · refine je_callB (ps := ["_law_kind", "_law_merging"]) (R := r__law_family) B__law_family (hr.mono (by decide)) (takes_of rfl rfl rfl rfl) ?_
                · refine ja_cons ?_ ?_
                  · refine je_var (i := 0)
                  · refine ja_cons ?_ ?_
                    · refine je_var (i := 3)
                    · refine ja_nil
          · refine jw_or1 (op := ?_)
            · refine jt_not ?_
              · refine jt_tru ?_
                · refine je_callB (ps := ["_law_told", "_law_due"]) (R := r__law_is_word) B__law_is_word (hr.mono (by decide)) (takes_of rfl rfl rfl rfl) ?_
                  · refine ja_cons ?_ ?_
                    · refine je_methU _ (k := 3) (tb := tb_plain) (n := 2) MT_plain (hr.mono (by decide)) (takes_of rfl rfl rfl rfl) ?_ ?_
                      · refine je_var (i := 3)
                      · refine ja_cons ?_ ?_
                        · refine je_var (i := 1)
                        · refine ja_nil
                    · refine ja_cons ?_ ?_
                      · refine je_callB (ps := ["_law_kind", "_law_word_here"]) (R := r__law_plain) B__law_plain (hr.mono (by decide)) (takes_of rfl rfl rfl rfl) ?_
                        · refine ja_cons ?_ ?_
                          · refine je_var (i := 0)
                          · refine ja_cons ?_ ?_
                            · refine je_var (i := 1)
                            · refine ja_nil
                      · refine ja_nil
      · refine jss_cons ?_ ?_
        · refine js_ret ?_
          · refine je_bl
        · refine jss_nil
      · refine jss_nil
    · refine jss_cons ?_ ?_
      · refine js_if ?_ ?_ ?_
        · refine jt_not ?_
          · refine jt_tru ?_
            · refine je_callB (ps := ["_law_told", "_law_due"]) (R := r__law_is_word) B__law_is_word (hr.mono (by decide)) (takes_of rfl rfl rfl rfl) ?_
              · refine ja_cons ?_ ?_
                · refine je_methU _ (k := 4) (tb := tb_merged) (n := 3) MT_merged (hr.mono (by decide)) (takes_of rfl rfl rfl rfl) ?_ ?_
                  · refine je_var (i := 3)
                  · refine ja_cons ?_ ?_
                    · refine je_var (i := 2)
                    · refine ja_cons ?_ ?_
                      · refine je_f ?_
                        · refine jf_ct cr_listF T.b_list bt_list ?_
                          · refine ja_cons ?_ ?_
                            · refine je_var (i := 1)
                            · refine ja_nil
                      · refine ja_nil
                · refine ja_cons ?_ ?_
                  · refine je_callB (ps := ["_law_kind", "_law_word_here"]) (R := r__law_plain) B__law_plain (hr.mono (by decide)) (takes_of rfl rfl rfl rfl) ?_
                    · refine ja_cons ?_ ?_
                      · refine je_var (i := 0)
                      · refine ja_cons ?_ ?_
                        · refine je_op op_addD ?_ ?_
                          · refine je_var (i := 2)
                          · refine je_var (i := 1)
                        · refine ja_nil
                  · refine ja_nil
        · refine jss_cons ?_ ?_
          · refine js_ret ?_
            · refine je_bl
          · refine jss_nil
        · refine jss_nil
      · refine jss_cons ?_ ?_
        · refine js_set (i := 4) nd ?_
          · refine je_callB (ps := ["name"]) (R := r_kind_named) B_kind_named (hr.mono (by decide)) (takes_of rfl rfl rfl rfl) ?_
            · refine ja_cons ?_ ?_
              · refine je_var (i := 0)
              · refine ja_nil
        · refine jss_cons ?_ ?_
          · refine js_set (i := 5) nd ?_
            · refine je_f ?_
              · refine jf_lst ?_
                · refine ja_cons ?_ ?_
                  · refine je_cmp op_ninD ?_ ?_
                    · refine je_var (i := 0)
                    · refine je_f ?_
                      · refine jf_lst ?_
                        · refine ja_cons ?_ ?_
                          · refine je_str
                          · refine ja_cons ?_ ?_
                            · refine je_str
                            · refine ja_nil
                  · refine ja_cons ?_ ?_
                    · refine je_cmp op_inD ?_ ?_
                      · refine je_var (i := 0)
                      · refine je_f ?_
                        · refine jf_lst ?_
                          · refine ja_cons ?_ ?_
                            · refine je_str
                            · refine ja_cons ?_ ?_
                              · refine je_str
                              · refine ja_nil
                    · refine ja_cons ?_ ?_
                      · refine je_cmp op_inD ?_ ?_
                        · refine je_var (i := 0)
                        · refine je_f ?_
                          · refine jf_lst ?_
                            · refine ja_cons ?_ ?_
                              · refine je_str
                              · refine ja_cons ?_ ?_
                                · refine je_str
                                · refine ja_cons ?_ ?_
                                  · refine je_str
                                  · refine ja_nil
                      · refine ja_nil
          · refine jss_cons ?_ ?_
            · refine js_set (i := 6) nd ?_
              · refine je_op op_addD ?_ ?_
                · refine je_f ?_
                  · refine jf_lst ?_
                    · refine ja_cons ?_ ?_
                      · refine je_var (i := 0)
                      · refine ja_cons ?_ ?_
                        · refine je_callB (ps := ["_law_kind"]) (R := r__law_rules) B__law_rules (hr.mono (by decide)) (takes_of rfl rfl rfl rfl) ?_
                          · refine ja_cons ?_ ?_
                            · refine je_var (i := 0)
                            · refine ja_nil
                        · refine ja_nil
                · refine je_var (i := 5)
            · refine jss_cons ?_ ?_
              · refine js_if ?_ ?_ ?_
                · refine jt_w ?_
                  · refine jw_or ?_ ?_
                    · refine jt_cmp (op_neD' hr.units) ?_ ?_
                      · refine je_callB (ps := ["_law_kind"]) (R := r__law_class) B__law_class (hr.mono (by decide)) (takes_of rfl rfl rfl rfl) ?_
                        · refine ja_cons ?_ ?_
                          · refine je_var (i := 0)
                          · refine ja_nil
                      · refine je_var (i := 6)
                    · refine jw_or1 (op := ?_)
                      · refine jt_not ?_
                        · refine jt_tru ?_
                          · refine je_callB (ps := ["_law_kind", "_law_merging"]) (R := r__law_family) B__law_family (hr.mono (by decide)) (takes_of rfl rfl rfl rfl) ?_
                            · refine ja_cons ?_ ?_
                              · refine je_var (i := 0)
                              · refine ja_cons ?_ ?_
                                · refine je_var (i := 4)
                                · refine ja_nil
                · refine jss_cons ?_ ?_
                  · refine js_ret ?_
                    · refine je_bl
                  · refine jss_nil
                · refine jss_nil
              · refine jss_cons ?_ ?_
                · refine js_if ?_ ?_ ?_
                  · refine jt_cmp (op_neD' hr.units) ?_ ?_
                    · refine je_f ?_
                      · refine jf_lst ?_
                        · refine ja_cons ?_ ?_
                          · refine je_con T.ct_NAME ?_
                            · refine je_var (i := 4)
                          · refine ja_cons ?_ ?_
                            · refine je_con T.ct_RULES ?_
                              · refine je_var (i := 4)
                            · refine ja_cons ?_ ?_
                              · refine je_con T.ct_IDEMPOTENT ?_
                                · refine je_var (i := 4)
                              · refine ja_cons ?_ ?_
                                · refine je_con T.ct_ORDERLESS ?_
                                  · refine je_var (i := 4)
                                · refine ja_cons ?_ ?_
                                  · refine je_con T.ct_OUTER ?_
                                    · refine je_var (i := 4)
                                  · refine ja_nil
                    · refine je_var (i := 6)
                  · refine jss_cons ?_ ?_
                    · refine js_ret ?_
                      · refine je_bl
                    · refine jss_nil
                  · refine jss_nil
                · refine jss_cons ?_ ?_
                  · refine js_for (js := [7]) (passes_of rfl) rfl ?_ ?_ ?_
                    · refine ji_seq ?_
                      · refine je_f ?_
                        · refine jf_lst ?_
                          · refine ja_cons ?_ ?_
                            · refine je_con T.ct_IDEMPOTENT ?_
                              · refine je_var (i := 4)
                            · refine ja_cons ?_ ?_
                              · refine je_con T.ct_ORDERLESS ?_
                                · refine je_var (i := 4)
                              · refine ja_cons ?_ ?_
                                · refine je_con T.ct_OUTER ?_
                                  · refine je_var (i := 4)
                                · refine ja_nil
                    · refine jg_name (i := 7) nd
                    · refine jss_fg (js := [7]) ?_
                      · refine jss_cons ?_ ?_
                        · refine js_if ?_ ?_ ?_
                          · refine jt_not ?_
                            · refine jt_tru ?_
                              · refine je_isT "bool" T.b_isinstance T.b_bool bt_bool kit_bool ?_
                                · refine je_var (i := 7)
                          · refine jss_cons ?_ ?_
                            · refine js_ret ?_
                              · refine je_bl
                            · refine jss_nil
                          · refine jss_nil
                        · refine jss_nil
                  · refine jss_cons ?_ ?_
                    · refine js_if ?_ ?_ ?_
                      · refine jt_w ?_
                        · refine jw_or ?_ ?_
                          · refine jt_not ?_
                            · refine jt_tru ?_
                              · refine je_isT "tuple" T.b_isinstance T.b_tuple bt_tuple kit_tuple ?_
                                · refine je_con T.ct_RULES ?_
                                  · refine je_var (i := 4)
                          · refine jw_or1 (op := ?_)
                            · refine jt_cmp (op_neD' hr.units) ?_ ?_
                              · refine je_callB (ps := ["kind", "left", "right"]) (R := r_alike) B_alike (hr.mono (by decide)) (takes_of rfl rfl rfl rfl) ?_
                                · refine ja_cons ?_ ?_
                                  · refine je_var (i := 0)
                                  · refine ja_cons ?_ ?_
                                    · refine je_op op_addD ?_ ?_
                                      · refine je_var (i := 1)
                                      · refine je_var (i := 1)
                                    · refine ja_cons ?_ ?_
                                      · refine je_var (i := 1)
                                      · refine ja_nil
                              · refine je_con T.ct_IDEMPOTENT ?_
                                · refine je_var (i := 4)
                      · refine jss_cons ?_ ?_
                        · refine js_ret ?_
                          · refine je_bl
                        · refine jss_nil
                      · refine jss_nil
                    · refine jss_cons ?_ ?_
                      · refine js_ret ?_
                        · refine je_or ?_ ?_
                          · refine je_not ?_
                            · refine je_con T.ct_ORDERLESS ?_
                              · refine je_var (i := 4)
                          · refine je_one ?_
                            · refine je_cmp op_isD ?_ ?_
                              · refine je_callB (ps := ["kind", "left", "right"]) (R := r_alike) B_alike (hr.mono (by decide)) (takes_of rfl rfl rfl rfl) ?_
                                · refine ja_cons ?_ ?_
                                  · refine je_var (i := 0)
                                  · refine ja_cons ?_ ?_
                                    · refine je_op op_addD ?_ ?_
                                      · refine je_var (i := 1)
                                      · refine je_var (i := 2)
                                    · refine ja_cons ?_ ?_
                                      · refine je_op op_addD ?_ ?_
                                        · refine je_var (i := 2)
                                        · refine je_var (i := 1)
                                      · refine ja_nil
                              · refine je_bl
                      · refine jss_nil
end Law
set_option Elab.async false
set_option linter.all false
set_option maxRecDepth 100000
set_option maxHeartbeats 4000000
namespace Law
open PySem PySem.Spec PyProof.Rows L2 DL
theorem sc__law_pair : FnScope ["_law_kind", "_law_other", "_law_words", "_law_ahead", "_law_behind", "_law_word_here", "_law_due", "_law_narrow_here", "_law_told", "_law_rule", "_law_one", "_law_two", "_law_left", "_law_right"] ["_law_kind", "_law_other", "_law_words", "_law_ahead", "_law_behind", "_law_word_here"] (defScope s__law_pair) := ⟨rfl, rfl, rfl, by decide +kernel, rfl, by decide +kernel, by decide +kernel⟩
theorem ok__law_pair {P : Program} {w : World} {K : PySem.W.Frag} {mg : Str → Option Value} {base : Heap} (F : FnF K "_law_pair" s__law_pair) (T : Txt P K mg) (B__law_broken : FnB P w K mg base 2 "_law_broken" ["_law_kind", "_law_other"] r__law_broken) (B__law_narrow : FnB P w K mg base 1 "_law_narrow" ["_law_kind", "_law_other"] r__law_narrow) (B_broken_rule : FnB P w K mg base 4 "broken_rule" ["kind", "other"] r_broken_rule) (B__law_rules : FnB P w K mg base 1 "_law_rules" ["_law_kind"] r__law_rules) (B_rule_words : FnB P w K mg base 1 "rule_words" ["rule"] r_rule_words) (B__law_flag : FnB P w K mg base 1 "_law_flag" ["_law_told", "_law_due"] r__law_flag) (B__law_sides : FnB P w K mg base 1 "_law_sides" ["_law_rule"] r__law_sides) (B__law_put : FnB P w K mg base 1 "_law_put" ["_law_side", "_law_words", "_law_ahead", "_law_behind"] r__law_put) (B_under : FnB P w K mg base 5 "under" ["kind", "other"] r_under) (B__law_is_word : FnB P w K mg base 1 "_law_is_word" ["_law_told", "_law_due"] r__law_is_word) (B_alike : FnB P w K mg base 4 "alike" ["kind", "left", "right"] r_alike) (B__law_is_sides : FnB P w K mg base 2 "_law_is_sides" ["_law_told", "_law_due"] r__law_is_sides) (B_plain_value : FnB P w K mg base 4 "plain_value" ["kind", "word"] r_plain_value) (B__law_plain : FnB P w K mg base 1 "_law_plain" ["_law_kind", "_law_word_here"] r__law_plain) : FnB P w K mg base 6 "_law_pair" ["_law_kind", "_law_other", "_law_words", "_law_ahead", "_law_behind", "_law_word_here"] r__law_pair := by
  have nd := sc__law_pair.nd
  refine fnB_mk (P := P) (w := w) (K := K) (mg := mg) (base := base) (x := "_law_pair") (st := s__law_pair) (N := ["_law_kind", "_law_other", "_law_words", "_law_ahead", "_law_behind", "_law_word_here", "_law_due", "_law_narrow_here", "_law_told", "_law_rule", "_law_one", "_law_two", "_law_left", "_law_right"]) (ps := ["_law_kind", "_law_other", "_law_words", "_law_ahead", "_law_behind", "_law_word_here"]) (k := 5) (body := d__law_pair) F T.g__law_pair sc__law_pair (fun _ _ _ _ _ _ us hl => match us, hl with | [_, _, _, _, _, _], _ => rfl) (fun cdv A outer s H E hr => ?_)
  unfold d__law_pair
  refine jss_cons ?_ ?_
  · refine js_set (i := 6) nd ?_
    · refine je_callB (ps := ["_law_kind", "_law_other"]) (R := r__law_broken) B__law_broken (hr.mono (by decide)) (takes_of rfl rfl rfl rfl) ?_
      · refine ja_cons ?_ ?_
        · refine je_var (i := 0)
        · refine ja_cons ?_ ?_
          · refine je_var (i := 1)
          · refine ja_nil
  · refine jss_cons ?_ ?_
    · refine js_set (i := 7) nd ?_
      · refine je_callB (ps := ["_law_kind", "_law_other"]) (R := r__law_narrow) B__law_narrow (hr.mono (by decide)) (takes_of rfl rfl rfl rfl) ?_
        · refine ja_cons ?_ ?_
          · refine je_var (i := 0)
          · refine ja_cons ?_ ?_
            · refine je_var (i := 1)
            · refine ja_nil
    · refine jss_cons ?_ ?_
      · refine js_set (i := 8) nd ?_
        · refine je_callB (ps := ["kind", "other"]) (R := r_broken_rule) B_broken_rule (hr.mono (by decide)) (takes_of rfl rfl rfl rfl) ?_
          · refine ja_cons ?_ ?_
            · refine je_var (i := 0)
            · refine ja_cons ?_ ?_
              · refine je_var (i := 1)
              · refine ja_nil
      · refine jss_cons ?_ ?_
        · refine js_if ?_ ?_ ?_
          · refine jt_not ?_
            · refine jt_tru ?_
              · refine je_callB (ps := ["_law_told", "_law_due"]) (R := r__law_flag) B__law_flag (hr.mono (by decide)) (takes_of rfl rfl rfl rfl) ?_
                · refine ja_cons ?_ ?_
                  · refine je_callB (ps := ["kind", "other"]) (R := r_under) B_under (hr.mono (by decide)) (takes_of rfl rfl rfl rfl) ?_
                    · refine ja_cons ?_ ?_
                      · refine je_var (i := 0)
                      · refine ja_cons ?_ ?_
                        · refine je_var (i := 1)
                        · refine ja_nil
                  · refine ja_cons ?_ ?_
                    · refine je_var (i := 7)
                    · refine ja_nil
          · refine jss_cons ?_ ?_
            · refine js_ret ?_
              · refine je_bl
            · refine jss_nil
          · refine jss_nil
        · refine jss_cons ?_ ?_
          · refine js_for (js := [9]) (passes_of rfl) rfl ?_ ?_ ?_
            · refine ji_seq ?_
              · refine je_callB (ps := ["_law_kind"]) (R := r__law_rules) B__law_rules (hr.mono (by decide)) (takes_of rfl rfl rfl rfl) ?_
                · refine ja_cons ?_ ?_
                  · refine je_var (i := 1)
                  · refine ja_nil
            · refine jg_name (i := 9) nd
            · refine jss_fg (js := [9, 10, 11, 12, 13]) ?_
              · refine jss_cons ?_ ?_
                · refine js_asg (js := ([12] ++ ([13] ++ []))) ?_ ?_
                  · refine je_callB (ps := ["_law_rule"]) (R := r__law_sides) B__law_sides (hr.mono (by decide)) (takes_of rfl rfl rfl rfl) ?_
                    · refine ja_cons ?_ ?_
                      · refine je_var (i := 9)
                      · refine ja_nil
                  · refine jg_tup rfl ?_
                    · refine jgs_cons ?_ ?_
                      · refine jg_name (i := 12) nd
                      · refine jgs_cons ?_ ?_
                        · refine jg_name (i := 13) nd
                        · refine jgs_nil
                · refine jss_cons ?_ ?_
                  · refine js_set (i := 10) nd ?_
                    · refine je_callB (ps := ["_law_side", "_law_words", "_law_ahead", "_law_behind"]) (R := r__law_put) B__law_put (hr.mono (by decide)) (takes_of rfl rfl rfl rfl) ?_
                      · refine ja_cons ?_ ?_
                        · refine je_var (i := 12)
                        · refine ja_cons ?_ ?_
                          · refine je_var (i := 2)
                          · refine ja_cons ?_ ?_
                            · refine je_var (i := 3)
                            · refine ja_cons ?_ ?_
                              · refine je_var (i := 4)
                              · refine ja_nil
                  · refine jss_cons ?_ ?_
                    · refine js_set (i := 11) nd ?_
                      · refine je_callB (ps := ["_law_side", "_law_words", "_law_ahead", "_law_behind"]) (R := r__law_put) B__law_put (hr.mono (by decide)) (takes_of rfl rfl rfl rfl) ?_
                        · refine ja_cons ?_ ?_
                          · refine je_var (i := 13)
                          · refine ja_cons ?_ ?_
                            · refine je_var (i := 2)
                            · refine ja_cons ?_ ?_
                              · refine je_var (i := 3)
                              · refine ja_cons ?_ ?_
                                · refine je_var (i := 4)
                                · refine ja_nil
                    · refine jss_cons ?_ ?_
                      · refine js_if ?_ ?_ ?_
                        · refine jt_w ?_
                          · refine jw_or ?_ ?_
                            · refine jt_not ?_
                              · refine jt_tru ?_
                                · refine je_callB (ps := ["_law_told", "_law_due"]) (R := r__law_is_sides) B__law_is_sides (hr.mono (by decide)) (takes_of rfl rfl rfl rfl) ?_
                                  · refine ja_cons ?_ ?_
                                    · refine je_callB (ps := ["rule"]) (R := r_rule_words) B_rule_words (hr.mono (by decide)) (takes_of rfl rfl rfl rfl) ?_
                                      · refine ja_cons ?_ ?_
                                        · refine je_var (i := 9)
                                        · refine ja_nil
                                    · refine ja_cons ?_ ?_
                                      · refine je_tup ?_
                                        · refine ja_cons ?_ ?_
                                          · refine je_var (i := 12)
                                          · refine ja_cons ?_ ?_
                                            · refine je_var (i := 13)
                                            · refine ja_nil
                                      · refine ja_nil
                            · refine jw_or1 (op := ?_)
                              · refine jt_cmp op_isnD ?_ ?_
                                · refine je_callB (ps := ["kind", "left", "right"]) (R := r_alike) B_alike (hr.mono (by decide)) (takes_of rfl rfl rfl rfl) ?_
                                  · refine ja_cons ?_ ?_
                                    · refine je_var (i := 1)
                                    · refine ja_cons ?_ ?_
                                      · refine je_var (i := 10)
                                      · refine ja_cons ?_ ?_
                                        · refine je_var (i := 11)
                                        · refine ja_nil
                                · refine je_bl
                        · refine jss_cons ?_ ?_
                          · refine js_ret ?_
                            · refine je_bl
                          · refine jss_nil
                        · refine jss_nil
                      · refine jss_cons ?_ ?_
                        · refine js_if ?_ ?_ ?_
                          · refine jt_w ?_
                            · refine jw_and ?_ ?_
                              · refine jt_tru ?_
                                · refine je_var (i := 7)
                              · refine jw_and1 (op := ?_)
                                · refine jt_cmp op_isnD ?_ ?_
                                  · refine je_callB (ps := ["kind", "left", "right"]) (R := r_alike) B_alike (hr.mono (by decide)) (takes_of rfl rfl rfl rfl) ?_
                                    · refine ja_cons ?_ ?_
                                      · refine je_var (i := 0)
                                      · refine ja_cons ?_ ?_
                                        · refine je_var (i := 10)
                                        · refine ja_cons ?_ ?_
                                          · refine je_var (i := 11)
                                          · refine ja_nil
                                  · refine je_bl
                          · refine jss_cons ?_ ?_
                            · refine js_ret ?_
                              · refine je_bl
                            · refine jss_nil
                          · refine jss_nil
                        · refine jss_nil
          · refine jss_cons ?_ ?_
            · refine js_if ?_ ?_ ?_
              · refine jt_tru ?_
                · refine je_var (i := 7)
              · refine jss_cons ?_ ?_
                · refine js_ret ?_
                  · refine je_and ?_ ?_
                    · refine je_cmp op_isD ?_ ?_
                      · refine je_var (i := 8)
                      · refine je_non
                    · refine je_and ?_ ?_
                      · refine je_cmp op_isD ?_ ?_
                        · refine je_var (i := 6)
                        · refine je_non
                      · refine je_one ?_
                        · refine je_callB (ps := ["_law_told", "_law_due"]) (R := r__law_is_word) B__law_is_word (hr.mono (by decide)) (takes_of rfl rfl rfl rfl) ?_
                          · refine ja_cons ?_ ?_
                            · refine je_callB (ps := ["kind", "word"]) (R := r_plain_value) B_plain_value (hr.mono (by decide)) (takes_of rfl rfl rfl rfl) ?_
                              · refine ja_cons ?_ ?_
                                · refine je_var (i := 0)
                                · refine ja_cons ?_ ?_
                                  · refine je_callB (ps := ["kind", "word"]) (R := r_plain_value) B_plain_value (hr.mono (by decide)) (takes_of rfl rfl rfl rfl) ?_
                                    · refine ja_cons ?_ ?_
                                      · refine je_var (i := 1)
                                      · refine ja_cons ?_ ?_
                                        · refine je_var (i := 5)
                                        · refine ja_nil
                                  · refine ja_nil
                            · refine ja_cons ?_ ?_
                              · refine je_callB (ps := ["_law_kind", "_law_word_here"]) (R := r__law_plain) B__law_plain (hr.mono (by decide)) (takes_of rfl rfl rfl rfl) ?_
                                · refine ja_cons ?_ ?_
                                  · refine je_var (i := 0)
                                  · refine ja_cons ?_ ?_
                                    · refine je_var (i := 5)
                                    · refine ja_nil
                              · refine ja_nil
                · refine jss_nil
              · refine jss_nil
            · refine jss_cons ?_ ?_
              · refine js_if ?_ ?_ ?_
                · refine jt_w ?_
                  · refine jw_or ?_ ?_
                    · refine jt_not ?_
                      · refine jt_tru ?_
                        · refine je_isT "str" T.b_isinstance T.b_str bt_str kit_str ?_
                          · refine je_var (i := 8)
                    · refine jw_or1 (op := ?_)
                      · refine jt_cmp (op_neD' hr.units) ?_ ?_
                        · refine je_var (i := 8)
                        · refine je_var (i := 6)
                · refine jss_cons ?_ ?_
                  · refine js_ret ?_
                    · refine je_bl
                  · refine jss_nil
                · refine jss_nil
              · refine jss_cons ?_ ?_
                · refine js_asg (js := ([12] ++ ([13] ++ []))) ?_ ?_
                  · refine je_callB (ps := ["rule"]) (R := r_rule_words) B_rule_words (hr.mono (by decide)) (takes_of rfl rfl rfl rfl) ?_
                    · refine ja_cons ?_ ?_
                      · refine je_var (i := 8)
                      · refine ja_nil
                  · refine jg_tup rfl ?_
                    · refine jgs_cons ?_ ?_
                      · refine jg_name (i := 12) nd
                      · refine jgs_cons ?_ ?_
                        · refine jg_name (i := 13) nd
                        · refine jgs_nil
                · refine jss_cons ?_ ?_
                  · refine js_ret ?_
                    · refine je_and ?_ ?_
                      · refine je_cmp op_isD ?_ ?_
                        · refine je_callB (ps := ["kind", "left", "right"]) (R := r_alike) B_alike (hr.mono (by decide)) (takes_of rfl rfl rfl rfl) ?_
                          · refine ja_cons ?_ ?_
                            · refine je_var (i := 1)
                            · refine ja_cons ?_ ?_
                              · refine je_var (i := 12)
                              · refine ja_cons ?_ ?_
                                · refine je_var (i := 13)
                                · refine ja_nil
                        · refine je_bl
                      · refine je_one ?_
                        · refine je_cmp op_isD ?_ ?_
                          · refine je_callB (ps := ["kind", "left", "right"]) (R := r_alike) B_alike (hr.mono (by decide)) (takes_of rfl rfl rfl rfl) ?_
                            · refine ja_cons ?_ ?_
                              · refine je_var (i := 0)
                              · refine ja_cons ?_ ?_
                                · refine je_var (i := 12)
                                · refine ja_cons ?_ ?_
                                  · refine je_var (i := 13)
                                  · refine ja_nil
                          · refine je_bl
                  · refine jss_nil
end Law
set_option Elab.async false
set_option linter.all false
set_option maxRecDepth 100000
set_option maxHeartbeats 4000000
namespace Law
open PySem PySem.Spec PyProof.Rows L2 DL
theorem sc__law_odd : FnScope ["_law_pick", "_law_odd_here", "_law_kind", "e", "_law_told"] ["_law_pick", "_law_odd_here", "_law_kind"] (defScope s__law_odd) := ⟨rfl, rfl, rfl, by decide +kernel, rfl, by decide +kernel, by decide +kernel⟩
theorem ok__law_odd {P : Program} {w : World} {K : PySem.W.Frag} {mg : Str → Option Value} {base : Heap} (F : FnF K "_law_odd" s__law_odd) (T : Txt P K mg) (B_broken_rule : FnB P w K mg base 4 "broken_rule" ["kind", "other"] r_broken_rule) (B_under : FnB P w K mg base 5 "under" ["kind", "other"] r_under) : FnB P w K mg base 6 "_law_odd" ["_law_pick", "_law_odd_here", "_law_kind"] r__law_odd := by
  have nd := sc__law_odd.nd
  refine fnB_mk (P := P) (w := w) (K := K) (mg := mg) (base := base) (x := "_law_odd") (st := s__law_odd) (N := ["_law_pick", "_law_odd_here", "_law_kind", "e", "_law_told"]) (ps := ["_law_pick", "_law_odd_here", "_law_kind"]) (k := 5) (body := d__law_odd) F T.g__law_odd sc__law_odd (fun _ _ _ _ _ _ us hl => match us, hl with | [_, _, _], _ => rfl) (fun cdv A outer s H E hr => ?_)
  unfold d__law_odd
  refine jss_cons ?_ ?_
  · refine js_set (i := 4) nd ?_
    · refine je_non
  · refine jss_cons ?_ ?_
    · refine js_try (i := 3) (exOne "BadKind") (exOne_ok T.e_BadKind.exm) nd rfl rfl ⟨rfl, by decide, .inl T.e_BadKind.txt.gC⟩ (takes_of rfl rfl rfl rfl) (fun _ _ _ tk' pas' => ?_) (fun a oe cls d pn ex hz hv he => ?_)
      · refine jss_cons ?_ ?_
        · refine js_if ?_ ?_ ?_
          · refine jt_cmp (op_eqD' hr.units) ?_ ?_
            · refine je_var (i := 0)
            · refine je_int
          · refine jss_cons ?_ ?_
            · refine js_expr ?_
              · refine je_callB (ps := ["kind", "other"]) (R := r_broken_rule) B_broken_rule (hr.mono (by decide)) tk' ?_
                · refine ja_cons ?_ ?_
                  · refine je_var (i := 1)
                  · refine ja_cons ?_ ?_
                    · refine je_str
                    · refine ja_nil
            · refine jss_nil
          · refine jss_cons ?_ ?_
            · refine js_if ?_ ?_ ?_
              · refine jt_cmp (op_eqD' hr.units) ?_ ?_
                · refine je_var (i := 0)
                · refine je_int
              · refine jss_cons ?_ ?_
                · refine js_expr ?_
                  · refine je_callB (ps := ["kind", "other"]) (R := r_broken_rule) B_broken_rule (hr.mono (by decide)) tk' ?_
                    · refine ja_cons ?_ ?_
                      · refine je_var (i := 2)
                      · refine ja_cons ?_ ?_
                        · refine je_var (i := 1)
                        · refine ja_nil
                · refine jss_nil
              · refine jss_cons ?_ ?_
                · refine js_if ?_ ?_ ?_
                  · refine jt_cmp (op_eqD' hr.units) ?_ ?_
                    · refine je_var (i := 0)
                    · refine je_int
                  · refine jss_cons ?_ ?_
                    · refine js_expr ?_
                      · refine je_callB (ps := ["kind", "other"]) (R := r_under) B_under (hr.mono (by decide)) tk' ?_
                        · refine ja_cons ?_ ?_
                          · refine je_var (i := 1)
                          · refine ja_cons ?_ ?_
                            · refine je_str
                            · refine ja_nil
                    · refine jss_nil
                  · refine jss_cons ?_ ?_
                    · refine js_expr ?_
                      · refine je_callB (ps := ["kind", "other"]) (R := r_under) B_under (hr.mono (by decide)) tk' ?_
                        · refine ja_cons ?_ ?_
                          · refine je_var (i := 2)
                          · refine ja_cons ?_ ?_
                            · refine je_var (i := 1)
                            · refine ja_nil
                    · refine jss_nil
                · refine jss_nil
            · refine jss_nil
        · refine jss_nil
      · refine jss_cons ?_ ?_
        · refine js_set (i := 4) nd ?_
          · refine je_f ?_
            · refine jf_lst ?_
              · refine ja_cons ?_ ?_
                · refine je_xf T.e_BadKind.xf T.e_BadKind.noN hz hv (i := 3)
                · refine ja_cons ?_ ?_
                  · refine je_isX (c := (.own "FoldError")) (b := true) (i := 3) T.b_isinstance T.x_BadKind T.is_2 hz hv (pe_own rfl T.c_FoldError)
                  · refine ja_cons ?_ ?_
                    · refine je_isX (c := (.ty "ValueError")) (b := true) (i := 3) T.b_isinstance T.x_BadKind T.is_1 hz hv (pe_ty rfl T.b_ValueError (by first | boot_by_name | rfl | kernel_rfl))
                    · refine ja_cons ?_ ?_
                      · refine je_isX (c := (.own "BadTable")) (b := false) (i := 3) T.b_isinstance T.x_BadKind T.is_0 hz hv (pe_own rfl T.c_BadTable)
                      · refine ja_nil
        · refine jss_nil
    · refine jss_cons ?_ ?_
      · refine js_ret ?_
        · refine je_cmp (op_eqD' hr.units) ?_ ?_
          · refine je_var (i := 4)
          · refine je_f ?_
            · refine jf_lst ?_
              · refine ja_cons ?_ ?_
                · refine je_var (i := 1)
                · refine ja_cons ?_ ?_
                  · refine je_bl
                  · refine ja_cons ?_ ?_
                    · refine je_bl
                    · refine ja_cons ?_ ?_
                      · refine je_bl
                      · refine ja_nil
      · refine jss_nil
end Law
set_option Elab.async false
set_option linter.all false
set_option maxRecDepth 100000
set_option maxHeartbeats 4000000
namespace Law
open PySem PySem.Spec PyProof.Rows L2 DL
theorem sc_law : FnScope ["_law_script", "_law_stream_here", "_law_letters_here", "_law_words", "_law_digit", "_law_ahead", "_law_behind", "_law_word_here", "_law_kinds", "_law_pick", "_law_odd_here", "_law_whole", "_law_kind", "_law_other"] ["_law_script"] (defScope s_law) := ⟨rfl, rfl, rfl, by decide +kernel, rfl, by decide +kernel, by decide +kernel⟩
theorem ok_law {P : Program} {w : World} {K : PySem.W.Frag} {mg : Str → Option Value} (F : FnF K "law" s_law) (T : Txt P K mg) (B__law_stream : ∀ base : Heap, FnB P w K mg base 1 "_law_stream" ["_law_script"] r__law_stream) (B__law_letters : ∀ base : Heap, FnB P w K mg base 2 "_law_letters" ["_law_stream_here", "_law_many"] r__law_letters) (B__law_word : ∀ base : Heap, FnB P w K mg base 2 "_law_word" ["_law_stream_here", "_law_size", "_law_letters_here"] r__law_word) (B__law_draw : ∀ base : Heap, FnB P w K mg base 1 "_law_draw" ["_law_stream_here", "_law_many"] r__law_draw) (B__law_odd : ∀ base : Heap, FnB P w K mg base 6 "_law_odd" ["_law_pick", "_law_odd_here", "_law_kind"] r__law_odd) (B_repeated_letter : ∀ base : Heap, FnB P w K mg base 1 "repeated_letter" ["word"] r_repeated_letter) (B__law_repeated : ∀ base : Heap, FnB P w K mg base 1 "_law_repeated" ["_law_word_here"] r__law_repeated) (B__law_names : ∀ base : Heap, FnB P w K mg base 5 "_law_names" ["_law_kind", "_law_twice", "_law_ahead"] r__law_names) (B__law_pair : ∀ base : Heap, FnB P w K mg base 6 "_law_pair" ["_law_kind", "_law_other", "_law_words", "_law_ahead", "_law_behind", "_law_word_here"] r__law_pair) (hl : ∀ ns : List Int, ns.length ≤ 63 → ∃ bs, r_law [.d (.ro (ns.map .int))] = .ok (.d (.bl true)) bs) :
    ∃ fd : FuncData, (∀ (s : Shared) (v : Value), BindsTo s fd ⟨[v], []⟩ [("_law_script", v)]) ∧ ∀ base : Heap, FnOk P w K mg base CX0 7 (cA K "law") fd ["_law_script"] (spInts K 63) := by
  have nd := sc_law.nd
  refine lawB_mk (P := P) (w := w) (K := K) (mg := mg) (x := "law") (sx := "_law_script") (st := s_law) (N := ["_law_script", "_law_stream_here", "_law_letters_here", "_law_words", "_law_digit", "_law_ahead", "_law_behind", "_law_word_here", "_law_kinds", "_law_pick", "_law_odd_here", "_law_whole", "_law_kind", "_law_other"]) (k := 6) (n := 63) (body := d_law) F sc_law (fun _ _ _ _ _ _ us hl => match us, hl with | [_], _ => rfl) hl (fun base cdv A outer s H E hr => ?_)
  have B__law_stream := B__law_stream base
  have B__law_letters := B__law_letters base
  have B__law_word := B__law_word base
  have B__law_draw := B__law_draw base
  have B__law_odd := B__law_odd base
  have B_repeated_letter := B_repeated_letter base
  have B__law_repeated := B__law_repeated base
  have B__law_names := B__law_names base
  have B__law_pair := B__law_pair base
  unfold d_law
  refine jss_cons ?_ ?_
  · refine js_setM (i := 1) nd ?_
    · refine jf_callB (ps := ["_law_script"]) (R := r__law_stream) B__law_stream (hr.mono (by decide)) takes0 ?_
      · refine ja_cons ?_ ?_
        · refine je_var (i := 0)
        · refine ja_nil
  · refine jss_cons ?_ ?_
    · refine js_set (i := 2) nd ?_
      · refine je_callB (ps := ["_law_stream_here", "_law_many"]) (R := r__law_letters) B__law_letters (hr.mono (by decide)) takes0 ?_
        · refine ja_cons ?_ ?_
          · refine je_var (i := 1)
          · refine ja_cons ?_ ?_
            · refine je_op op_addD ?_ ?_
              · refine je_int
              · refine je_callB (ps := ["_law_stream_here", "_law_many"]) (R := r__law_draw) B__law_draw (hr.mono (by decide)) takes0 ?_
                · refine ja_cons ?_ ?_
                  · refine je_var (i := 1)
                  · refine ja_cons ?_ ?_
                    · refine je_int
                    · refine ja_nil
            · refine ja_nil
    · refine jss_cons ?_ ?_
      · refine js_setLcF (i := 3) rfl nd (sw_true rfl rfl rfl (by decide +kernel)) (own := [("_law_digit", 4)]) ?_ ?_ (fun _ _ _ _ _ => ?_) (go_name 4) (by decide) (fun _ _ _ _ _ => ?_)
        · refine ji_rng1 T.b_range ?_
          · refine ja_cons ?_ ?_
            · refine je_int
            · refine ja_nil
        · refine blkOk_by (N := ["_law_script", "_law_stream_here", "_law_letters_here", "_law_words", "_law_digit", "_law_ahead", "_law_behind", "_law_word_here", "_law_kinds", "_law_pick", "_law_odd_here", "_law_whole", "_law_kind", "_law_other"]) (sc := defScope s_law) (own := [("_law_digit", 4)]) (by decide +kernel)
        · refine pg_name (i := 4) nd rfl (by first | exact .inl rfl | exact .inr rfl)
        · refine je_callB (ps := ["_law_stream_here", "_law_size", "_law_letters_here"]) (R := r__law_word) B__law_word (hr.mono (by decide)) takes0 ?_
          · refine ja_cons ?_ ?_
            · refine je_var (i := 1)
            · refine ja_cons ?_ ?_
              · refine je_op op_addD ?_ ?_
                · refine je_int
                · refine je_callB (ps := ["_law_stream_here", "_law_many"]) (R := r__law_draw) B__law_draw (hr.mono (by decide)) takes0 ?_
                  · refine ja_cons ?_ ?_
                    · refine je_var (i := 1)
                    · refine ja_cons ?_ ?_
                      · refine je_int
                      · refine ja_nil
              · refine ja_cons ?_ ?_
                · refine je_var (i := 2)
                · refine ja_nil
      · refine jss_cons ?_ ?_
        · refine js_set (i := 5) nd ?_
          · refine je_callB (ps := ["_law_stream_here", "_law_size", "_law_letters_here"]) (R := r__law_word) B__law_word (hr.mono (by decide)) takes0 ?_
            · refine ja_cons ?_ ?_
              · refine je_var (i := 1)
              · refine ja_cons ?_ ?_
                · refine je_callB (ps := ["_law_stream_here", "_law_many"]) (R := r__law_draw) B__law_draw (hr.mono (by decide)) takes0 ?_
                  · refine ja_cons ?_ ?_
                    · refine je_var (i := 1)
                    · refine ja_cons ?_ ?_
                      · refine je_int
                      · refine ja_nil
                · refine ja_cons ?_ ?_
                  · refine je_var (i := 2)
                  · refine ja_nil
        · refine jss_cons ?_ ?_
          · refine js_set (i := 6) nd ?_
            · refine je_callB (ps := ["_law_stream_here", "_law_size", "_law_letters_here"]) (R := r__law_word) B__law_word (hr.mono (by decide)) takes0 ?_
              · refine ja_cons ?_ ?_
                · refine je_var (i := 1)
                · refine ja_cons ?_ ?_
                  · refine je_callB (ps := ["_law_stream_here", "_law_many"]) (R := r__law_draw) B__law_draw (hr.mono (by decide)) takes0 ?_
                    · refine ja_cons ?_ ?_
                      · refine je_var (i := 1)
                      · refine ja_cons ?_ ?_
                        · refine je_int
                        · refine ja_nil
                  · refine ja_cons ?_ ?_
                    · refine je_var (i := 2)
                    · refine ja_nil
          · refine jss_cons ?_ ?_
            · refine js_set (i := 7) nd ?_
              · refine je_callB (ps := ["_law_stream_here", "_law_size", "_law_letters_here"]) (R := r__law_word) B__law_word (hr.mono (by decide)) takes0 ?_
                · refine ja_cons ?_ ?_
                  · refine je_var (i := 1)
                  · refine ja_cons ?_ ?_
                    · refine je_callB (ps := ["_law_stream_here", "_law_many"]) (R := r__law_draw) B__law_draw (hr.mono (by decide)) takes0 ?_
                      · refine ja_cons ?_ ?_
                        · refine je_var (i := 1)
                        · refine ja_cons ?_ ?_
                          · refine je_int
                          · refine ja_nil
                    · refine ja_cons ?_ ?_
                      · refine je_var (i := 2)
                      · refine ja_nil
            · refine jss_cons ?_ ?_
              · refine js_set (i := 8) nd ?_
                · refine je_f ?_
                  · refine jf_lst ?_
                    · refine ja_cons ?_ ?_
                      · refine je_str
                      · refine ja_cons ?_ ?_
                        · refine je_str
                        · refine ja_cons ?_ ?_
                          · refine je_str
                          · refine ja_cons ?_ ?_
                            · refine je_str
                            · refine ja_cons ?_ ?_
                              · refine je_str
                              · refine ja_cons ?_ ?_
                                · refine je_str
                                · refine ja_cons ?_ ?_
                                  · refine je_str
                                  · refine ja_cons ?_ ?_
                                    · refine je_str
                                    · refine ja_nil
              · refine jss_cons ?_ ?_
                · refine js_set (i := 9) nd ?_
                  · refine je_callB (ps := ["_law_stream_here", "_law_many"]) (R := r__law_draw) B__law_draw (hr.mono (by decide)) takes0 ?_
                    · refine ja_cons ?_ ?_
                      · refine je_var (i := 1)
                      · refine ja_cons ?_ ?_
                        · refine je_int
                        · refine ja_nil
                · refine jss_cons ?_ ?_
                  · refine js_set (i := 10) nd ?_
                    · refine je_ix ?_ ?_
                      · refine je_f ?_
                        · refine jf_lst ?_
                          · refine ja_cons ?_ ?_
                            · refine je_str
                            · refine ja_cons ?_ ?_
                              · refine je_str
                              · refine ja_cons ?_ ?_
                                · refine je_non
                                · refine ja_cons ?_ ?_
                                  · refine je_int
                                  · refine ja_cons ?_ ?_
                                    · refine je_tup ?_
                                      · refine ja_cons ?_ ?_
                                        · refine je_str
                                        · refine ja_nil
                                    · refine ja_cons ?_ ?_
                                      · refine je_str
                                      · refine ja_cons ?_ ?_
                                        · refine je_f ?_
                                          · refine jf_lst ?_
                                            · refine ja_cons ?_ ?_
                                              · refine je_str
                                              · refine ja_nil
                                        · refine ja_nil
                      · refine je_callB (ps := ["_law_stream_here", "_law_many"]) (R := r__law_draw) B__law_draw (hr.mono (by decide)) takes0 ?_
                        · refine ja_cons ?_ ?_
                          · refine je_var (i := 1)
                          · refine ja_cons ?_ ?_
                            · refine je_int
                            · refine ja_nil
                  · refine jss_cons ?_ ?_
                    · refine js_set (i := 11) nd ?_
                      · refine je_tup ?_
                        · refine ja_cons ?_ ?_
                          · refine je_str
                          · refine ja_cons ?_ ?_
                            · refine je_str
                            · refine ja_cons ?_ ?_
                              · refine je_str
                              · refine ja_cons ?_ ?_
                                · refine je_str
                                · refine ja_cons ?_ ?_
                                  · refine je_str
                                  · refine ja_nil
                    · refine jss_cons ?_ ?_
                      · refine js_if ?_ ?_ ?_
                        · refine jt_w ?_
                          · refine jw_or ?_ ?_
                            · refine jt_cmp (op_neD' hr.units) ?_ ?_
                              · refine je_glc T.gc_KIND_NAMES
                              · refine je_ct cr_tupleD T.b_tuple bt_tuple ?_
                                · refine ja_cons ?_ ?_
                                  · refine je_var (i := 8)
                                  · refine ja_nil
                            · refine jw_or ?_ ?_
                              · refine jt_cmp (op_neD' hr.units) ?_ ?_
                                · refine je_glc T.gc_FULL_KINDS
                                · refine je_var (i := 11)
                              · refine jw_or1 (op := ?_)
                                · refine jt_cmp (op_neD' hr.units) ?_ ?_
                                  · refine je_callB (ps := ["word"]) (R := r_repeated_letter) B_repeated_letter (hr.mono (by decide)) takes0 ?_
                                    · refine ja_cons ?_ ?_
                                      · refine je_var (i := 7)
                                      · refine ja_nil
                                  · refine je_callB (ps := ["_law_word_here"]) (R := r__law_repeated) B__law_repeated (hr.mono (by decide)) takes0 ?_
                                    · refine ja_cons ?_ ?_
                                      · refine je_var (i := 7)
                                      · refine ja_nil
                        · refine jss_cons ?_ ?_
                          · refine js_ret ?_
                            · refine je_bl
                          · refine jss_nil
                        · refine jss_nil
                      · refine jss_cons ?_ ?_
                        · refine js_if ?_ ?_ ?_
                          · refine jt_cmp (op_neD' hr.units) ?_ ?_
                            · refine je_callB (ps := ["word"]) (R := r_repeated_letter) B_repeated_letter (hr.mono (by decide)) takes0 ?_
                              · refine ja_cons ?_ ?_
                                · refine je_f ?_
                                  · refine jf_ct cr_listF T.b_list bt_list ?_
                                    · refine ja_cons ?_ ?_
                                      · refine je_var (i := 7)
                                      · refine ja_nil
                                · refine ja_nil
                            · refine je_callB (ps := ["_law_word_here"]) (R := r__law_repeated) B__law_repeated (hr.mono (by decide)) takes0 ?_
                              · refine ja_cons ?_ ?_
                                · refine je_var (i := 7)
                                · refine ja_nil
                          · refine jss_cons ?_ ?_
                            · refine js_ret ?_
                              · refine je_bl
                            · refine jss_nil
                          · refine jss_nil
                        · refine jss_cons ?_ ?_
                          · refine js_for (js := [12]) PassesOwn.never rfl ?_ ?_ ?_
                            · refine ji_seq ?_
                              · refine je_var (i := 8)
                            · refine jg_name (i := 12) nd
                            · refine jss_fg (js := [12]) ?_
                              · refine jss_cons ?_ ?_
                                · refine js_if ?_ ?_ ?_
                                  · refine jt_not ?_
                                    · refine jt_tru ?_
                                      · refine je_callB (ps := ["_law_kind", "_law_twice", "_law_ahead"]) (R := r__law_names) B__law_names (hr.mono (by decide)) takes0 ?_
                                        · refine ja_cons ?_ ?_
                                          · refine je_var (i := 12)
                                          · refine ja_cons ?_ ?_
                                            · refine je_op op_addD ?_ ?_
                                              · refine je_ix ?_ ?_
                                                · refine je_var (i := 3)
                                                · refine je_int
                                              · refine je_var (i := 7)
                                            · refine ja_cons ?_ ?_
                                              · refine je_var (i := 5)
                                              · refine ja_nil
                                  · refine jss_cons ?_ ?_
                                    · refine js_ret ?_
                                      · refine je_bl
                                    · refine jss_nil
                                  · refine jss_nil
                                · refine jss_cons ?_ ?_
                                  · refine js_for (js := [13]) PassesOwn.never rfl ?_ ?_ ?_
                                    · refine ji_seq ?_
                                      · refine je_var (i := 8)
                                    · refine jg_name (i := 13) nd
                                    · refine jss_fg (js := [13]) ?_
                                      · refine jss_cons ?_ ?_
                                        · refine js_if ?_ ?_ ?_
                                          · refine jt_not ?_
                                            · refine jt_tru ?_
                                              · refine je_callB (ps := ["_law_kind", "_law_other", "_law_words", "_law_ahead", "_law_behind", "_law_word_here"]) (R := r__law_pair) B__law_pair (hr.mono (by decide)) takes0 ?_
                                                · refine ja_cons ?_ ?_
                                                  · refine je_var (i := 12)
                                                  · refine ja_cons ?_ ?_
                                                    · refine je_var (i := 13)
                                                    · refine ja_cons ?_ ?_
                                                      · refine je_var (i := 3)
                                                      · refine ja_cons ?_ ?_
                                                        · refine je_var (i := 5)
                                                        · refine ja_cons ?_ ?_
                                                          · refine je_var (i := 6)
                                                          · refine ja_cons ?_ ?_
                                                            · refine je_var (i := 7)
                                                            · refine ja_nil
                                          · refine jss_cons ?_ ?_
                                            · refine js_ret ?_
                                              · refine je_bl
                                            · refine jss_nil
                                          · refine jss_nil
                                        · refine jss_nil
                                  · refine jss_nil
                          · refine jss_cons ?_ ?_
                            · refine js_ret ?_
                              · refine je_callB (ps := ["_law_pick", "_law_odd_here", "_law_kind"]) (R := r__law_odd) B__law_odd (hr.mono (by decide)) takes0 ?_
                                · refine ja_cons ?_ ?_
                                  · refine je_var (i := 9)
                                  · refine ja_cons ?_ ?_
                                    · refine je_var (i := 10)
                                    · refine ja_cons ?_ ?_
                                      · refine je_ix ?_ ?_
                                        · refine je_var (i := 8)
                                        · refine je_callB (ps := ["_law_stream_here", "_law_many"]) (R := r__law_draw) B__law_draw (hr.mono (by decide)) takes0 ?_
                                          · refine ja_cons ?_ ?_
                                            · refine je_var (i := 1)
                                            · refine ja_cons ?_ ?_
                                              · refine je_int
                                              · refine ja_nil
                                      · refine ja_nil
                            · refine jss_nil
end Law
set_option Elab.async false
set_option linter.all false
set_option maxRecDepth 100000
set_option maxHeartbeats 4000000
namespace Law
open PySem PySem.Spec PyProof.Rows L2 DL
def D_Kind_plain : He.DefD := ⟨("Kind", some "plain"), "plain", "Kind.plain", defArgs s_Kind_plain, defBody s_Kind_plain, defScope s_Kind_plain, [], []⟩
def D_kind_named : He.DefD := ⟨("kind_named", none), "kind_named", "kind_named", defArgs s_kind_named, defBody s_kind_named, defScope s_kind_named, [], []⟩
def D_rule_words : He.DefD := ⟨("rule_words", none), "rule_words", "rule_words", defArgs s_rule_words, defBody s_rule_words, defScope s_rule_words, [], []⟩
def D_repeated_letter : He.DefD := ⟨("repeated_letter", none), "repeated_letter", "repeated_letter", defArgs s_repeated_letter, defBody s_repeated_letter, defScope s_repeated_letter, [], []⟩
def D__law_stream : He.DefD := ⟨("_law_stream", none), "_law_stream", "_law_stream", defArgs s__law_stream, defBody s__law_stream, defScope s__law_stream, [], []⟩
def D__law_draw : He.DefD := ⟨("_law_draw", none), "_law_draw", "_law_draw", defArgs s__law_draw, defBody s__law_draw, defScope s__law_draw, [], []⟩
def D__law_plain : He.DefD := ⟨("_law_plain", none), "_law_plain", "_law_plain", defArgs s__law_plain, defBody s__law_plain, defScope s__law_plain, [], []⟩
def D__law_is_word : He.DefD := ⟨("_law_is_word", none), "_law_is_word", "_law_is_word", defArgs s__law_is_word, defBody s__law_is_word, defScope s__law_is_word, [], []⟩
def D__law_rules : He.DefD := ⟨("_law_rules", none), "_law_rules", "_law_rules", defArgs s__law_rules, defBody s__law_rules, defScope s__law_rules, [], []⟩
def D__law_sides : He.DefD := ⟨("_law_sides", none), "_law_sides", "_law_sides", defArgs s__law_sides, defBody s__law_sides, defScope s__law_sides, [], []⟩
def D__law_put : He.DefD := ⟨("_law_put", none), "_law_put", "_law_put", defArgs s__law_put, defBody s__law_put, defScope s__law_put, [], []⟩
def D__law_narrow : He.DefD := ⟨("_law_narrow", none), "_law_narrow", "_law_narrow", defArgs s__law_narrow, defBody s__law_narrow, defScope s__law_narrow, [], []⟩
def D__law_class : He.DefD := ⟨("_law_class", none), "_law_class", "_law_class", defArgs s__law_class, defBody s__law_class, defScope s__law_class, [], []⟩
def D__law_family : He.DefD := ⟨("_law_family", none), "_law_family", "_law_family", defArgs s__law_family, defBody s__law_family, defScope s__law_family, [], []⟩
def D__law_made : He.DefD := ⟨("_law_made", none), "_law_made", "_law_made", defArgs s__law_made, defBody s__law_made, defScope s__law_made, [], []⟩
def D__law_flag : He.DefD := ⟨("_law_flag", none), "_law_flag", "_law_flag", defArgs s__law_flag, defBody s__law_flag, defScope s__law_flag, [], []⟩
def D__law_repeated : He.DefD := ⟨("_law_repeated", none), "_law_repeated", "_law_repeated", defArgs s__law_repeated, defBody s__law_repeated, defScope s__law_repeated, [], []⟩
def D__law_letters : He.DefD := ⟨("_law_letters", none), "_law_letters", "_law_letters", defArgs s__law_letters, defBody s__law_letters, defScope s__law_letters, [], []⟩
def D__law_word : He.DefD := ⟨("_law_word", none), "_law_word", "_law_word", defArgs s__law_word, defBody s__law_word, defScope s__law_word, [], []⟩
def D__law_broken : He.DefD := ⟨("_law_broken", none), "_law_broken", "_law_broken", defArgs s__law_broken, defBody s__law_broken, defScope s__law_broken, [], []⟩
def D__law_is_sides : He.DefD := ⟨("_law_is_sides", none), "_law_is_sides", "_law_is_sides", defArgs s__law_is_sides, defBody s__law_is_sides, defScope s__law_is_sides, [], []⟩
def D_Kind_merged : He.DefD := ⟨("Kind", some "merged"), "merged", "Kind.merged", defArgs s_Kind_merged, defBody s_Kind_merged, defScope s_Kind_merged, [], []⟩
def D_plain_value : He.DefD := ⟨("plain_value", none), "plain_value", "plain_value", defArgs s_plain_value, defBody s_plain_value, defScope s_plain_value, [], []⟩
def D_alike : He.DefD := ⟨("alike", none), "alike", "alike", defArgs s_alike, defBody s_alike, defScope s_alike, [], []⟩
def D_broken_rule : He.DefD := ⟨("broken_rule", none), "broken_rule", "broken_rule", defArgs s_broken_rule, defBody s_broken_rule, defScope s_broken_rule, [], []⟩
def D_under : He.DefD := ⟨("under", none), "under", "under", defArgs s_under, defBody s_under, defScope s_under, [], []⟩
def D__law_names : He.DefD := ⟨("_law_names", none), "_law_names", "_law_names", defArgs s__law_names, defBody s__law_names, defScope s__law_names, [], []⟩
def D__law_pair : He.DefD := ⟨("_law_pair", none), "_law_pair", "_law_pair", defArgs s__law_pair, defBody s__law_pair, defScope s__law_pair, [], []⟩
def D__law_odd : He.DefD := ⟨("_law_odd", none), "_law_odd", "_law_odd", defArgs s__law_odd, defBody s__law_odd, defScope s__law_odd, [], []⟩
def D_law : He.DefD := ⟨("law", none), "law", "law", defArgs s_law, defBody s_law, defScope s_law, [], []⟩
def fnL : List He.DefD := [D_Kind_plain, D_kind_named, D_rule_words, D_repeated_letter, D__law_stream, D__law_draw, D__law_plain, D__law_is_word, D__law_rules, D__law_sides, D__law_put, D__law_narrow, D__law_class, D__law_family, D__law_made, D__law_flag, D__law_repeated, D__law_letters, D__law_word, D__law_broken, D__law_is_sides, D_Kind_merged, D_plain_value, D_alike, D_broken_rule, D_under, D__law_names, D__law_pair, D__law_odd, D_law]
def I_BadKind : FO := ⟨("BadKind", some "__init__"), "__init__", "BadKind.__init__", defArgs (clsM (top 2) 0), defBody (clsM (top 2) 0), defScope (clsM (top 2) 0)⟩
def I_BagKind_plain : FO := ⟨("BagKind", some "plain"), "plain", "BagKind.plain", defArgs s_BagKind_plain, defBody s_BagKind_plain, defScope s_BagKind_plain⟩
def I_HeadsKind_plain : FO := ⟨("HeadsKind", some "plain"), "plain", "HeadsKind.plain", defArgs s_HeadsKind_plain, defBody s_HeadsKind_plain, defScope s_HeadsKind_plain⟩
def I_TailsKind_plain : FO := ⟨("TailsKind", some "plain"), "plain", "TailsKind.plain", defArgs s_TailsKind_plain, defBody s_TailsKind_plain, defScope s_TailsKind_plain⟩
def I_EndsKind_plain : FO := ⟨("EndsKind", some "plain"), "plain", "EndsKind.plain", defArgs s_EndsKind_plain, defBody s_EndsKind_plain, defScope s_EndsKind_plain⟩
def I_SetKind_plain : FO := ⟨("SetKind", some "plain"), "plain", "SetKind.plain", defArgs s_SetKind_plain, defBody s_SetKind_plain, defScope s_SetKind_plain⟩
def I_FirstKind_plain : FO := ⟨("FirstKind", some "plain"), "plain", "FirstKind.plain", defArgs s_FirstKind_plain, defBody s_FirstKind_plain, defScope s_FirstKind_plain⟩
def I_LastKind_plain : FO := ⟨("LastKind", some "plain"), "plain", "LastKind.plain", defArgs s_LastKind_plain, defBody s_LastKind_plain, defScope s_LastKind_plain⟩
def msL : List FO := [I_BadKind, I_BagKind_plain, I_HeadsKind_plain, I_TailsKind_plain, I_EndsKind_plain, I_SetKind_plain, I_FirstKind_plain, I_LastKind_plain]
def frL : List Str := ["ValueError", "abs", "bool", "int", "isinstance", "len", "list", "min", "range", "set", "sorted", "str", "super", "tuple"]
def glL : List Str := (["kind_named", "rule_words", "repeated_letter", "_law_stream", "_law_draw", "_law_plain", "_law_is_word", "_law_rules", "_law_sides", "_law_put", "_law_narrow", "_law_class", "_law_family", "_law_made", "_law_flag", "_law_repeated"] : List Str) ++ ((["_law_letters", "_law_word", "_law_broken", "_law_is_sides", "plain_value", "alike", "broken_rule", "under", "_law_names", "_law_pair", "_law_odd", "law", "BadTable", "BagKind", "EndsKind", "FirstKind"] : List Str) ++ ((["FoldError", "HeadsKind", "Kind", "LastKind", "SetKind", "TailsKind"] : List Str)))
def clL : List Str := ["BagKind", "EndsKind", "FirstKind", "HeadsKind", "Kind", "LastKind", "SetKind", "TailsKind"]
def mdL : List Str := ["BagKind", "EndsKind", "FirstKind", "HeadsKind", "Kind", "LastKind", "SetKind", "TailsKind"]
def mtL : List (Str × Str × Str) := [("BagKind", "merged", "Kind"), ("BagKind", "plain", "BagKind"), ("EndsKind", "merged", "Kind"), ("EndsKind", "plain", "EndsKind"), ("FirstKind", "merged", "Kind"), ("FirstKind", "plain", "FirstKind"), ("HeadsKind", "merged", "Kind"), ("HeadsKind", "plain", "HeadsKind"), ("Kind", "merged", "Kind"), ("Kind", "plain", "Kind"), ("LastKind", "merged", "Kind"), ("LastKind", "plain", "LastKind"), ("SetKind", "merged", "Kind"), ("SetKind", "plain", "SetKind"), ("TailsKind", "merged", "Kind"), ("TailsKind", "plain", "TailsKind")]
def suL_BagKind_plain : List Str := ["BagKind", "SetKind"]
def suL_EndsKind_plain : List Str := ["EndsKind"]
def suL_FirstKind_plain : List Str := ["FirstKind"]
def suL_HeadsKind_plain : List Str := ["HeadsKind", "FirstKind"]
def suL_LastKind_plain : List Str := ["LastKind"]
def suL_SetKind_plain : List Str := ["SetKind"]
def suL_TailsKind_plain : List Str := ["TailsKind", "LastKind"]
def isL : List (Str × Str × Str) := [("BagKind", "plain", "BagKind.plain"), ("HeadsKind", "plain", "HeadsKind.plain"), ("TailsKind", "plain", "TailsKind.plain"), ("EndsKind", "plain", "EndsKind.plain"), ("SetKind", "plain", "SetKind.plain"), ("FirstKind", "plain", "FirstKind.plain"), ("LastKind", "plain", "LastKind.plain")]
def ixL : List Str := ["BadKind"]
def imL : List (Str × String) := []
def erL : List (Str × Str × Str) := [("BadKind", "name", "BadKind.__init__")]
def gcL : List (Str × D) := [("FULL_KINDS", (.tup [(.str "list"), (.str "bag"), (.str "set"), (.str "heads"), (.str "tails")])), ("KIND_NAMES", (.tup [(.str "list"), (.str "bag"), (.str "set"), (.str "first"), (.str "last"), (.str "ends"), (.str "heads"), (.str "tails")]))]
def cvL : List (Str × Str × D) := ([("BagKind", "IDEMPOTENT", (.bl false)), ("BagKind", "NAME", (.str "bag")), ("BagKind", "ORDERLESS", (.bl true)), ("BagKind", "OUTER", (.bl false)), ("BagKind", "RULES", (.tup [(.str "12=21")])), ("EndsKind", "IDEMPOTENT", (.bl true)), ("EndsKind", "NAME", (.str "ends")), ("EndsKind", "ORDERLESS", (.bl false))] : List (Str × Str × D)) ++ (([("EndsKind", "OUTER", (.bl true)), ("EndsKind", "RULES", (.tup [(.str "11=1"), (.str "123=13")])), ("FirstKind", "IDEMPOTENT", (.bl true)), ("FirstKind", "NAME", (.str "first")), ("FirstKind", "ORDERLESS", (.bl false)), ("FirstKind", "OUTER", (.bl true)), ("FirstKind", "RULES", (.tup [(.str "12=1")])), ("HeadsKind", "IDEMPOTENT", (.bl true))] : List (Str × Str × D)) ++ (([("HeadsKind", "NAME", (.str "heads")), ("HeadsKind", "ORDERLESS", (.bl false)), ("HeadsKind", "OUTER", (.bl false)), ("HeadsKind", "RULES", (.tup [(.str "11=1"), (.str "121=12")])), ("Kind", "IDEMPOTENT", (.bl false)), ("Kind", "NAME", (.str "list")), ("Kind", "ORDERLESS", (.bl false)), ("Kind", "OUTER", (.bl false))] : List (Str × Str × D)) ++ (([("Kind", "RULES", (.tup [])), ("LastKind", "IDEMPOTENT", (.bl true)), ("LastKind", "NAME", (.str "last")), ("LastKind", "ORDERLESS", (.bl false)), ("LastKind", "OUTER", (.bl true)), ("LastKind", "RULES", (.tup [(.str "12=2")])), ("SetKind", "IDEMPOTENT", (.bl true)), ("SetKind", "NAME", (.str "set"))] : List (Str × Str × D)) ++ (([("SetKind", "ORDERLESS", (.bl true)), ("SetKind", "OUTER", (.bl false)), ("SetKind", "RULES", (.tup [(.str "12=21"), (.str "11=1")])), ("TailsKind", "IDEMPOTENT", (.bl true)), ("TailsKind", "NAME", (.str "tails")), ("TailsKind", "ORDERLESS", (.bl false)), ("TailsKind", "OUTER", (.bl false)), ("TailsKind", "RULES", (.tup [(.str "11=1"), (.str "121=21")]))] : List (Str × Str × D))))))
def ck2 (K : PySem.W.Frag) : Bool := suL_BagKind_plain.all (fun C => supB K "BagKind" C "plain" "Kind") && (suL_EndsKind_plain.all (fun C => supB K "EndsKind" C "plain" "Kind") && (suL_FirstKind_plain.all (fun C => supB K "FirstKind" C "plain" "HeadsKind") && (suL_HeadsKind_plain.all (fun C => supB K "HeadsKind" C "plain" "Kind") && (suL_LastKind_plain.all (fun C => supB K "LastKind" C "plain" "TailsKind") && (suL_SetKind_plain.all (fun C => supB K "SetKind" C "plain" "BagKind") && (suL_TailsKind_plain.all (fun C => supB K "TailsKind" C "plain" "Kind") && (gcL.all (fun q => glcB K q.1 q.2) && (cvL.all (fun q => cvB K q.1 q.2.1 q.2.2) && (ctb_IDEMPOTENT.all (conB K "IDEMPOTENT") && (ctb_NAME.all (conB K "NAME") && (ctb_ORDERLESS.all (conB K "ORDERLESS") && (ctb_OUTER.all (conB K "OUTER") && (ctb_RULES.all (conB K "RULES") && (itb_BagKind.all (isiIB K "BagKind") && (itb_EndsKind.all (isiIB K "EndsKind") && (itb_FirstKind.all (isiIB K "FirstKind") && (itb_HeadsKind.all (isiIB K "HeadsKind") && (itb_Kind.all (isiIB K "Kind") && (itb_LastKind.all (isiIB K "LastKind") && (itb_SetKind.all (isiIB K "SetKind") && (itb_TailsKind.all (isiIB K "TailsKind") && (isL.all (fun q => iniB K PySem.Challenge.pw_unseenfolds_k03_narrower_kinds.main.file (cA K q.1) (maA K q.1 q.2.1) q.2.2 && clsSB K q.1)))))))))))))))))))))))
def ck (K : PySem.W.Frag) : Bool := frL.all (freeB K) && (glL.all (gloB K) && (imL.all (fun q => impB K q.1 q.2) && (erL.all (fun q => errB K PySem.Challenge.pw_unseenfolds_k03_narrower_kinds.main.file q.1 q.2.1 q.2.2) && (ixL.all (fun x => isxB K (cA K x)) && (clL.all (clsB K) && (mdL.all (mkOB K) && (mtL.all (fun q => mthB K q.1 q.2.1 q.2.2) && (ck2 K && (decide (PySem.W.kitOne K (.ref (cA K "BadKind")) (CN.u K (.own "BadTable")) = some false) && (decide (PySem.W.kitOne K (.ref (cA K "BadKind")) (CN.u K (.ty "ValueError")) = some true) && (decide (PySem.W.kitOne K (.ref (cA K "BadKind")) (CN.u K (.own "FoldError")) = some true) && (true))))))))))))
theorem txt_of {K : PySem.W.Frag} {h : Heap} {mg : Str → Option Value} (X : K.In h) (G : h.Ns mainGlobals mg) (c : SaysC fnL msL ck K) : Txt PySem.Challenge.pw_unseenfolds_k03_narrower_kinds K mg := by
  obtain ⟨c1, c0⟩ := He.ba c.chk
  obtain ⟨c2, c0⟩ := He.ba c0
  obtain ⟨c3, c0⟩ := He.ba c0
  obtain ⟨c4, c0⟩ := He.ba c0
  obtain ⟨c5, c0⟩ := He.ba c0
  obtain ⟨cc1, c0⟩ := He.ba c0
  obtain ⟨cc2, c0⟩ := He.ba c0
  obtain ⟨cc3, c0⟩ := He.ba c0
  obtain ⟨cz, c0⟩ := He.ba c0
  unfold ck2 at cz
  obtain ⟨cs_BagKind_plain, cz⟩ := He.ba cz
  obtain ⟨cs_EndsKind_plain, cz⟩ := He.ba cz
  obtain ⟨cs_FirstKind_plain, cz⟩ := He.ba cz
  obtain ⟨cs_HeadsKind_plain, cz⟩ := He.ba cz
  obtain ⟨cs_LastKind_plain, cz⟩ := He.ba cz
  obtain ⟨cs_SetKind_plain, cz⟩ := He.ba cz
  obtain ⟨cs_TailsKind_plain, cz⟩ := He.ba cz
  obtain ⟨c_cg, cz⟩ := He.ba cz
  obtain ⟨c_cv, cz⟩ := He.ba cz
  obtain ⟨c_ct_IDEMPOTENT, cz⟩ := He.ba cz
  obtain ⟨c_ct_NAME, cz⟩ := He.ba cz
  obtain ⟨c_ct_ORDERLESS, cz⟩ := He.ba cz
  obtain ⟨c_ct_OUTER, cz⟩ := He.ba cz
  obtain ⟨c_ct_RULES, cz⟩ := He.ba cz
  obtain ⟨c_ci_BagKind, cz⟩ := He.ba cz
  obtain ⟨c_ci_EndsKind, cz⟩ := He.ba cz
  obtain ⟨c_ci_FirstKind, cz⟩ := He.ba cz
  obtain ⟨c_ci_HeadsKind, cz⟩ := He.ba cz
  obtain ⟨c_ci_Kind, cz⟩ := He.ba cz
  obtain ⟨c_ci_LastKind, cz⟩ := He.ba cz
  obtain ⟨c_ci_SetKind, cz⟩ := He.ba cz
  obtain ⟨c_ci_TailsKind, cz⟩ := He.ba cz
  obtain ⟨c6_0, c0⟩ := He.ba c0
  obtain ⟨c6_1, c0⟩ := He.ba c0
  obtain ⟨c6_2, c0⟩ := He.ba c0
  have q_BadKind := all_in c4 (i := 0)
  exact ⟨freeB_ok X G (all_in c1 (i := 0)),
    freeB_ok X G (all_in c1 (i := 1)),
    freeB_ok X G (all_in c1 (i := 2)),
    freeB_ok X G (all_in c1 (i := 3)),
    freeB_ok X G (all_in c1 (i := 4)),
    freeB_ok X G (all_in c1 (i := 5)),
    freeB_ok X G (all_in c1 (i := 6)),
    freeB_ok X G (all_in c1 (i := 7)),
    freeB_ok X G (all_in c1 (i := 8)),
    freeB_ok X G (all_in c1 (i := 9)),
    freeB_ok X G (all_in c1 (i := 10)),
    freeB_ok X G (all_in c1 (i := 11)),
    freeB_ok X G (all_in c1 (i := 12)),
    freeB_ok X G (all_in c1 (i := 13)),
    err_ok (d := I_BadKind) X G q_BadKind (c.meth_ 0) rfl rfl rfl (fun _ _ _ _ _ _ _ _ _ _ => .of_eq rfl) ⟨_, _, _, _, _, _, _, _, _, _, _, by rfl, rfl⟩ ⟨_, rfl, rfl⟩ (by first | rfl | decide +kernel) rfl rfl rfl rfl (by decide) (by decide),
    gloB_ok X G (all_in c2 (i := 0)),
    gloB_ok X G (all_in c2 (i := 1)),
    gloB_ok X G (all_in c2 (i := 2)),
    gloB_ok X G (all_in c2 (i := 3)),
    gloB_ok X G (all_in c2 (i := 4)),
    gloB_ok X G (all_in c2 (i := 5)),
    gloB_ok X G (all_in c2 (i := 6)),
    gloB_ok X G (all_in c2 (i := 7)),
    gloB_ok X G (all_in c2 (i := 8)),
    gloB_ok X G (all_in c2 (i := 9)),
    gloB_ok X G (all_in c2 (i := 10)),
    gloB_ok X G (all_in c2 (i := 11)),
    gloB_ok X G (all_in c2 (i := 12)),
    gloB_ok X G (all_in c2 (i := 13)),
    gloB_ok X G (all_in c2 (i := 14)),
    gloB_ok X G (all_in c2 (i := 15)),
    gloB_ok X G (all_in c2 (i := 16)),
    gloB_ok X G (all_in c2 (i := 17)),
    gloB_ok X G (all_in c2 (i := 18)),
    gloB_ok X G (all_in c2 (i := 19)),
    gloB_ok X G (all_in c2 (i := 20)),
    gloB_ok X G (all_in c2 (i := 21)),
    gloB_ok X G (all_in c2 (i := 22)),
    gloB_ok X G (all_in c2 (i := 23)),
    gloB_ok X G (all_in c2 (i := 24)),
    gloB_ok X G (all_in c2 (i := 25)),
    gloB_ok X G (all_in c2 (i := 26)),
    gloB_ok X G (all_in c2 (i := 27)),
    clsB_ok (all_in cc1 (x := "BagKind") (i := 0)),
    clsB_ok (all_in cc1 (x := "EndsKind") (i := 1)),
    clsB_ok (all_in cc1 (x := "FirstKind") (i := 2)),
    clsB_ok (all_in cc1 (x := "HeadsKind") (i := 3)),
    clsB_ok (all_in cc1 (x := "Kind") (i := 4)),
    clsB_ok (all_in cc1 (x := "LastKind") (i := 5)),
    clsB_ok (all_in cc1 (x := "SetKind") (i := 6)),
    clsB_ok (all_in cc1 (x := "TailsKind") (i := 7)),
    mkOB_ok (all_in cc2 (x := "BagKind") (i := 0)),
    mkOB_ok (all_in cc2 (x := "EndsKind") (i := 1)),
    mkOB_ok (all_in cc2 (x := "FirstKind") (i := 2)),
    mkOB_ok (all_in cc2 (x := "HeadsKind") (i := 3)),
    mkOB_ok (all_in cc2 (x := "Kind") (i := 4)),
    mkOB_ok (all_in cc2 (x := "LastKind") (i := 5)),
    mkOB_ok (all_in cc2 (x := "SetKind") (i := 6)),
    mkOB_ok (all_in cc2 (x := "TailsKind") (i := 7)),
    mthB_ok (all_in cc3 (x := ("BagKind", "merged", "Kind")) (i := 0)),
    mthB_ok (all_in cc3 (x := ("BagKind", "plain", "BagKind")) (i := 1)),
    mthB_ok (all_in cc3 (x := ("EndsKind", "merged", "Kind")) (i := 2)),
    mthB_ok (all_in cc3 (x := ("EndsKind", "plain", "EndsKind")) (i := 3)),
    mthB_ok (all_in cc3 (x := ("FirstKind", "merged", "Kind")) (i := 4)),
    mthB_ok (all_in cc3 (x := ("FirstKind", "plain", "FirstKind")) (i := 5)),
    mthB_ok (all_in cc3 (x := ("HeadsKind", "merged", "Kind")) (i := 6)),
    mthB_ok (all_in cc3 (x := ("HeadsKind", "plain", "HeadsKind")) (i := 7)),
    mthB_ok (all_in cc3 (x := ("Kind", "merged", "Kind")) (i := 8)),
    mthB_ok (all_in cc3 (x := ("Kind", "plain", "Kind")) (i := 9)),
    mthB_ok (all_in cc3 (x := ("LastKind", "merged", "Kind")) (i := 10)),
    mthB_ok (all_in cc3 (x := ("LastKind", "plain", "LastKind")) (i := 11)),
    mthB_ok (all_in cc3 (x := ("SetKind", "merged", "Kind")) (i := 12)),
    mthB_ok (all_in cc3 (x := ("SetKind", "plain", "SetKind")) (i := 13)),
    mthB_ok (all_in cc3 (x := ("TailsKind", "merged", "Kind")) (i := 14)),
    mthB_ok (all_in cc3 (x := ("TailsKind", "plain", "TailsKind")) (i := 15)),
    glcB_ok X G (all_in c_cg (x := ("FULL_KINDS", (.tup [(.str "list"), (.str "bag"), (.str "set"), (.str "heads"), (.str "tails")]))) (i := 0)),
    glcB_ok X G (all_in c_cg (x := ("KIND_NAMES", (.tup [(.str "list"), (.str "bag"), (.str "set"), (.str "first"), (.str "last"), (.str "ends"), (.str "heads"), (.str "tails")]))) (i := 1)),
    cvB_ok (all_in c_cv (x := ("BagKind", "IDEMPOTENT", (.bl false))) (i := 0)),
    cvB_ok (all_in c_cv (x := ("BagKind", "NAME", (.str "bag"))) (i := 1)),
    cvB_ok (all_in c_cv (x := ("BagKind", "ORDERLESS", (.bl true))) (i := 2)),
    cvB_ok (all_in c_cv (x := ("BagKind", "OUTER", (.bl false))) (i := 3)),
    cvB_ok (all_in c_cv (x := ("BagKind", "RULES", (.tup [(.str "12=21")]))) (i := 4)),
    cvB_ok (all_in c_cv (x := ("EndsKind", "IDEMPOTENT", (.bl true))) (i := 5)),
    cvB_ok (all_in c_cv (x := ("EndsKind", "NAME", (.str "ends"))) (i := 6)),
    cvB_ok (all_in c_cv (x := ("EndsKind", "ORDERLESS", (.bl false))) (i := 7)),
    cvB_ok (all_in c_cv (x := ("EndsKind", "OUTER", (.bl true))) (i := 8)),
    cvB_ok (all_in c_cv (x := ("EndsKind", "RULES", (.tup [(.str "11=1"), (.str "123=13")]))) (i := 9)),
    cvB_ok (all_in c_cv (x := ("FirstKind", "IDEMPOTENT", (.bl true))) (i := 10)),
    cvB_ok (all_in c_cv (x := ("FirstKind", "NAME", (.str "first"))) (i := 11)),
    cvB_ok (all_in c_cv (x := ("FirstKind", "ORDERLESS", (.bl false))) (i := 12)),
    cvB_ok (all_in c_cv (x := ("FirstKind", "OUTER", (.bl true))) (i := 13)),
    cvB_ok (all_in c_cv (x := ("FirstKind", "RULES", (.tup [(.str "12=1")]))) (i := 14)),
    cvB_ok (all_in c_cv (x := ("HeadsKind", "IDEMPOTENT", (.bl true))) (i := 15)),
    cvB_ok (all_in c_cv (x := ("HeadsKind", "NAME", (.str "heads"))) (i := 16)),
    cvB_ok (all_in c_cv (x := ("HeadsKind", "ORDERLESS", (.bl false))) (i := 17)),
    cvB_ok (all_in c_cv (x := ("HeadsKind", "OUTER", (.bl false))) (i := 18)),
    cvB_ok (all_in c_cv (x := ("HeadsKind", "RULES", (.tup [(.str "11=1"), (.str "121=12")]))) (i := 19)),
    cvB_ok (all_in c_cv (x := ("Kind", "IDEMPOTENT", (.bl false))) (i := 20)),
    cvB_ok (all_in c_cv (x := ("Kind", "NAME", (.str "list"))) (i := 21)),
    cvB_ok (all_in c_cv (x := ("Kind", "ORDERLESS", (.bl false))) (i := 22)),
    cvB_ok (all_in c_cv (x := ("Kind", "OUTER", (.bl false))) (i := 23)),
    cvB_ok (all_in c_cv (x := ("Kind", "RULES", (.tup []))) (i := 24)),
    cvB_ok (all_in c_cv (x := ("LastKind", "IDEMPOTENT", (.bl true))) (i := 25)),
    cvB_ok (all_in c_cv (x := ("LastKind", "NAME", (.str "last"))) (i := 26)),
    cvB_ok (all_in c_cv (x := ("LastKind", "ORDERLESS", (.bl false))) (i := 27)),
    cvB_ok (all_in c_cv (x := ("LastKind", "OUTER", (.bl true))) (i := 28)),
    cvB_ok (all_in c_cv (x := ("LastKind", "RULES", (.tup [(.str "12=2")]))) (i := 29)),
    cvB_ok (all_in c_cv (x := ("SetKind", "IDEMPOTENT", (.bl true))) (i := 30)),
    cvB_ok (all_in c_cv (x := ("SetKind", "NAME", (.str "set"))) (i := 31)),
    cvB_ok (all_in c_cv (x := ("SetKind", "ORDERLESS", (.bl true))) (i := 32)),
    cvB_ok (all_in c_cv (x := ("SetKind", "OUTER", (.bl false))) (i := 33)),
    cvB_ok (all_in c_cv (x := ("SetKind", "RULES", (.tup [(.str "12=21"), (.str "11=1")]))) (i := 34)),
    cvB_ok (all_in c_cv (x := ("TailsKind", "IDEMPOTENT", (.bl true))) (i := 35)),
    cvB_ok (all_in c_cv (x := ("TailsKind", "NAME", (.str "tails"))) (i := 36)),
    cvB_ok (all_in c_cv (x := ("TailsKind", "ORDERLESS", (.bl false))) (i := 37)),
    cvB_ok (all_in c_cv (x := ("TailsKind", "OUTER", (.bl false))) (i := 38)),
    cvB_ok (all_in c_cv (x := ("TailsKind", "RULES", (.tup [(.str "11=1"), (.str "121=21")]))) (i := 39)),
    conB_ok c_ct_IDEMPOTENT,
    conB_ok c_ct_NAME,
    conB_ok c_ct_ORDERLESS,
    conB_ok c_ct_OUTER,
    conB_ok c_ct_RULES,
    isiIB_ok c_ci_BagKind,
    isiIB_ok c_ci_EndsKind,
    isiIB_ok c_ci_FirstKind,
    isiIB_ok c_ci_HeadsKind,
    isiIB_ok c_ci_Kind,
    isiIB_ok c_ci_LastKind,
    isiIB_ok c_ci_SetKind,
    isiIB_ok c_ci_TailsKind,
    (fun C hC => supB_ok (List.all_eq_true.mp cs_BagKind_plain C hC)),
    (fun C hC => supB_ok (List.all_eq_true.mp cs_EndsKind_plain C hC)),
    (fun C hC => supB_ok (List.all_eq_true.mp cs_FirstKind_plain C hC)),
    (fun C hC => supB_ok (List.all_eq_true.mp cs_HeadsKind_plain C hC)),
    (fun C hC => supB_ok (List.all_eq_true.mp cs_LastKind_plain C hC)),
    (fun C hC => supB_ok (List.all_eq_true.mp cs_SetKind_plain C hC)),
    (fun C hC => supB_ok (List.all_eq_true.mp cs_TailsKind_plain C hC)),
    gloB_ok X G (all_in c2 (i := 28)),
    gloB_ok X G (all_in c2 (i := 29)),
    gloB_ok X G (all_in c2 (i := 30)),
    gloB_ok X G (all_in c2 (i := 31)),
    gloB_ok X G (all_in c2 (i := 32)),
    gloB_ok X G (all_in c2 (i := 33)),
    gloB_ok X G (all_in c2 (i := 34)),
    gloB_ok X G (all_in c2 (i := 35)),
    gloB_ok X G (all_in c2 (i := 36)),
    gloB_ok X G (all_in c2 (i := 37)),
    isxB_ok (all_in c5 (i := 0)),
    of_decide_eq_true c6_0,
    of_decide_eq_true c6_1,
    of_decide_eq_true c6_2⟩
theorem sup_chk {K : PySem.W.Frag} (c : ck K = true) : isL.all (fun q => iniB K PySem.Challenge.pw_unseenfolds_k03_narrower_kinds.main.file (cA K q.1) (maA K q.1 q.2.1) q.2.2 && clsSB K q.1) = true := by
  obtain ⟨_, c0⟩ := He.ba c
  obtain ⟨_, c0⟩ := He.ba c0
  obtain ⟨_, c0⟩ := He.ba c0
  obtain ⟨_, c0⟩ := He.ba c0
  obtain ⟨_, c0⟩ := He.ba c0
  obtain ⟨_, c0⟩ := He.ba c0
  obtain ⟨_, c0⟩ := He.ba c0
  obtain ⟨_, c0⟩ := He.ba c0
  obtain ⟨cz, c0⟩ := He.ba c0
  unfold ck2 at cz
  obtain ⟨_, cz⟩ := He.ba cz
  obtain ⟨_, cz⟩ := He.ba cz
  obtain ⟨_, cz⟩ := He.ba cz
  obtain ⟨_, cz⟩ := He.ba cz
  obtain ⟨_, cz⟩ := He.ba cz
  obtain ⟨_, cz⟩ := He.ba cz
  obtain ⟨_, cz⟩ := He.ba cz
  obtain ⟨_, cz⟩ := He.ba cz
  obtain ⟨_, cz⟩ := He.ba cz
  obtain ⟨_, cz⟩ := He.ba cz
  obtain ⟨_, cz⟩ := He.ba cz
  obtain ⟨_, cz⟩ := He.ba cz
  obtain ⟨_, cz⟩ := He.ba cz
  obtain ⟨_, cz⟩ := He.ba cz
  obtain ⟨_, cz⟩ := He.ba cz
  obtain ⟨_, cz⟩ := He.ba cz
  obtain ⟨_, cz⟩ := He.ba cz
  obtain ⟨_, cz⟩ := He.ba cz
  obtain ⟨_, cz⟩ := He.ba cz
  obtain ⟨_, cz⟩ := He.ba cz
  obtain ⟨_, cz⟩ := He.ba cz
  obtain ⟨_, cz⟩ := He.ba cz
  exact cz
theorem all_ok (hl : ∀ ns : List Int, ns.length ≤ 63 → ∃ bs, r_law [.d (.ro (ns.map .int))] = .ok (.d (.bl true)) bs) {w : World} {K : PySem.W.Frag} {h : Heap} {mg : Str → Option Value} (X : K.In h) (G : h.Ns mainGlobals mg) (c : SaysC fnL msL ck K) :
    mg "law" = some (.ref (cA K "law")) ∧ ∃ fd : FuncData, (∀ (s : Shared) (u : Value), BindsTo s fd ⟨[u], []⟩ [("_law_script", u)]) ∧ ∀ base : Heap, FnOk PySem.Challenge.pw_unseenfolds_k03_narrower_kinds w K mg base CX0 7 (cA K "law") fd ["_law_script"] (spInts K 63) := by
  have T := txt_of X G c
  have ci : isL.all (fun q => iniB K PySem.Challenge.pw_unseenfolds_k03_narrower_kinds.main.file (cA K q.1) (maA K q.1 q.2.1) q.2.2 && clsSB K q.1) = true := sup_chk c.chk
  have B_Kind_plain := fun base : Heap => ok_Kind_plain (w := w) (base := base) (c.def_ 0 (d := D_Kind_plain)) T
  have B_kind_named := fun base : Heap => ok_kind_named (w := w) (base := base) (c.def_ 1 (d := D_kind_named)) T
  have B_rule_words := fun base : Heap => ok_rule_words (w := w) (base := base) (c.def_ 2 (d := D_rule_words)) T
  have B_repeated_letter := fun base : Heap => ok_repeated_letter (w := w) (base := base) (c.def_ 3 (d := D_repeated_letter)) T
  have B__law_stream := fun base : Heap => ok__law_stream (w := w) (base := base) (c.def_ 4 (d := D__law_stream)) T
  have B__law_draw := fun base : Heap => ok__law_draw (w := w) (base := base) (c.def_ 5 (d := D__law_draw)) T
  have B__law_plain := fun base : Heap => ok__law_plain (w := w) (base := base) (c.def_ 6 (d := D__law_plain)) T
  have B__law_is_word := fun base : Heap => ok__law_is_word (w := w) (base := base) (c.def_ 7 (d := D__law_is_word)) T
  have B__law_rules := fun base : Heap => ok__law_rules (w := w) (base := base) (c.def_ 8 (d := D__law_rules)) T
  have B__law_sides := fun base : Heap => ok__law_sides (w := w) (base := base) (c.def_ 9 (d := D__law_sides)) T
  have B__law_put := fun base : Heap => ok__law_put (w := w) (base := base) (c.def_ 10 (d := D__law_put)) T
  have B__law_narrow := fun base : Heap => ok__law_narrow (w := w) (base := base) (c.def_ 11 (d := D__law_narrow)) T
  have B__law_class := fun base : Heap => ok__law_class (w := w) (base := base) (c.def_ 12 (d := D__law_class)) T
  have B__law_family := fun base : Heap => ok__law_family (w := w) (base := base) (c.def_ 13 (d := D__law_family)) T
  have B__law_made := fun base : Heap => ok__law_made (w := w) (base := base) (c.def_ 14 (d := D__law_made)) T
  have B__law_flag := fun base : Heap => ok__law_flag (w := w) (base := base) (c.def_ 15 (d := D__law_flag)) T
  have B__law_repeated := fun base : Heap => ok__law_repeated (w := w) (base := base) (c.def_ 16 (d := D__law_repeated)) T
  have z_BagKind_plain : iniB K PySem.Challenge.pw_unseenfolds_k03_narrower_kinds.main.file (cA K "BagKind") (maA K "BagKind" "plain") "BagKind.plain" = true ∧ clsSB K "BagKind" = true := He.ba (all_in ci (x := ("BagKind", "plain", "BagKind.plain")) (i := 0))
  have B_BagKind_plain := fun base : Heap => ok_BagKind_plain (w := w) (base := base) (funS_of (d := I_BagKind_plain) (c.meth_ 1) rfl rfl rfl rfl z_BagKind_plain.1 z_BagKind_plain.2 (by first | rfl | decide +kernel)) T (B_Kind_plain base)
  have z_HeadsKind_plain : iniB K PySem.Challenge.pw_unseenfolds_k03_narrower_kinds.main.file (cA K "HeadsKind") (maA K "HeadsKind" "plain") "HeadsKind.plain" = true ∧ clsSB K "HeadsKind" = true := He.ba (all_in ci (x := ("HeadsKind", "plain", "HeadsKind.plain")) (i := 1))
  have B_HeadsKind_plain := fun base : Heap => ok_HeadsKind_plain (w := w) (base := base) (funS_of (d := I_HeadsKind_plain) (c.meth_ 2) rfl rfl rfl rfl z_HeadsKind_plain.1 z_HeadsKind_plain.2 (by first | rfl | decide +kernel)) T (B_Kind_plain base)
  have z_TailsKind_plain : iniB K PySem.Challenge.pw_unseenfolds_k03_narrower_kinds.main.file (cA K "TailsKind") (maA K "TailsKind" "plain") "TailsKind.plain" = true ∧ clsSB K "TailsKind" = true := He.ba (all_in ci (x := ("TailsKind", "plain", "TailsKind.plain")) (i := 2))
  have B_TailsKind_plain := fun base : Heap => ok_TailsKind_plain (w := w) (base := base) (funS_of (d := I_TailsKind_plain) (c.meth_ 3) rfl rfl rfl rfl z_TailsKind_plain.1 z_TailsKind_plain.2 (by first | rfl | decide +kernel)) T (B_Kind_plain base)
  have z_EndsKind_plain : iniB K PySem.Challenge.pw_unseenfolds_k03_narrower_kinds.main.file (cA K "EndsKind") (maA K "EndsKind" "plain") "EndsKind.plain" = true ∧ clsSB K "EndsKind" = true := He.ba (all_in ci (x := ("EndsKind", "plain", "EndsKind.plain")) (i := 3))
  have B_EndsKind_plain := fun base : Heap => ok_EndsKind_plain (w := w) (base := base) (funS_of (d := I_EndsKind_plain) (c.meth_ 4) rfl rfl rfl rfl z_EndsKind_plain.1 z_EndsKind_plain.2 (by first | rfl | decide +kernel)) T (B_Kind_plain base)
  have B__law_letters := fun base : Heap => ok__law_letters (w := w) (base := base) (c.def_ 17 (d := D__law_letters)) T (B__law_draw base)
  have B__law_word := fun base : Heap => ok__law_word (w := w) (base := base) (c.def_ 18 (d := D__law_word)) T (B__law_draw base)
  have B__law_broken := fun base : Heap => ok__law_broken (w := w) (base := base) (c.def_ 19 (d := D__law_broken)) T (B__law_rules base) (B__law_sides base) (B__law_plain base)
  have B__law_is_sides := fun base : Heap => ok__law_is_sides (w := w) (base := base) (c.def_ 20 (d := D__law_is_sides)) T (B__law_is_word base)
  have z_SetKind_plain : iniB K PySem.Challenge.pw_unseenfolds_k03_narrower_kinds.main.file (cA K "SetKind") (maA K "SetKind" "plain") "SetKind.plain" = true ∧ clsSB K "SetKind" = true := He.ba (all_in ci (x := ("SetKind", "plain", "SetKind.plain")) (i := 4))
  have B_SetKind_plain := fun base : Heap => ok_SetKind_plain (w := w) (base := base) (funS_of (d := I_SetKind_plain) (c.meth_ 5) rfl rfl rfl rfl z_SetKind_plain.1 z_SetKind_plain.2 (by first | rfl | decide +kernel)) T (B_BagKind_plain base)
  have z_FirstKind_plain : iniB K PySem.Challenge.pw_unseenfolds_k03_narrower_kinds.main.file (cA K "FirstKind") (maA K "FirstKind" "plain") "FirstKind.plain" = true ∧ clsSB K "FirstKind" = true := He.ba (all_in ci (x := ("FirstKind", "plain", "FirstKind.plain")) (i := 5))
  have B_FirstKind_plain := fun base : Heap => ok_FirstKind_plain (w := w) (base := base) (funS_of (d := I_FirstKind_plain) (c.meth_ 6) rfl rfl rfl rfl z_FirstKind_plain.1 z_FirstKind_plain.2 (by first | rfl | decide +kernel)) T (B_HeadsKind_plain base)
  have z_LastKind_plain : iniB K PySem.Challenge.pw_unseenfolds_k03_narrower_kinds.main.file (cA K "LastKind") (maA K "LastKind" "plain") "LastKind.plain" = true ∧ clsSB K "LastKind" = true := He.ba (all_in ci (x := ("LastKind", "plain", "LastKind.plain")) (i := 6))
  have B_LastKind_plain := fun base : Heap => ok_LastKind_plain (w := w) (base := base) (funS_of (d := I_LastKind_plain) (c.meth_ 7) rfl rfl rfl rfl z_LastKind_plain.1 z_LastKind_plain.2 (by first | rfl | decide +kernel)) T (B_TailsKind_plain base)
  have MT_plain : ∀ base : Heap, MTab PySem.Challenge.pw_unseenfolds_k03_narrower_kinds w K mg base 3 "plain" 2 tb_plain := fun base => (mtab_cons (ment_of T.k_Kind T.m_Kind_plain (B_Kind_plain base) (by decide)) (mtab_cons (ment_of T.k_BagKind T.m_BagKind_plain (B_BagKind_plain base) (by decide)) (mtab_cons (ment_of T.k_SetKind T.m_SetKind_plain (B_SetKind_plain base) (by decide)) (mtab_cons (ment_of T.k_HeadsKind T.m_HeadsKind_plain (B_HeadsKind_plain base) (by decide)) (mtab_cons (ment_of T.k_FirstKind T.m_FirstKind_plain (B_FirstKind_plain base) (by decide)) (mtab_cons (ment_of T.k_TailsKind T.m_TailsKind_plain (B_TailsKind_plain base) (by decide)) (mtab_cons (ment_of T.k_LastKind T.m_LastKind_plain (B_LastKind_plain base) (by decide)) (mtab_cons (ment_of T.k_EndsKind T.m_EndsKind_plain (B_EndsKind_plain base) (by decide)) mtab_nil))))))))
  have B_Kind_merged := fun base : Heap => ok_Kind_merged (w := w) (base := base) (c.def_ 21 (d := D_Kind_merged)) T (MT_plain base)
  have B_plain_value := fun base : Heap => ok_plain_value (w := w) (base := base) (c.def_ 22 (d := D_plain_value)) T (MT_plain base) (B_kind_named base)
  have B_alike := fun base : Heap => ok_alike (w := w) (base := base) (c.def_ 23 (d := D_alike)) T (B_kind_named base) (MT_plain base)
  have B_broken_rule := fun base : Heap => ok_broken_rule (w := w) (base := base) (c.def_ 24 (d := D_broken_rule)) T (B_kind_named base) (B_rule_words base) (MT_plain base)
  have B_under := fun base : Heap => ok_under (w := w) (base := base) (c.def_ 25 (d := D_under)) T (B_broken_rule base)
  have MT_merged : ∀ base : Heap, MTab PySem.Challenge.pw_unseenfolds_k03_narrower_kinds w K mg base 4 "merged" 3 tb_merged := fun base => (mtab_cons (ment_of T.k_Kind T.m_Kind_merged (B_Kind_merged base) (by decide)) (mtab_cons (ment_of T.k_BagKind T.m_BagKind_merged (B_Kind_merged base) (by decide)) (mtab_cons (ment_of T.k_SetKind T.m_SetKind_merged (B_Kind_merged base) (by decide)) (mtab_cons (ment_of T.k_HeadsKind T.m_HeadsKind_merged (B_Kind_merged base) (by decide)) (mtab_cons (ment_of T.k_FirstKind T.m_FirstKind_merged (B_Kind_merged base) (by decide)) (mtab_cons (ment_of T.k_TailsKind T.m_TailsKind_merged (B_Kind_merged base) (by decide)) (mtab_cons (ment_of T.k_LastKind T.m_LastKind_merged (B_Kind_merged base) (by decide)) (mtab_cons (ment_of T.k_EndsKind T.m_EndsKind_merged (B_Kind_merged base) (by decide)) mtab_nil))))))))
  have B__law_names := fun base : Heap => ok__law_names (w := w) (base := base) (c.def_ 26 (d := D__law_names)) T (B__law_made base) (B_kind_named base) (B__law_is_word base) (B__law_family base) (MT_merged base) (B__law_plain base) (B__law_rules base) (B__law_class base) (B_alike base) (MT_plain base)
  have B__law_pair := fun base : Heap => ok__law_pair (w := w) (base := base) (c.def_ 27 (d := D__law_pair)) T (B__law_broken base) (B__law_narrow base) (B_broken_rule base) (B__law_rules base) (B_rule_words base) (B__law_flag base) (B__law_sides base) (B__law_put base) (B_under base) (B__law_is_word base) (B_alike base) (B__law_is_sides base) (B_plain_value base) (B__law_plain base)
  have B__law_odd := fun base : Heap => ok__law_odd (w := w) (base := base) (c.def_ 28 (d := D__law_odd)) T (B_broken_rule base) (B_under base)
  exact ⟨T.g_law, ok_law (w := w) (c.def_ 29 (d := D_law)) T B__law_stream B__law_letters B__law_word B__law_draw B__law_odd B_repeated_letter B__law_repeated B__law_names B__law_pair hl⟩
end Law
set_option Elab.async false
set_option linter.all false
set_option maxRecDepth 100000
set_option maxHeartbeats 0
namespace Law
open PySem PySem.Spec PyProof.Rows L2 DL
abbrev R : PySem.W.OpenRow := PySem.W.OpenLaw.row PySem.Challenge.rw_unseenfolds_k03_narrower_kinds
abbrev hk : PySem.W.Hook := hookC 5 fnL msL ck
def ob (s : PySem.W.SharedT) : AlC := obsCG 5 fnL msL ck (HandSHeadRun.getT s)
theorem ob_eq (s : PySem.W.SharedT) : ob s = hk.obs s.abs := obsCG_eq (HandSHeadRun.getT_eq s)
def lo0 : List Str := ["FoldError", "BadKind", "BadTable", "KIND_NAMES", "FULL_KINDS", "Kind", "BagKind", "SetKind", "HeadsKind", "FirstKind", "TailsKind", "LastKind", "EndsKind", "kind_named", "plain_value", "alike", "rule_words", "broken_rule", "under", "repeated_letter", "_law_stream", "_law_draw", "_law_plain", "_law_letters", "_law_word", "_law_is_word", "_law_rules", "_law_sides", "_law_put", "_law_broken"]
def lo1 : List Str := ["_law_narrow", "_law_class", "_law_family", "_law_made", "_law_names", "_law_flag", "_law_is_sides", "_law_pair", "_law_odd", "_law_repeated"]
def loose : List Str := lo0 ++ (lo1)
theorem run (w : World) : HandSHeadRun.RunEq R (PySem.W.view R.prog [43]) hk ob 40000 loose w := by
  intro os
  kernel_rfl
end Law
set_option Elab.async false
set_option linter.all false
set_option maxRecDepth 100000
set_option maxHeartbeats 4000000
namespace Law
open PySem L2 DL
/-! the stream, a draw -/
def drV (ds : List Int) (m : Int) : Int := match ds.getLast? with
  | none => 0
  | some z => z.fmod m
theorem drV_nn {ds : List Int} {m : Int} (hm : 0 < m) : 0 ≤ drV ds m := by
  unfold drV
  split
  · exact Int.le_refl _
  · exact Int.fmod_nonneg_of_pos _ hm
theorem drV_lt {ds : List Int} {m : Int} (hm : 0 < m) : drV ds m < m := by
  unfold drV
  split
  · exact hm
  · exact Int.fmod_lt_of_pos _ hm
theorem draw_r (ds : List Int) (m : Int) (hm : 0 < m) : r__law_draw [.r (.lst (ds.map .int)), .d (.int m)] = .ok (.d (.int (drV ds m))) [.r (.lst (ds.dropLast.map .int)), .d (.int m)] := by
  unfold r__law_draw d__law_draw drV
  rcases List.eq_nil_or_concat ds with rfl | ⟨xs, z, rfl⟩
  · simp
  · have h1 : ¬ ((xs.length : Int) + 1 = 0) := by omega
    have h2 : m ≠ 0 := by omega
    simp [h1, h2, List.getLast?_append, List.dropLast_append_of_ne_nil]
theorem stream2 (S o2 o3 o6 : Option L) (r : Int) (ms : List Int) (hm : ms.length ≤ 4000) : ∃ (ms' : List Int) (r' : Int),
    forGo (gmName 5) b__law_stream_2 (rangeD 0 60) [S, some (.m (.lst (ms.map .int))), o2, o3, some (.d (.int r)), none, o6] = .ok .nx [S, some (.m (.lst (ms'.map .int))), o2, o3, some (.d (.int r')), none, o6] ∧ ms'.length ≤ ms.length + 60 := by
  obtain ⟨⟨ms', r'⟩, e, h⟩ := for_rg0 (n := 60) (gm := gmName 5) (b := b__law_stream_2) (S := List Int × Int) (s := (ms, r)) (fun s => [S, some (.m (.lst (s.1.map .int))), o2, o3, some (.d (.int s.2)), none, o6])
    (fun i s => s.1.length ≤ ms.length + i) (Nat.le_refl _) (by
      rintro i ⟨ms', r'⟩ hi h
      have hl : ms'.length ≤ 100000 := by simp at h; omega
      have hb : divOk 1000 := ⟨by decide, by unfold big; decide +kernel⟩
      by_cases hr : 0 < r'
      · refine ⟨_, (ms' ++ [r'.fmod 1000], r'.fdiv 1000), by simp; rfl, by simp [b__law_stream_2, hr, hl, hb], by simp at h ⊢; omega⟩
      · refine ⟨_, (ms', r'), by simp; rfl, by simp [b__law_stream_2, hr], by simp at h ⊢; omega⟩)
  exact ⟨ms', r', e, h⟩
theorem stream1 (S o4 : Option L) (k c : Int) (hk : 0 ≤ k) (hk2 : k < 1000) (hc : 0 ≤ c) (hc2 : c < 1000000000000000000) (ms : List Int) (hm : ms.length ≤ 4000) : ∃ (ms' : List Int),
    forGo (gmName 5) b__law_stream_1 (rangeD 0 3) [S, some (.m (.lst (ms.map .int))), some (.d (.int k)), some (.d (.int c)), o4, none, none] = .ok .nx [S, some (.m (.lst (ms'.map .int))), some (.d (.int k)), some (.d (.int c)), o4, none, none] ∧ ms'.length ≤ ms.length + 3 := by
  obtain ⟨ms', e, h⟩ := for_rg0 (n := 3) (gm := gmName 5) (b := b__law_stream_1) (S := List Int) (s := ms) (fun s => [S, some (.m (.lst (s.map .int))), some (.d (.int k)), some (.d (.int c)), o4, none, none])
    (fun i s => s.length ≤ ms.length + i) (Nat.le_refl _) (by
      rintro i ms' hi h
      have hl : ms'.length ≤ 100000 := by omega
      have m1 : mulOk 6 k := .inl (by decide)
      have m2 : mulOk 2 (i : Int) := .inl (by decide)
      have m3 : ∀ z, mulOk (c + 1) z := fun z => .inl (by omega)
      have m4 : ∀ z : Int, mulOk (z.fmod 2147483629) (z.fmod 2147483629) := fun z => by
        rw [Int.fmod_eq_emod_of_nonneg _ (by decide)]
        exact .inl (by omega)
      refine ⟨_, ms' ++ [(((c + 1) * (48271 + 6 * k + 2 * (i : Int))).fmod 2147483629 * ((c + 1) * (48271 + 6 * k + 2 * (i : Int))).fmod 2147483629).fmod 1000003], by simp; rfl, by simp [b__law_stream_1, hl, m1, m2, m3, m4], by simp; omega⟩)
  exact ⟨ms', e, h⟩
theorem stream3 (ns : List Int) (hl : ns.length ≤ 63) : ∃ (ms : List Int),
    forGo (gmName 2) b__law_stream_3 (rangeD 0 ns.length) [some (.d (.ro (ns.map .int))), some (.m (.lst [])), none, none, none, none, none] = .ok .nx [some (.d (.ro (ns.map .int))), some (.m (.lst (ms.map .int))), none, none, none, none, none] ∧ ms.length ≤ 4000 := by
  obtain ⟨ms, e, h⟩ := for_rg0 (n := ns.length) (gm := gmName 2) (b := b__law_stream_3) (S := List Int) (s := []) (fun s => [some (.d (.ro (ns.map .int))), some (.m (.lst (s.map .int))), none, none, none, none, none])
    (fun i s => s.length ≤ 60 * i) (Nat.zero_le _) (by
      rintro i ms hi h
      have hix : L2.atI (ns.map D.int) (i : Int) = some (.int ns[i]) := atI_n (by simp [hi])
      by_cases hc : 0 ≤ ns[i] ∧ ns[i] < 1000000000000000000
      · obtain ⟨ms', e1, q⟩ := stream1 (some (.d (.ro (ns.map .int)))) (some (.d (.int ns[i]))) (i : Int) ns[i] (by omega) (by omega) hc.1 hc.2 ms (by omega)
        have ha : ((ns[i]).natAbs : Int) = ns[i] := by omega
        exact ⟨_, ms', by simp; rfl, by simp [b__law_stream_3, hix, hc.1, hc.2, e1, ha], by omega⟩
      · obtain ⟨ms', r', e1, q⟩ := stream2 (some (.d (.ro (ns.map .int)))) (some (.d (.int (i : Int)))) (some (.d (.int ns[i]))) none (ns[i]).natAbs ms (by omega)
        by_cases h0 : 0 ≤ ns[i]
        · have h1 : ¬ ns[i] < 1000000000000000000 := by omega
          exact ⟨_, ms', by simp; rfl, by simp [b__law_stream_3, hix, h0, h1, e1], by omega⟩
        · exact ⟨_, ms', by simp; rfl, by simp [b__law_stream_3, hix, h0, e1], by omega⟩)
  exact ⟨ms, by simpa using e, by omega⟩
theorem stream_r (ns : List Int) (hl : ns.length ≤ 63) : ∃ ms : List Int, r__law_stream [.d (.ro (ns.map .int))] = .ok (.m (.lst (ms.map .int))) [.d (.ro (ns.map .int))] := by
  obtain ⟨ms, e, hm⟩ := stream3 ns hl
  have h1 : min (ns.length : Int) 63 = ns.length := by omega
  refine ⟨ms.reverse, ?_⟩
  unfold r__law_stream d__law_stream
  simp [h1, e, pkE, pick_rev, show ns.length ≤ 100000 by omega, show ms.length ≤ 100000 by omega]
theorem dr (s : List Int) (m : Nat) (hm : 0 < m) : ∃ (k : Nat) (s' : List Int), k < m ∧ r__law_draw [.r (.lst (s.map .int)), .d (.int m)] = .ok (.d (.int k)) [.r (.lst (s'.map .int)), .d (.int m)] := by
  have h1 := drV_nn (ds := s) (m := (m : Int)) (by omega)
  have h2 := drV_lt (ds := s) (m := (m : Int)) (by omega)
  refine ⟨(drV s m).toNat, s.dropLast, by omega, ?_⟩
  rw [draw_r s m (by omega), show ((drV s m).toNat : Int) = drV s m by omega]
end Law
set_option Elab.async false
set_option linter.all false
set_option maxRecDepth 100000
set_option maxHeartbeats 4000000
namespace Law
open PySem L2 DL
/-! plain values, as lists -/
def addK (ks : List Int) (x : Int) : List Int := if x ∈ ks then ks else ks ++ [x]
def hG (acc ns : List Int) : List Int := ns.foldl addK acc
def hd (ns : List Int) : List Int := hG [] ns
def tl (ns : List Int) : List Int := (hd ns.reverse).reverse
def stS (ns : List Int) : List Int := srtI (dedI ns)
def fi (ns : List Int) : List Int := ns.head?.toList
def la (ns : List Int) : List Int := ns.getLast?.toList
def en (ns : List Int) : List Int := fi ns ++ la ns
theorem mem_addK {x k : Int} {ks : List Int} : k ∈ addK ks x ↔ k ∈ ks ∨ k = x := by
  unfold addK
  split
  · rename_i h
    exact ⟨.inl, fun z => z.elim id fun e => e ▸ h⟩
  · simp
theorem mem_hG {k : Int} : ∀ {ns acc : List Int}, k ∈ hG acc ns ↔ k ∈ acc ∨ k ∈ ns
  | [], acc => by simp [hG]
  | n :: ns, acc => by
    show k ∈ hG (addK acc n) ns ↔ _
    rw [mem_hG, mem_addK, List.mem_cons, or_assoc]
theorem hG_sub : ∀ {us acc : List Int}, (∀ x ∈ us, x ∈ acc) → hG acc us = acc
  | [], acc, _ => rfl
  | u :: us, acc, h => by
    show hG (addK acc u) us = acc
    have e : addK acc u = acc := by unfold addK; rw [if_pos (h u List.mem_cons_self)]
    rw [e]
    exact hG_sub fun x hx => h x (List.mem_cons_of_mem _ hx)
theorem hG_app {u v acc : List Int} : hG acc (u ++ v) = hG (hG acc u) v := by
  unfold hG
  rw [List.foldl_append]
theorem hG_add {a b : List Int} {x : Int} (f : Int → Int) : hG a ((addK b x).map f) = addK (hG a (b.map f)) (f x) := by
  unfold addK
  split
  · rename_i h
    rw [if_pos (mem_hG.mpr (.inr (List.mem_map_of_mem h)))]
  · rw [List.map_append, hG_app]
    rfl
theorem hG_hG (f : Int → Int) {a : List Int} : ∀ {v b : List Int}, hG a ((hG b v).map f) = hG (hG a (b.map f)) (v.map f)
  | [], b => rfl
  | x :: v, b => by
    show hG a ((hG (addK b x) v).map f) = hG (addK (hG a (b.map f)) (f x)) (v.map f)
    rw [hG_hG f, hG_add]
theorem hG_id {a v : List Int} : hG a (hd v) = hG a v := by
  have h := hG_hG id (a := a) (v := v) (b := [])
  simpa [hd, hG] using h
theorem hd_app {u v : List Int} : hd (hd u ++ hd v) = hd (u ++ v) := by
  unfold hd
  rw [hG_app, hG_app]
  have h1 := hG_id (a := hG [] (hG [] u)) (v := v)
  have h2 := hG_id (a := []) (v := u)
  unfold hd at h1 h2
  rw [h1, h2]
theorem hd_map (f : Int → Int) {u : List Int} : hd ((hd u).map f) = hd (u.map f) := by
  have h := hG_hG f (a := []) (v := u) (b := [])
  simpa [hd, hG] using h
theorem hd_id {u : List Int} : hd (hd u) = hd u := hG_id
theorem tl_app {u v : List Int} : tl (tl u ++ tl v) = tl (u ++ v) := by
  unfold tl
  rw [List.reverse_append, List.reverse_reverse, List.reverse_reverse, hd_app, List.reverse_append]
theorem tl_map (f : Int → Int) {u : List Int} : tl ((tl u).map f) = tl (u.map f) := by
  unfold tl
  rw [← List.map_reverse, List.reverse_reverse, hd_map, List.map_reverse]
theorem tl_id {u : List Int} : tl (tl u) = tl u := by
  unfold tl
  rw [List.reverse_reverse, hd_id]
/-! sorted -/
theorem srt_perm {u v : List Int} (h : u.Perm v) : srtI u = srtI v := srt_uniq ((srtI_perm u).trans (h.trans (srtI_perm v).symm)) (srtI_srt u) (srtI_srt v)
theorem srt_app {u v : List Int} : srtI (srtI u ++ srtI v) = srtI (u ++ v) := srt_perm ((srtI_perm u).append (srtI_perm v))
theorem srt_map (f : Int → Int) {u : List Int} : srtI ((srtI u).map f) = srtI (u.map f) := srt_perm ((srtI_perm u).map f)
theorem srt_id {u : List Int} : srtI (srtI u) = srtI u := srt_perm (srtI_perm u)
theorem mem_stS {k : Int} {u : List Int} : k ∈ stS u ↔ k ∈ u := by
  unfold stS
  rw [(srtI_perm _).mem_iff, mem_dedI]
theorem st_mem {u v : List Int} (h : ∀ k, k ∈ u ↔ k ∈ v) : stS u = stS v := srt_perm ((List.perm_ext_iff_of_nodup (nodup_dedI u) (nodup_dedI v)).mpr fun k => by rw [mem_dedI, mem_dedI, h k])
theorem st_app {u v : List Int} : stS (stS u ++ stS v) = stS (u ++ v) := st_mem fun k => by simp [mem_stS]
theorem st_map (f : Int → Int) {u : List Int} : stS ((stS u).map f) = stS (u.map f) := st_mem fun k => by simp [mem_stS]
theorem st_id {u : List Int} : stS (stS u) = stS u := st_mem fun k => mem_stS
/-! first, last, ends -/
theorem fi_h {u : List Int} : (fi u).head? = u.head? := by cases u <;> rfl
theorem la_l {u : List Int} : (la u).getLast? = u.getLast? := by
  unfold la
  cases u.getLast? <;> rfl
theorem fi_e {u v : List Int} (h : u.head? = v.head?) : fi u = fi v := by unfold fi; rw [h]
theorem la_e {u v : List Int} (h : u.getLast? = v.getLast?) : la u = la v := by unfold la; rw [h]
theorem fi_app {u v : List Int} : fi (fi u ++ fi v) = fi (u ++ v) := fi_e (by rw [List.head?_append, List.head?_append, fi_h, fi_h])
theorem la_app {u v : List Int} : la (la u ++ la v) = la (u ++ v) := la_e (by rw [List.getLast?_append, List.getLast?_append, la_l, la_l])
theorem fi_map (f : Int → Int) {u : List Int} : fi ((fi u).map f) = fi (u.map f) := fi_e (by rw [List.head?_map, List.head?_map, fi_h])
theorem la_map (f : Int → Int) {u : List Int} : la ((la u).map f) = la (u.map f) := la_e (by rw [List.getLast?_map, List.getLast?_map, la_l])
theorem fi_id {u : List Int} : fi (fi u) = fi u := fi_e fi_h
theorem la_id {u : List Int} : la (la u) = la u := la_e la_l
theorem en_h {u : List Int} : (en u).head? = u.head? := by
  cases u with
  | nil => rfl
  | cons a u => rfl
theorem en_l {u : List Int} : (en u).getLast? = u.getLast? := by
  unfold en
  rw [List.getLast?_append, la_l]
  cases u with
  | nil => rfl
  | cons a u => simp [List.getLast?_cons]
theorem en_e {u v : List Int} (h : u.head? = v.head?) (h2 : u.getLast? = v.getLast?) : en u = en v := by
  unfold en
  rw [fi_e h, la_e h2]
theorem en_app {u v : List Int} : en (en u ++ en v) = en (u ++ v) := en_e (by rw [List.head?_append, List.head?_append, en_h, en_h]) (by rw [List.getLast?_append, List.getLast?_append, en_l, en_l])
theorem en_map (f : Int → Int) {u : List Int} : en ((en u).map f) = en (u.map f) := en_e (by rw [List.head?_map, List.head?_map, en_h]) (by rw [List.getLast?_map, List.getLast?_map, en_l])
theorem en_id {u : List Int} : en (en u) = en u := en_e en_h en_l
/-! the kinds -/
inductive Kd where
  | ki | ba | se | fi | la | en | he | ta
  deriving DecidableEq
def nm : Kd → Str
  | .ki => "list"
  | .ba => "bag"
  | .se => "set"
  | .fi => "first"
  | .la => "last"
  | .en => "ends"
  | .he => "heads"
  | .ta => "tails"
def cN : Kd → Str
  | .ki => "Kind"
  | .ba => "BagKind"
  | .se => "SetKind"
  | .fi => "FirstKind"
  | .la => "LastKind"
  | .en => "EndsKind"
  | .he => "HeadsKind"
  | .ta => "TailsKind"
def pl : Kd → List Int → List Int
  | .ki => id
  | .ba => srtI
  | .se => stS
  | .fi => Law.fi
  | .la => Law.la
  | .en => Law.en
  | .he => Law.hd
  | .ta => Law.tl
theorem pl_app (k : Kd) {u v : List Int} : pl k (pl k u ++ pl k v) = pl k (u ++ v) := by
  cases k
  · rfl
  · exact srt_app
  · exact st_app
  · exact fi_app
  · exact la_app
  · exact en_app
  · exact hd_app
  · exact tl_app
theorem pl_map (k : Kd) (f : Int → Int) {u : List Int} : pl k ((pl k u).map f) = pl k (u.map f) := by
  cases k
  · rfl
  · exact srt_map f
  · exact st_map f
  · exact fi_map f
  · exact la_map f
  · exact en_map f
  · exact hd_map f
  · exact tl_map f
theorem pl_id (k : Kd) {u : List Int} : pl k (pl k u) = pl k u := by
  have h := pl_map k id (u := u)
  simpa using h
theorem fi_sub {x : Int} {u : List Int} (h : x ∈ fi u) : x ∈ u := by
  cases u with
  | nil => exact h
  | cons a u =>
    have : x = a := by simpa [fi] using h
    simp [this]
theorem la_sub {x : Int} {u : List Int} (h : x ∈ la u) : x ∈ u := by
  unfold la at h
  cases e : u.getLast? with
  | none => rw [e] at h; cases h
  | some y =>
    rw [e] at h
    have : x = y := by simpa using h
    subst this
    exact List.mem_of_getLast? e
theorem pl_sub (k : Kd) {x : Int} {u : List Int} (h : x ∈ pl k u) : x ∈ u := by
  cases k
  · exact h
  · exact (srtI_perm u).mem_iff.mp h
  · exact mem_stS.mp h
  · exact fi_sub h
  · exact la_sub h
  · exact (List.mem_append.mp h).elim fi_sub la_sub
  · exact (mem_hG.mp h).elim (fun z => nomatch z) id
  · have h2 := (mem_hG.mp (List.mem_reverse.mp h)).elim (fun z => nomatch z) id
    exact List.mem_reverse.mp h2
/-! sizes -/
theorem addK_len {ks : List Int} {x : Int} : (addK ks x).length ≤ ks.length + 1 := by
  unfold addK
  split <;> simp
theorem hG_len : ∀ {ns acc : List Int}, (hG acc ns).length ≤ acc.length + ns.length
  | [], acc => by simp [hG]
  | n :: ns, acc => by
    have h1 := hG_len (ns := ns) (acc := addK acc n)
    have h2 := addK_len (ks := acc) (x := n)
    show (hG (addK acc n) ns).length ≤ _
    simp
    omega
theorem dedI_len : ∀ ns : List Int, (dedI ns).length ≤ ns.length
  | [] => Nat.le_refl _
  | n :: ns => by
    have := dedI_len ns
    unfold dedI
    split <;> simp <;> omega
theorem op_len (o : Option Int) : o.toList.length ≤ 1 := by cases o <;> simp
theorem pl_len (k : Kd) (u : List Int) : (pl k u).length ≤ u.length + 2 := by
  cases k
  · exact Nat.le_add_right _ _
  · show (srtI u).length ≤ _
    rw [(srtI_perm u).length_eq]
    omega
  · show (srtI (dedI u)).length ≤ _
    rw [(srtI_perm _).length_eq]
    have := dedI_len u
    omega
  · have := op_len u.head?
    show (u.head?.toList).length ≤ _
    omega
  · have := op_len u.getLast?
    show (u.getLast?.toList).length ≤ _
    omega
  · have := op_len u.getLast?
    have := op_len u.head?
    show (u.head?.toList ++ u.getLast?.toList).length ≤ _
    rw [List.length_append]
    omega
  · have := hG_len (ns := u) (acc := [])
    simp at this
    show (hG [] u).length ≤ _
    omega
  · have := hG_len (ns := u.reverse) (acc := [])
    simp at this
    show ((hG [] u.reverse).reverse).length ≤ _
    rw [List.length_reverse]
    omega
/-- twice the word -/
theorem pl_two (k : Kd) (u : List Int) : decide (pl k (u ++ u) = pl k u) = (decide (k ≠ .ki ∧ k ≠ .ba) || decide (u = [])) := by
  have e0 : ∀ {P : List Int → List Int}, (∀ v, (P v).length = v.length) → (P (u ++ u) = P u ↔ u = []) := fun {P} h => ⟨fun e => by
    have := congrArg List.length e
    rw [h, h, List.length_append] at this
    exact List.length_eq_zero_iff.mp (by omega), fun e => by subst e; rfl⟩
  have yes : ∀ k, (k ≠ Kd.ki ∧ k ≠ .ba) → pl k (u ++ u) = pl k u := fun k hk => by
    cases k
    · exact absurd rfl hk.1
    · exact absurd rfl hk.2
    · exact st_mem fun k => by simp
    · exact fi_e (by cases u <;> simp)
    · exact la_e (by rw [List.getLast?_append]; cases u.getLast? <;> rfl)
    · exact en_e (by cases u <;> simp) (by rw [List.getLast?_append]; cases u.getLast? <;> rfl)
    · show hG [] (u ++ u) = hG [] u
      rw [hG_app]
      exact hG_sub fun x hx => mem_hG.mpr (.inr hx)
    · show (hG [] (u ++ u).reverse).reverse = (hG [] u.reverse).reverse
      rw [List.reverse_append, hG_app]
      rw [hG_sub fun x hx => mem_hG.mpr (.inr hx)]
  cases k
  case ki => simp [pl]
  case ba =>
    have h := e0 (P := srtI) fun v => (srtI_perm v).length_eq
    simp [pl, h]
  all_goals simp [yes]
end Law
set_option Elab.async false
set_option linter.all false
set_option maxRecDepth 100000
set_option maxHeartbeats 4000000
namespace Law
open PySem L2 DL
/-! texts compared -/
theorem sg_0 : strG "list" = true := by decide +kernel
theorem sg_1 : strG "bag" = true := by decide +kernel
theorem sg_2 : strG "set" = true := by decide +kernel
theorem sg_3 : strG "first" = true := by decide +kernel
theorem sg_4 : strG "last" = true := by decide +kernel
theorem sg_5 : strG "ends" = true := by decide +kernel
theorem sg_6 : strG "heads" = true := by decide +kernel
theorem sg_7 : strG "tails" = true := by decide +kernel
theorem sg_8 : strG "Heads" = true := by decide +kernel
theorem sg_9 : strG "" = true := by decide +kernel
theorem sg_10 : strG "first " = true := by decide +kernel
theorem sg_11 : strG "tail" = true := by decide +kernel
@[simp] theorem q_0_0 : eqB (.str "list") (.str "list") = some true := by rw [eqB_ss sg_0 sg_0]; decide +kernel
@[simp] theorem q_0_1 : eqB (.str "list") (.str "bag") = some false := by rw [eqB_ss sg_0 sg_1]; decide +kernel
@[simp] theorem q_0_2 : eqB (.str "list") (.str "set") = some false := by rw [eqB_ss sg_0 sg_2]; decide +kernel
@[simp] theorem q_0_3 : eqB (.str "list") (.str "first") = some false := by rw [eqB_ss sg_0 sg_3]; decide +kernel
@[simp] theorem q_0_4 : eqB (.str "list") (.str "last") = some false := by rw [eqB_ss sg_0 sg_4]; decide +kernel
@[simp] theorem q_0_5 : eqB (.str "list") (.str "ends") = some false := by rw [eqB_ss sg_0 sg_5]; decide +kernel
@[simp] theorem q_0_6 : eqB (.str "list") (.str "heads") = some false := by rw [eqB_ss sg_0 sg_6]; decide +kernel
@[simp] theorem q_0_7 : eqB (.str "list") (.str "tails") = some false := by rw [eqB_ss sg_0 sg_7]; decide +kernel
@[simp] theorem q_1_0 : eqB (.str "bag") (.str "list") = some false := by rw [eqB_ss sg_1 sg_0]; decide +kernel
@[simp] theorem q_1_1 : eqB (.str "bag") (.str "bag") = some true := by rw [eqB_ss sg_1 sg_1]; decide +kernel
@[simp] theorem q_1_2 : eqB (.str "bag") (.str "set") = some false := by rw [eqB_ss sg_1 sg_2]; decide +kernel
@[simp] theorem q_1_3 : eqB (.str "bag") (.str "first") = some false := by rw [eqB_ss sg_1 sg_3]; decide +kernel
@[simp] theorem q_1_4 : eqB (.str "bag") (.str "last") = some false := by rw [eqB_ss sg_1 sg_4]; decide +kernel
@[simp] theorem q_1_5 : eqB (.str "bag") (.str "ends") = some false := by rw [eqB_ss sg_1 sg_5]; decide +kernel
@[simp] theorem q_1_6 : eqB (.str "bag") (.str "heads") = some false := by rw [eqB_ss sg_1 sg_6]; decide +kernel
@[simp] theorem q_1_7 : eqB (.str "bag") (.str "tails") = some false := by rw [eqB_ss sg_1 sg_7]; decide +kernel
@[simp] theorem q_2_0 : eqB (.str "set") (.str "list") = some false := by rw [eqB_ss sg_2 sg_0]; decide +kernel
@[simp] theorem q_2_1 : eqB (.str "set") (.str "bag") = some false := by rw [eqB_ss sg_2 sg_1]; decide +kernel
@[simp] theorem q_2_2 : eqB (.str "set") (.str "set") = some true := by rw [eqB_ss sg_2 sg_2]; decide +kernel
@[simp] theorem q_2_3 : eqB (.str "set") (.str "first") = some false := by rw [eqB_ss sg_2 sg_3]; decide +kernel
@[simp] theorem q_2_4 : eqB (.str "set") (.str "last") = some false := by rw [eqB_ss sg_2 sg_4]; decide +kernel
@[simp] theorem q_2_5 : eqB (.str "set") (.str "ends") = some false := by rw [eqB_ss sg_2 sg_5]; decide +kernel
@[simp] theorem q_2_6 : eqB (.str "set") (.str "heads") = some false := by rw [eqB_ss sg_2 sg_6]; decide +kernel
@[simp] theorem q_2_7 : eqB (.str "set") (.str "tails") = some false := by rw [eqB_ss sg_2 sg_7]; decide +kernel
@[simp] theorem q_3_0 : eqB (.str "first") (.str "list") = some false := by rw [eqB_ss sg_3 sg_0]; decide +kernel
@[simp] theorem q_3_1 : eqB (.str "first") (.str "bag") = some false := by rw [eqB_ss sg_3 sg_1]; decide +kernel
@[simp] theorem q_3_2 : eqB (.str "first") (.str "set") = some false := by rw [eqB_ss sg_3 sg_2]; decide +kernel
@[simp] theorem q_3_3 : eqB (.str "first") (.str "first") = some true := by rw [eqB_ss sg_3 sg_3]; decide +kernel
@[simp] theorem q_3_4 : eqB (.str "first") (.str "last") = some false := by rw [eqB_ss sg_3 sg_4]; decide +kernel
@[simp] theorem q_3_5 : eqB (.str "first") (.str "ends") = some false := by rw [eqB_ss sg_3 sg_5]; decide +kernel
@[simp] theorem q_3_6 : eqB (.str "first") (.str "heads") = some false := by rw [eqB_ss sg_3 sg_6]; decide +kernel
@[simp] theorem q_3_7 : eqB (.str "first") (.str "tails") = some false := by rw [eqB_ss sg_3 sg_7]; decide +kernel
@[simp] theorem q_4_0 : eqB (.str "last") (.str "list") = some false := by rw [eqB_ss sg_4 sg_0]; decide +kernel
@[simp] theorem q_4_1 : eqB (.str "last") (.str "bag") = some false := by rw [eqB_ss sg_4 sg_1]; decide +kernel
@[simp] theorem q_4_2 : eqB (.str "last") (.str "set") = some false := by rw [eqB_ss sg_4 sg_2]; decide +kernel
@[simp] theorem q_4_3 : eqB (.str "last") (.str "first") = some false := by rw [eqB_ss sg_4 sg_3]; decide +kernel
@[simp] theorem q_4_4 : eqB (.str "last") (.str "last") = some true := by rw [eqB_ss sg_4 sg_4]; decide +kernel
@[simp] theorem q_4_5 : eqB (.str "last") (.str "ends") = some false := by rw [eqB_ss sg_4 sg_5]; decide +kernel
@[simp] theorem q_4_6 : eqB (.str "last") (.str "heads") = some false := by rw [eqB_ss sg_4 sg_6]; decide +kernel
@[simp] theorem q_4_7 : eqB (.str "last") (.str "tails") = some false := by rw [eqB_ss sg_4 sg_7]; decide +kernel
@[simp] theorem q_5_0 : eqB (.str "ends") (.str "list") = some false := by rw [eqB_ss sg_5 sg_0]; decide +kernel
@[simp] theorem q_5_1 : eqB (.str "ends") (.str "bag") = some false := by rw [eqB_ss sg_5 sg_1]; decide +kernel
@[simp] theorem q_5_2 : eqB (.str "ends") (.str "set") = some false := by rw [eqB_ss sg_5 sg_2]; decide +kernel
@[simp] theorem q_5_3 : eqB (.str "ends") (.str "first") = some false := by rw [eqB_ss sg_5 sg_3]; decide +kernel
@[simp] theorem q_5_4 : eqB (.str "ends") (.str "last") = some false := by rw [eqB_ss sg_5 sg_4]; decide +kernel
@[simp] theorem q_5_5 : eqB (.str "ends") (.str "ends") = some true := by rw [eqB_ss sg_5 sg_5]; decide +kernel
@[simp] theorem q_5_6 : eqB (.str "ends") (.str "heads") = some false := by rw [eqB_ss sg_5 sg_6]; decide +kernel
@[simp] theorem q_5_7 : eqB (.str "ends") (.str "tails") = some false := by rw [eqB_ss sg_5 sg_7]; decide +kernel
@[simp] theorem q_6_0 : eqB (.str "heads") (.str "list") = some false := by rw [eqB_ss sg_6 sg_0]; decide +kernel
@[simp] theorem q_6_1 : eqB (.str "heads") (.str "bag") = some false := by rw [eqB_ss sg_6 sg_1]; decide +kernel
@[simp] theorem q_6_2 : eqB (.str "heads") (.str "set") = some false := by rw [eqB_ss sg_6 sg_2]; decide +kernel
@[simp] theorem q_6_3 : eqB (.str "heads") (.str "first") = some false := by rw [eqB_ss sg_6 sg_3]; decide +kernel
@[simp] theorem q_6_4 : eqB (.str "heads") (.str "last") = some false := by rw [eqB_ss sg_6 sg_4]; decide +kernel
@[simp] theorem q_6_5 : eqB (.str "heads") (.str "ends") = some false := by rw [eqB_ss sg_6 sg_5]; decide +kernel
@[simp] theorem q_6_6 : eqB (.str "heads") (.str "heads") = some true := by rw [eqB_ss sg_6 sg_6]; decide +kernel
@[simp] theorem q_6_7 : eqB (.str "heads") (.str "tails") = some false := by rw [eqB_ss sg_6 sg_7]; decide +kernel
@[simp] theorem q_7_0 : eqB (.str "tails") (.str "list") = some false := by rw [eqB_ss sg_7 sg_0]; decide +kernel
@[simp] theorem q_7_1 : eqB (.str "tails") (.str "bag") = some false := by rw [eqB_ss sg_7 sg_1]; decide +kernel
@[simp] theorem q_7_2 : eqB (.str "tails") (.str "set") = some false := by rw [eqB_ss sg_7 sg_2]; decide +kernel
@[simp] theorem q_7_3 : eqB (.str "tails") (.str "first") = some false := by rw [eqB_ss sg_7 sg_3]; decide +kernel
@[simp] theorem q_7_4 : eqB (.str "tails") (.str "last") = some false := by rw [eqB_ss sg_7 sg_4]; decide +kernel
@[simp] theorem q_7_5 : eqB (.str "tails") (.str "ends") = some false := by rw [eqB_ss sg_7 sg_5]; decide +kernel
@[simp] theorem q_7_6 : eqB (.str "tails") (.str "heads") = some false := by rw [eqB_ss sg_7 sg_6]; decide +kernel
@[simp] theorem q_7_7 : eqB (.str "tails") (.str "tails") = some true := by rw [eqB_ss sg_7 sg_7]; decide +kernel
@[simp] theorem q_8_0 : eqB (.str "Heads") (.str "list") = some false := by rw [eqB_ss sg_8 sg_0]; decide +kernel
@[simp] theorem q_8_1 : eqB (.str "Heads") (.str "bag") = some false := by rw [eqB_ss sg_8 sg_1]; decide +kernel
@[simp] theorem q_8_2 : eqB (.str "Heads") (.str "set") = some false := by rw [eqB_ss sg_8 sg_2]; decide +kernel
@[simp] theorem q_8_3 : eqB (.str "Heads") (.str "first") = some false := by rw [eqB_ss sg_8 sg_3]; decide +kernel
@[simp] theorem q_8_4 : eqB (.str "Heads") (.str "last") = some false := by rw [eqB_ss sg_8 sg_4]; decide +kernel
@[simp] theorem q_8_5 : eqB (.str "Heads") (.str "ends") = some false := by rw [eqB_ss sg_8 sg_5]; decide +kernel
@[simp] theorem q_8_6 : eqB (.str "Heads") (.str "heads") = some false := by rw [eqB_ss sg_8 sg_6]; decide +kernel
@[simp] theorem q_8_7 : eqB (.str "Heads") (.str "tails") = some false := by rw [eqB_ss sg_8 sg_7]; decide +kernel
@[simp] theorem q_9_0 : eqB (.str "") (.str "list") = some false := by rw [eqB_ss sg_9 sg_0]; decide +kernel
@[simp] theorem q_9_1 : eqB (.str "") (.str "bag") = some false := by rw [eqB_ss sg_9 sg_1]; decide +kernel
@[simp] theorem q_9_2 : eqB (.str "") (.str "set") = some false := by rw [eqB_ss sg_9 sg_2]; decide +kernel
@[simp] theorem q_9_3 : eqB (.str "") (.str "first") = some false := by rw [eqB_ss sg_9 sg_3]; decide +kernel
@[simp] theorem q_9_4 : eqB (.str "") (.str "last") = some false := by rw [eqB_ss sg_9 sg_4]; decide +kernel
@[simp] theorem q_9_5 : eqB (.str "") (.str "ends") = some false := by rw [eqB_ss sg_9 sg_5]; decide +kernel
@[simp] theorem q_9_6 : eqB (.str "") (.str "heads") = some false := by rw [eqB_ss sg_9 sg_6]; decide +kernel
@[simp] theorem q_9_7 : eqB (.str "") (.str "tails") = some false := by rw [eqB_ss sg_9 sg_7]; decide +kernel
@[simp] theorem q_10_0 : eqB (.str "first ") (.str "list") = some false := by rw [eqB_ss sg_10 sg_0]; decide +kernel
@[simp] theorem q_10_1 : eqB (.str "first ") (.str "bag") = some false := by rw [eqB_ss sg_10 sg_1]; decide +kernel
@[simp] theorem q_10_2 : eqB (.str "first ") (.str "set") = some false := by rw [eqB_ss sg_10 sg_2]; decide +kernel
@[simp] theorem q_10_3 : eqB (.str "first ") (.str "first") = some false := by rw [eqB_ss sg_10 sg_3]; decide +kernel
@[simp] theorem q_10_4 : eqB (.str "first ") (.str "last") = some false := by rw [eqB_ss sg_10 sg_4]; decide +kernel
@[simp] theorem q_10_5 : eqB (.str "first ") (.str "ends") = some false := by rw [eqB_ss sg_10 sg_5]; decide +kernel
@[simp] theorem q_10_6 : eqB (.str "first ") (.str "heads") = some false := by rw [eqB_ss sg_10 sg_6]; decide +kernel
@[simp] theorem q_10_7 : eqB (.str "first ") (.str "tails") = some false := by rw [eqB_ss sg_10 sg_7]; decide +kernel
@[simp] theorem q_11_0 : eqB (.str "tail") (.str "list") = some false := by rw [eqB_ss sg_11 sg_0]; decide +kernel
@[simp] theorem q_11_1 : eqB (.str "tail") (.str "bag") = some false := by rw [eqB_ss sg_11 sg_1]; decide +kernel
@[simp] theorem q_11_2 : eqB (.str "tail") (.str "set") = some false := by rw [eqB_ss sg_11 sg_2]; decide +kernel
@[simp] theorem q_11_3 : eqB (.str "tail") (.str "first") = some false := by rw [eqB_ss sg_11 sg_3]; decide +kernel
@[simp] theorem q_11_4 : eqB (.str "tail") (.str "last") = some false := by rw [eqB_ss sg_11 sg_4]; decide +kernel
@[simp] theorem q_11_5 : eqB (.str "tail") (.str "ends") = some false := by rw [eqB_ss sg_11 sg_5]; decide +kernel
@[simp] theorem q_11_6 : eqB (.str "tail") (.str "heads") = some false := by rw [eqB_ss sg_11 sg_6]; decide +kernel
@[simp] theorem q_11_7 : eqB (.str "tail") (.str "tails") = some false := by rw [eqB_ss sg_11 sg_7]; decide +kernel
@[simp] theorem qn_0 : eqB .non (.str "list") = some false := by rw [eqB_pl (by simp) (by simp [sg_0])]; simp [eqP]
@[simp] theorem qi_0 : eqB (.int 3) (.str "list") = some false := by rw [eqB_pl (by simp) (by simp [sg_0])]; simp [eqP]
@[simp] theorem qt_0 : eqB (.tup [.str "set"]) (.str "list") = some false := by rw [eqB_pl (by simp [sg_2]) (by simp [sg_0])]; simp [eqP]
@[simp] theorem ql_0 : eqB (.lst [.str "set"]) (.str "list") = some false := by rw [eqB_pl (by simp [sg_2]) (by simp [sg_0])]; simp [eqP]
@[simp] theorem qn_1 : eqB .non (.str "bag") = some false := by rw [eqB_pl (by simp) (by simp [sg_1])]; simp [eqP]
@[simp] theorem qi_1 : eqB (.int 3) (.str "bag") = some false := by rw [eqB_pl (by simp) (by simp [sg_1])]; simp [eqP]
@[simp] theorem qt_1 : eqB (.tup [.str "set"]) (.str "bag") = some false := by rw [eqB_pl (by simp [sg_2]) (by simp [sg_1])]; simp [eqP]
@[simp] theorem ql_1 : eqB (.lst [.str "set"]) (.str "bag") = some false := by rw [eqB_pl (by simp [sg_2]) (by simp [sg_1])]; simp [eqP]
@[simp] theorem qn_2 : eqB .non (.str "set") = some false := by rw [eqB_pl (by simp) (by simp [sg_2])]; simp [eqP]
@[simp] theorem qi_2 : eqB (.int 3) (.str "set") = some false := by rw [eqB_pl (by simp) (by simp [sg_2])]; simp [eqP]
@[simp] theorem qt_2 : eqB (.tup [.str "set"]) (.str "set") = some false := by rw [eqB_pl (by simp [sg_2]) (by simp [sg_2])]; simp [eqP]
@[simp] theorem ql_2 : eqB (.lst [.str "set"]) (.str "set") = some false := by rw [eqB_pl (by simp [sg_2]) (by simp [sg_2])]; simp [eqP]
@[simp] theorem qn_3 : eqB .non (.str "first") = some false := by rw [eqB_pl (by simp) (by simp [sg_3])]; simp [eqP]
@[simp] theorem qi_3 : eqB (.int 3) (.str "first") = some false := by rw [eqB_pl (by simp) (by simp [sg_3])]; simp [eqP]
@[simp] theorem qt_3 : eqB (.tup [.str "set"]) (.str "first") = some false := by rw [eqB_pl (by simp [sg_2]) (by simp [sg_3])]; simp [eqP]
@[simp] theorem ql_3 : eqB (.lst [.str "set"]) (.str "first") = some false := by rw [eqB_pl (by simp [sg_2]) (by simp [sg_3])]; simp [eqP]
@[simp] theorem qn_4 : eqB .non (.str "last") = some false := by rw [eqB_pl (by simp) (by simp [sg_4])]; simp [eqP]
@[simp] theorem qi_4 : eqB (.int 3) (.str "last") = some false := by rw [eqB_pl (by simp) (by simp [sg_4])]; simp [eqP]
@[simp] theorem qt_4 : eqB (.tup [.str "set"]) (.str "last") = some false := by rw [eqB_pl (by simp [sg_2]) (by simp [sg_4])]; simp [eqP]
@[simp] theorem ql_4 : eqB (.lst [.str "set"]) (.str "last") = some false := by rw [eqB_pl (by simp [sg_2]) (by simp [sg_4])]; simp [eqP]
@[simp] theorem qn_5 : eqB .non (.str "ends") = some false := by rw [eqB_pl (by simp) (by simp [sg_5])]; simp [eqP]
@[simp] theorem qi_5 : eqB (.int 3) (.str "ends") = some false := by rw [eqB_pl (by simp) (by simp [sg_5])]; simp [eqP]
@[simp] theorem qt_5 : eqB (.tup [.str "set"]) (.str "ends") = some false := by rw [eqB_pl (by simp [sg_2]) (by simp [sg_5])]; simp [eqP]
@[simp] theorem ql_5 : eqB (.lst [.str "set"]) (.str "ends") = some false := by rw [eqB_pl (by simp [sg_2]) (by simp [sg_5])]; simp [eqP]
@[simp] theorem qn_6 : eqB .non (.str "heads") = some false := by rw [eqB_pl (by simp) (by simp [sg_6])]; simp [eqP]
@[simp] theorem qi_6 : eqB (.int 3) (.str "heads") = some false := by rw [eqB_pl (by simp) (by simp [sg_6])]; simp [eqP]
@[simp] theorem qt_6 : eqB (.tup [.str "set"]) (.str "heads") = some false := by rw [eqB_pl (by simp [sg_2]) (by simp [sg_6])]; simp [eqP]
@[simp] theorem ql_6 : eqB (.lst [.str "set"]) (.str "heads") = some false := by rw [eqB_pl (by simp [sg_2]) (by simp [sg_6])]; simp [eqP]
@[simp] theorem qn_7 : eqB .non (.str "tails") = some false := by rw [eqB_pl (by simp) (by simp [sg_7])]; simp [eqP]
@[simp] theorem qi_7 : eqB (.int 3) (.str "tails") = some false := by rw [eqB_pl (by simp) (by simp [sg_7])]; simp [eqP]
@[simp] theorem qt_7 : eqB (.tup [.str "set"]) (.str "tails") = some false := by rw [eqB_pl (by simp [sg_2]) (by simp [sg_7])]; simp [eqP]
@[simp] theorem ql_7 : eqB (.lst [.str "set"]) (.str "tails") = some false := by rw [eqB_pl (by simp [sg_2]) (by simp [sg_7])]; simp [eqP]
@[simp] theorem s_8 : eqB (.str "Heads") (.str "Heads") = some true := by rw [eqB_ss sg_8 sg_8]; decide +kernel
@[simp] theorem s_9 : eqB (.str "") (.str "") = some true := by rw [eqB_ss sg_9 sg_9]; decide +kernel
@[simp] theorem s_10 : eqB (.str "first ") (.str "first ") = some true := by rw [eqB_ss sg_10 sg_10]; decide +kernel
@[simp] theorem s_11 : eqB (.str "tail") (.str "tail") = some true := by rw [eqB_ss sg_11 sg_11]; decide +kernel
@[simp] theorem s_i : eqB (.int 3) (.int 3) = some true := by simp
@[simp] theorem s_t : eqB (.tup [.str "set"]) (.tup [.str "set"]) = some true := by rw [eqB_pl (by simp [sg_2]) (by simp [sg_2])]; simp
@[simp] theorem s_l : eqB (.lst [.str "set"]) (.lst [.str "set"]) = some true := by rw [eqB_pl (by simp [sg_2]) (by simp [sg_2])]; simp
/-! the class of a kind's name -/
theorem named_r (k : Kd) : r_kind_named [.d (.str (nm k))] = .ok (.d (.ins (cN k) [])) [.d (.str (nm k))] := by
  cases k <;> (unfold r_kind_named d_kind_named nm cN; simp)
/-- a tuple or a list of ints -/
def wd (b : Bool) (ns : List Int) : D := match b with
  | true => .tup (ns.map .int)
  | false => .lst (ns.map .int)
@[simp] theorem tup_wd {b : Bool} {ns : List Int} : tupleD [wd b ns] = some (.tup (ns.map .int)) := by cases b <;> rfl
theorem kind_r (C : Str) (b : Bool) (ns : List Int) : r_Kind_plain [.d (.ins C []), .d (wd b ns)] = .ok (.d (.tup (ns.map .int))) [.d (.ins C []), .d (wd b ns)] := by
  unfold r_Kind_plain d_Kind_plain
  simp
theorem bag_r (C : Str) (hC : C = "BagKind" ∨ C = "SetKind") (b : Bool) (ns : List Int) : r_BagKind_plain [.d (.ins C []), .d (wd b ns)] = .ok (.d (.tup ((srtI ns).map .int))) [.d (.ins C []), .d (wd b ns)] := by
  unfold r_BagKind_plain d_BagKind_plain
  simp [kind_r, hC]
theorem ends_r (b : Bool) (ns : List Int) (hl : ns.length ≤ 1000) : r_EndsKind_plain [.d (.ins "EndsKind" []), .d (wd b ns)] = .ok (.d (.tup ((en ns).map .int))) [.d (.ins "EndsKind" []), .d (wd b ns)] := by
  have e1 : (ns.map D.int).take 1 = (fi ns).map .int := by cases ns <;> rfl
  have e2 : (ns.map D.int).drop (ns.length - 1) = (la ns).map .int := by
    rcases List.eq_nil_or_concat ns with rfl | ⟨xs, z, rfl⟩
    · rfl
    · simp [la]
  have l1 : (fi ns).length ≤ 1 := op_len _
  have l2 : (la ns).length ≤ 1 := op_len _
  unfold r_EndsKind_plain d_EndsKind_plain
  simp [kind_r, cut_1, cut_l, e1, e2, en, show (fi ns).length + (la ns).length ≤ 100000 by omega]
end Law
set_option Elab.async false
set_option linter.all false
set_option maxRecDepth 100000
set_option maxHeartbeats 4000000
namespace Law
open PySem L2 DL
/-! heads, tails, set, first, last -/
theorem nil_or (w : List Int) : w = [] ∨ ∃ (xs : List Int) (y : Int), w = xs ++ [y] := by
  rcases List.eq_nil_or_concat w with h | ⟨xs, y, h⟩
  · exact .inl h
  · exact .inr ⟨xs, y, by rw [h, List.concat_eq_append]⟩
def kv (ks : List Int) : List (Key × D) := ks.map fun i => ((.inl i : Key), D.bl true)
theorem kv_len {ks : List Int} : (kv ks).length = ks.length := by simp [kv]
theorem putQ_kv {ks : List Int} {x : Int} : putQ (kv ks) (.inl x) (.bl true) = kv (addK ks x) := by
  unfold putQ addK
  by_cases h : x ∈ ks
  · have e1 : ((kv ks).any fun q => decide (q.1 = Sum.inl x)) = true := by
      rw [List.any_eq_true]
      exact ⟨(.inl x, .bl true), List.mem_map_of_mem h, by simp⟩
    rw [if_pos e1, if_pos h]
    unfold kv
    rw [List.map_map]
    refine List.map_congr_left fun i _ => ?_
    simp only [Function.comp]
    split <;> rfl
  · have e1 : ¬ ((kv ks).any fun q => decide (q.1 = Sum.inl x)) = true := by
      rw [List.any_eq_true]
      rintro ⟨q, hq, e⟩
      obtain ⟨i, hi, rfl⟩ := List.mem_map.mp hq
      have e : i = x := by simpa using e
      exact h (e ▸ hi)
    rw [if_neg e1, if_neg h]
    simp [kv]
theorem keys_kv {ks : List Int} : ((kv ks).map fun q => keyV q.1) = ks.map .int := by
  unfold kv
  rw [List.map_map]
  exact List.map_congr_left fun i _ => rfl
theorem dl {b : SM} (hb : b = sFg [4] (sSeq (sSetK 3 (eVar 4) (eC (.bl true))) sNop)) (o0 o1 o2 : Option L) (rest : DL.Env) : ∀ (ns acc : List Int), acc.length + ns.length ≤ 100000 →
    forGo (gmName 4) b (ns.map .int) (o0 :: o1 :: o2 :: some (.m (.dct (kv acc))) :: none :: rest) = .ok .nx (o0 :: o1 :: o2 :: some (.m (.dct (kv (hG acc ns)))) :: none :: rest)
  | [], acc, _ => by simp [hG]
  | n :: ns, acc, h => by
    have hl : (kv acc).length ≤ 100000 := by rw [kv_len]; simp at h; omega
    have h2 := addK_len (ks := acc) (x := n)
    rw [List.map_cons, forGo_cons (ρ2 := o0 :: o1 :: o2 :: some (.m (.dct (kv (addK acc n)))) :: none :: rest) (by simp [hb, hl, putQ_kv])]
    exact dl hb o0 o1 o2 rest ns (addK acc n) (by simp at h; omega)
theorem heads_r (C : Str) (hC : C = "HeadsKind" ∨ C = "FirstKind") (b : Bool) (ns : List Int) (hl : ns.length ≤ 1000) : r_HeadsKind_plain [.d (.ins C []), .d (wd b ns)] = .ok (.d (.tup ((hd ns).map .int))) [.d (.ins C []), .d (wd b ns)] := by
  have e := dl (b := b_HeadsKind_plain_1) rfl (some (.d (.ins C []))) (some (.d (wd b ns))) none [] ns [] (by simp; omega)
  rw [show kv [] = [] from rfl] at e
  unfold r_HeadsKind_plain d_HeadsKind_plain
  simp [kind_r, hC, e, keys_kv, hd]
theorem tails_r (C : Str) (hC : C = "TailsKind" ∨ C = "LastKind") (b : Bool) (ns : List Int) (hl : ns.length ≤ 1000) : r_TailsKind_plain [.d (.ins C []), .d (wd b ns)] = .ok (.d (.tup ((tl ns).map .int))) [.d (.ins C []), .d (wd b ns)] := by
  have e := dl (b := b_TailsKind_plain_1) rfl (some (.d (.ins C []))) (some (.d (wd b ns))) none [] ns.reverse [] (by simp; omega)
  rw [show kv [] = [] from rfl, List.map_reverse] at e
  unfold r_TailsKind_plain d_TailsKind_plain
  simp [kind_r, hC, e, keys_kv, tl, hd]
theorem hG_head : ∀ {ns acc : List Int}, (hG acc ns).head? = acc.head?.or ns.head?
  | [], acc => by simp [hG]
  | n :: ns, acc => by
    show (hG (addK acc n) ns).head? = _
    rw [hG_head]
    unfold addK
    cases acc with
    | nil => simp
    | cons a acc => split <;> simp
theorem take1 : ∀ (w : List Int), (w.map D.int).take 1 = (fi w).map .int
  | [] => rfl
  | _ :: _ => rfl
theorem drop1 (w : List Int) : (w.map D.int).drop (w.length - 1) = (la w).map .int := by
  rcases List.eq_nil_or_concat w with rfl | ⟨xs, z, rfl⟩
  · rfl
  · simp [la]
theorem first_r (b : Bool) (ns : List Int) (hl : ns.length ≤ 1000) : r_FirstKind_plain [.d (.ins "FirstKind" []), .d (wd b ns)] = .ok (.d (.tup ((fi ns).map .int))) [.d (.ins "FirstKind" []), .d (wd b ns)] := by
  have e : fi (hd ns) = fi ns := fi_e (by unfold hd; rw [hG_head]; simp)
  unfold r_FirstKind_plain d_FirstKind_plain
  simp [heads_r, hl, cut_1, take1, e]
theorem last_r (b : Bool) (ns : List Int) (hl : ns.length ≤ 1000) : r_LastKind_plain [.d (.ins "LastKind" []), .d (wd b ns)] = .ok (.d (.tup ((la ns).map .int))) [.d (.ins "LastKind" []), .d (wd b ns)] := by
  have e : la (tl ns) = la ns := la_e (by unfold tl hd; rw [List.getLast?_reverse, hG_head]; simp)
  have e2 := drop1 (tl ns)
  rw [e] at e2
  unfold r_LastKind_plain d_LastKind_plain
  simp [tails_r, hl, cut_l, e2]
/-! set -/
def uq1 (acc : List Int) (x : Int) : List Int := match acc.getLast? with
  | some y => if y = x then acc else acc ++ [x]
  | none => [x]
theorem uq_ok : ∀ (ns acc : List Int), acc.Pairwise (· < ·) → ns.Pairwise (· ≤ ·) → (∀ a ∈ acc, ∀ n ∈ ns, a ≤ n) → (ns.foldl uq1 acc).Pairwise (· < ·) ∧ ∀ k, k ∈ ns.foldl uq1 acc ↔ k ∈ acc ∨ k ∈ ns
  | [], acc, h1, _, _ => ⟨h1, fun k => by simp⟩
  | n :: ns, acc, h1, h2, h3 => by
    obtain ⟨q1, q2⟩ := List.pairwise_cons.mp h2
    have step : (uq1 acc n).Pairwise (· < ·) ∧ ∀ k, k ∈ uq1 acc n ↔ k ∈ acc ∨ k = n := by
      rcases nil_or acc with rfl | ⟨xs, y, rfl⟩
      · exact ⟨List.pairwise_singleton _ _, fun k => by simp [uq1]⟩
      · unfold uq1
        simp only [List.getLast?_append, List.getLast?_singleton, Option.some_or]
        split
        · rename_i e
          subst e
          exact ⟨h1, fun k => by simp⟩
        · rename_i e
          refine ⟨List.pairwise_append.mpr ⟨h1, List.pairwise_singleton _ _, fun a ha b hb => ?_⟩, fun k => by simp [or_assoc]⟩
          have hb : b = n := by simpa using hb
          subst hb
          have hy := h3 y (by simp) b List.mem_cons_self
          obtain ⟨_, _, r⟩ := List.pairwise_append.mp h1
          rcases List.mem_append.mp ha with ha | ha
          · have := r a ha y (by simp)
            omega
          · have : a = y := by simpa using ha
            omega
    obtain ⟨r1, r2⟩ := uq_ok ns (uq1 acc n) step.1 q2 fun a ha m hm => by
      rcases (step.2 a).mp ha with ha | rfl
      · exact h3 a ha m (List.mem_cons_of_mem _ hm)
      · exact q1 m hm
    refine ⟨r1, fun k => ?_⟩
    rw [List.foldl_cons, r2, step.2, List.mem_cons, or_assoc]
theorem uq_st (ns : List Int) : (srtI ns).foldl uq1 [] = stS ns := by
  obtain ⟨h1, h2⟩ := uq_ok (srtI ns) [] List.Pairwise.nil (srtI_srt ns) fun a h => nomatch h
  have nd : ((srtI ns).foldl uq1 []).Nodup := h1.imp fun h => by omega
  refine srt_uniq (((List.perm_ext_iff_of_nodup nd (nodup_dedI ns)).mpr fun k => ?_).trans (srtI_perm _).symm) (h1.imp fun h => by omega) (srtI_srt _)
  rw [h2, mem_dedI, (srtI_perm ns).mem_iff]
  simp
theorem uq1_len {acc : List Int} {x : Int} : (uq1 acc x).length ≤ acc.length + 1 := by
  unfold uq1
  split
  · split <;> simp
  · simp
theorem sl (o0 o1 : Option L) : ∀ (ns acc : List Int), acc.length + ns.length ≤ 100000 →
    forGo (gmName 4) b_SetKind_plain_1 (ns.map .int) [o0, o1, none, some (.m (.lst (acc.map .int))), none] = .ok .nx [o0, o1, none, some (.m (.lst ((ns.foldl uq1 acc).map .int))), none]
  | [], acc, _ => by simp
  | n :: ns, acc, h => by
    have hl : acc.length ≤ 100000 := by simp at h; omega
    have h2 := uq1_len (acc := acc) (x := n)
    rw [List.map_cons, forGo_cons (ρ2 := [o0, o1, none, some (.m (.lst ((uq1 acc n).map .int))), none]) (by
      rcases nil_or acc with rfl | ⟨xs, y, rfl⟩
      · simp [b_SetKind_plain_1, uq1]
      · have hl2 : xs.length + 1 ≤ 100000 := by simpa using hl
        have ie : ∀ z : D, (xs.map D.int ++ [z]).isEmpty = false := fun z => by cases xs <;> rfl
        by_cases e : y = n
        · simp [b_SetKind_plain_1, uq1, e, ie]
        · simp [b_SetKind_plain_1, uq1, e, hl2, ie])]
    exact sl o0 o1 ns (uq1 acc n) (by simp at h; omega)
theorem set_r (b : Bool) (ns : List Int) (hl : ns.length ≤ 1000) : r_SetKind_plain [.d (.ins "SetKind" []), .d (wd b ns)] = .ok (.d (.tup ((stS ns).map .int))) [.d (.ins "SetKind" []), .d (wd b ns)] := by
  have e := sl (some (.d (.ins "SetKind" []))) (some (.d (wd b ns))) (srtI ns) [] (by rw [(srtI_perm ns).length_eq]; simp; omega)
  rw [uq_st, List.map_nil] at e
  unfold r_SetKind_plain d_SetKind_plain
  simp [bag_r, e]
/-! a kind's plain value -/
def rP : Kd → List L → FRes
  | .ki => r_Kind_plain
  | .ba => r_BagKind_plain
  | .se => r_SetKind_plain
  | .fi => r_FirstKind_plain
  | .la => r_LastKind_plain
  | .en => r_EndsKind_plain
  | .he => r_HeadsKind_plain
  | .ta => r_TailsKind_plain
theorem plain_r (k : Kd) (b : Bool) (ns : List Int) (hl : ns.length ≤ 1000) : rP k [.d (.ins (cN k) []), .d (wd b ns)] = .ok (.d (.tup ((pl k ns).map .int))) [.d (.ins (cN k) []), .d (wd b ns)] := by
  cases k
  · exact kind_r _ b ns
  · exact bag_r _ (.inl rfl) b ns
  · exact set_r b ns hl
  · exact first_r b ns hl
  · exact last_r b ns hl
  · exact ends_r b ns hl
  · exact heads_r _ (.inl rfl) b ns hl
  · exact tails_r _ (.inl rfl) b ns hl
@[simp] theorem tbp (k : Kd) : tb_plain.lookup (cN k) = some (rP k) := by cases k <;> rfl
@[simp] theorem tbm (k : Kd) : tb_merged.lookup (cN k) = some r_Kind_merged := by cases k <;> rfl
theorem merged_r (k : Kd) (b c : Bool) (u v : List Int) (hl : u.length + v.length ≤ 1000) : r_Kind_merged [.d (.ins (cN k) []), .d (wd b u), .d (wd c v)] = .ok (.d (.tup ((pl k (u ++ v)).map .int))) [.d (.ins (cN k) []), .d (wd b u), .d (wd c v)] := by
  have e := plain_r k true (u ++ v) (by simpa using hl)
  unfold wd at e
  simp only [List.map_append] at e
  unfold r_Kind_merged d_Kind_merged
  simp [e, show u.length + v.length ≤ 100000 by omega]
theorem pv_r (k : Kd) (b : Bool) (u : List Int) (hl : u.length ≤ 1000) : r_plain_value [.d (.str (nm k)), .d (wd b u)] = .ok (.d (.tup ((pl k u).map .int))) [.d (.str (nm k)), .d (wd b u)] := by
  unfold r_plain_value d_plain_value
  simp [named_r, plain_r, hl]
theorem alike_r (k : Kd) (b c : Bool) (u v : List Int) (hu : u.length ≤ 1000) (hv : v.length ≤ 1000) : r_alike [.d (.str (nm k)), .d (wd b u), .d (wd c v)] = .ok (.d (.bl (decide (pl k u = pl k v)))) [.d (.str (nm k)), .d (wd b u), .d (wd c v)] := by
  unfold r_alike d_alike
  simp [named_r, plain_r, hu, hv]
end Law
set_option Elab.async false
set_option linter.all false
set_option maxRecDepth 100000
set_option maxHeartbeats 4000000
namespace Law
open PySem L2 DL
/-! the law's own plain values -/
theorem lplain_r (k : Kd) (ns : List Int) (hl : ns.length ≤ 1000) (h6 : (dedI ns).length < 64) : r__law_plain [.d (.str (nm k)), .d (.tup (ns.map .int))] = .ok (.d (.tup ((pl k ns).map .int))) [.d (.str (nm k)), .d (.tup (ns.map .int))] := by
  have l1 : (fi ns).length ≤ 1 := op_len _
  have l2 : (la ns).length ≤ 1 := op_len _
  have eh := dl (b := b__law_plain_1) rfl (some (.d (.str "heads"))) (some (.d (.tup (ns.map .int)))) (some (.d (.lst (ns.map .int)))) [none] ns [] (by simp; omega)
  have et := dl (b := b__law_plain_1) rfl (some (.d (.str "tails"))) (some (.d (.tup (ns.map .int)))) (some (.d (.lst (ns.map .int).reverse))) [none] ns.reverse [] (by simp; omega)
  rw [show kv [] = [] from rfl] at eh et
  rw [List.map_reverse] at et
  have e2 := drop1 ns
  cases k
  · unfold r__law_plain d__law_plain nm
    simp [pl]
  · unfold r__law_plain d__law_plain nm
    simp [pl]
  · unfold r__law_plain d__law_plain nm
    simp [pl, hl, h6, stS]
  · unfold r__law_plain d__law_plain nm
    simp [pl, cut_1, take1]
  · unfold r__law_plain d__law_plain nm
    simp [pl, cut_l, e2]
  · unfold r__law_plain d__law_plain nm
    simp [pl, cut_1, take1, cut_l, e2, en, show (fi ns).length + (la ns).length ≤ 100000 by omega]
  · unfold r__law_plain d__law_plain nm
    simp [pl, eh, keys_kv, hd]
  · unfold r__law_plain d__law_plain nm
    simp [pl, et, keys_kv, tl, hd]
/-! is a word -/
theorem isword_r (u v : List Int) : r__law_is_word [.d (.tup (u.map .int)), .d (.tup (v.map .int))] = .ok (.d (.bl (decide (u = v)))) [.d (.tup (u.map .int)), .d (.tup (v.map .int))] := by
  have e : forGo (gmName 2) b__law_is_word_1 (u.map .int) [some (.d (.tup (u.map .int))), some (.d (.tup (v.map .int))), none] = .ok .nx [some (.d (.tup (u.map .int))), some (.d (.tup (v.map .int))), none] :=
    fo_same fun x _ => by simp [b__law_is_word_1]
  unfold r__law_is_word d__law_is_word
  by_cases h : u.length = v.length
  · simp [h, e]
  · have h' : u ≠ v := fun z => h (congrArg List.length z)
    have h2 : ¬ (u.length : Int) = v.length := by omega
    simp [h', h2]
theorem flag_r (a b : Bool) : r__law_flag [.d (.bl a), .d (.bl b)] = .ok (.d (.bl (a == b))) [.d (.bl a), .d (.bl b)] := by
  unfold r__law_flag d__law_flag
  cases a <;> cases b <;> simp
end Law
set_option Elab.async false
set_option linter.all false
set_option maxRecDepth 100000
set_option maxHeartbeats 4000000
namespace Law
open PySem L2 DL
/-! the rules -/
structure Rq where
  s : Str
  l : List Int
  r : List Int
def q1 : Rq := ⟨"12=21", [1, 2], [2, 1]⟩
def q2 : Rq := ⟨"11=1", [1, 1], [1]⟩
def q3 : Rq := ⟨"12=1", [1, 2], [1]⟩
def q4 : Rq := ⟨"12=2", [1, 2], [2]⟩
def q5 : Rq := ⟨"123=13", [1, 2, 3], [1, 3]⟩
def q6 : Rq := ⟨"121=12", [1, 2, 1], [1, 2]⟩
def q7 : Rq := ⟨"121=21", [1, 2, 1], [2, 1]⟩
def rl : Kd → List Rq
  | .ki => []
  | .ba => [q1]
  | .se => [q1, q2]
  | .fi => [q3]
  | .la => [q4]
  | .en => [q2, q5]
  | .he => [q2, q6]
  | .ta => [q2, q7]
def dgS (i : Int) : Str := ⟨#[48 + i.toNat]⟩
theorem dg1 : PySem.intText? (dgS 1) = some 1 := by decide +kernel
theorem dg2 : PySem.intText? (dgS 2) = some 2 := by decide +kernel
theorem dg3 : PySem.intText? (dgS 3) = some 3 := by decide +kernel
/-- a side's digits -/
def Dig (l : List Int) : Prop := ∀ i ∈ l, i = 1 ∨ i = 2 ∨ i = 3
theorem dg_ok {i : Int} (h : i = 1 ∨ i = 2 ∨ i = 3) : intX [.str (dgS i)] = some (.int i) := by
  rcases h with rfl | rfl | rfl
  · rw [intX_s, if_pos (by decide +kernel), dg1]; rfl
  · rw [intX_s, if_pos (by decide +kernel), dg2]; rfl
  · rw [intX_s, if_pos (by decide +kernel), dg3]; rfl
theorem side_lc (k : Nat) (s a b x : Str) (l : List Int) (hl : Dig l) (hn : l.length ≤ 10) (hx : x = if k = 1 then a else b) (hk : k = 1 ∨ k = 2) (hc : chD x = l.map fun i => .str (dgS i)) :
    fLc (mStr (eVar k)) [3] (gmName 3) mYes (eCB intX (aCons (eVar 3) aNil)) [some (.d (.str s)), some (.d (.str a)), some (.d (.str b)), none] = .ok (.lst (l.map .int)) [some (.d (.str s)), some (.d (.str a)), some (.d (.str b)), none] := by
  refine lc_im (fun i => D.str (dgS i)) D.int ?_ (by simp) (le_mx (by omega)) (fun i hi => ?_)
  · rcases hk with rfl | rfl
    · simp at hx; subst hx; simp [hc]
    · simp at hx; subst hx; simp [hc]
  · have := dg_ok (hl i hi)
    simp only [lcE_ap]
    simp [-intX_s, this]
theorem words_of (q : Rq) (a b : Str) (h : Txt.split q.s "=" = [a, b]) (hs : q.s.length ≤ 100) (ha : chD a = q.l.map fun i => .str (dgS i)) (hb : chD b = q.r.map fun i => .str (dgS i)) (hl : Dig q.l) (hr : Dig q.r) (l1 : q.l.length ≤ 10) (l2 : q.r.length ≤ 10) :
    r_rule_words [.d (.str q.s)] = .ok (.d (.tup [.tup (q.l.map .int), .tup (q.r.map .int)])) [.d (.str q.s)] ∧ r__law_sides [.d (.str q.s)] = .ok (.d (.tup [.tup (q.l.map .int), .tup (q.r.map .int)])) [.d (.str q.s)] := by
  have e1 := side_lc 1 q.s a b a q.l hl l1 (by simp) (.inl rfl) ha
  have e2 := side_lc 2 q.s a b b q.r hr l2 (by simp) (.inr rfl) hb
  have hz : (Str.length (Str.ofString "=") == 0) = false := by decide +kernel
  constructor
  · unfold r_rule_words d_rule_words
    simp [h, hz, show q.s.length + 2 ≤ 100000 by omega, e1, e2]
  · unfold r__law_sides d__law_sides
    simp [h, hz, show q.s.length + 2 ≤ 100000 by omega, e1, e2]
end Law
set_option Elab.async false
set_option linter.all false
set_option maxRecDepth 100000
set_option maxHeartbeats 4000000
namespace Law
open PySem L2 DL
structure Gq (q : Rq) : Prop where
  a : r_rule_words [.d (.str q.s)] = .ok (.d (.tup [.tup (q.l.map .int), .tup (q.r.map .int)])) [.d (.str q.s)]
  b : r__law_sides [.d (.str q.s)] = .ok (.d (.tup [.tup (q.l.map .int), .tup (q.r.map .int)])) [.d (.str q.s)]
  dl : Dig q.l
  dr : Dig q.r
  nl : q.l.length ≤ 3
  nr : q.r.length ≤ 3
  g : strG q.s = true
theorem g1 : Gq q1 := ⟨(words_of q1 "12" "21" (by decide +kernel) (by decide +kernel) rfl rfl (by unfold Dig q1; decide) (by unfold Dig q1; decide) (by decide) (by decide)).1, (words_of q1 "12" "21" (by decide +kernel) (by decide +kernel) rfl rfl (by unfold Dig q1; decide) (by unfold Dig q1; decide) (by decide) (by decide)).2, by unfold Dig q1; decide, by unfold Dig q1; decide, by decide, by decide, by decide +kernel⟩
theorem g2 : Gq q2 := ⟨(words_of q2 "11" "1" (by decide +kernel) (by decide +kernel) rfl rfl (by unfold Dig q2; decide) (by unfold Dig q2; decide) (by decide) (by decide)).1, (words_of q2 "11" "1" (by decide +kernel) (by decide +kernel) rfl rfl (by unfold Dig q2; decide) (by unfold Dig q2; decide) (by decide) (by decide)).2, by unfold Dig q2; decide, by unfold Dig q2; decide, by decide, by decide, by decide +kernel⟩
theorem g3 : Gq q3 := ⟨(words_of q3 "12" "1" (by decide +kernel) (by decide +kernel) rfl rfl (by unfold Dig q3; decide) (by unfold Dig q3; decide) (by decide) (by decide)).1, (words_of q3 "12" "1" (by decide +kernel) (by decide +kernel) rfl rfl (by unfold Dig q3; decide) (by unfold Dig q3; decide) (by decide) (by decide)).2, by unfold Dig q3; decide, by unfold Dig q3; decide, by decide, by decide, by decide +kernel⟩
theorem g4 : Gq q4 := ⟨(words_of q4 "12" "2" (by decide +kernel) (by decide +kernel) rfl rfl (by unfold Dig q4; decide) (by unfold Dig q4; decide) (by decide) (by decide)).1, (words_of q4 "12" "2" (by decide +kernel) (by decide +kernel) rfl rfl (by unfold Dig q4; decide) (by unfold Dig q4; decide) (by decide) (by decide)).2, by unfold Dig q4; decide, by unfold Dig q4; decide, by decide, by decide, by decide +kernel⟩
theorem g5 : Gq q5 := ⟨(words_of q5 "123" "13" (by decide +kernel) (by decide +kernel) rfl rfl (by unfold Dig q5; decide) (by unfold Dig q5; decide) (by decide) (by decide)).1, (words_of q5 "123" "13" (by decide +kernel) (by decide +kernel) rfl rfl (by unfold Dig q5; decide) (by unfold Dig q5; decide) (by decide) (by decide)).2, by unfold Dig q5; decide, by unfold Dig q5; decide, by decide, by decide, by decide +kernel⟩
theorem g6 : Gq q6 := ⟨(words_of q6 "121" "12" (by decide +kernel) (by decide +kernel) rfl rfl (by unfold Dig q6; decide) (by unfold Dig q6; decide) (by decide) (by decide)).1, (words_of q6 "121" "12" (by decide +kernel) (by decide +kernel) rfl rfl (by unfold Dig q6; decide) (by unfold Dig q6; decide) (by decide) (by decide)).2, by unfold Dig q6; decide, by unfold Dig q6; decide, by decide, by decide, by decide +kernel⟩
theorem g7 : Gq q7 := ⟨(words_of q7 "121" "21" (by decide +kernel) (by decide +kernel) rfl rfl (by unfold Dig q7; decide) (by unfold Dig q7; decide) (by decide) (by decide)).1, (words_of q7 "121" "21" (by decide +kernel) (by decide +kernel) rfl rfl (by unfold Dig q7; decide) (by unfold Dig q7; decide) (by decide) (by decide)).2, by unfold Dig q7; decide, by unfold Dig q7; decide, by decide, by decide, by decide +kernel⟩
theorem rl_g (k : Kd) : ∀ q ∈ rl k, Gq q := by
  cases k <;> intro q hq <;> simp only [rl, List.mem_cons, List.not_mem_nil, or_false] at hq
  · subst hq; exact g1
  · rcases hq with rfl | rfl
    · exact g1
    · exact g2
  · subst hq; exact g3
  · subst hq; exact g4
  · rcases hq with rfl | rfl
    · exact g2
    · exact g5
  · rcases hq with rfl | rfl
    · exact g2
    · exact g6
  · rcases hq with rfl | rfl
    · exact g2
    · exact g7
theorem rules_r (k : Kd) : r__law_rules [.d (.str (nm k))] = .ok (.d (.tup ((rl k).map fun q => .str q.s))) [.d (.str (nm k))] := by
  cases k <;> (unfold r__law_rules d__law_rules nm rl; simp [q1, q2, q3, q4, q5, q6, q7])
@[simp] theorem ct_rules (k : Kd) : ctb_RULES.lookup (cN k) = some (.tup ((rl k).map fun q => .str q.s)) := by cases k <;> rfl
/-! the first rule that does not hold -/
def bad (k : Kd) (q : Rq) : Bool := !decide (pl k q.l = pl k q.r)
def bro (k o : Kd) : Option Rq := (rl o).find? (bad k)
def broD : Option Rq → D
  | some q => .str q.s
  | none => .non
theorem sd_len {l : List Int} (h : l.length ≤ 3) : l.length ≤ 1000 := by omega
theorem br_loop (k : Kd) (o0 o1 o3 : Option L) : ∀ qs : List Rq, (∀ q ∈ qs, Gq q) →
    (∀ q, qs.find? (bad k) = some q → ∃ ρ, forGo (gmName 4) b_broken_rule_1 (qs.map fun q => .str q.s) [o0, o1, some (.d (.ins (cN k) [])), o3, none, none, none] = .ok (.rt (.d (.str q.s))) ρ) ∧
    (qs.find? (bad k) = none → forGo (gmName 4) b_broken_rule_1 (qs.map fun q => .str q.s) [o0, o1, some (.d (.ins (cN k) [])), o3, none, none, none] = .ok .nx [o0, o1, some (.d (.ins (cN k) [])), o3, none, none, none])
  | [], _ => ⟨fun q h => by simp at h, fun _ => rfl⟩
  | q :: qs, hg => by
    have G := hg q List.mem_cons_self
    obtain ⟨i1, i2⟩ := br_loop k o0 o1 o3 qs fun x hx => hg x (List.mem_cons_of_mem _ hx)
    have p1 := plain_r k true q.l (sd_len G.nl)
    have p2 := plain_r k true q.r (sd_len G.nr)
    unfold wd at p1 p2
    have ga := G.a
    rw [List.map_cons]
    cases hb : bad k q with
    | true =>
      have hne : ¬ pl k q.l = pl k q.r := by simpa [bad] using hb
      refine ⟨fun x hx => ?_, fun h => by simp [List.find?, hb] at h⟩
      rw [List.find?_cons_of_pos hb] at hx
      cases Option.some.inj hx
      refine ⟨_, forGo_cons_rt (ρ2 := [o0, o1, some (.d (.ins (cN k) [])), o3, some (.d (.str q.s)), some (.d (.tup (q.l.map .int))), some (.d (.tup (q.r.map .int)))]) ?_⟩
      simp [b_broken_rule_1, ga, p1, p2, hne]
    | false =>
      have he : pl k q.l = pl k q.r := by simpa [bad] using hb
      have step : bdE (gmName 4) b_broken_rule_1 (.str q.s) [o0, o1, some (.d (.ins (cN k) [])), o3, none, none, none] = .ok .nx [o0, o1, some (.d (.ins (cN k) [])), o3, none, none, none] := by
        simp [b_broken_rule_1, ga, p1, p2, he]
      rw [forGo_cons step, List.find?_cons_of_neg (by simp [hb])]
      exact ⟨i1, i2⟩
theorem broken_r (k o : Kd) : r_broken_rule [.d (.str (nm k)), .d (.str (nm o))] = .ok (.d (broD (bro k o))) [.d (.str (nm k)), .d (.str (nm o))] := by
  obtain ⟨i1, i2⟩ := br_loop k (some (.d (.str (nm k)))) (some (.d (.str (nm o)))) (some (.d (.ins (cN o) []))) (rl o) (rl_g o)
  unfold bro
  cases e : (rl o).find? (bad k) with
  | none =>
    have h := i2 e
    unfold r_broken_rule d_broken_rule
    simp [named_r, h, broD]
  | some q =>
    obtain ⟨ρ, h⟩ := i1 q e
    unfold r_broken_rule d_broken_rule
    simp [named_r, h, broD]
theorem lb_loop (k : Kd) (o1 : Option L) : ∀ qs : List Rq, (∀ q ∈ qs, Gq q) →
    (∀ q, qs.find? (bad k) = some q → ∃ ρ, forGo (gmName 2) b__law_broken_1 (qs.map fun q => .str q.s) [some (.d (.str (nm k))), o1, none, none, none] = .ok (.rt (.d (.str q.s))) ρ) ∧
    (qs.find? (bad k) = none → forGo (gmName 2) b__law_broken_1 (qs.map fun q => .str q.s) [some (.d (.str (nm k))), o1, none, none, none] = .ok .nx [some (.d (.str (nm k))), o1, none, none, none])
  | [], _ => ⟨fun q h => by simp at h, fun _ => rfl⟩
  | q :: qs, hg => by
    have G := hg q List.mem_cons_self
    obtain ⟨i1, i2⟩ := lb_loop k o1 qs fun x hx => hg x (List.mem_cons_of_mem _ hx)
    have l1 := dedI_len q.l
    have l2 := dedI_len q.r
    have p1 := lplain_r k q.l (sd_len G.nl) (by have := G.nl; omega)
    have p2 := lplain_r k q.r (sd_len G.nr) (by have := G.nr; omega)
    have ga := G.b
    rw [List.map_cons]
    cases hb : bad k q with
    | true =>
      have hne : ¬ pl k q.l = pl k q.r := by simpa [bad] using hb
      refine ⟨fun x hx => ?_, fun h => by simp [List.find?, hb] at h⟩
      rw [List.find?_cons_of_pos hb] at hx
      cases Option.some.inj hx
      refine ⟨_, forGo_cons_rt (ρ2 := [some (.d (.str (nm k))), o1, some (.d (.str q.s)), some (.d (.tup (q.l.map .int))), some (.d (.tup (q.r.map .int)))]) ?_⟩
      simp [b__law_broken_1, ga, p1, p2, hne]
    | false =>
      have he : pl k q.l = pl k q.r := by simpa [bad] using hb
      have step : bdE (gmName 2) b__law_broken_1 (.str q.s) [some (.d (.str (nm k))), o1, none, none, none] = .ok .nx [some (.d (.str (nm k))), o1, none, none, none] := by
        simp [b__law_broken_1, ga, p1, p2, he]
      rw [forGo_cons step, List.find?_cons_of_neg (by simp [hb])]
      exact ⟨i1, i2⟩
theorem lbroken_r (k o : Kd) : r__law_broken [.d (.str (nm k)), .d (.str (nm o))] = .ok (.d (broD (bro k o))) [.d (.str (nm k)), .d (.str (nm o))] := by
  obtain ⟨i1, i2⟩ := lb_loop k (some (.d (.str (nm o)))) (rl o) (rl_g o)
  unfold bro
  cases e : (rl o).find? (bad k) with
  | none =>
    have h := i2 e
    unfold r__law_broken d__law_broken
    simp [rules_r, h, broD]
  | some q =>
    obtain ⟨ρ, h⟩ := i1 q e
    unfold r__law_broken d__law_broken
    simp [rules_r, h, broD]
theorem under_r (k o : Kd) : r_under [.d (.str (nm k)), .d (.str (nm o))] = .ok (.d (.bl (bro k o).isNone)) [.d (.str (nm k)), .d (.str (nm o))] := by
  unfold r_under d_under
  cases e : bro k o <;> simp [broken_r, e, broD]
end Law
set_option Elab.async false
set_option linter.all false
set_option maxRecDepth 100000
set_option maxHeartbeats 4000000
namespace Law
open PySem L2 DL
/-! which kinds are narrower -/
def narP : Kd → Kd → Bool
  | .se, .ba => true
  | .se, .he => true
  | .se, .ta => true
  | .fi, .en => true
  | .fi, .he => true
  | .la, .en => true
  | .la, .ta => true
  | _, _ => false
def nar (k o : Kd) : Bool := decide (k = o) || (decide (o = .ki) || narP k o)
theorem nm_eq (k o : Kd) : eqB (.str (nm k)) (.str (nm o)) = some (decide (k = o)) := by cases k <;> cases o <;> (unfold nm; simp)
theorem nm_list (o : Kd) : eqB (.str (nm o)) (.str "list") = some (decide (o = .ki)) := by cases o <;> (unfold nm; simp)
theorem nar_in (k o : Kd) : inBY (.tup [.str (nm k), .str (nm o)]) (.lst [.tup [.str "set", .str "bag"], .tup [.str "set", .str "heads"], .tup [.str "set", .str "tails"], .tup [.str "first", .str "ends"], .tup [.str "first", .str "heads"], .tup [.str "last", .str "ends"], .tup [.str "last", .str "tails"]]) = some (narP k o) := by
  cases k <;> cases o <;> decide +kernel
theorem narrow_r (k o : Kd) : r__law_narrow [.d (.str (nm k)), .d (.str (nm o))] = .ok (.d (.bl (nar k o))) [.d (.str (nm k)), .d (.str (nm o))] := by
  have h := nar_in k o
  unfold r__law_narrow d__law_narrow nar
  by_cases h1 : k = o
  · simp [nm_eq, h1]
  · by_cases h2 : o = .ki
    · subst h2
      simp [nm_eq, nm_list, h1]
    · simp [nm_eq, nm_list, h1, h2, h]
theorem bro_nar (k o : Kd) : (bro k o).isNone = nar k o := by cases k <;> cases o <;> decide +kernel
theorem bro_bad {k o : Kd} {q : Rq} (h : bro k o = some q) : q ∈ rl o ∧ pl k q.l ≠ pl k q.r := by
  unfold bro at h
  have h2 := List.find?_some h
  exact ⟨List.mem_of_find?_eq_some h, by simpa [bad] using h2⟩
theorem rl_eq (o : Kd) : ∀ q ∈ rl o, pl o q.l = pl o q.r := by
  cases o <;> intro q hq <;> simp only [rl, List.mem_cons, List.not_mem_nil, or_false] at hq
  · subst hq; decide +kernel
  · rcases hq with rfl | rfl <;> decide +kernel
  · subst hq; decide +kernel
  · subst hq; decide +kernel
  · rcases hq with rfl | rfl <;> decide +kernel
  · rcases hq with rfl | rfl <;> decide +kernel
  · rcases hq with rfl | rfl <;> decide +kernel
/-- a narrower kind's plain value of the other one's -/
theorem hd_head {w : List Int} : fi (hd w) = fi w := fi_e (by unfold hd; rw [hG_head]; simp)
theorem tl_last {w : List Int} : la (tl w) = la w := la_e (by unfold tl hd; rw [List.getLast?_reverse, hG_head]; simp)
theorem pl_nar {k o : Kd} (h : nar k o = true) (w : List Int) : pl k (pl o w) = pl k w := by
  by_cases h1 : k = o
  · subst h1; exact pl_id k
  · by_cases h2 : o = .ki
    · subst h2; rfl
    · have h3 : narP k o = true := by simpa [nar, h1, h2] using h
      cases k <;> cases o <;> first | cases h3 | skip
      · exact st_mem fun x => (srtI_perm w).mem_iff
      · exact st_mem fun x => by
          show x ∈ hG [] w ↔ _
          rw [mem_hG]; simp
      · exact st_mem fun x => by
          show x ∈ (hG [] w.reverse).reverse ↔ _
          rw [List.mem_reverse, mem_hG]; simp
      · exact fi_e en_h
      · exact hd_head
      · exact la_e en_l
      · exact tl_last
/-! words for digits -/
def wf (w1 w2 w3 : List Int) (i : Int) : List Int := if i = 1 then w1 else if i = 2 then w2 else w3
def put (w1 w2 w3 ah be : List Int) (l : List Int) : List Int := ah ++ (l.flatMap (wf w1 w2 w3) ++ be)
theorem put_ok (o : Kd) {w1 w2 w3 ah be : List Int} (h1 : w1 ≠ []) (h2 : w2 ≠ []) (h3 : w3 ≠ []) : ∀ q ∈ rl o, pl o (put w1 w2 w3 ah be q.l) = pl o (put w1 w2 w3 ah be q.r) := by
  have f1 : put w1 w2 w3 ah be [1] = ah ++ (w1 ++ be) := by simp [put, wf]
  have f2 : put w1 w2 w3 ah be [2] = ah ++ (w2 ++ be) := by simp [put, wf]
  have f11 : put w1 w2 w3 ah be [1, 1] = ah ++ (w1 ++ (w1 ++ be)) := by simp [put, wf]
  have f12 : put w1 w2 w3 ah be [1, 2] = ah ++ (w1 ++ (w2 ++ be)) := by simp [put, wf]
  have f21 : put w1 w2 w3 ah be [2, 1] = ah ++ (w2 ++ (w1 ++ be)) := by simp [put, wf]
  have f123 : put w1 w2 w3 ah be [1, 2, 3] = ah ++ (w1 ++ (w2 ++ (w3 ++ be))) := by simp [put, wf]
  have f13 : put w1 w2 w3 ah be [1, 3] = ah ++ (w1 ++ (w3 ++ be)) := by simp [put, wf]
  have f121 : put w1 w2 w3 ah be [1, 2, 1] = ah ++ (w1 ++ (w2 ++ (w1 ++ be))) := by simp [put, wf]
  have hd1 : ∀ {w x y : List Int}, w ≠ [] → (w ++ x).head? = (w ++ y).head? := fun {w x y} h => by
    cases w with
    | nil => exact absurd rfl h
    | cons a w => rfl
  have hdA : ∀ {x y : List Int}, x.head? = y.head? → (ah ++ x).head? = (ah ++ y).head? := fun {x y} h => by rw [List.head?_append, List.head?_append, h]
  have lt1 : ∀ {w x y : List Int}, w ≠ [] → (x ++ (w ++ be)).getLast? = (y ++ (w ++ be)).getLast? := fun {w x y} h => by
    have hne : (w ++ be) ≠ [] := by simp [h]
    rw [List.getLast?_append (l := x) (l' := w ++ be), List.getLast?_append (l := y) (l' := w ++ be)]
    cases e : (w ++ be).getLast? with
    | none => exact absurd (List.getLast?_eq_none_iff.mp e) hne
    | some z => rfl
  cases o <;> intro q hq <;> simp only [rl, List.mem_cons, List.not_mem_nil, or_false] at hq
  · subst hq
    show srtI (put w1 w2 w3 ah be [1, 2]) = srtI (put w1 w2 w3 ah be [2, 1])
    rw [f12, f21]
    exact srt_perm (List.Perm.append_left _ (by rw [← List.append_assoc, ← List.append_assoc]; exact List.perm_append_comm.append_right _))
  · rcases hq with rfl | rfl
    · show stS (put w1 w2 w3 ah be [1, 2]) = stS (put w1 w2 w3 ah be [2, 1])
      rw [f12, f21]
      exact st_mem fun x => by simp; grind
    · show stS (put w1 w2 w3 ah be [1, 1]) = stS (put w1 w2 w3 ah be [1])
      rw [f11, f1]
      exact st_mem fun x => by simp
  · subst hq
    show fi (put w1 w2 w3 ah be [1, 2]) = fi (put w1 w2 w3 ah be [1])
    rw [f12, f1]
    exact fi_e (hdA (hd1 h1))
  · subst hq
    show la (put w1 w2 w3 ah be [1, 2]) = la (put w1 w2 w3 ah be [2])
    rw [f12, f2]
    refine la_e ?_
    rw [← List.append_assoc]
    exact lt1 h2
  · rcases hq with rfl | rfl
    · show en (put w1 w2 w3 ah be [1, 1]) = en (put w1 w2 w3 ah be [1])
      rw [f11, f1]
      refine en_e (hdA (hd1 h1)) ?_
      rw [← List.append_assoc]
      exact lt1 h1
    · show en (put w1 w2 w3 ah be [1, 2, 3]) = en (put w1 w2 w3 ah be [1, 3])
      rw [f123, f13]
      refine en_e (hdA (hd1 h1)) ?_
      rw [← List.append_assoc, ← List.append_assoc, ← List.append_assoc ah]
      exact lt1 h3
  · rcases hq with rfl | rfl
    · show hd (put w1 w2 w3 ah be [1, 1]) = hd (put w1 w2 w3 ah be [1])
      rw [f11, f1]
      show hG [] (ah ++ (w1 ++ (w1 ++ be))) = hG [] (ah ++ (w1 ++ be))
      rw [hG_app, hG_app, hG_app, hG_app, hG_app]
      congr 1
      exact hG_sub fun x hx => mem_hG.mpr (.inr hx)
    · show hd (put w1 w2 w3 ah be [1, 2, 1]) = hd (put w1 w2 w3 ah be [1, 2])
      rw [f121, f12]
      show hG [] (ah ++ (w1 ++ (w2 ++ (w1 ++ be)))) = hG [] (ah ++ (w1 ++ (w2 ++ be)))
      rw [hG_app, hG_app, hG_app, hG_app, hG_app, hG_app, hG_app]
      congr 1
      exact hG_sub fun x hx => mem_hG.mpr (.inl (mem_hG.mpr (.inr hx)))
  · rcases hq with rfl | rfl
    · show tl (put w1 w2 w3 ah be [1, 1]) = tl (put w1 w2 w3 ah be [1])
      rw [f11, f1]
      unfold tl hd
      simp only [List.reverse_append, hG_app]
      congr 2
      exact hG_sub fun x hx => mem_hG.mpr (.inr hx)
    · show tl (put w1 w2 w3 ah be [1, 2, 1]) = tl (put w1 w2 w3 ah be [2, 1])
      rw [f121, f21]
      unfold tl hd
      simp only [List.reverse_append, hG_app]
      congr 2
      exact hG_sub fun x hx => mem_hG.mpr (.inl (mem_hG.mpr (.inr hx)))
/-! the law's put -/
def wds (w1 w2 w3 : List Int) : D := .lst [.tup (w1.map .int), .tup (w2.map .int), .tup (w3.map .int)]
theorem ix_w {w1 w2 w3 : List Int} {i : Int} (h : i = 1 ∨ i = 2 ∨ i = 3) : L2.atI [D.tup (w1.map .int), .tup (w2.map .int), .tup (w3.map .int)] (i - 1) = some (.tup ((wf w1 w2 w3 i).map .int)) := by
  rcases h with rfl | rfl | rfl
  · simp [wf]
  · simp [wf]
  · simp [wf]
theorem wf_len {w1 w2 w3 : List Int} (l1 : w1.length ≤ 3) (l2 : w2.length ≤ 3) (l3 : w3.length ≤ 3) (i : Int) : (wf w1 w2 w3 i).length ≤ 3 := by
  unfold wf
  split
  · exact l1
  · split
    · exact l2
    · exact l3
theorem put_go {w1 w2 w3 : List Int} (l1 : w1.length ≤ 3) (l2 : w2.length ≤ 3) (l3 : w3.length ≤ 3) (o0 o2 o3 : Option L) : ∀ (l acc : List Int), Dig l → acc.length + 3 * l.length ≤ 10000 →
    forGo (gmName 5) b__law_put_1 (l.map .int) [o0, some (.d (wds w1 w2 w3)), o2, o3, some (.d (.tup (acc.map .int))), none] = .ok .nx [o0, some (.d (wds w1 w2 w3)), o2, o3, some (.d (.tup ((acc ++ l.flatMap (wf w1 w2 w3)).map .int))), none]
  | [], acc, _, _ => by simp
  | i :: l, acc, hd, hl => by
    have hi := hd i List.mem_cons_self
    have ix := ix_w (w1 := w1) (w2 := w2) (w3 := w3) hi
    have wl := wf_len l1 l2 l3 i
    have hl2 : acc.length + (wf w1 w2 w3 i).length ≤ 100000 := by simp at hl; omega
    rw [List.map_cons, forGo_cons (ρ2 := [o0, some (.d (wds w1 w2 w3)), o2, o3, some (.d (.tup ((acc ++ wf w1 w2 w3 i).map .int))), none]) (by unfold wds; simp [b__law_put_1, ix, hl2])]
    rw [put_go l1 l2 l3 o0 o2 o3 l (acc ++ wf w1 w2 w3 i) (fun x hx => hd x (List.mem_cons_of_mem _ hx)) (by simp at hl ⊢; omega)]
    simp
theorem put_r {w1 w2 w3 ah be : List Int} (l1 : w1.length ≤ 3) (l2 : w2.length ≤ 3) (l3 : w3.length ≤ 3) (la : ah.length ≤ 3) (lb : be.length ≤ 3) {l : List Int} (hd : Dig l) (hl : l.length ≤ 3) :
    r__law_put [.d (.tup (l.map .int)), .d (wds w1 w2 w3), .d (.tup (ah.map .int)), .d (.tup (be.map .int))] = .ok (.d (.tup ((put w1 w2 w3 ah be l).map .int))) [.d (.tup (l.map .int)), .d (wds w1 w2 w3), .d (.tup (ah.map .int)), .d (.tup (be.map .int))] := by
  have e := put_go l1 l2 l3 (some (.d (.tup (l.map .int)))) (some (.d (.tup (ah.map .int)))) (some (.d (.tup (be.map .int)))) l ah hd (by omega)
  have fl : (l.flatMap (wf w1 w2 w3)).length ≤ 9 := by
    have : ∀ l : List Int, (l.flatMap (wf w1 w2 w3)).length ≤ 3 * l.length := by
      intro l
      induction l with
      | nil => simp
      | cons x l ih =>
        have := wf_len l1 l2 l3 x
        rw [List.flatMap_cons, List.length_append, List.length_cons]
        omega
    have := this l
    omega
  rw [List.length_flatMap] at fl
  unfold r__law_put d__law_put
  simp only [List.map_append] at e
  simp [e, put, show ah.length + (l.map fun a => (wf w1 w2 w3 a).length).sum + be.length ≤ 100000 by omega]
end Law
set_option Elab.async false
set_option linter.all false
set_option maxRecDepth 100000
set_option maxHeartbeats 4000000
namespace Law
open PySem L2 DL
/-! a pair of kinds -/
theorem sides_ok (l r : List Int) : r__law_is_sides [.d (.tup [.tup (l.map .int), .tup (r.map .int)]), .d (.tup [.tup (l.map .int), .tup (r.map .int)])] = .ok (.d (.bl true)) [.d (.tup [.tup (l.map .int), .tup (r.map .int)]), .d (.tup [.tup (l.map .int), .tup (r.map .int)])] := by
  unfold r__law_is_sides d__law_is_sides
  simp [isword_r]
theorem put_len {w1 w2 w3 ah be : List Int} (l1 : w1.length ≤ 3) (l2 : w2.length ≤ 3) (l3 : w3.length ≤ 3) (la : ah.length ≤ 3) (lb : be.length ≤ 3) {l : List Int} (hl : l.length ≤ 3) : (put w1 w2 w3 ah be l).length ≤ 1000 := by
  have : ∀ l : List Int, (l.flatMap (wf w1 w2 w3)).length ≤ 3 * l.length := by
    intro l
    induction l with
    | nil => simp
    | cons x l ih =>
      have := wf_len l1 l2 l3 x
      rw [List.flatMap_cons, List.length_append, List.length_cons]
      omega
  have := this l
  unfold put
  rw [List.length_append, List.length_append]
  omega
section
variable {w1 w2 w3 ah be : List Int} (l1 : w1.length ≤ 3) (l2 : w2.length ≤ 3) (l3 : w3.length ≤ 3) (la : ah.length ≤ 3) (lb : be.length ≤ 3) (h1 : w1 ≠ []) (h2 : w2 ≠ []) (h3 : w3 ≠ [])
include l1 l2 l3 la lb h1 h2 h3
theorem pair_go (k o : Kd) (o5 o6 o8 : Option L) : ∀ qs : List Rq, (∀ q ∈ qs, q ∈ rl o) →
    forGo (gmName 9) b__law_pair_1 (qs.map fun q => .str q.s) [some (.d (.str (nm k))), some (.d (.str (nm o))), some (.d (wds w1 w2 w3)), some (.d (.tup (ah.map .int))), some (.d (.tup (be.map .int))), o5, o6, some (.d (.bl (nar k o))), o8, none, none, none, none, none] =
      .ok .nx [some (.d (.str (nm k))), some (.d (.str (nm o))), some (.d (wds w1 w2 w3)), some (.d (.tup (ah.map .int))), some (.d (.tup (be.map .int))), o5, o6, some (.d (.bl (nar k o))), o8, none, none, none, none, none]
  | [], _ => rfl
  | q :: qs, hq => by
    have hm := hq q List.mem_cons_self
    have G := rl_g o q hm
    have ga := G.a
    have gb := G.b
    have p1 := put_r l1 l2 l3 la lb G.dl G.nl
    have p2 := put_r l1 l2 l3 la lb G.dr G.nr
    have n1 := put_len l1 l2 l3 la lb G.nl
    have n2 := put_len l1 l2 l3 la lb G.nr
    have same := put_ok o (ah := ah) (be := be) h1 h2 h3 q hm
    have a1 := alike_r o true true (put w1 w2 w3 ah be q.l) (put w1 w2 w3 ah be q.r) n1 n2
    have a2 := alike_r k true true (put w1 w2 w3 ah be q.l) (put w1 w2 w3 ah be q.r) n1 n2
    have sd := sides_ok q.l q.r
    unfold wd at a1 a2
    have ih := pair_go k o o5 o6 o8 qs fun x hx => hq x (List.mem_cons_of_mem _ hx)
    rw [List.map_cons, forGo_cons]
    · exact ih
    cases hn : nar k o with
    | false => simp [b__law_pair_1, ga, gb, p1, p2, a1, sd, same, hn]
    | true =>
      have same2 : pl k (put w1 w2 w3 ah be q.l) = pl k (put w1 w2 w3 ah be q.r) := by rw [← pl_nar hn, same, pl_nar hn]
      simp [b__law_pair_1, ga, gb, p1, p2, a1, a2, sd, same, same2, hn]
theorem pair_r (k o : Kd) {w : List Int} (hw : w.length ≤ 60) (h6 : (dedI w).length < 64) : r__law_pair [.d (.str (nm k)), .d (.str (nm o)), .d (wds w1 w2 w3), .d (.tup (ah.map .int)), .d (.tup (be.map .int)), .d (.tup (w.map .int))] =
    .ok (.d (.bl true)) [.d (.str (nm k)), .d (.str (nm o)), .d (wds w1 w2 w3), .d (.tup (ah.map .int)), .d (.tup (be.map .int)), .d (.tup (w.map .int))] := by
  have lp := pair_go l1 l2 l3 la lb h1 h2 h3 k o (some (.d (.tup (w.map .int)))) (some (.d (broD (bro k o)))) (some (.d (broD (bro k o)))) (rl o) fun _ h => h
  have pw := pl_len o w
  have e1 := pv_r o true w (by omega)
  have e2 := pv_r k true (pl o w) (by omega)
  have e3 := lplain_r k w (by omega) h6
  have bn := bro_nar k o
  unfold wd at e1 e2
  cases hb : bro k o with
  | none =>
    have hn : nar k o = true := by rw [← bn, hb]; rfl
    rw [hn, hb] at lp
    have e4 := pl_nar hn w
    unfold broD at lp
    unfold r__law_pair d__law_pair
    simp [broken_r, lbroken_r, narrow_r, under_r, flag_r, rules_r, hb, hn, lp, broD, e1, e2, e3, e4, isword_r]
  | some q =>
    have hn : nar k o = false := by rw [← bn, hb]; rfl
    rw [hn, hb] at lp
    obtain ⟨hm, hne⟩ := bro_bad hb
    have G := rl_g o q hm
    have ga := G.a
    have he := rl_eq o q hm
    have a1 := alike_r o true true q.l q.r (sd_len G.nl) (sd_len G.nr)
    have a2 := alike_r k true true q.l q.r (sd_len G.nl) (sd_len G.nr)
    have es : eqB (.str q.s) (.str q.s) = some true := by rw [eqB_ss G.g G.g]; simp
    unfold wd at a1 a2
    unfold broD at lp
    unfold r__law_pair d__law_pair
    simp [broken_r, lbroken_r, narrow_r, under_r, flag_r, rules_r, hb, hn, lp, broD, ga, a1, a2, he, hne, es]
end
end Law
set_option Elab.async false
set_option linter.all false
set_option maxRecDepth 100000
set_option maxHeartbeats 4000000
namespace Law
open PySem L2 DL
/-! names, classes -/
theorem rg_0 : strG "12=21" = true := by decide +kernel
theorem rg_1 : strG "11=1" = true := by decide +kernel
theorem rg_2 : strG "12=1" = true := by decide +kernel
theorem rg_3 : strG "12=2" = true := by decide +kernel
theorem rg_4 : strG "123=13" = true := by decide +kernel
theorem rg_5 : strG "121=12" = true := by decide +kernel
theorem rg_6 : strG "121=21" = true := by decide +kernel
@[simp] theorem in_0_0 : inB (.str "list") (.lst [.str "list", .str "bag"]) = some true := by unfold inB seqD; decide +kernel
@[simp] theorem in_0_1 : inB (.str "bag") (.lst [.str "list", .str "bag"]) = some true := by unfold inB seqD; decide +kernel
@[simp] theorem in_0_2 : inB (.str "set") (.lst [.str "list", .str "bag"]) = some false := by unfold inB seqD; decide +kernel
@[simp] theorem in_0_3 : inB (.str "first") (.lst [.str "list", .str "bag"]) = some false := by unfold inB seqD; decide +kernel
@[simp] theorem in_0_4 : inB (.str "last") (.lst [.str "list", .str "bag"]) = some false := by unfold inB seqD; decide +kernel
@[simp] theorem in_0_5 : inB (.str "ends") (.lst [.str "list", .str "bag"]) = some false := by unfold inB seqD; decide +kernel
@[simp] theorem in_0_6 : inB (.str "heads") (.lst [.str "list", .str "bag"]) = some false := by unfold inB seqD; decide +kernel
@[simp] theorem in_0_7 : inB (.str "tails") (.lst [.str "list", .str "bag"]) = some false := by unfold inB seqD; decide +kernel
@[simp] theorem in_1_0 : inB (.str "list") (.lst [.str "bag", .str "set"]) = some false := by unfold inB seqD; decide +kernel
@[simp] theorem in_1_1 : inB (.str "bag") (.lst [.str "bag", .str "set"]) = some true := by unfold inB seqD; decide +kernel
@[simp] theorem in_1_2 : inB (.str "set") (.lst [.str "bag", .str "set"]) = some true := by unfold inB seqD; decide +kernel
@[simp] theorem in_1_3 : inB (.str "first") (.lst [.str "bag", .str "set"]) = some false := by unfold inB seqD; decide +kernel
@[simp] theorem in_1_4 : inB (.str "last") (.lst [.str "bag", .str "set"]) = some false := by unfold inB seqD; decide +kernel
@[simp] theorem in_1_5 : inB (.str "ends") (.lst [.str "bag", .str "set"]) = some false := by unfold inB seqD; decide +kernel
@[simp] theorem in_1_6 : inB (.str "heads") (.lst [.str "bag", .str "set"]) = some false := by unfold inB seqD; decide +kernel
@[simp] theorem in_1_7 : inB (.str "tails") (.lst [.str "bag", .str "set"]) = some false := by unfold inB seqD; decide +kernel
@[simp] theorem in_2_0 : inB (.str "list") (.lst [.str "heads", .str "first"]) = some false := by unfold inB seqD; decide +kernel
@[simp] theorem in_2_1 : inB (.str "bag") (.lst [.str "heads", .str "first"]) = some false := by unfold inB seqD; decide +kernel
@[simp] theorem in_2_2 : inB (.str "set") (.lst [.str "heads", .str "first"]) = some false := by unfold inB seqD; decide +kernel
@[simp] theorem in_2_3 : inB (.str "first") (.lst [.str "heads", .str "first"]) = some true := by unfold inB seqD; decide +kernel
@[simp] theorem in_2_4 : inB (.str "last") (.lst [.str "heads", .str "first"]) = some false := by unfold inB seqD; decide +kernel
@[simp] theorem in_2_5 : inB (.str "ends") (.lst [.str "heads", .str "first"]) = some false := by unfold inB seqD; decide +kernel
@[simp] theorem in_2_6 : inB (.str "heads") (.lst [.str "heads", .str "first"]) = some true := by unfold inB seqD; decide +kernel
@[simp] theorem in_2_7 : inB (.str "tails") (.lst [.str "heads", .str "first"]) = some false := by unfold inB seqD; decide +kernel
@[simp] theorem in_3_0 : inB (.str "list") (.lst [.str "tails", .str "last"]) = some false := by unfold inB seqD; decide +kernel
@[simp] theorem in_3_1 : inB (.str "bag") (.lst [.str "tails", .str "last"]) = some false := by unfold inB seqD; decide +kernel
@[simp] theorem in_3_2 : inB (.str "set") (.lst [.str "tails", .str "last"]) = some false := by unfold inB seqD; decide +kernel
@[simp] theorem in_3_3 : inB (.str "first") (.lst [.str "tails", .str "last"]) = some false := by unfold inB seqD; decide +kernel
@[simp] theorem in_3_4 : inB (.str "last") (.lst [.str "tails", .str "last"]) = some true := by unfold inB seqD; decide +kernel
@[simp] theorem in_3_5 : inB (.str "ends") (.lst [.str "tails", .str "last"]) = some false := by unfold inB seqD; decide +kernel
@[simp] theorem in_3_6 : inB (.str "heads") (.lst [.str "tails", .str "last"]) = some false := by unfold inB seqD; decide +kernel
@[simp] theorem in_3_7 : inB (.str "tails") (.lst [.str "tails", .str "last"]) = some true := by unfold inB seqD; decide +kernel
@[simp] theorem in_4_0 : inB (.str "list") (.lst [.str "first", .str "last", .str "ends"]) = some false := by unfold inB seqD; decide +kernel
@[simp] theorem in_4_1 : inB (.str "bag") (.lst [.str "first", .str "last", .str "ends"]) = some false := by unfold inB seqD; decide +kernel
@[simp] theorem in_4_2 : inB (.str "set") (.lst [.str "first", .str "last", .str "ends"]) = some false := by unfold inB seqD; decide +kernel
@[simp] theorem in_4_3 : inB (.str "first") (.lst [.str "first", .str "last", .str "ends"]) = some true := by unfold inB seqD; decide +kernel
@[simp] theorem in_4_4 : inB (.str "last") (.lst [.str "first", .str "last", .str "ends"]) = some true := by unfold inB seqD; decide +kernel
@[simp] theorem in_4_5 : inB (.str "ends") (.lst [.str "first", .str "last", .str "ends"]) = some true := by unfold inB seqD; decide +kernel
@[simp] theorem in_4_6 : inB (.str "heads") (.lst [.str "first", .str "last", .str "ends"]) = some false := by unfold inB seqD; decide +kernel
@[simp] theorem in_4_7 : inB (.str "tails") (.lst [.str "first", .str "last", .str "ends"]) = some false := by unfold inB seqD; decide +kernel
@[simp] theorem it_Kind_ki : itb_Kind.lookup (cN .ki) = some true := by rfl
@[simp] theorem it_Kind_ba : itb_Kind.lookup (cN .ba) = some true := by rfl
@[simp] theorem it_Kind_se : itb_Kind.lookup (cN .se) = some true := by rfl
@[simp] theorem it_Kind_fi : itb_Kind.lookup (cN .fi) = some true := by rfl
@[simp] theorem it_Kind_la : itb_Kind.lookup (cN .la) = some true := by rfl
@[simp] theorem it_Kind_en : itb_Kind.lookup (cN .en) = some true := by rfl
@[simp] theorem it_Kind_he : itb_Kind.lookup (cN .he) = some true := by rfl
@[simp] theorem it_Kind_ta : itb_Kind.lookup (cN .ta) = some true := by rfl
@[simp] theorem it_BagKind_ki : itb_BagKind.lookup (cN .ki) = some false := by rfl
@[simp] theorem it_BagKind_ba : itb_BagKind.lookup (cN .ba) = some true := by rfl
@[simp] theorem it_BagKind_se : itb_BagKind.lookup (cN .se) = some true := by rfl
@[simp] theorem it_BagKind_fi : itb_BagKind.lookup (cN .fi) = some false := by rfl
@[simp] theorem it_BagKind_la : itb_BagKind.lookup (cN .la) = some false := by rfl
@[simp] theorem it_BagKind_en : itb_BagKind.lookup (cN .en) = some false := by rfl
@[simp] theorem it_BagKind_he : itb_BagKind.lookup (cN .he) = some false := by rfl
@[simp] theorem it_BagKind_ta : itb_BagKind.lookup (cN .ta) = some false := by rfl
@[simp] theorem it_SetKind_ki : itb_SetKind.lookup (cN .ki) = some false := by rfl
@[simp] theorem it_SetKind_ba : itb_SetKind.lookup (cN .ba) = some false := by rfl
@[simp] theorem it_SetKind_se : itb_SetKind.lookup (cN .se) = some true := by rfl
@[simp] theorem it_SetKind_fi : itb_SetKind.lookup (cN .fi) = some false := by rfl
@[simp] theorem it_SetKind_la : itb_SetKind.lookup (cN .la) = some false := by rfl
@[simp] theorem it_SetKind_en : itb_SetKind.lookup (cN .en) = some false := by rfl
@[simp] theorem it_SetKind_he : itb_SetKind.lookup (cN .he) = some false := by rfl
@[simp] theorem it_SetKind_ta : itb_SetKind.lookup (cN .ta) = some false := by rfl
@[simp] theorem it_FirstKind_ki : itb_FirstKind.lookup (cN .ki) = some false := by rfl
@[simp] theorem it_FirstKind_ba : itb_FirstKind.lookup (cN .ba) = some false := by rfl
@[simp] theorem it_FirstKind_se : itb_FirstKind.lookup (cN .se) = some false := by rfl
@[simp] theorem it_FirstKind_fi : itb_FirstKind.lookup (cN .fi) = some true := by rfl
@[simp] theorem it_FirstKind_la : itb_FirstKind.lookup (cN .la) = some false := by rfl
@[simp] theorem it_FirstKind_en : itb_FirstKind.lookup (cN .en) = some false := by rfl
@[simp] theorem it_FirstKind_he : itb_FirstKind.lookup (cN .he) = some false := by rfl
@[simp] theorem it_FirstKind_ta : itb_FirstKind.lookup (cN .ta) = some false := by rfl
@[simp] theorem it_LastKind_ki : itb_LastKind.lookup (cN .ki) = some false := by rfl
@[simp] theorem it_LastKind_ba : itb_LastKind.lookup (cN .ba) = some false := by rfl
@[simp] theorem it_LastKind_se : itb_LastKind.lookup (cN .se) = some false := by rfl
@[simp] theorem it_LastKind_fi : itb_LastKind.lookup (cN .fi) = some false := by rfl
@[simp] theorem it_LastKind_la : itb_LastKind.lookup (cN .la) = some true := by rfl
@[simp] theorem it_LastKind_en : itb_LastKind.lookup (cN .en) = some false := by rfl
@[simp] theorem it_LastKind_he : itb_LastKind.lookup (cN .he) = some false := by rfl
@[simp] theorem it_LastKind_ta : itb_LastKind.lookup (cN .ta) = some false := by rfl
@[simp] theorem it_EndsKind_ki : itb_EndsKind.lookup (cN .ki) = some false := by rfl
@[simp] theorem it_EndsKind_ba : itb_EndsKind.lookup (cN .ba) = some false := by rfl
@[simp] theorem it_EndsKind_se : itb_EndsKind.lookup (cN .se) = some false := by rfl
@[simp] theorem it_EndsKind_fi : itb_EndsKind.lookup (cN .fi) = some false := by rfl
@[simp] theorem it_EndsKind_la : itb_EndsKind.lookup (cN .la) = some false := by rfl
@[simp] theorem it_EndsKind_en : itb_EndsKind.lookup (cN .en) = some true := by rfl
@[simp] theorem it_EndsKind_he : itb_EndsKind.lookup (cN .he) = some false := by rfl
@[simp] theorem it_EndsKind_ta : itb_EndsKind.lookup (cN .ta) = some false := by rfl
@[simp] theorem it_HeadsKind_ki : itb_HeadsKind.lookup (cN .ki) = some false := by rfl
@[simp] theorem it_HeadsKind_ba : itb_HeadsKind.lookup (cN .ba) = some false := by rfl
@[simp] theorem it_HeadsKind_se : itb_HeadsKind.lookup (cN .se) = some false := by rfl
@[simp] theorem it_HeadsKind_fi : itb_HeadsKind.lookup (cN .fi) = some true := by rfl
@[simp] theorem it_HeadsKind_la : itb_HeadsKind.lookup (cN .la) = some false := by rfl
@[simp] theorem it_HeadsKind_en : itb_HeadsKind.lookup (cN .en) = some false := by rfl
@[simp] theorem it_HeadsKind_he : itb_HeadsKind.lookup (cN .he) = some true := by rfl
@[simp] theorem it_HeadsKind_ta : itb_HeadsKind.lookup (cN .ta) = some false := by rfl
@[simp] theorem it_TailsKind_ki : itb_TailsKind.lookup (cN .ki) = some false := by rfl
@[simp] theorem it_TailsKind_ba : itb_TailsKind.lookup (cN .ba) = some false := by rfl
@[simp] theorem it_TailsKind_se : itb_TailsKind.lookup (cN .se) = some false := by rfl
@[simp] theorem it_TailsKind_fi : itb_TailsKind.lookup (cN .fi) = some false := by rfl
@[simp] theorem it_TailsKind_la : itb_TailsKind.lookup (cN .la) = some true := by rfl
@[simp] theorem it_TailsKind_en : itb_TailsKind.lookup (cN .en) = some false := by rfl
@[simp] theorem it_TailsKind_he : itb_TailsKind.lookup (cN .he) = some false := by rfl
@[simp] theorem it_TailsKind_ta : itb_TailsKind.lookup (cN .ta) = some true := by rfl
def idem : Kd → Bool
  | .ki => false
  | .ba => false
  | .se => true
  | .fi => true
  | .la => true
  | .en => true
  | .he => true
  | .ta => true
def ordl : Kd → Bool
  | .ki => false
  | .ba => true
  | .se => true
  | .fi => false
  | .la => false
  | .en => false
  | .he => false
  | .ta => false
def outr : Kd → Bool
  | .ki => false
  | .ba => false
  | .se => false
  | .fi => true
  | .la => true
  | .en => true
  | .he => false
  | .ta => false
@[simp] theorem ct_idem (k : Kd) : ctb_IDEMPOTENT.lookup (cN k) = some (.bl (idem k)) := by cases k <;> rfl
@[simp] theorem ct_ordl (k : Kd) : ctb_ORDERLESS.lookup (cN k) = some (.bl (ordl k)) := by cases k <;> rfl
@[simp] theorem ct_outr (k : Kd) : ctb_OUTER.lookup (cN k) = some (.bl (outr k)) := by cases k <;> rfl
@[simp] theorem ct_name (k : Kd) : ctb_NAME.lookup (cN k) = some (.str (nm k)) := by cases k <;> rfl
theorem made_r (k : Kd) : r__law_made [.d (.str (nm k))] = .ok (.d (.ins (cN k) [])) [.d (.str (nm k))] := by
  cases k <;> (unfold r__law_made d__law_made nm cN; simp)
theorem class_r (k : Kd) : r__law_class [.d (.str (nm k))] = .ok (.m (.lst [.str (nm k), .tup ((rl k).map fun q => .str q.s), .bl (idem k), .bl (ordl k), .bl (outr k)])) [.d (.str (nm k))] := by
  cases k <;> (unfold r__law_class d__law_class nm rl idem ordl outr; simp [q1, q2, q3, q4, q5, q6, q7])
theorem family_r (k : Kd) : r__law_family [.d (.str (nm k)), .d (.ins (cN k) [])] = .ok (.d (.bl true)) [.d (.str (nm k)), .d (.ins (cN k) [])] := by
  cases k <;> (unfold r__law_family d__law_family nm; simp)
theorem idem_two (k : Kd) {u : List Int} (h : u ≠ []) : decide (pl k (u ++ u) = pl k u) = idem k := by
  rw [pl_two]
  cases k <;> simp [idem, h]
theorem ordl_two (k : Kd) (h : ordl k = true) (u v : List Int) : pl k (u ++ v) = pl k (v ++ u) := by
  cases k <;> first | cases h | skip
  · exact srt_perm List.perm_append_comm
  · exact st_mem fun x => by simp [or_comm]
theorem names_r (k : Kd) {u v : List Int} (hu : u ≠ []) (lu : u.length ≤ 60) (lv : v.length ≤ 60) (h6 : (dedI u).length < 64) (h7 : (dedI (v ++ u)).length < 64) : r__law_names [.d (.str (nm k)), .d (.tup (u.map .int)), .d (.tup (v.map .int))] = .ok (.d (.bl true)) [.d (.str (nm k)), .d (.tup (u.map .int)), .d (.tup (v.map .int))] := by
  have e1 := plain_r k true u (by omega)
  have e2 := lplain_r k u (by omega) h6
  have e3 := merged_r k true false v u (by omega)
  have e4 := lplain_r k (v ++ u) (by rw [List.length_append]; omega) h7
  have a1 := alike_r k true true (u ++ u) u (by rw [List.length_append]; omega) (by omega)
  have a2 := alike_r k true true (u ++ v) (v ++ u) (by rw [List.length_append]; omega) (by rw [List.length_append]; omega)
  rw [idem_two k hu] at a1
  have od := ordl_two k
  have fm := family_r k
  have nr := named_r k
  have mr := made_r k
  have cr := class_r k
  have rr := rules_r k
  unfold wd at e1 e3 a1 a2
  simp only [List.map_append] at e4 a1 a2
  cases k
  all_goals
    simp only [nm] at e1 e2 e3 e4 a1 a2 fm nr mr cr rr
    unfold r__law_names d__law_names nm
    first
      | simp [e1, e2, e3, e4, a1, a2, fm, nr, mr, cr, rr, isword_r, rl, q1, q2, q3, q4, q5, q6, q7, idem, ordl, outr, nm, sg_0, sg_1, sg_2, sg_3, sg_4, sg_5, sg_6, sg_7, rg_0, rg_1, rg_2, rg_3, rg_4, rg_5, rg_6, show u.length + v.length ≤ 100000 by omega, show v.length + u.length ≤ 100000 by omega, show u.length + u.length ≤ 100000 by omega, b__law_names_1, forGo_c, fgC, od rfl u v]
      | simp [e1, e2, e3, e4, a1, a2, fm, nr, mr, cr, rr, isword_r, rl, q1, q2, q3, q4, q5, q6, q7, idem, ordl, outr, nm, sg_0, sg_1, sg_2, sg_3, sg_4, sg_5, sg_6, sg_7, rg_0, rg_1, rg_2, rg_3, rg_4, rg_5, rg_6, show u.length + v.length ≤ 100000 by omega, show v.length + u.length ≤ 100000 by omega, show u.length + u.length ≤ 100000 by omega, b__law_names_1, forGo_c, fgC]
end Law
set_option Elab.async false
set_option linter.all false
set_option maxRecDepth 100000
set_option maxHeartbeats 4000000
namespace Law
open PySem L2 DL
/-! the first letter that stands before -/
def rep : List Int → List Int → Option Int
  | _, [] => none
  | acc, x :: xs => if x ∈ acc then some x else rep (acc ++ [x]) xs
def repD : Option Int → D
  | some x => .int x
  | none => .non
theorem getQ_kv {ks : List Int} {x : Int} : (getQ (kv ks) (.inl x)).isSome = decide (x ∈ ks) := by
  unfold getQ kv
  rw [Option.isSome_map]
  induction ks with
  | nil => rfl
  | cons k ks ih =>
    rw [List.map_cons, List.find?_cons]
    by_cases h : k = x
    · subst h
      simp
    · have h1 : ¬ (Sum.inl k : Key) = Sum.inl x := fun z => h (Sum.inl.inj z)
      have h2 : x ≠ k := fun z => h z.symm
      simp only [decide_eq_false h1]
      rw [ih]
      simp [h2]
theorem rep_go (o0 : Option L) : ∀ (ns acc : List Int), acc.length + ns.length ≤ 100000 →
    (∀ x, rep acc ns = some x → ∃ ρ, forGo (gmName 2) b_repeated_letter_1 (ns.map .int) [o0, some (.m (.dct (kv acc))), none] = .ok (.rt (.d (.int x))) ρ) ∧
    (rep acc ns = none → ∃ ks, forGo (gmName 2) b_repeated_letter_1 (ns.map .int) [o0, some (.m (.dct (kv acc))), none] = .ok .nx [o0, some (.m (.dct (kv ks))), none])
  | [], acc, _ => ⟨fun x h => by simp [rep] at h, fun _ => ⟨acc, rfl⟩⟩
  | n :: ns, acc, h => by
    have hg := getQ_kv (ks := acc) (x := n)
    by_cases hm : n ∈ acc
    · refine ⟨fun x hx => ?_, fun hx => by simp [rep, hm] at hx⟩
      have e : n = x := by simpa [rep, hm] using hx
      subst e
      refine ⟨[o0, some (.m (.dct (kv acc))), some (.d (.int n))], ?_⟩
      rw [List.map_cons]
      refine forGo_cons_rt (ρ2 := [o0, some (.m (.dct (kv acc))), some (.d (.int n))]) ?_
      simp [b_repeated_letter_1, hg, hm]
    · have hl : (kv acc).length ≤ 100000 := by rw [kv_len]; simp at h; omega
      have ad : addK acc n = acc ++ [n] := by unfold addK; rw [if_neg hm]
      have ih := rep_go o0 ns (acc ++ [n]) (by simp at h ⊢; omega)
      have er : rep acc (n :: ns) = rep (acc ++ [n]) ns := by rw [rep, if_neg hm]
      rw [er, List.map_cons, forGo_cons (ρ2 := [o0, some (.m (.dct (kv (acc ++ [n])))), none]) (by simp [b_repeated_letter_1, hg, hm, hl, putQ_kv, ad])]
      exact ih
theorem rep_r (b : Bool) (w : List Int) (hl : w.length ≤ 1000) : r_repeated_letter [.d (wd b w)] = .ok (.d (repD (rep [] w))) [.d (wd b w)] := by
  obtain ⟨i1, i2⟩ := rep_go (some (.d (wd b w))) w [] (by simp; omega)
  rw [show kv [] = [] from rfl] at i1 i2
  have sq : ∀ ρ : DL.Env, mSeq (eC (wd b w)) ρ = .ok (w.map .int) ρ := fun ρ => by cases b <;> simp [wd]
  cases e : rep [] w with
  | none =>
    obtain ⟨ks, h⟩ := i2 e
    unfold r_repeated_letter d_repeated_letter
    cases b <;> (unfold wd at h ⊢; simp [h, repD])
  | some x =>
    obtain ⟨ρ, h⟩ := i1 x e
    unfold r_repeated_letter d_repeated_letter
    cases b <;> (unfold wd at h ⊢; simp [h, repD])
theorem inB_ints {x : Int} {ns : List Int} : inB (.int x) (.tup (ns.map .int)) = some (decide (x ∈ ns)) := by
  have e1 : (ns.map D.int).all flatD = true := List.all_eq_true.mpr fun d hd => by
    obtain ⟨i, _, rfl⟩ := List.mem_map.mp hd
    rfl
  have e2 : ((ns.map D.int).any fun d => eqF d (.int x)) = decide (x ∈ ns) := by
    rw [List.any_map]
    induction ns with
    | nil => rfl
    | cons n ns ih =>
      rw [List.any_cons, ih (by
        rw [List.map_cons, List.all_cons, Bool.and_eq_true] at e1
        exact e1.2)]
      have e3 : ((fun d => eqF d (.int x)) ∘ D.int) n = decide (x = n) := by
        show (n == x) = _
        by_cases h : x = n
        · simp [h]
        · have h' : n ≠ x := fun z => h z.symm
          simp [h, h']
      rw [e3]
      by_cases h : x = n <;> by_cases h2 : x ∈ ns <;> simp [h, h2]
  unfold inB seqD
  simp only
  rw [if_pos ⟨rfl, e1⟩, e2]
theorem lrep_go (w : List Int) : ∀ (ns acc : List Int), w = acc ++ ns →
    (∀ x, rep acc ns = some x → ∃ ρ, forGo (gmName 1) b__law_repeated_1 ((List.range' acc.length ns.length).map fun (p : Nat) => D.int (p : Int)) [some (.d (.tup (w.map .int))), none] = .ok (.rt (.d (.int x))) ρ) ∧
    (rep acc ns = none → forGo (gmName 1) b__law_repeated_1 ((List.range' acc.length ns.length).map fun (p : Nat) => D.int (p : Int)) [some (.d (.tup (w.map .int))), none] = .ok .nx [some (.d (.tup (w.map .int))), none])
  | [], acc, _ => ⟨fun x h => by simp [rep] at h, fun _ => rfl⟩
  | n :: ns, acc, hw => by
    have ix : L2.atI (w.map D.int) (acc.length : Int) = some (.int n) := atI_n (by rw [hw]; simp)
    have tk : w.take acc.length = acc := by rw [hw]; simp
    have a3 : inB (.int n) (.tup (List.take acc.length (w.map D.int))) = some (decide (n ∈ acc)) := by rw [← List.map_take, tk]; exact inB_ints
    have ih := lrep_go w ns (acc ++ [n]) (by rw [hw]; simp)
    rw [List.length_append] at ih
    rw [List.length_cons, List.range'_succ, List.map_cons]
    by_cases hm : n ∈ acc
    · refine ⟨fun x hx => ?_, fun hx => by simp [rep, hm] at hx⟩
      have e : n = x := by simpa [rep, hm] using hx
      subst e
      refine ⟨_, forGo_cons_rt (ρ2 := [some (.d (.tup (w.map .int))), some (.d (.int (acc.length : Nat)))]) ?_⟩
      simp [b__law_repeated_1, ix, cut_n, a3, hm]
    · have er : rep acc (n :: ns) = rep (acc ++ [n]) ns := by rw [rep, if_neg hm]
      rw [er, forGo_cons (ρ2 := [some (.d (.tup (w.map .int))), none]) (by simp [b__law_repeated_1, ix, cut_n, a3, hm])]
      exact ih
theorem lrep_r (w : List Int) (hl : w.length ≤ 1000) : r__law_repeated [.d (.tup (w.map .int))] = .ok (.d (repD (rep [] w))) [.d (.tup (w.map .int))] := by
  obtain ⟨i1, i2⟩ := lrep_go w w [] rfl
  have er : rangeD 0 w.length = (List.range' 0 w.length).map fun (p : Nat) => D.int (p : Int) := by
    unfold rangeD
    rw [List.range_eq_range']
    refine List.map_congr_left fun i _ => ?_
    simp
  simp only [List.length_nil] at i1 i2
  rw [← er] at i1 i2
  cases e : rep [] w with
  | none =>
    have h := i2 e
    unfold r__law_repeated d__law_repeated
    simp [h, repD]
  | some x =>
    obtain ⟨ρ, h⟩ := i1 x e
    unfold r__law_repeated d__law_repeated
    simp [h, repD]
/-! what is no kind's name -/
inductive Odd : D → Prop
  | a : Odd (.str "Heads")
  | b : Odd (.str "")
  | c : Odd .non
  | d : Odd (.int 3)
  | e : Odd (.tup [.str "set"])
  | f : Odd (.str "first ")
  | g : Odd (.lst [.str "set"])
theorem odd_ne {x : D} (h : Odd x) : eqB x (.str "list") = some false ∧ eqB x (.str "bag") = some false ∧ eqB x (.str "set") = some false ∧ eqB x (.str "first") = some false ∧ eqB x (.str "last") = some false ∧ eqB x (.str "ends") = some false ∧ eqB x (.str "heads") = some false ∧ eqB x (.str "tails") = some false := by
  cases h <;> simp
theorem odd_eq {x : D} (h : Odd x) : eqB (.lst [x, .bl true, .bl true, .bl false]) (.lst [x, .bl true, .bl true, .bl false]) = some true := by
  cases h
  · rw [eqB_ll (by simp [sg_8]) (by simp [sg_8])]; simp
  · rw [eqB_ll (by simp [sg_9]) (by simp [sg_9])]; simp
  · rw [eqB_ll (by simp) (by simp)]; simp
  · rw [eqB_ll (by simp) (by simp)]; simp
  · rw [eqB_ll (by simp [sg_2]) (by simp [sg_2])]; simp
  · rw [eqB_ll (by simp [sg_10]) (by simp [sg_10])]; simp
  · rw [eqB_ll (by simp [sg_2]) (by simp [sg_2])]; simp
theorem named_x {x : D} (h : Odd x) : r_kind_named [.d x] = .ex ⟨"BadKind", some [("name", x)]⟩ [.d x] := by
  obtain ⟨h1, h2, h3, h4, h5, h6, h7, h8⟩ := odd_ne h
  unfold r_kind_named d_kind_named
  simp [h1, h2, h3, h4, h5, h6, h7, h8]
theorem broken_x {x o : D} (h : Odd x) : r_broken_rule [.d x, .d o] = .ex ⟨"BadKind", some [("name", x)]⟩ [.d x, .d o] := by
  unfold r_broken_rule d_broken_rule
  simp [named_x h]
theorem broken_y (k : Kd) {x : D} (h : Odd x) : r_broken_rule [.d (.str (nm k)), .d x] = .ex ⟨"BadKind", some [("name", x)]⟩ [.d (.str (nm k)), .d x] := by
  unfold r_broken_rule d_broken_rule
  simp [named_x h, named_r]
theorem under_x {x o : D} (h : Odd x) : r_under [.d x, .d o] = .ex ⟨"BadKind", some [("name", x)]⟩ [.d x, .d o] := by
  unfold r_under d_under
  simp [broken_x h]
theorem under_y (k : Kd) {x : D} (h : Odd x) : r_under [.d (.str (nm k)), .d x] = .ex ⟨"BadKind", some [("name", x)]⟩ [.d (.str (nm k)), .d x] := by
  unfold r_under d_under
  simp [broken_y k h]
theorem odd_r (k : Kd) {x : D} (p : Nat) (hp : p < 4) (h : Odd x) : r__law_odd [.d (.int p), .d x, .d (.str (nm k))] = .ok (.d (.bl true)) [.d (.int p), .d x, .d (.str (nm k))] := by
  have e := odd_eq h
  have hc : p = 0 ∨ p = 1 ∨ p = 2 ∨ p = 3 := by omega
  unfold r__law_odd d__law_odd
  rcases hc with rfl | rfl | rfl | rfl
  · simp [broken_x h, e, -eqB_ll]
  · simp [broken_y k h, e, -eqB_ll]
  · simp [under_x h, e, -eqB_ll]
  · simp [under_y k h, e, -eqB_ll]
end Law
set_option Elab.async false
set_option linter.all false
set_option maxRecDepth 100000
set_option maxHeartbeats 4000000
namespace Law
open PySem L2 DL
/-! draws -/
theorem word_d (s : List Int) (n : Nat) (hn : n ≤ 48) (ls : List Int) (hl : 0 < ls.length) : ∃ (w s' : List Int), (∀ x ∈ w, x ∈ ls) ∧ w.length = n ∧
    r__law_word [.r (.lst (s.map .int)), .d (.int n), .d (.lst (ls.map .int))] = .ok (.d (.tup (w.map .int))) [.r (.lst (s'.map .int)), .d (.int n), .d (.lst (ls.map .int))] := by
  obtain ⟨w, s', e, h1, h2⟩ := lc_ex (gm := gmName 3) (me := eOp ixD (eVar 2) (eCall 2 r__law_draw (aCons (eVar 0) (aCons (eCB lenD (aCons (eVar 2) aNil)) aNil)))) (js := [3]) (im := mRng1 (aCons (eVar 1) aNil))
    (ρ := [some (.r (.lst (s.map .int))), some (.d (.int n)), some (.d (.lst (ls.map .int))), none]) (xs := List.range n) (s := s) (fun (i : Nat) => D.int (0 + (i : Int))) (fun s => [some (.r (.lst (s.map .int))), some (.d (.int n)), some (.d (.lst (ls.map .int))), none]) D.int (fun x => x ∈ ls)
    (by simp [rangeD]) (by simp) (le_mx (by simp; omega)) (fun i _ s1 => by
      obtain ⟨k, s2, hk, e1⟩ := dr s1 ls.length hl
      have ix : L2.atI (ls.map D.int) (k : Int) = some (.int ls[k]) := atI_n (by simp [hk])
      exact ⟨ls[k], s2, List.getElem_mem hk, by simp [e1, ix]⟩)
  refine ⟨w, s', h2, by simpa using h1, ?_⟩
  unfold r__law_word d__law_word
  simp [e]
theorem letters_d (s : List Int) (n : Nat) (hn : n ≤ 6) : ∃ (ls s' : List Int), ls.length = n ∧
    r__law_letters [.r (.lst (s.map .int)), .d (.int n)] = .ok (.m (.lst (ls.map .int))) [.r (.lst (s'.map .int)), .d (.int n)] := by
  obtain ⟨f, s1, hf, e1⟩ := dr s 4 (by decide)
  simp at e1
  obtain ⟨⟨s', ls, z⟩, e, h1⟩ := fo_rg0 (n := n) (gm := gmName 5) (b := b__law_letters_1) (S := List Int × List Int × Int) (s := (s1, [], 0)) (fun p => [some (.r (.lst (p.1.map .int))), some (.d (.int n)), some (.m (.lst (p.2.1.map .int))), some (.d (.int p.2.2)), some (.d (.int f)), none])
    (fun i p => p.2.1.length = i) rfl (by
      rintro i ⟨s', ls, z⟩ hi h1
      have h1 : ls.length = i := h1
      obtain ⟨a, s2, ha, e2⟩ := dr s' 30 (by decide)
      obtain ⟨c, s3, hc, e3⟩ := dr s' 1000 (by decide)
      simp at e2 e3
      have m1 : mulOk (c : Int) 100000000000000000000000000000000000000000000000000 := .inl (by omega)
      by_cases h2 : f = 2
      · subst h2
        exact ⟨(s2, ls ++ [z + a], z + a + 1), by simp [b__law_letters_1, e2, show ls.length ≤ 100000 by omega], by simp [h1]⟩
      · have h2' : ¬ (f : Int) = 2 := by omega
        by_cases h3 : f = 3
        · subst h3
          exact ⟨(s3, ls ++ [z + c * 100000000000000000000000000000000000000000000000000], z + c * 100000000000000000000000000000000000000000000000000 + 1), by simp [b__law_letters_1, e3, m1, show ls.length ≤ 100000 by omega], by simp [h1]⟩
        · have h3' : ¬ (f : Int) = 3 := by omega
          exact ⟨(s', ls ++ [z], z + 1), by simp [b__law_letters_1, h2', h3', show ls.length ≤ 100000 by omega], by simp [h1]⟩)
  refine ⟨ls, s', h1, ?_⟩
  simp at e
  unfold r__law_letters d__law_letters
  simp [e1, e]
theorem ded6 {ls w : List Int} (h6 : ls.length ≤ 6) (h : ∀ x ∈ w, x ∈ ls) : (dedI w).length < 64 := by
  have := List.Nodup.length_le_of_subset (nodup_dedI w) (fun x hx => h x (mem_dedI.mp hx))
  omega
theorem menu_ix (k : Nat) (hk : k < 7) : ∃ x, Odd x ∧ L2.atI [.str "Heads", .str "", .non, .int 3, .tup [.str "set"], .str "first ", .lst [.str "set"]] (k : Int) = some x := by
  have hc : k = 0 ∨ k = 1 ∨ k = 2 ∨ k = 3 ∨ k = 4 ∨ k = 5 ∨ k = 6 := by omega
  rcases hc with rfl | rfl | rfl | rfl | rfl | rfl | rfl
  · exact ⟨_, .a, atI_eq _⟩
  · exact ⟨_, .b, atI_eq _⟩
  · exact ⟨_, .c, atI_eq _⟩
  · exact ⟨_, .d, atI_eq _⟩
  · exact ⟨_, .e, atI_eq _⟩
  · exact ⟨_, .f, atI_eq _⟩
  · exact ⟨_, .g, atI_eq _⟩
def kds : List D := [.str "list", .str "bag", .str "set", .str "first", .str "last", .str "ends", .str "heads", .str "tails"]
theorem kind_ix (k : Nat) (hk : k < 8) : ∃ x : Kd, L2.atI kds (k : Int) = some (.str (nm x)) := by
  have hc : k = 0 ∨ k = 1 ∨ k = 2 ∨ k = 3 ∨ k = 4 ∨ k = 5 ∨ k = 6 ∨ k = 7 := by omega
  unfold kds
  rcases hc with rfl | rfl | rfl | rfl | rfl | rfl | rfl | rfl
  · exact ⟨.ki, atI_eq _⟩
  · exact ⟨.ba, atI_eq _⟩
  · exact ⟨.se, atI_eq _⟩
  · exact ⟨.fi, atI_eq _⟩
  · exact ⟨.la, atI_eq _⟩
  · exact ⟨.en, atI_eq _⟩
  · exact ⟨.he, atI_eq _⟩
  · exact ⟨.ta, atI_eq _⟩
theorem rep_eq (o : Option Int) : eqB (repD o) (repD o) = some true := by cases o <;> simp [repD]
theorem over_kinds {gm : GM} {b : SM} {ρ : DL.Env} (h : ∀ k : Kd, bdE gm b (.str (nm k)) ρ = .ok .nx ρ) : forGo gm b kds ρ = .ok .nx ρ :=
  fo_same (gm := gm) (b := b) (xs := [Kd.ki, .ba, .se, .fi, .la, .en, .he, .ta]) (c := fun k => D.str (nm k)) fun k _ => h k
section
variable {ls w1 w2 w3 ah be w : List Int} (h6 : ls.length ≤ 6) (s1 : ∀ x ∈ w1, x ∈ ls) (sa : ∀ x ∈ ah, x ∈ ls) (sw : ∀ x ∈ w, x ∈ ls) (l1 : w1.length ≤ 3) (l2 : w2.length ≤ 3) (l3 : w3.length ≤ 3) (la : ah.length ≤ 3) (lb : be.length ≤ 3) (lw : w.length ≤ 12) (h1 : w1 ≠ []) (h2 : w2 ≠ []) (h3 : w3 ≠ [])
include h6 s1 sa sw l1 l2 l3 la lb lw h1 h2 h3
theorem loops (o0 o1 o2 o4 o9 o10 o11 : Option L) : forGo (gmName 12) b_law_2 kds [o0, o1, o2, some (.d (wds w1 w2 w3)), o4, some (.d (.tup (ah.map .int))), some (.d (.tup (be.map .int))), some (.d (.tup (w.map .int))), some (.d (.lst kds)), o9, o10, o11, none, none] =
    .ok .nx [o0, o1, o2, some (.d (wds w1 w2 w3)), o4, some (.d (.tup (ah.map .int))), some (.d (.tup (be.map .int))), some (.d (.tup (w.map .int))), some (.d (.lst kds)), o9, o10, o11, none, none] := by
  refine over_kinds fun k => ?_
  have inner : forGo (gmName 13) b_law_1 kds [o0, o1, o2, some (.d (wds w1 w2 w3)), o4, some (.d (.tup (ah.map .int))), some (.d (.tup (be.map .int))), some (.d (.tup (w.map .int))), some (.d (.lst kds)), o9, o10, o11, some (.d (.str (nm k))), none] =
      .ok .nx [o0, o1, o2, some (.d (wds w1 w2 w3)), o4, some (.d (.tup (ah.map .int))), some (.d (.tup (be.map .int))), some (.d (.tup (w.map .int))), some (.d (.lst kds)), o9, o10, o11, some (.d (.str (nm k))), none] := over_kinds fun o => by
    have e := pair_r l1 l2 l3 la lb h1 h2 h3 k o (w := w) (by omega) (ded6 h6 sw)
    simp [b_law_1, e]
  have e := names_r k (u := w1 ++ w) (v := ah) (by simp [h1]) (by rw [List.length_append]; omega) (by omega) (ded6 h6 fun x hx => (List.mem_append.mp hx).elim (s1 x) (sw x))
    (ded6 h6 fun x hx => (List.mem_append.mp hx).elim (sa x) fun hx => (List.mem_append.mp hx).elim (s1 x) (sw x))
  simp only [List.map_append] at e
  have ix : L2.atI [D.tup (w1.map .int), .tup (w2.map .int), .tup (w3.map .int)] 0 = some (.tup (w1.map .int)) := by simp
  unfold wds at inner ⊢
  simp [b_law_2, e, inner, show w1.length + w.length ≤ 100000 by omega]
end
theorem math (ns : List Int) (h : ns.length ≤ 63) : ∃ bs, r_law [.d (.ro (ns.map .int))] = .ok (.d (.bl true)) bs := by
  obtain ⟨t0, e0⟩ := stream_r ns h
  obtain ⟨m, t1, hm, e1⟩ := dr t0 4 (by decide)
  obtain ⟨ls, t2, hls, e2⟩ := letters_d t1 (1 + m) (by omega)
  have h6 : ls.length ≤ 6 := by omega
  have hpos : 0 < ls.length := by omega
  obtain ⟨ys, t3, e3, hy, hP⟩ := lc_ex (gm := gmName 4) (me := eCall 3 r__law_word (aCons (eVar 1) (aCons (eOp addD (eC (.int 1)) (eCall 2 r__law_draw (aCons (eVar 1) (aCons (eC (.int 3)) aNil)))) (aCons (eVar 2) aNil)))) (js := [4]) (im := mRng1 (aCons (eC (.int 3)) aNil))
    (ρ := [some (.d (.ro (ns.map .int))), some (.m (.lst (t2.map .int))), some (.d (.lst (ls.map .int))), none, none, none, none, none, none, none, none, none, none, none]) (xs := List.range 3) (s := t2) (fun (i : Nat) => D.int (0 + (i : Int))) (fun s => [some (.d (.ro (ns.map .int))), some (.m (.lst (s.map .int))), some (.d (.lst (ls.map .int))), none, none, none, none, none, none, none, none, none, none, none])
    (fun w : List Int => D.tup (w.map .int)) (fun w => (∀ x ∈ w, x ∈ ls) ∧ w.length ≤ 3 ∧ w ≠ [])
    (by simp [rangeD]) (by simp) (le_mx (by simp)) (fun i _ t => by
      obtain ⟨k, s1, hk, f1⟩ := dr t 3 (by decide)
      obtain ⟨w, s2, hw, hwl, f2⟩ := word_d s1 (1 + k) (by omega) ls hpos
      have k1 : ((1 + k : Nat) : Int) = 1 + (k : Int) := by omega
      simp at f1
      rw [k1] at f2
      refine ⟨w, s2, ⟨hw, by omega, fun z => by subst z; simp at hwl; omega⟩, by simp [f1, f2]⟩)
  match ys, hy with
  | [w1, w2, w3], _ =>
    obtain ⟨a1, a2, a3⟩ := hP w1 (by simp)
    obtain ⟨b1, b2, b3⟩ := hP w2 (by simp)
    obtain ⟨c1, c2, c3⟩ := hP w3 (by simp)
    obtain ⟨na, t4, hna, e4⟩ := dr t3 4 (by decide)
    obtain ⟨ah, t5, sa, la, e5⟩ := word_d t4 na (by omega) ls hpos
    obtain ⟨nb, t6, hnb, e6⟩ := dr t5 4 (by decide)
    obtain ⟨be, t7, sb, lb, e7⟩ := word_d t6 nb (by omega) ls hpos
    obtain ⟨nw, t8, hnw, e8⟩ := dr t7 13 (by decide)
    obtain ⟨w, t9, sw, lw, e9⟩ := word_d t8 nw (by omega) ls hpos
    obtain ⟨p, u1, hp, g1⟩ := dr t9 4 (by decide)
    obtain ⟨q, u2, hq, g2⟩ := dr u1 7 (by decide)
    obtain ⟨z, u3, hz, g3⟩ := dr u2 8 (by decide)
    obtain ⟨x, hx, ex⟩ := menu_ix q hq
    obtain ⟨kd, ek⟩ := kind_ix z hz
    have k1 : ((1 + m : Nat) : Int) = 1 + (m : Int) := by omega
    rw [k1] at e2
    simp at e1 e3 e4 e6 e8 g1 g2 g3
    have lo := loops (ls := ls) (w1 := w1) (w2 := w2) (w3 := w3) (ah := ah) (be := be) (w := w) h6 a1 sa sw a2 b2 c2 (by omega) (by omega) (by omega) a3 b3 c3 (some (.d (.ro (ns.map .int)))) (some (.m (.lst (u2.map .int)))) (some (.d (.lst (ls.map .int)))) none (some (.d (.int p))) (some (.d x)) (some (.d (.tup [.str "list", .str "bag", .str "set", .str "heads", .str "tails"])))
    have od := odd_r kd p hp hx
    have r1 := rep_r true w (by omega)
    have r2 := rep_r false w (by omega)
    have r3 := lrep_r w (by omega)
    have re := rep_eq (rep [] w)
    unfold wd at r1 r2
    unfold kds at ek lo
    unfold wds at lo
    refine ⟨[.d (.ro (ns.map .int))], ?_⟩
    unfold r_law d_law
    simp [e0, e1, e2, e3, e4, e5, e6, e7, e8, e9, g1, g2, g3, ex, ek, lo, od, r1, r2, r3, re, sg_0, sg_1, sg_2, sg_3, sg_4, sg_5, sg_6, sg_7]
end Law
set_option Elab.async false
set_option maxRecDepth 100000
set_option maxHeartbeats 0
open PySem PySem.W PySem.Calls PyProof.Rows
theorem PySem.Challenge.cw_unseenfolds_k03_narrower_kinds_holds : PySem.Challenge.rw_unseenfolds_k03_narrower_kinds.Holds := by
  w_on; o_law
  refine HandSHeadRun.head_any (r := OpenLaw.row PySem.Challenge.rw_unseenfolds_k03_narrower_kinds) (q := view (OpenLaw.row PySem.Challenge.rw_unseenfolds_k03_narrower_kinds).prog [43]) (H := Law.hk) (ob := Law.ob) (M := 40000) (loose := Law.loose) (d := HandSHeadRun.topDef (OpenLaw.row PySem.Challenge.rw_unseenfolds_k03_narrower_kinds).prog 43) (kwd := []) Law.ob_eq
    (by kernel_rfl) (fun s => by kernel_rfl) Law.run (by kernel_rfl) (by kernel_rfl) (by kernel_rfl) (by rfl) (by first | assumption | decide +kernel) (by decide +kernel) ⟨rfl, rfl, rfl, rfl, rfl, by decide +kernel⟩ ?hw ?hc
  case hw => w_witness2
  case hc => exact DL.walk_dlE (l := PySem.Challenge.rw_unseenfolds_k03_narrower_kinds) (n := 63) (k := 7) (sx := "_law_script") (nm := "law") rfl (by decide) (by kernel_rfl) ⟨rfl, by decide, by decide⟩ (by kernel_rfl) (fun w K mg h X G c => Law.all_ok Law.math (w := w) X G c)
