import PyProof.Rows.All
import Wide.All
import OpenK.AllK
import Wide.FinOn
import HandS.ForMost
import HandS.IsInst
import HandS.Codes
import HandS.Wide
import HandS.Set
import HandS.SetFor
import HandS.Strs
import HandS.List
import PyProof.Rows.SortShellAny
import HandS.TupAny
import PyProof.StrLawsTight
import PyProof.StrLawsChain
import PyProof.P3Eq
import HandS.Exc
import HandS.ExcOwn
import HandS.ExcInit
import HandS.ExcIs
import HandS.WordsExc
import HandS.RevRange
import HandS.Conv
import PySem.Challenge.RW_maybegrounds_k04_ways_looked_at
set_option Elab.async false
set_option linter.all false
set_option maxRecDepth 100000
set_option maxHeartbeats 8000000
set_option autoImplicit false

/-! The data level: what stands in the slots, told without a heap. -/
namespace DV
open PySem L2

abbrev Ex (G H : Hp) : Prop := ∀ a o, G a = some o → H a = some o
theorem ex_rf (H : Hp) : Ex H H := fun _ _ h => h
theorem ex_tr {A B C : Hp} (h : Ex A B) (k : Ex B C) : Ex A C := fun a o e => k a o (h a o e)
theorem ex_new {H : Hp} {p : Addr} {o : HO} (h : H p = none) : Ex H (upd H p o) := fun a u e => by
  rw [upd_ne (ne_of_none e h)]
  exact e
theorem ex_upd {G H : Hp} {p : Addr} {o : HO} (e : Ex G H) : Ex (upd G p o) (upd H p o) := fun a u h => by
  by_cases q : a = p
  · subst q
    rw [upd_same] at h ⊢
    exact h
  · rw [upd_ne q] at h ⊢
    exact e a u h
/-- the object at p, which G does not know, may change -/
theorem ex_mut {G H : Hp} {p : Addr} {o : HO} (e : Ex G H) (h : G p = none) : Ex G (upd H p o) := fun a u q => by
  rw [upd_ne (ne_of_none q h)]
  exact e a u q

/-! ### a value is some data, by the objects of G -/
mutual
inductive Rp (G : Hp) : V → PyData → Prop
  | non : Rp G .non .none
  | bl (b : Bool) : Rp G (.bl b) (.bool b)
  | int (i : Int) : Rp G (.int i) (.int i)
  | str (x : Str) : Rp G (.str x) (.str x)
  | lst {a : Addr} {xs : List V} {ds : List PyData} : G a = some (.lst xs) → RpAll G xs ds → Rp G (.ref a) (.list ds)
  | tup {a : Addr} {xs : List V} {ds : List PyData} : G a = some (.tup xs) → RpAll G xs ds → Rp G (.ref a) (.tuple ds)
  | dk {a : Addr} {kvs : List (Key × V)} {es : List (PyData × PyData)} : G a = some (.dK kvs) → RpKV G kvs es → Rp G (.ref a) (.dict es)
  | dt {a : Addr} {kvs : List (List Key × V)} {es : List (List Str × PyData)} {ds : List (PyData × PyData)} : G a = some (.dT kvs) → kvs ≠ [] → kvs.map (·.1) = es.map (·.1.map Sum.inr) → RpAll G (kvs.map (·.2)) (es.map (·.2)) → ds = es.map (fun e => (.tuple (e.1.map .str), e.2)) → Rp G (.ref a) (.dict ds)
inductive RpAll (G : Hp) : List V → List PyData → Prop
  | nil : RpAll G [] []
  | cons {v : V} {vs : List V} {d : PyData} {ds : List PyData} : Rp G v d → RpAll G vs ds → RpAll G (v :: vs) (d :: ds)
inductive RpKV (G : Hp) : List (Key × V) → List (PyData × PyData) → Prop
  | nil : RpKV G [] []
  | cons {x : Str} {v : V} {d : PyData} {kvs : List (Key × V)} {es : List (PyData × PyData)} : Rp G v d → RpKV G kvs es → RpKV G ((Sum.inr x, v) :: kvs) ((.str x, d) :: es)
end
mutual
theorem Rp.mono {G G' : Hp} (e : Ex G G') : ∀ {v : V} {d : PyData}, Rp G v d → Rp G' v d
  | _, _, .non => .non
  | _, _, .bl b => .bl b
  | _, _, .int i => .int i
  | _, _, .str x => .str x
  | _, _, .lst h r => .lst (e _ _ h) (RpAll.mono e r)
  | _, _, .tup h r => .tup (e _ _ h) (RpAll.mono e r)
  | _, _, .dk h r => .dk (e _ _ h) (RpKV.mono e r)
  | _, _, .dt h n k r q => .dt (e _ _ h) n k (RpAll.mono e r) q
theorem RpAll.mono {G G' : Hp} (e : Ex G G') : ∀ {v : List V} {d : List PyData}, RpAll G v d → RpAll G' v d
  | _, _, .nil => .nil
  | _, _, .cons h r => .cons (Rp.mono e h) (RpAll.mono e r)
theorem RpKV.mono {G G' : Hp} (e : Ex G G') : ∀ {v : List (Key × V)} {d : List (PyData × PyData)}, RpKV G v d → RpKV G' v d
  | _, _, .nil => .nil
  | _, _, .cons h r => .cons (Rp.mono e h) (RpKV.mono e r)
end
theorem RpAll.length {G : Hp} : ∀ {vs : List V} {ds : List PyData}, RpAll G vs ds → vs.length = ds.length
  | _, _, .nil => rfl
  | _, _, .cons _ r => congrArg (· + 1) (RpAll.length r)
theorem RpAll.get {G : Hp} : ∀ {vs : List V} {ds : List PyData} {i : Nat} {d : PyData}, RpAll G vs ds → ds[i]? = some d → ∃ v, vs[i]? = some v ∧ Rp G v d
  | _, _, _, _, .nil, h => by simp at h
  | _, _, 0, _, .cons h _, e => by simp at e; subst e; exact ⟨_, rfl, h⟩
  | _, _, i + 1, d, .cons _ r, e => by
    obtain ⟨v, h1, h2⟩ := RpAll.get (i := i) (d := d) r (by simpa using e)
    exact ⟨v, by simpa using h1, h2⟩
theorem RpAll.getV {G : Hp} {vs : List V} {ds : List PyData} {i : Nat} {v : V} (r : RpAll G vs ds) (e : vs[i]? = some v) : ∃ d, ds[i]? = some d ∧ Rp G v d := by
  have hl := r.length
  have hi := (List.getElem?_eq_some_iff.mp e).1
  have hd : ds[i]? = some ds[i] := List.getElem?_eq_getElem (by omega)
  obtain ⟨w, h1, h2⟩ := r.get hd
  rw [e] at h1
  cases h1
  exact ⟨_, hd, h2⟩
theorem RpAll.append {G : Hp} : ∀ {vs ws : List V} {ds es : List PyData}, RpAll G vs ds → RpAll G ws es → RpAll G (vs ++ ws) (ds ++ es)
  | _, _, _, _, .nil, h => h
  | _, _, _, _, .cons h r, k => .cons h (RpAll.append r k)
theorem RpAll.one {G : Hp} {v : V} {d : PyData} (h : Rp G v d) : RpAll G [v] [d] := .cons h .nil
theorem RpAll.take {G : Hp} (n : Nat) : ∀ {vs : List V} {ds : List PyData}, RpAll G vs ds → RpAll G (vs.take n) (ds.take n) := fun {vs ds} r => by
  induction n generalizing vs ds with
  | zero => exact .nil
  | succ n ih => cases r with
    | nil => exact .nil
    | cons h r => exact .cons h (ih r)
theorem RpAll.drop {G : Hp} (n : Nat) : ∀ {vs : List V} {ds : List PyData}, RpAll G vs ds → RpAll G (vs.drop n) (ds.drop n) := fun {vs ds} r => by
  induction n generalizing vs ds with
  | zero => exact r
  | succ n ih => cases r with
    | nil => exact .nil
    | cons h r => exact ih r
theorem RpAll.eraseIdx {G : Hp} : ∀ (n : Nat) {vs : List V} {ds : List PyData}, RpAll G vs ds → RpAll G (vs.eraseIdx n) (ds.eraseIdx n)
  | _, _, _, .nil => .nil
  | 0, _, _, .cons _ r => r
  | n + 1, _, _, .cons h r => .cons h (RpAll.eraseIdx n r)
theorem RpAll.set {G : Hp} {v : V} {d : PyData} (q : Rp G v d) : ∀ (n : Nat) {vs : List V} {ds : List PyData}, RpAll G vs ds → RpAll G (vs.set n v) (ds.set n d)
  | _, _, _, .nil => .nil
  | 0, _, _, .cons _ r => .cons q r
  | n + 1, _, _, .cons h r => .cons h (RpAll.set q n r)
theorem RpAll.reverse {G : Hp} : ∀ {vs : List V} {ds : List PyData}, RpAll G vs ds → RpAll G vs.reverse ds.reverse
  | _, _, .nil => .nil
  | _, _, .cons h r => by
    rw [List.reverse_cons, List.reverse_cons]
    exact RpAll.append (RpAll.reverse r) (.one h)

/-! ### what is owned -/
structure Own where
  P : Hp → Hp → (Addr → Prop) → V → Prop
  fr : ∀ {G H G' H' : Hp} {R : Addr → Prop} {v : V}, P G H R v → Ex G G' → (∀ a o, R a → H a = some o → H' a = some o) → P G' H' R v
/-- data that never changes -/
def fz (d : PyData) : Own := ⟨fun G _ _ v => Rp G v d, fun h e _ => h.mono e⟩
/-- a list at p that may change, of such data -/
def ml (p : Addr) (ds : List PyData) : Own := ⟨fun G H R v => v = .ref p ∧ R p ∧ ∃ vs, H p = some (.lst vs) ∧ RpAll G vs ds, fun ⟨a, b, vs, c, d⟩ e k => ⟨a, b, vs, k _ _ b c, d.mono e⟩⟩
/-- pairs of a text and some data -/
def kd (p : Str × PyData) : PyData × PyData := (.str p.1, p.2)
/-- a dict with text keys at p that may change -/
def md (p : Addr) (es : List (Str × PyData)) : Own := ⟨fun G H R v => v = .ref p ∧ R p ∧ ∃ vs, H p = some (.dK vs) ∧ RpKV G vs (es.map kd), fun ⟨a, b, vs, c, d⟩ e k => ⟨a, b, vs, k _ _ b c, d.mono e⟩⟩

abbrev Es := List (Option Own)
/-- a tuple stands at a -/
def IsT (H : Hp) (a : Addr) : Prop := ∃ xs, H a = some (.tup xs)
/-- a thing stands at a, and no tuple -/
structure Al (H : Hp) (a : Addr) : Prop where
  ne : H a ≠ none
  nt : ¬ IsT H a
theorem Al.of {H : Hp} {a : Addr} {o : HO} (h : H a = some o) (n : ∀ xs, o ≠ .tup xs) : Al H a := ⟨by rw [h]; simp, fun ⟨xs, e⟩ => by rw [h] at e; exact n xs (Option.some.inj e)⟩
theorem Al.ex {H H' : Hp} {a : Addr} (h : Al H a) (k : ∀ o, H a = some o → H' a = some o) : Al H' a := by
  cases e : H a with
  | none => exact absurd e h.ne
  | some o => exact .of (k o e) fun xs z => h.nt ⟨xs, by rw [e, z]⟩
structure Stp (G H : Hp) (U : Addr → Prop) (G' H' : Hp) (U' : Addr → Prop) : Prop where
  g : Ex G G'
  h : ∀ a o, H a = some o → ¬ U a → H' a = some o
  d : ∀ a, H' a = none → H a = none
  u : ∀ a, U' a → U a ∨ H a = none
  n : ∀ a, G' a ≠ none → G a ≠ none ∨ H a = none ∨ U a ∨ IsT H a
def Un (Rs : Nat → Addr → Prop) : Addr → Prop := fun a => ∃ i, Rs i a
theorem Stp.rf {G H : Hp} {U : Addr → Prop} : Stp G H U G H U := ⟨ex_rf _, fun _ _ h _ => h, fun _ h => h, fun _ h => .inl h, fun _ h => .inl h⟩
theorem Stp.tr {G H G1 H1 G2 H2 : Hp} {U U1 U2 : Addr → Prop} (a : Stp G H U G1 H1 U1) (b : Stp G1 H1 U1 G2 H2 U2) : Stp G H U G2 H2 U2 := by
  refine ⟨ex_tr a.g b.g, fun x o h n => b.h x o (a.h x o h n) fun q => ?_, fun x h => a.d x (b.d x h), fun x h => ?_, fun x h => ?_⟩
  · rcases a.u x q with q | q
    · exact n q
    · rw [h] at q
      cases q
  · rcases b.u x h with q | q
    · exact a.u x q
    · exact .inr (a.d x q)
  · rcases b.n x h with q | q | q | q
    · exact a.n x q
    · exact .inr (.inl (a.d x q))
    · rcases a.u x q with q | q
      · exact .inr (.inr (.inl q))
      · exact .inr (.inl q)
    · obtain ⟨xs, q⟩ := q
      cases e : H x with
      | none => exact .inr (.inl rfl)
      | some o =>
        by_cases z : U x
        · exact .inr (.inr (.inl z))
        · have y := a.h x o e z
          rw [q] at y
          exact .inr (.inr (.inr ⟨xs, by rw [e, y]⟩))
theorem Stp.weak {G H G1 H1 : Hp} {U U1 U2 : Addr → Prop} (a : Stp G H U G1 H1 U1) (h : ∀ x, U2 x → U1 x) : Stp G H U G1 H1 U2 := ⟨a.g, a.h, a.d, fun x q => a.u x (h x q), a.n⟩
/-- the slots' state, no base -/
structure Sat0 (G H : Hp) (σ : L2.St) (es : Es) (Rs : Nat → Addr → Prop) : Prop where
  ex : Ex G H
  len : σ.length = es.length
  at' : ∀ (i : Nat) (r : Own), es[i]? = some (some r) → ∃ v, σ[i]? = some (some v) ∧ r.P G H (Rs i) v
  dj : ∀ i j a, Rs i a → Rs j a → i = j
  ng : ∀ i a, Rs i a → G a = none
  al2 : ∀ i a, Rs i a → Al H a
structure Tmp0 (r : Own) (G H : Hp) (Rs : Nat → Addr → Prop) (Rr : Addr → Prop) (v : V) : Prop where
  p : r.P G H Rr v
  ng : ∀ a, Rr a → G a = none
  al2 : ∀ a, Rr a → Al H a
  dj : ∀ i a, Rr a → ¬ Rs i a
/-- where the run of the def began -/
class Bs where
  G : Hp
  H : Hp
  U : Addr → Prop
variable [B : Bs]
structure Sat (G H : Hp) (σ : L2.St) (es : Es) (Rs : Nat → Addr → Prop) : Prop where
  ex : Ex G H
  len : σ.length = es.length
  at' : ∀ (i : Nat) (r : Own), es[i]? = some (some r) → ∃ v, σ[i]? = some (some v) ∧ r.P G H (Rs i) v
  dj : ∀ i j a, Rs i a → Rs j a → i = j
  ng : ∀ i a, Rs i a → G a = none
  al2 : ∀ i a, Rs i a → Al H a
  st : Stp B.G B.H B.U G H (Un Rs)
/-- a value by the way: r at v, in a region apart -/
structure Tmp (r : Own) (G H : Hp) (Rs : Nat → Addr → Prop) (Rr : Addr → Prop) (v : V) : Prop where
  p : r.P G H Rr v
  ng : ∀ a, Rr a → G a = none
  al2 : ∀ a, Rr a → Al H a
  dj : ∀ i a, Rr a → ¬ Rs i a
  fr : ∀ a, Rr a → B.U a ∨ B.H a = none
theorem Sat.al {G H : Hp} {σ : L2.St} {es : Es} {Rs : Nat → Addr → Prop} (s : Sat G H σ es Rs) : ∀ i a, Rs i a → H a ≠ none := fun i a h => (s.al2 i a h).ne
omit B in
theorem Sat0.al {G H : Hp} {σ : L2.St} {es : Es} {Rs : Nat → Addr → Prop} (s : Sat0 G H σ es Rs) : ∀ i a, Rs i a → H a ≠ none := fun i a h => (s.al2 i a h).ne
theorem Tmp.al {r : Own} {G H : Hp} {Rs : Nat → Addr → Prop} {Rr : Addr → Prop} {v : V} (t : Tmp r G H Rs Rr v) : ∀ a, Rr a → H a ≠ none := fun a h => (t.al2 a h).ne
omit B in
theorem Tmp0.al {r : Own} {G H : Hp} {Rs : Nat → Addr → Prop} {Rr : Addr → Prop} {v : V} (t : Tmp0 r G H Rs Rr v) : ∀ a, Rr a → H a ≠ none := fun a h => (t.al2 a h).ne
theorem Sat.z {G H : Hp} {σ : L2.St} {es : Es} {Rs : Nat → Addr → Prop} (s : Sat G H σ es Rs) : Sat0 G H σ es Rs := ⟨s.ex, s.len, s.at', s.dj, s.ng, s.al2⟩
theorem Sat0.up {G H : Hp} {σ : L2.St} {es : Es} {Rs : Nat → Addr → Prop} (s : Sat0 G H σ es Rs) (st : Stp B.G B.H B.U G H (Un Rs)) : Sat G H σ es Rs := ⟨s.ex, s.len, s.at', s.dj, s.ng, s.al2, st⟩
theorem Tmp.z {r : Own} {G H : Hp} {Rs : Nat → Addr → Prop} {Rr : Addr → Prop} {v : V} (t : Tmp r G H Rs Rr v) : Tmp0 r G H Rs Rr v := ⟨t.p, t.ng, t.al2, t.dj⟩
/-- the regions with that of slot i replaced -/
def setR (Rs : Nat → Addr → Prop) (i : Nat) (R : Addr → Prop) : Nat → Addr → Prop := fun j => if j = i then R else Rs j
def noR : Addr → Prop := fun _ => False

/-! ### the judgements -/
def WM (te : TE) (es : Es) (Q : Own → Es → Prop) : Prop := ∀ (σ : L2.St) (G H : Hp) (Rs : Nat → Addr → Prop) (K : VK), Sat G H σ es Rs →
  (∀ (v : V) (r : Own) (G' H' : Hp) (Rs' : Nat → Addr → Prop) (Rr : Addr → Prop) (es' : Es), Sat G' H' σ es' Rs' → Tmp r G' H' Rs' Rr v → Stp G H (Un Rs) G' H' (fun a => Un Rs' a ∨ Rr a) → Q r es' → K v H') → te σ H K
def WE (te : TE) (es : Es) (Q : PyData → Es → Prop) : Prop := ∀ (σ : L2.St) (G H : Hp) (Rs : Nat → Addr → Prop) (K : VK), Sat G H σ es Rs →
  (∀ (v : V) (d : PyData) (G' H' : Hp) (Rs' : Nat → Addr → Prop) (es' : Es), Sat G' H' σ es' Rs' → Rp G' v d → Stp G H (Un Rs) G' H' (Un Rs') → Q d es' → K v H') → te σ H K
def WT (tt : TT) (es : Es) (Q : Bool → Es → Prop) : Prop := ∀ (σ : L2.St) (G H : Hp) (Rs : Nat → Addr → Prop) (K : Bool → Hp → Prop), Sat G H σ es Rs →
  (∀ (b : Bool) (G' H' : Hp) (Rs' : Nat → Addr → Prop) (es' : Es), Sat G' H' σ es' Rs' → Stp G H (Un Rs) G' H' (Un Rs') → Q b es' → K b H') → tt σ H K
inductive Arg where
  | d (d : PyData)
  | s (i : Nat)
def AV (G : Hp) (σ : L2.St) : Arg → V → Prop
  | .d d, v => Rp G v d
  | .s i, v => σ[i]? = some (some v)
inductive AVs (G : Hp) (σ : L2.St) : List Arg → List V → Prop
  | nil : AVs G σ [] []
  | cons {a v as vs} : AV G σ a v → AVs G σ as vs → AVs G σ (a :: as) (v :: vs)
theorem AV.mono {G G' : Hp} {σ : L2.St} {a : Arg} {v : V} (h : AV G σ a v) (e : Ex G G') : AV G' σ a v := by
  cases a with
  | d d => exact Rp.mono e h
  | s i => exact h
def WA (ta : TA) (es : Es) (Q : List Arg → Es → Prop) : Prop := ∀ (σ : L2.St) (G H : Hp) (Rs : Nat → Addr → Prop) (K : List V → Hp → Prop), Sat G H σ es Rs →
  (∀ (vs : List V) (as : List Arg) (G' H' : Hp) (Rs' : Nat → Addr → Prop) (es' : Es), Sat G' H' σ es' Rs' → AVs G' σ as vs → Stp G H (Un Rs) G' H' (Un Rs') → Q as es' → K vs H') → ta σ H K
structure SE where
  nx : Es → Prop
  rt : Own → Es → Prop
  bk : Es → Prop := fun _ => False
  ct : Es → Prop := fun _ => False
structure Holds (G H : Hp) (Rs : Nat → Addr → Prop) (E : SE) (D : Ends) : Prop where
  nx : ∀ (σ' : L2.St) (G' H' : Hp) (Rs' : Nat → Addr → Prop) (es' : Es), Sat G' H' σ' es' Rs' → Stp G H (Un Rs) G' H' (Un Rs') → E.nx es' → D.nx σ' H'
  rt : ∀ (v : V) (r : Own) (σ' : L2.St) (G' H' : Hp) (Rs' : Nat → Addr → Prop) (Rr : Addr → Prop) (es' : Es), Sat G' H' σ' es' Rs' → Tmp r G' H' Rs' Rr v → Stp G H (Un Rs) G' H' (fun a => Un Rs' a ∨ Rr a) → E.rt r es' → D.rt v H'
  bk : ∀ (σ' : L2.St) (G' H' : Hp) (Rs' : Nat → Addr → Prop) (es' : Es), Sat G' H' σ' es' Rs' → Stp G H (Un Rs) G' H' (Un Rs') → E.bk es' → D.bk σ' H'
  ct : ∀ (σ' : L2.St) (G' H' : Hp) (Rs' : Nat → Addr → Prop) (es' : Es), Sat G' H' σ' es' Rs' → Stp G H (Un Rs) G' H' (Un Rs') → E.ct es' → D.ct σ' H'
def WS (ts : TS) (es : Es) (E : SE) : Prop := ∀ (σ : L2.St) (G H : Hp) (Rs : Nat → Addr → Prop) (D : Ends), Sat G H σ es Rs → Holds G H Rs E D → ts D σ H
theorem Holds.step {G H G1 H1 : Hp} {Rs R1 : Nat → Addr → Prop} {E : SE} {D : Ends} (h : Holds G H Rs E D) (s : Stp G H (Un Rs) G1 H1 (Un R1)) : Holds G1 H1 R1 E D :=
  ⟨fun σ' G' H' Rs' es' a b c => h.nx σ' G' H' Rs' es' a (s.tr b) c, fun v r σ' G' H' Rs' Rr es' a b c d => h.rt v r σ' G' H' Rs' Rr es' a b (s.tr c) d,
   fun σ' G' H' Rs' es' a b c => h.bk σ' G' H' Rs' es' a (s.tr b) c, fun σ' G' H' Rs' es' a b c => h.ct σ' G' H' Rs' es' a (s.tr b) c⟩

/-! ### names, constants -/
section
variable {es : Es} {σ : L2.St} {G H : Hp} {Rs : Nat → Addr → Prop}
theorem we_var {i : Nat} {d : PyData} {Q : PyData → Es → Prop} (h : es[i]? = some (some (fz d))) (q : Q d es) : WE (tVar i) es Q := fun σ G H Rs K hs k => by
  obtain ⟨v, e, p⟩ := hs.at' i _ h
  exact ⟨v, e, k v d G H Rs es hs p .rf q⟩
theorem we_int {i : Int} {Q : PyData → Es → Prop} (q : Q (.int i) es) : WE (tC (.int i)) es Q := fun σ G H Rs K hs k => k _ _ G H Rs es hs (.int i) .rf q
theorem we_str {i : Str} {Q : PyData → Es → Prop} (q : Q (.str i) es) : WE (tC (.str i)) es Q := fun σ G H Rs K hs k => k _ _ G H Rs es hs (.str i) .rf q
theorem we_bl {i : Bool} {Q : PyData → Es → Prop} (q : Q (.bool i) es) : WE (tC (.bl i)) es Q := fun σ G H Rs K hs k => k _ _ G H Rs es hs (.bl i) .rf q
theorem we_non {Q : PyData → Es → Prop} (q : Q .none es) : WE (tC .non) es Q := fun σ G H Rs K hs k => k _ _ G H Rs es hs .non .rf q
theorem Stp.no {G H G' H' : Hp} {U U' : Addr → Prop} (s : Stp G H U G' H' U') : Stp G H U G' H' (fun a => U' a ∨ noR a) := s.weak fun x h => h.elim id fun z => z.elim
theorem tmp_fz {d : PyData} {v : V} (h : Rp G v d) : Tmp (fz d) G H Rs noR v := ⟨h, fun _ z => z.elim, fun _ z => z.elim, fun _ _ z => z.elim, fun _ z => z.elim⟩
theorem wm_we {te : TE} {Q : Own → Es → Prop} (h : WE te es fun d es' => Q (fz d) es') : WM te es Q := fun σ G H Rs K hs k =>
  h σ G H Rs K hs fun v d G' H' Rs' es' s1 r st q => k v (fz d) G' H' Rs' noR es' s1 (tmp_fz r) st.no q
/-- a thing that is owned may be frozen -/
def Frz (r : Own) (d : PyData) : Prop := ∀ G H R v, r.P G H R v → Ex G H → (∀ a, R a → G a = none) → ∃ G', Ex G G' ∧ Ex G' H ∧ (∀ a, G' a ≠ none → G a ≠ none ∨ R a) ∧ Rp G' v d
theorem frz_fz {d : PyData} : Frz (fz d) d := fun G H R v h e _ => ⟨G, ex_rf _, e, fun _ z => .inl z, h⟩
theorem ex_put {G H : Hp} {p : Addr} {o : HO} (e : Ex G H) (h : H p = some o) : Ex (upd G p o) H := fun a u q => by
  by_cases z : a = p
  · subst z
    rw [upd_same] at q
    cases q
    exact h
  · rw [upd_ne z] at q
    exact e a u q
theorem upd_new {G : Hp} {p : Addr} {o : HO} {R : Addr → Prop} (hp : R p) : ∀ a, upd G p o a ≠ none → G a ≠ none ∨ R a := fun a z => by
  by_cases e : a = p
  · subst e
    exact .inr hp
  · rw [upd_ne e] at z
    exact .inl z
theorem frz_ml {p : Addr} {ds : List PyData} : Frz (ml p ds) (.list ds) := fun G H R v ⟨e, hp, vs, hv, r⟩ ex ng => by
  subst e
  have x : Ex G (upd G p (.lst vs)) := ex_new (ng p hp)
  exact ⟨upd G p (.lst vs), x, ex_put ex hv, upd_new hp, .lst upd_same (r.mono x)⟩
theorem frz_md {p : Addr} {ds : List (Str × PyData)} : Frz (md p ds) (.dict (ds.map kd)) := fun G H R v ⟨e, hp, vs, hv, r⟩ ex ng => by
  subst e
  have x : Ex G (upd G p (.dK vs)) := ex_new (ng p hp)
  exact ⟨upd G p (.dK vs), x, ex_put ex hv, upd_new hp, .dk upd_same (r.mono x)⟩
/-- other slots stay when something else is frozen -/
theorem Sat.grow {G' : Hp} (hs : Sat G H σ es Rs) (e : Ex G G') (e2 : Ex G' H) (n : ∀ a, G' a ≠ none → G a ≠ none ∨ (¬ Un Rs a ∧ (B.U a ∨ B.H a = none ∨ IsT B.H a))) : Sat G' H σ es Rs :=
  ⟨e2, hs.len, fun i r h => let ⟨v, a, b⟩ := hs.at' i r h; ⟨v, a, r.fr b e fun _ _ _ z => z⟩, hs.dj, fun i a h => by
    cases q : G' a with
    | none => rfl
    | some o =>
      rcases n a (by rw [q]; simp) with z | z
      · exact absurd (hs.ng i a h) z
      · exact absurd ⟨i, h⟩ z.1, hs.al2, ex_tr hs.st.g e, hs.st.h, hs.st.d, hs.st.u, fun a z => (n a z).elim (hs.st.n a) fun z => z.2.elim (fun z => .inr (.inr (.inl z))) fun z => z.elim (fun z => .inr (.inl z)) fun z => .inr (.inr (.inr z))⟩
theorem we_wm {te : TE} {Q : PyData → Es → Prop} (h : WM te es fun r es' => ∃ d, Frz r d ∧ Q d es') : WE te es Q := fun σ G H Rs K hs k =>
  h σ G H Rs K hs fun v r G1 H1 R1 Rr es1 s1 t st ⟨d, f, q⟩ => by
    obtain ⟨G2, e1, e2, n, p⟩ := f G1 H1 Rr v t.p s1.ex t.ng
    have s2 : Sat G2 H1 σ es1 R1 := s1.grow e1 e2 fun a z => (n a z).imp id fun z => ⟨fun ⟨i, y⟩ => t.dj i a z y, (t.fr a z).imp id .inl⟩
    refine k v d G2 H1 R1 es1 s2 p (st.tr ⟨e1, fun _ _ z _ => z, fun _ z => z, fun x z => .inl (.inl z), fun a z => ?_⟩) q
    rcases n a z with z | z
    · exact .inl z
    · exact .inr (.inr (.inl (.inr z)))
/-- the thing in a slot is moved out of it -/
theorem wm_move {i : Nat} {r : Own} {Q : Own → Es → Prop} (h : es[i]? = some (some r)) (q : Q r (es.set i none)) : WM (tVar i) es Q := fun σ G H Rs K hs k => by
  obtain ⟨v, e, p⟩ := hs.at' i _ h
  refine ⟨v, e, k v r G H (setR Rs i noR) (Rs i) (es.set i none) ⟨hs.ex, by rw [List.length_set]; exact hs.len, fun j r' h' => ?_, fun j l a h1 h2 => ?_, fun j a h1 => ?_, fun j a h1 => ?_, hs.st.weak fun x ⟨j, z⟩ => by
    unfold setR at z
    split at z
    · exact z.elim
    · exact ⟨j, z⟩⟩ ⟨p, hs.ng i, hs.al2 i, fun j a h1 h2 => ?_, fun a z => hs.st.u a ⟨i, z⟩⟩ ?_ q⟩
  · by_cases z : j = i
    · subst z
      rw [List.getElem?_set] at h'
      split at h'
      · split at h' <;> simp at h'
      · rename_i z
        exact absurd rfl z
    · rw [List.getElem?_set_ne (Ne.symm z)] at h'
      obtain ⟨v', a, b⟩ := hs.at' j r' h'
      exact ⟨v', a, by unfold setR; rw [if_neg z]; exact b⟩
  · unfold setR at h1 h2
    split at h1
    · exact h1.elim
    · split at h2
      · exact h2.elim
      · exact hs.dj j l a h1 h2
  · unfold setR at h1
    split at h1
    · exact h1.elim
    · exact hs.ng j a h1
  · unfold setR at h1
    split at h1
    · exact h1.elim
    · exact hs.al2 j a h1
  · unfold setR at h2
    split at h2
    · exact h2.elim
    · rename_i z
      exact z (hs.dj j i a h2 h1)
  · refine Stp.weak Stp.rf fun x z => ?_
    rcases z with ⟨j, z⟩ | z
    · unfold setR at z
      split at z
      · exact z.elim
      · exact ⟨j, z⟩
    · exact ⟨i, z⟩
end
end DV

namespace DV
open PySem PySem.Spec PyProof.Rows L2
abbrev lenR (K : PySem.W.Frag) : List V → Hp → VK → Prop := fun xs H Q => ∃ p ys, xs = [.ref p] ∧ (SqL K H p ys ∨ SqT K H p ys) ∧ Q (.int ys.length) H
abbrev listR (K : PySem.W.Frag) : List V → Hp → VK → Prop := fun xs H Q => ∃ p ys, xs = [.ref p] ∧ (SqL K H p ys ∨ SqT K H p ys) ∧ ∀ l, H l = none → Q (.ref l) (upd H l (.lst ys))
abbrev tupR (K : PySem.W.Frag) : List V → Hp → VK → Prop := fun xs H Q => ∃ p ys, xs = [.ref p] ∧ ((SqL K H p ys ∧ ∀ l, H l = none → Q (.ref l) (upd H l (.tup ys))) ∨ (SqT K H p ys ∧ Q (.ref p) H))
abbrev joinR (K : PySem.W.Frag) : V → List V → Hp → VK → Prop := fun x xs H Q => ∃ a p, ∃ ys : List Str, x = .str a ∧ xs = [.ref p] ∧ (SqL K H p (ys.map V.str) ∨ SqT K H p (ys.map V.str)) ∧ (ys.map (·.length)).sum + ys.length * a.length ≤ 16777216 ∧ Q (.str (Txt.join a ys)) H
/-- x[i], x a list or a tuple -/
def ixsR (K : PySem.W.Frag) : R2 := fun x y H Q => rIxL K x y H Q ∨ rIxT K x y H Q
theorem ixs {X : Cx} : IxR X (ixsR X.K) := fun a b pins s σ H x y v u Q I rx ry h pl => h.elim (fun h => ix_list a b pins s σ H x y v u Q I rx ry h pl) fun h => ix_tup a b pins s σ H x y v u Q I rx ry h pl
theorem look_re {env : Env} : ∀ {names : List (Str × NameKind)} {x : Str}, names.lookup x = some .cell ∨ names.lookup x = some .free →
    (names.map fun (n, k) => if (k == NameKind.free && env.scope.kind == .function && env.kindOf n == some .cell) then (n, NameKind.cell) else (n, k)).lookup x = some .cell ∨
    (names.map fun (n, k) => if (k == NameKind.free && env.scope.kind == .function && env.kindOf n == some .cell) then (n, NameKind.cell) else (n, k)).lookup x = some .free
  | [], _, h => by simp at h
  | (n, k) :: r, x, h => by
    rw [List.map_cons]
    dsimp only
    by_cases c : (k == NameKind.free && env.scope.kind == .function && env.kindOf n == some .cell) = true
    · rw [if_pos c]
      rw [List.lookup_cons] at h ⊢
      by_cases e : (x == n) = true
      · simp [e]
      · simp only [Bool.not_eq_true] at e
        simp only [e] at h ⊢
        exact look_re h
    · rw [if_neg c]
      rw [List.lookup_cons] at h ⊢
      by_cases e : (x == n) = true
      · simp only [e] at h ⊢
        exact h
      · simp only [Bool.not_eq_true] at e
        simp only [e] at h ⊢
        exact look_re h
theorem blkOk_in {N : List Str} {sc scope : Scope} {own : List (Str × Nat)} {cl : List (Str × Addr)} {C : Addr} {env : Env} (h : blkC N sc scope own = true) : BlkOk N (compEnvC sc cl C env).scope scope own :=
  let b := blkOk_by h
  ⟨b.kind, b.uniq, b.ix, fun y hy e => look_re (b.free y hy e), b.own⟩
end DV

namespace DV
open PySem L2
variable [B : Bs]
section
variable {es : Es} {σ : L2.St} {G H : Hp} {Rs : Nat → Addr → Prop} {ta tb te : TE} {t u c : TT} {ts us : TS} {E : SE} {K : PySem.W.Frag}
/-! ### tests -/
theorem wt_test {Q : Bool → Es → Prop} (h : WE te es fun d es1 => ∃ b, d = .bool b ∧ Q b es1) : WT (tTest te) es Q := fun σ G H Rs K hs k =>
  h σ G H Rs _ hs fun v d G' H' Rs' es' s1 r st ⟨b, e, q⟩ => by
    subst e
    cases r
    exact ⟨b, rfl, k b G' H' Rs' es' s1 st q⟩
theorem wt_B {Q : Bool → Es → Prop} (h : WE te es fun d es1 => ∃ b, d = .bool b ∧ Q b es1) : WT (tB te) es Q := wt_test h
theorem wt_and {Q : Bool → Es → Prop} (h : WT t es fun b es1 => (b = true → WT u es1 Q) ∧ (b = false → Q false es1)) : WT (tAnd t u) es Q := fun σ G H Rs K hs k =>
  h σ G H Rs _ hs fun b G' H' Rs' es' s1 st ⟨q1, q2⟩ => by
    cases b with
    | true => exact q1 rfl σ G' H' Rs' K s1 fun b G2 H2 R2 e2 s2 st2 q => k b G2 H2 R2 e2 s2 (st.tr st2) q
    | false => exact k false G' H' Rs' es' s1 st (q2 rfl)
theorem wt_or {Q : Bool → Es → Prop} (h : WT t es fun b es1 => (b = true → Q true es1) ∧ (b = false → WT u es1 Q)) : WT (tOr t u) es Q := fun σ G H Rs K hs k =>
  h σ G H Rs _ hs fun b G' H' Rs' es' s1 st ⟨q1, q2⟩ => by
    cases b with
    | false => exact q2 rfl σ G' H' Rs' K s1 fun b G2 H2 R2 e2 s2 st2 q => k b G2 H2 R2 e2 s2 (st.tr st2) q
    | true => exact k true G' H' Rs' es' s1 st (q1 rfl)
theorem wt_not {Q : Bool → Es → Prop} (h : WT t es fun b es1 => Q (!b) es1) : WT (tNot t) es Q := fun σ G H Rs K hs k => h σ G H Rs _ hs fun b G' H' Rs' es' s1 st q => k _ G' H' Rs' es' s1 st q
theorem we_andV {Q : PyData → Es → Prop} (h : WE ta es fun d es1 => ∃ b, d = .bool b ∧ (b = true → WE tb es1 Q) ∧ (b = false → Q (.bool false) es1)) : WE (tAndV ta tb) es Q := fun σ G H Rs K hs k =>
  h σ G H Rs _ hs fun v d G' H' Rs' es' s1 r st ⟨b, e, q1, q2⟩ => by
    subst e
    cases r
    refine ⟨b, rfl, ?_⟩
    cases b with
    | true => exact q1 rfl σ G' H' Rs' K s1 fun v d G2 H2 R2 e2 s2 r st2 q => k v d G2 H2 R2 e2 s2 r (st.tr st2) q
    | false => exact k _ _ G' H' Rs' es' s1 (.bl false) st (q2 rfl)
theorem we_orV {Q : PyData → Es → Prop} (h : WE ta es fun d es1 => ∃ b, d = .bool b ∧ (b = true → Q (.bool true) es1) ∧ (b = false → WE tb es1 Q)) : WE (tOrV ta tb) es Q := fun σ G H Rs K hs k =>
  h σ G H Rs _ hs fun v d G' H' Rs' es' s1 r st ⟨b, e, q1, q2⟩ => by
    subst e
    cases r
    refine ⟨b, rfl, ?_⟩
    cases b with
    | false => exact q2 rfl σ G' H' Rs' K s1 fun v d G2 H2 R2 e2 s2 r st2 q => k v d G2 H2 R2 e2 s2 r (st.tr st2) q
    | true => exact k _ _ G' H' Rs' es' s1 (.bl true) st (q1 rfl)
theorem we_notV {Q : PyData → Es → Prop} (h : WE ta es fun d es1 => ∃ b, d = .bool b ∧ Q (.bool (!b)) es1) : WE (tNotV ta) es Q := fun σ G H Rs K hs k =>
  h σ G H Rs _ hs fun v d G' H' Rs' es' s1 r st ⟨b, e, q1⟩ => by
    subst e
    cases r
    exact ⟨b, rfl, k _ _ G' H' Rs' es' s1 (.bl _) st q1⟩
theorem we_if {Q : PyData → Es → Prop} (h : WT c es fun b es1 => (b = true → WE ta es1 Q) ∧ (b = false → WE tb es1 Q)) : WE (tIf c ta tb) es Q := fun σ G H Rs K hs k =>
  h σ G H Rs _ hs fun b G' H' Rs' es' s1 st ⟨q1, q2⟩ => by
    cases b with
    | true => exact q1 rfl σ G' H' Rs' K s1 fun v d G2 H2 R2 e2 s2 r st2 q => k v d G2 H2 R2 e2 s2 r (st.tr st2) q
    | false => exact q2 rfl σ G' H' Rs' K s1 fun v d G2 H2 R2 e2 s2 r st2 q => k v d G2 H2 R2 e2 s2 r (st.tr st2) q
theorem we_mono {Q Q' : PyData → Es → Prop} (h : WE te es Q) (i : ∀ d e, Q d e → Q' d e) : WE te es Q' := fun σ G H Rs K hs k => h σ G H Rs K hs fun v d G' H' Rs' es' s1 r st q => k v d G' H' Rs' es' s1 r st (i _ _ q)
theorem wt_mono {Q Q' : Bool → Es → Prop} (h : WT t es Q) (i : ∀ d e, Q d e → Q' d e) : WT t es Q' := fun σ G H Rs K hs k => h σ G H Rs K hs fun v G' H' Rs' es' s1 st q => k v G' H' Rs' es' s1 st (i _ _ q)
theorem wm_mono {Q Q' : Own → Es → Prop} (h : WM te es Q) (i : ∀ d e, Q d e → Q' d e) : WM te es Q' := fun σ G H Rs K hs k => h σ G H Rs K hs fun v r G' H' Rs' Rr es' s1 t st q => k v r G' H' Rs' Rr es' s1 t st (i _ _ q)
theorem ws_mono {E' : SE} (h : WS ts es E) (a : ∀ e, E.nx e → E'.nx e) (b : ∀ r e, E.rt r e → E'.rt r e) (c : ∀ e, E.bk e → E'.bk e) (d : ∀ e, E.ct e → E'.ct e) : WS ts es E' := fun σ G H Rs D hs hh =>
  h σ G H Rs D hs ⟨fun σ' G' H' Rs' es' x y z => hh.nx σ' G' H' Rs' es' x y (a _ z), fun v r σ' G' H' Rs' Rr es' x y w z => hh.rt v r σ' G' H' Rs' Rr es' x y w (b _ _ z), fun σ' G' H' Rs' es' x y z => hh.bk σ' G' H' Rs' es' x y (c _ z), fun σ' G' H' Rs' es' x y z => hh.ct σ' G' H' Rs' es' x y (d _ z)⟩

/-! ### statements -/
theorem ws_seq (h : WS ts es { E with nx := fun e => WS us e E }) : WS (tSeq ts us) es E := fun σ G H Rs D hs hh =>
  h σ G H Rs { D with nx := us D } hs ⟨fun σ' G' H' Rs' es' x y z => z σ' G' H' Rs' D x (hh.step y), hh.rt, hh.bk, hh.ct⟩
theorem ws_nx (q : E.nx es) : WS tNext es E := fun σ G H Rs D hs hh => hh.nx σ G H Rs es hs .rf q
theorem ws_bk (q : E.bk es) : WS tBreak es E := fun σ G H Rs D hs hh => hh.bk σ G H Rs es hs .rf q
theorem ws_ct (q : E.ct es) : WS tCont es E := fun σ G H Rs D hs hh => hh.ct σ G H Rs es hs .rf q
theorem Sat.set {i : Nat} {r : Own} {v : V} {Rr : Addr → Prop} (hs : Sat G H σ es Rs) (t : Tmp r G H Rs Rr v) : Sat G H (σ.set i (some v)) (es.set i (some r)) (setR Rs i Rr) := by
  refine ⟨hs.ex, by rw [List.length_set, List.length_set]; exact hs.len, fun j r' h' => ?_, fun j l a h1 h2 => ?_, fun j a h1 => ?_, fun j a h1 => ?_, ⟨hs.st.g, hs.st.h, hs.st.d, fun a ⟨j, z⟩ => by
    unfold setR at z
    split at z
    · exact t.fr a z
    · exact hs.st.u a ⟨j, z⟩, hs.st.n⟩⟩
  · by_cases z : j = i
    · subst z
      have hj : j < es.length := by
        have q := (List.getElem?_eq_some_iff.mp h').1
        rw [List.length_set] at q
        exact q
      rw [List.getElem?_set_self hj] at h'
      cases h'
      refine ⟨v, List.getElem?_set_self (by rw [hs.len]; exact hj), ?_⟩
      unfold setR
      rw [if_pos rfl]
      exact t.p
    · rw [List.getElem?_set_ne (Ne.symm z)] at h'
      obtain ⟨v', a, b⟩ := hs.at' j r' h'
      refine ⟨v', by rw [List.getElem?_set_ne (Ne.symm z)]; exact a, ?_⟩
      unfold setR
      rw [if_neg z]
      exact b
  · unfold setR at h1 h2
    split at h1 <;> split at h2
    · rename_i z1 z2
      rw [z1, z2]
    · exact absurd h2 (t.dj l a h1)
    · exact absurd h1 (t.dj j a h2)
    · exact hs.dj j l a h1 h2
  · unfold setR at h1
    split at h1
    · exact t.ng a h1
    · exact hs.ng j a h1
  · unfold setR at h1
    split at h1
    · exact t.al2 a h1
    · exact hs.al2 j a h1
theorem un_setR {i : Nat} {Rr : Addr → Prop} : ∀ x, Un (setR Rs i Rr) x → Un Rs x ∨ Rr x := fun x ⟨j, h⟩ => by
  unfold setR at h
  split at h
  · exact .inr h
  · exact .inl ⟨j, h⟩
theorem ws_asg {i : Nat} (h : WM te es fun r e => E.nx (e.set i (some r))) : WS (tAsg te (gName i)) es E := fun σ G H Rs D hs hh =>
  h σ G H Rs _ hs fun v r G' H' Rs' Rr es' s1 t st q => hh.nx _ G' H' (setR Rs' i Rr) _ (s1.set t) (st.weak un_setR) q
theorem ws_asgE {i : Nat} (h : WE te es fun d e => E.nx (e.set i (some (fz d)))) : WS (tAsg te (gName i)) es E := ws_asg (wm_we h)
theorem ws_ret (h : WM te es E.rt) : WS (tRet te) es E := fun σ G H Rs D hs hh =>
  h σ G H Rs _ hs fun v r G' H' Rs' Rr es' s1 t st q => hh.rt v r σ G' H' Rs' Rr es' s1 t st q
theorem ws_retE (h : WE te es fun d e => E.rt (fz d) e) : WS (tRet te) es E := ws_ret (wm_we h)
theorem ws_retN (h : E.rt (fz .none) es) : WS tRetN es E := fun σ G H Rs D hs hh => hh.rt .non _ σ G H Rs noR es hs (tmp_fz .non) (Stp.rf.no) h
theorem ws_if (h : WT c es fun b e => (b = true → WS ts e E) ∧ (b = false → WS us e E)) : WS (tIfS c ts us) es E := fun σ G H Rs D hs hh =>
  h σ G H Rs _ hs fun b G' H' Rs' es' s1 st ⟨q1, q2⟩ => by
    cases b with
    | true => exact q1 rfl σ G' H' Rs' D s1 (hh.step st)
    | false => exact q2 rfl σ G' H' Rs' D s1 (hh.step st)
theorem ws_drop (h : WM te es fun _ e => E.nx e) : WS (tDrop te) es E := fun σ G H Rs D hs hh =>
  h σ G H Rs _ hs fun v r G' H' Rs' Rr es' s1 t st q => hh.nx σ G' H' Rs' es' s1 (st.weak fun x z => .inl z) q
theorem ws_dropE (h : WE te es fun _ e => E.nx e) : WS (tDrop te) es E := ws_drop (wm_we h)
/-- what is owned in slot i is frozen -/
theorem Sat.freeze {i : Nat} {r : Own} {d : PyData} (hs : Sat G H σ es Rs) (hi : es[i]? = some (some r)) (f : Frz r d) : ∃ G', Sat G' H σ (es.set i (some (fz d))) (setR Rs i noR) ∧ Stp G H (Un Rs) G' H (Un (setR Rs i noR)) := by
  obtain ⟨v, hv, p⟩ := hs.at' i r hi
  obtain ⟨G', e1, e2, n, q⟩ := f G H (Rs i) v p hs.ex (hs.ng i)
  refine ⟨G', ⟨e2, by rw [List.length_set]; exact hs.len, fun j r' h' => ?_, fun j l a h1 h2 => ?_, fun j a h1 => ?_, fun j a h1 => ?_, hs.st.tr ⟨e1, fun _ _ z _ => z, fun _ z => z, fun x ⟨j, z⟩ => by
    unfold setR at z
    split at z
    · exact z.elim
    · exact .inl ⟨j, z⟩, fun a z => (n a z).imp id fun z => .inr (.inl ⟨i, z⟩)⟩⟩, ⟨e1, fun _ _ z _ => z, fun _ z => z, fun x z => .inl ?_, fun a z => (n a z).imp id fun z => .inr (.inl ⟨i, z⟩)⟩⟩
  · by_cases z : j = i
    · subst z
      have hj : j < es.length := (List.getElem?_eq_some_iff.mp hi).1
      rw [List.getElem?_set_self hj] at h'
      cases h'
      exact ⟨v, hv, q⟩
    · rw [List.getElem?_set_ne (Ne.symm z)] at h'
      obtain ⟨v', a, b⟩ := hs.at' j r' h'
      refine ⟨v', a, ?_⟩
      unfold setR
      rw [if_neg z]
      exact r'.fr b e1 fun _ _ _ z => z
  · unfold setR at h1 h2
    split at h1
    · exact h1.elim
    · split at h2
      · exact h2.elim
      · exact hs.dj j l a h1 h2
  · unfold setR at h1
    split at h1
    · exact h1.elim
    · rename_i z
      cases g : G' a with
      | none => rfl
      | some o =>
        rcases n a (by rw [g]; simp) with y | y
        · exact absurd (hs.ng j a h1) y
        · exact absurd (hs.dj j i a h1 y) z
  · unfold setR at h1
    split at h1
    · exact h1.elim
    · exact hs.al2 j a h1
  · rcases un_setR x z with z | z
    · exact z
    · exact z.elim
theorem ws_frz {i : Nat} {r : Own} {d : PyData} (hi : es[i]? = some (some r)) (f : Frz r d) (h : WS ts (es.set i (some (fz d))) E) : WS ts es E := fun σ G H Rs D hs hh => by
  obtain ⟨G', s1, st⟩ := hs.freeze hi f
  exact h σ G' H _ D s1 (hh.step st)
theorem we_frz {i : Nat} {r : Own} {d : PyData} {Q : PyData → Es → Prop} (hi : es[i]? = some (some r)) (f : Frz r d) (h : WE te (es.set i (some (fz d))) Q) : WE te es Q := fun σ G H Rs K hs k => by
  obtain ⟨G', s1, st⟩ := hs.freeze hi f
  exact h σ G' H _ K s1 fun v d G2 H2 R2 e2 s2 r st2 q => k v d G2 H2 R2 e2 s2 r (st.tr st2) q
theorem wm_frz {i : Nat} {r : Own} {d : PyData} {Q : Own → Es → Prop} (hi : es[i]? = some (some r)) (f : Frz r d) (h : WM te (es.set i (some (fz d))) Q) : WM te es Q := fun σ G H Rs K hs k => by
  obtain ⟨G', s1, st⟩ := hs.freeze hi f
  exact h σ G' H _ K s1 fun v r G2 H2 R2 Rr e2 s2 t st2 q => k v r G2 H2 R2 Rr e2 s2 t (st.tr st2) q
theorem wt_frz {i : Nat} {r : Own} {d : PyData} {Q : Bool → Es → Prop} (hi : es[i]? = some (some r)) (f : Frz r d) (h : WT t (es.set i (some (fz d))) Q) : WT t es Q := fun σ G H Rs K hs k => by
  obtain ⟨G', s1, st⟩ := hs.freeze hi f
  exact h σ G' H _ K s1 fun v G2 H2 R2 e2 s2 st2 q => k v G2 H2 R2 e2 s2 (st.tr st2) q
/-- a slot is forgotten -/
theorem Sat.drop {es' : Es} (hs : Sat G H σ es Rs) (hl : es'.length = es.length) (h : ∀ (i : Nat) (r : Own), es'[i]? = some (some r) → es[i]? = some (some r)) : Sat G H σ es' Rs :=
  ⟨hs.ex, by rw [hl]; exact hs.len, fun i r q => hs.at' i r (h i r q), hs.dj, hs.ng, hs.al2, hs.st⟩
theorem set_none_some {i j : Nat} {r : Own} (h : (es.set j none)[i]? = some (some r)) : es[i]? = some (some r) := by
  by_cases z : i = j
  · subst z
    rw [List.getElem?_set] at h
    split at h
    · split at h <;> simp at h
    · rename_i z
      exact absurd rfl z
  · rw [List.getElem?_set_ne (Ne.symm z)] at h
    exact h
theorem ws_drp {j : Nat} (h : WS ts (es.set j none) E) : WS ts es E := fun σ G H Rs D hs hh => h σ G H Rs D (hs.drop (by rw [List.length_set]) fun i r q => set_none_some q) hh
/-- while -/
theorem ws_while (I : Nat → Es → Prop) {m0 : Nat} (h0 : I m0 es)
    (hs : ∀ m e, I m e → WT c e fun b e2 => (b = true → WS ts e2 { nx := fun e3 => ∃ m', m' < m ∧ I m' e3, rt := E.rt, bk := E.nx, ct := fun e3 => ∃ m', m' < m ∧ I m' e3 }) ∧ (b = false → E.nx e2)) : WS (tWhile c ts) es E := fun σ G H Rs D hs0 hh => by
  refine ⟨fun m σ' H' => ∃ e G' Rs', Sat G' H' σ' e Rs' ∧ Stp G H (Un Rs) G' H' (Un Rs') ∧ I m e, ⟨m0, es, G, Rs, hs0, .rf, h0⟩, ?_⟩
  rintro m σ1 H1 ⟨e, G1, R1, s1, st1, i1⟩
  refine hs m e i1 σ1 G1 H1 R1 _ s1 fun b G2 H2 R2 e2 s2 st2 ⟨q1, q2⟩ => ?_
  cases b with
  | true =>
    refine (if_pos rfl).mpr ⟨fun σ3 H3 => ∃ m', m' < m ∧ ∃ e G' Rs', Sat G' H3 σ3 e Rs' ∧ Stp G H (Un Rs) G' H3 (Un Rs') ∧ I m' e, fun σ3 H3 z => z, ?_⟩
    refine q1 rfl σ1 G2 H2 R2 _ s2 ⟨fun σ' G' H' Rs' es' x y z => ?_, (hh.step (st1.tr st2)).rt, fun σ' G' H' Rs' es' x y z => hh.nx σ' G' H' Rs' es' x ((st1.tr st2).tr y) z, fun σ' G' H' Rs' es' x y z => ?_⟩
    · obtain ⟨m', l, z⟩ := z
      exact ⟨m', l, es', G', Rs', x, (st1.tr st2).tr y, z⟩
    · obtain ⟨m', l, z⟩ := z
      exact ⟨m', l, es', G', Rs', x, (st1.tr st2).tr y, z⟩
  | false =>
    refine (if_neg Bool.false_ne_true).mpr ?_
    exact hh.nx σ1 G2 H2 R2 e2 s2 (st1.tr st2) (q2 rfl)
/-- for over data that stands still -/
theorem Sat.setv {i : Nat} {v : V} {d : PyData} (hs : Sat G H σ es Rs) (r : Rp G v d) : ∃ R2, Sat G H (σ.set i (some v)) (es.set i (some (fz d))) R2 ∧ ∀ x, Un R2 x → Un Rs x :=
  ⟨setR Rs i noR, hs.set (tmp_fz r), fun x z => (un_setR x z).elim id fun z => z.elim⟩
theorem ws_forL {j : Nat} (h : WE te es fun d e => ∃ ds, d = .list ds ∧ ∃ I : Nat → Es → Prop, I 0 e ∧ (∀ k x e, ds[k]? = some x → I k e → WS ts (e.set j (some (fz x))) { nx := I (k + 1), rt := E.rt, bk := E.nx, ct := I (k + 1) }) ∧ ∀ e, I ds.length e → E.nx e) :
    WS (tFor (iList K te) (gName j) ts) es E := fun σ G H Rs D hs hh => by
  refine h σ G H Rs _ hs fun v d G1 H1 R1 e1 s1 r st1 ⟨ds, ed, I, i0, it, ie⟩ => ?_
  subst ed
  cases r with
  | @lst a xs _ ha ra =>
    refine ⟨a, rfl, ⟨xs, SqL.of (s1.ex _ _ ha)⟩, for_list (K := K) (xs := xs) (fun k σ' H' => ∃ e G' Rs', Sat G' H' σ' e Rs' ∧ Stp G1 H1 (Un R1) G' H' (Un Rs') ∧ I k e) ⟨e1, G1, R1, s1, .rf, i0⟩ (fun k σ' H' _ ⟨e, G', Rs', s, st, _⟩ => SqL.of (s.ex _ _ (st.g _ _ ha))) ?_ ?_⟩
    · rintro k x σ2 H2 hx ⟨e, G2, R2, s2, st2, ik⟩
      obtain ⟨y, hy, ry⟩ := ra.getV hx
      obtain ⟨R3, s3, u3⟩ := s2.setv (i := j) (ry.mono st2.g)
      refine it k y e hy ik _ G2 H2 R3 _ s3 ?_
      have st3 : Stp G1 H1 (Un R1) G2 H2 (Un R3) := st2.weak u3
      exact ⟨fun σ' G' H' Rs' es' x y z => ⟨es', G', Rs', x, st3.tr y, z⟩, (hh.step (st1.tr st3)).rt, fun σ' G' H' Rs' es' x y z => hh.nx σ' G' H' Rs' es' x ((st1.tr st3).tr y) z, fun σ' G' H' Rs' es' x y z => ⟨es', G', Rs', x, st3.tr y, z⟩⟩
    · rintro σ2 H2 ⟨e, G2, R2, s2, st2, ik⟩
      rw [ra.length] at ik
      exact hh.nx σ2 G2 H2 R2 e s2 (st1.tr st2) (ie e ik)
theorem ws_forT {j : Nat} (h : WE te es fun d e => ∃ ds, d = .tuple ds ∧ ∃ I : Nat → Es → Prop, I 0 e ∧ (∀ k x e, ds[k]? = some x → I k e → WS ts (e.set j (some (fz x))) { nx := I (k + 1), rt := E.rt, bk := E.nx, ct := I (k + 1) }) ∧ ∀ e, I ds.length e → E.nx e) :
    WS (tFor (iTup K te) (gName j) ts) es E := fun σ G H Rs D hs hh => by
  refine h σ G H Rs _ hs fun v d G1 H1 R1 e1 s1 r st1 ⟨ds, ed, I, i0, it, ie⟩ => ?_
  subst ed
  cases r with
  | @tup a xs _ ha ra =>
    refine ⟨a, rfl, ⟨xs, SqT.of (s1.ex _ _ ha)⟩, for_tup (K := K) (xs := xs) (fun k σ' H' => ∃ e G' Rs', Sat G' H' σ' e Rs' ∧ Stp G1 H1 (Un R1) G' H' (Un Rs') ∧ I k e) ⟨e1, G1, R1, s1, .rf, i0⟩ (fun k σ' H' _ ⟨e, G', Rs', s, st, _⟩ => SqT.of (s.ex _ _ (st.g _ _ ha))) ?_ ?_⟩
    · rintro k x σ2 H2 hx ⟨e, G2, R2, s2, st2, ik⟩
      obtain ⟨y, hy, ry⟩ := ra.getV hx
      obtain ⟨R3, s3, u3⟩ := s2.setv (i := j) (ry.mono st2.g)
      refine it k y e hy ik _ G2 H2 R3 _ s3 ?_
      have st3 : Stp G1 H1 (Un R1) G2 H2 (Un R3) := st2.weak u3
      exact ⟨fun σ' G' H' Rs' es' x y z => ⟨es', G', Rs', x, st3.tr y, z⟩, (hh.step (st1.tr st3)).rt, fun σ' G' H' Rs' es' x y z => hh.nx σ' G' H' Rs' es' x ((st1.tr st3).tr y) z, fun σ' G' H' Rs' es' x y z => ⟨es', G', Rs', x, st3.tr y, z⟩⟩
    · rintro σ2 H2 ⟨e, G2, R2, s2, st2, ik⟩
      rw [ra.length] at ik
      exact hh.nx σ2 G2 H2 R2 e s2 (st1.tr st2) (ie e ik)
theorem ws_forR {j : Nat} {ta : TA} (h : WA ta es fun as e => ∃ n : Int, as = [.d (.int n)] ∧ n < 2 ^ 62 ∧ -(2 ^ 62) ≤ n ∧ ∃ I : Nat → Es → Prop, I 0 e ∧ (∀ (k : Nat) e, k < n.toNat → I k e → WS ts (e.set j (some (fz (.int k)))) { nx := I (k + 1), rt := E.rt, bk := E.nx, ct := I (k + 1) }) ∧ ∀ e, I n.toNat e → E.nx e) :
    WS (tFor (iRng1 ta) (gName j) ts) es E := fun σ G H Rs D hs hh => by
  refine h σ G H Rs _ hs fun vs as G1 H1 R1 e1 s1 r st1 ⟨n, ea, l1, l2, I, i0, it, ie⟩ => ?_
  subst ea
  cases r with
  | cons r rr =>
    cases rr
    have r : Rp G1 _ (.int n) := r
    cases r
    refine ⟨n, rfl, l2, l1, for_range (lo := 0) (n := n.toNat) (fun k σ' H' => ∃ e G' Rs', Sat G' H' σ' e Rs' ∧ Stp G1 H1 (Un R1) G' H' (Un Rs') ∧ I k e) ⟨e1, G1, R1, s1, .rf, i0⟩ ?_ ?_⟩
    · rintro k σ2 H2 hx ⟨e, G2, R2, s2, st2, ik⟩
      have e0 : (0 : Int) + (k : Int) = (k : Int) := Int.zero_add _
      rw [e0]
      obtain ⟨R3, s3, u3⟩ := s2.setv (i := j) (.int (k : Int))
      refine it k e hx ik _ G2 H2 R3 _ s3 ?_
      have st3 : Stp G1 H1 (Un R1) G2 H2 (Un R3) := st2.weak u3
      exact ⟨fun σ' G' H' Rs' es' x y z => ⟨es', G', Rs', x, st3.tr y, z⟩, (hh.step (st1.tr st3)).rt, fun σ' G' H' Rs' es' x y z => hh.nx σ' G' H' Rs' es' x ((st1.tr st3).tr y) z, fun σ' G' H' Rs' es' x y z => ⟨es', G', Rs', x, st3.tr y, z⟩⟩
    · rintro σ2 H2 ⟨e, G2, R2, s2, st2, ik⟩
      exact hh.nx σ2 G2 H2 R2 e s2 (st1.tr st2) (ie e ik)

/-! ### arguments -/
theorem wa_nil {Q : List Arg → Es → Prop} (q : Q [] es) : WA tNil es Q := fun σ G H Rs K hs k => k [] [] G H Rs es hs .nil .rf q
theorem wa_cons {ta : TA} {Q : List Arg → Es → Prop} (h : WE te es fun d e => WA ta e fun as e2 => Q (.d d :: as) e2) : WA (tCons te ta) es Q := fun σ G H Rs K hs k =>
  h σ G H Rs _ hs fun v d G1 H1 R1 e1 s1 r st1 q => q σ G1 H1 R1 _ s1 fun vs as G2 H2 R2 e2 s2 r2 st2 q2 => k (v :: vs) (.d d :: as) G2 H2 R2 e2 s2 (.cons (r.mono st2.g) r2) (st1.tr st2) q2
/-- what is owned in slot i is lent -/
theorem wa_slot {i : Nat} {ta : TA} {r : Own} {Q : List Arg → Es → Prop} (hi : es[i]? = some (some r)) (h : WA ta es fun as e2 => Q (.s i :: as) e2) : WA (tCons (tVar i) ta) es Q := fun σ G H Rs K hs k => by
  obtain ⟨v, e, p⟩ := hs.at' i r hi
  exact ⟨v, e, h σ G H Rs _ hs fun vs as G2 H2 R2 e2 s2 r2 st2 q2 => k (v :: vs) (.s i :: as) G2 H2 R2 e2 s2 (.cons e r2) st2 q2⟩
end
end DV

namespace DV
open PySem L2
variable [B : Bs]
section
variable {es : Es} {σ : L2.St} {G H : Hp} {Rs : Nat → Addr → Prop} {ta tb te : TE} {t u c : TT} {ts us : TS} {E : SE} {K : PySem.W.Frag}
/-! ### ints -/
theorem we_rI {C : Int → Int → Prop} {f : Int → Int → Int} {Q : PyData → Es → Prop} (h : WE ta es fun d e1 => ∃ i, d = .int i ∧ WE tb e1 fun d2 e2 => ∃ j, d2 = .int j ∧ C i j ∧ Q (.int (f i j)) e2) :
    WE (tOp (rI C fun i j => .int (f i j)) ta tb) es Q := fun σ G H Rs K hs k =>
  h σ G H Rs _ hs fun v d G1 H1 R1 e1 s1 r1 st1 ⟨i, ei, q⟩ => by
    subst ei
    cases r1
    refine q σ G1 H1 R1 _ s1 fun v d G2 H2 R2 e2 s2 r2 st2 ⟨j, ej, c, q⟩ => ?_
    subst ej
    cases r2
    exact ⟨i, j, rfl, rfl, c, k _ _ G2 H2 R2 e2 s2 (.int _) (st1.tr st2) q⟩
theorem we_rI0 {f : Int → Int → Int} {Q : PyData → Es → Prop} (h : WE ta es fun d e1 => ∃ i, d = .int i ∧ WE tb e1 fun d2 e2 => ∃ j, d2 = .int j ∧ Q (.int (f i j)) e2) :
    WE (tOp (rI0 fun i j => .int (f i j)) ta tb) es Q := fun σ G H Rs K hs k =>
  h σ G H Rs _ hs fun v d G1 H1 R1 e1 s1 r1 st1 ⟨i, ei, q⟩ => by
    subst ei
    cases r1
    refine q σ G1 H1 R1 _ s1 fun v d G2 H2 R2 e2 s2 r2 st2 ⟨j, ej, q⟩ => ?_
    subst ej
    cases r2
    exact ⟨i, j, rfl, rfl, k _ _ G2 H2 R2 e2 s2 (.int _) (st1.tr st2) q⟩
theorem we_rB0 {f : Int → Int → Bool} {Q : PyData → Es → Prop} (h : WE ta es fun d e1 => ∃ i, d = .int i ∧ WE tb e1 fun d2 e2 => ∃ j, d2 = .int j ∧ Q (.bool (f i j)) e2) :
    WE (tOp (rI0 fun i j => .bl (f i j)) ta tb) es Q := fun σ G H Rs K hs k =>
  h σ G H Rs _ hs fun v d G1 H1 R1 e1 s1 r1 st1 ⟨i, ei, q⟩ => by
    subst ei
    cases r1
    refine q σ G1 H1 R1 _ s1 fun v d G2 H2 R2 e2 s2 r2 st2 ⟨j, ej, q⟩ => ?_
    subst ej
    cases r2
    exact ⟨i, j, rfl, rfl, k _ _ G2 H2 R2 e2 s2 (.bl _) (st1.tr st2) q⟩
/-! ### == of scalars, is None -/
def scalD : PyData → Option V
  | .none => some .non
  | .bool b => some (.bl b)
  | .int i => some (.int i)
  | .str x => some (.str x)
  | _ => none
theorem Rp.scal {v : V} {d : PyData} {x : V} (r : Rp G v d) (h : scalD d = some x) : v = x := by
  cases r <;> simp [scalD] at h <;> exact h
theorem we_eq {Q : PyData → Es → Prop} (h : WE ta es fun d e1 => ∃ x, scalD d = some x ∧ WE tb e1 fun d2 e2 => ∃ y, scalD d2 = some y ∧ scal x y = true ∧ Q (.bool (decide (x = y))) e2) :
    WE (tOp rEq ta tb) es Q := fun σ G H Rs K hs k =>
  h σ G H Rs _ hs fun v d G1 H1 R1 e1 s1 r1 st1 ⟨x, ex, q⟩ => by
    have e := r1.scal ex
    subst e
    refine q σ G1 H1 R1 _ s1 fun v d G2 H2 R2 e2 s2 r2 st2 ⟨y, ey, sc, q⟩ => ?_
    have e := r2.scal ey
    subst e
    exact ⟨sc, k _ _ G2 H2 R2 e2 s2 (.bl _) (st1.tr st2) q⟩
theorem we_ne {Q : PyData → Es → Prop} (h : WE ta es fun d e1 => ∃ x, scalD d = some x ∧ WE tb e1 fun d2 e2 => ∃ y, scalD d2 = some y ∧ scal x y = true ∧ Q (.bool (!decide (x = y))) e2) :
    WE (tOp rNe ta tb) es Q := fun σ G H Rs K hs k =>
  h σ G H Rs _ hs fun v d G1 H1 R1 e1 s1 r1 st1 ⟨x, ex, q⟩ => by
    have e := r1.scal ex
    subst e
    refine q σ G1 H1 R1 _ s1 fun v d G2 H2 R2 e2 s2 r2 st2 ⟨y, ey, sc, q⟩ => ?_
    have e := r2.scal ey
    subst e
    exact ⟨sc, k _ _ G2 H2 R2 e2 s2 (.bl _) (st1.tr st2) q⟩
def isNoneD : PyData → Bool
  | .none => true
  | _ => false
theorem Rp.isNone {v : V} {d : PyData} (r : Rp G v d) : decide (v = .non) = isNoneD d := by
  cases r <;> simp [isNoneD]
theorem we_isN {Q : PyData → Es → Prop} (h : WE ta es fun d e1 => Q (.bool (isNoneD d)) e1) : WE (tOp (fun x y H Q => y = .non ∧ Q (.bl (decide (x = .non))) H) ta (tC .non)) es Q := fun σ G H Rs K hs k =>
  h σ G H Rs _ hs fun v d G1 H1 R1 e1 s1 r1 st1 q => ⟨rfl, by rw [r1.isNone]; exact k _ _ G1 H1 R1 e1 s1 (.bl _) st1 q⟩
theorem we_notN {Q : PyData → Es → Prop} (h : WE ta es fun d e1 => Q (.bool (!isNoneD d)) e1) : WE (tOp (fun x y H Q => y = .non ∧ Q (.bl (!decide (x = .non))) H) ta (tC .non)) es Q := fun σ G H Rs K hs k =>
  h σ G H Rs _ hs fun v d G1 H1 R1 e1 s1 r1 st1 q => ⟨rfl, by rw [r1.isNone]; exact k _ _ G1 H1 R1 e1 s1 (.bl _) st1 q⟩
/-! ### texts -/
theorem we_addS {Q : PyData → Es → Prop} (h : WE ta es fun d e1 => ∃ i, d = .str i ∧ WE tb e1 fun d2 e2 => ∃ j, d2 = .str j ∧ i.length + j.length ≤ sizeLine ∧ Q (.str (i ++ j)) e2) :
    WE (tOp (fun x y H Q => ∃ i j, x = .str i ∧ y = .str j ∧ i.length + j.length ≤ sizeLine ∧ Q (.str (i ++ j)) H) ta tb) es Q := fun σ G H Rs K hs k =>
  h σ G H Rs _ hs fun v d G1 H1 R1 e1 s1 r1 st1 ⟨i, ei, q⟩ => by
    subst ei
    cases r1
    refine q σ G1 H1 R1 _ s1 fun v d G2 H2 R2 e2 s2 r2 st2 ⟨j, ej, c, q⟩ => ?_
    subst ej
    cases r2
    exact ⟨i, j, rfl, rfl, c, k _ _ G2 H2 R2 e2 s2 (.str _) (st1.tr st2) q⟩
theorem we_inC {Q : PyData → Es → Prop} (h : WE ta es fun d e1 => ∃ c : Nat, d = .str ⟨#[c]⟩ ∧ WE tb e1 fun d2 e2 => ∃ z : Str, d2 = .str z ∧ Q (.bool (decide (c ∈ z.cps.toList))) e2) :
    WE (tOp (fun x y H Q => ∃ (c : Nat) (z : Str), x = .str ⟨#[c]⟩ ∧ y = .str z ∧ Q (.bl (decide (c ∈ z.cps.toList))) H) ta tb) es Q := fun σ G H Rs K hs k =>
  h σ G H Rs _ hs fun v d G1 H1 R1 e1 s1 r1 st1 ⟨i, ei, q⟩ => by
    subst ei
    cases r1
    refine q σ G1 H1 R1 _ s1 fun v d G2 H2 R2 e2 s2 r2 st2 ⟨j, ej, q⟩ => ?_
    subst ej
    cases r2
    exact ⟨i, j, rfl, rfl, k _ _ G2 H2 R2 e2 s2 (.bl _) (st1.tr st2) q⟩
/-! ### new objects -/
theorem stp_lay {p : Addr} {o : HO} {U : Addr → Prop} (hp : H p = none) : Stp G H U G (upd H p o) fun a => U a ∨ a = p :=
  ⟨ex_rf _, fun a u h _ => ex_new hp a u h, fun a z => by
    by_cases e : a = p
    · subst e
      exact hp
    · rw [upd_ne e] at z
      exact z, fun a z => z.elim .inl fun e => .inr (by rw [e]; exact hp), fun _ z => .inl z⟩
theorem Sat.lay {p : Addr} {o : HO} (hs : Sat G H σ es Rs) (hp : H p = none) : Sat G (upd H p o) σ es Rs :=
  ⟨ex_tr hs.ex (ex_new hp), hs.len, fun i r h => let ⟨v, a, b⟩ := hs.at' i r h; ⟨v, a, r.fr b (ex_rf _) fun a o _ z => ex_new hp a o z⟩, hs.dj, hs.ng, fun i a h => (hs.al2 i a h).ex fun o z => ex_new hp a o z, hs.st.tr ((stp_lay hp).weak fun a z => .inl z)⟩
theorem Sat.layG {p : Addr} {o : HO} (hs : Sat G H σ es Rs) (hp : H p = none) : Sat (upd G p o) (upd H p o) σ es Rs := by
  have gp : G p = none := by
    cases e : G p with
    | none => rfl
    | some u =>
      rw [hs.ex _ _ e] at hp
      cases hp
  refine (hs.lay hp).grow (ex_new gp) (ex_upd hs.ex) fun a z => ?_
  by_cases e : a = p
  · subst e
    exact .inr ⟨fun ⟨i, y⟩ => hs.al i a y hp, .inr (.inl (hs.st.d _ hp))⟩
  · rw [upd_ne e] at z
    exact .inl z
theorem stp_layG {p : Addr} {o : HO} {U : Addr → Prop} (e : Ex G H) (hp : H p = none) : Stp G H U (upd G p o) (upd H p o) U := by
  have gp : G p = none := by
    cases q : G p with
    | none => rfl
    | some u =>
      rw [e _ _ q] at hp
      cases hp
  refine ⟨ex_new gp, fun a u h _ => ex_new hp a u h, (stp_lay (G := G) (U := U) hp).d, fun a z => .inl z, fun a z => ?_⟩
  by_cases q : a = p
  · subst q
    exact .inr (.inl hp)
  · rw [upd_ne q] at z
    exact .inl z
theorem Sat.gnone {p : Addr} (hs : Sat G H σ es Rs) (hp : H p = none) : G p = none := by
  cases e : G p with
  | none => rfl
  | some u =>
    rw [hs.ex _ _ e] at hp
    cases hp
def isP (p : Addr) : Addr → Prop := fun a => a = p
theorem Sat.tmp {p : Addr} {o : HO} {r : Own} {v : V} (hs : Sat G H σ es Rs) (hp : H p = none) (nt : ∀ xs, o ≠ .tup xs) (h : r.P G (upd H p o) (isP p) v) : Tmp r G (upd H p o) Rs (isP p) v :=
  ⟨h, fun a z => by rw [show a = p from z]; exact hs.gnone hp, fun a z => by rw [show a = p from z]; exact .of upd_same nt, fun i a z y => by
    rw [show a = p from z] at y
    exact hs.al i p y hp, fun a z => .inr (by rw [show a = p from z]; exact hs.st.d _ hp)⟩
theorem tmp_ml {p : Addr} {vs : List V} {ds : List PyData} (hs : Sat G H σ es Rs) (hp : H p = none) (r : RpAll G vs ds) : Tmp (ml p ds) G (upd H p (.lst vs)) Rs (isP p) (.ref p) :=
  hs.tmp hp (fun _ z => nomatch z) ⟨rfl, rfl, vs, upd_same, r⟩
def unD : List Arg → Option (List PyData)
  | [] => some []
  | .d d :: r => (unD r).map (d :: ·)
  | .s _ :: _ => none
theorem unD_all : ∀ {as : List Arg} {vs : List V} {ds : List PyData}, AVs G σ as vs → unD as = some ds → RpAll G vs ds
  | _, _, _, .nil, h => by
    simp [unD] at h
    subst h
    exact .nil
  | _, _, _, .cons (a := .d d) (as := as) hv r, h => by
    simp only [unD, Option.map_eq_some_iff] at h
    obtain ⟨ds, e, rfl⟩ := h
    exact .cons hv (unD_all r e)
  | _, _, _, .cons (a := .s i) hv r, h => by simp [unD] at h
theorem wm_lst {ta : TA} {Q : Own → Es → Prop} (h : WA ta es fun as e => ∃ ds, unD as = some ds ∧ ds.length ≤ 100000 ∧ ∀ p, Q (ml p ds) e) : WM (tLst ta) es Q := fun σ G H Rs K hs k =>
  h σ G H Rs _ hs fun vs as G1 H1 R1 e1 s1 r1 st1 ⟨ds, ud, l, q⟩ => by
    have ra := unD_all r1 ud
    refine ⟨by rw [ra.length]; exact Nat.le_trans l (by decide), fun p hp => ?_⟩
    exact k _ _ G1 _ R1 (isP p) e1 (s1.lay hp) (tmp_ml s1 hp ra) (st1.tr (stp_lay hp)) (q p)
theorem we_tup {ta : TA} {Q : PyData → Es → Prop} (h : WA ta es fun as e => ∃ ds, unD as = some ds ∧ ds.length ≤ 100000 ∧ Q (.tuple ds) e) : WE (tTup ta) es Q := fun σ G H Rs K hs k =>
  h σ G H Rs _ hs fun vs as G1 H1 R1 e1 s1 r1 st1 ⟨ds, ud, l, q⟩ => by
    have ra := unD_all r1 ud
    refine ⟨by rw [ra.length]; exact Nat.le_trans l (by decide), fun p hp => ?_⟩
    exact k _ _ _ _ R1 e1 (s1.layG hp) (.tup upd_same (ra.mono (ex_new (s1.gnone hp)))) (st1.tr (stp_layG s1.ex hp)) q
theorem wm_dnew {Q : Own → Es → Prop} (h : ∀ p, Q (md p []) es) : WM tDNewK es Q := fun σ G H Rs K hs k p hp =>
  k _ _ G _ Rs (isP p) es (hs.lay hp) (hs.tmp (r := md p []) hp (fun _ z => nomatch z) ⟨rfl, rfl, [], upd_same, .nil⟩) (stp_lay hp) (h p)
/-! ### items -/
theorem atI_rp {vs : List V} {ds : List PyData} {i : Int} {x : PyData} (r : RpAll G vs ds) (h : atI ds i = some x) : ∃ v, atI vs i = some v ∧ Rp G v x := by
  unfold atI at h ⊢
  rw [r.length]
  cases e : ixN ds.length i with
  | none =>
    rw [e] at h
    cases h
  | some j =>
    rw [e] at h
    exact r.get h
theorem we_ixL {Q : PyData → Es → Prop} (h : WE ta es fun d e1 => ∃ ds, d = .list ds ∧ WE tb e1 fun d2 e2 => ∃ i x, d2 = .int i ∧ atI ds i = some x ∧ Q x e2) : WE (tOp (rIxL K) ta tb) es Q := fun σ G H Rs K hs k =>
  h σ G H Rs _ hs fun v d G1 H1 R1 e1 s1 r1 st1 ⟨ds, ed, q⟩ => by
    subst ed
    cases r1 with
    | @lst a vs _ ha ra =>
      refine q σ G1 H1 R1 _ s1 fun v d G2 H2 R2 e2 s2 r2 st2 ⟨i, x, ei, ex, q⟩ => ?_
      subst ei
      cases r2
      obtain ⟨v, hv, rv⟩ := atI_rp (ra.mono st2.g) ex
      exact ⟨a, vs, i, v, rfl, rfl, SqL.of (s2.ex _ _ (st2.g _ _ ha)), hv, k _ _ G2 H2 R2 e2 s2 rv (st1.tr st2) q⟩
theorem we_ixT {Q : PyData → Es → Prop} (h : WE ta es fun d e1 => ∃ ds, d = .tuple ds ∧ WE tb e1 fun d2 e2 => ∃ i x, d2 = .int i ∧ atI ds i = some x ∧ Q x e2) : WE (tOp (rIxT K) ta tb) es Q := fun σ G H Rs K hs k =>
  h σ G H Rs _ hs fun v d G1 H1 R1 e1 s1 r1 st1 ⟨ds, ed, q⟩ => by
    subst ed
    cases r1 with
    | @tup a vs _ ha ra =>
      refine q σ G1 H1 R1 _ s1 fun v d G2 H2 R2 e2 s2 r2 st2 ⟨i, x, ei, ex, q⟩ => ?_
      subst ei
      cases r2
      obtain ⟨v, hv, rv⟩ := atI_rp (ra.mono st2.g) ex
      exact ⟨a, vs, i, v, rfl, rfl, SqT.of (s2.ex _ _ (st2.g _ _ ha)), hv, k _ _ G2 H2 R2 e2 s2 rv (st1.tr st2) q⟩
theorem we_ixS {Q : PyData → Es → Prop} (h : WE ta es fun d e1 => ∃ z, d = .str z ∧ WE tb e1 fun d2 e2 => ∃ i c, d2 = .int i ∧ z.length ≤ sizeLine ∧ atI z.cps.toList i = some c ∧ Q (.str ⟨#[c]⟩) e2) : WE (tOp rIxS ta tb) es Q := fun σ G H Rs K hs k =>
  h σ G H Rs _ hs fun v d G1 H1 R1 e1 s1 r1 st1 ⟨z, ed, q⟩ => by
    subst ed
    cases r1
    refine q σ G1 H1 R1 _ s1 fun v d G2 H2 R2 e2 s2 r2 st2 ⟨i, c, ei, l, ec, q⟩ => ?_
    subst ei
    cases r2
    exact ⟨z, i, c, rfl, rfl, l, ec, k _ _ G2 H2 R2 e2 s2 (.str _) (st1.tr st2) q⟩
/-- an item of the list in slot i -/
theorem we_ixM {i : Nat} {p : Addr} {ds : List PyData} {Q : PyData → Es → Prop} (hi : es[i]? = some (some (ml p ds))) (h : WE tb es fun d2 e2 => ∃ n x, d2 = .int n ∧ e2[i]? = some (some (ml p ds)) ∧ atI ds n = some x ∧ Q x e2) : WE (tOp (rIxL K) (tVar i) tb) es Q := fun σ G H Rs K hs k => by
  obtain ⟨v, ev, e, hp, _⟩ := hs.at' i _ hi
  subst e
  refine ⟨_, ev, h σ G H Rs _ hs fun v d G2 H2 R2 e2 s2 r2 st2 ⟨n, x, en, h2, ex, q⟩ => ?_⟩
  subst en
  cases r2
  obtain ⟨v, ev2, e, hp, vs, hv, rv⟩ := s2.at' i _ h2
  subst e
  obtain ⟨w, hw, rw'⟩ := atI_rp rv ex
  exact ⟨p, vs, n, w, rfl, rfl, SqL.of hv, hw, k _ _ G2 H2 R2 e2 s2 rw' st2 q⟩
/-! ### slices -/
def WO (to : TO) (es : Es) (Q : Option Int → Es → Prop) : Prop := ∀ (σ : L2.St) (G H : Hp) (Rs : Nat → Addr → Prop) (K : Option Int → Hp → Prop), Sat G H σ es Rs →
  (∀ (b : Option Int) (G' H' : Hp) (Rs' : Nat → Addr → Prop) (es' : Es), Sat G' H' σ es' Rs' → Stp G H (Un Rs) G' H' (Un Rs') → Q b es' → K b H') → to σ H K
theorem wo_none {Q : Option Int → Es → Prop} (q : Q none es) : WO tNoPart es Q := fun σ G H Rs K hs k => k none G H Rs es hs .rf q
theorem wo_some {Q : Option Int → Es → Prop} (h : WE te es fun d e => ∃ i, d = .int i ∧ Q (some i) e) : WO (tPart te) es Q := fun σ G H Rs K hs k =>
  h σ G H Rs _ hs fun v d G1 H1 R1 e1 s1 r1 st1 ⟨i, ei, q⟩ => by
    subst ei
    cases r1
    exact ⟨i, rfl, k _ G1 H1 R1 e1 s1 st1 q⟩
def cutD (xs : List PyData) (lo hi : Option Int) : List PyData := (xs.drop (HT.sIx xs.length 0 lo)).take (HT.sIx xs.length xs.length hi - HT.sIx xs.length 0 lo)
theorem cut_rp {vs : List V} {ds : List PyData} {lo hi : Option Int} (r : RpAll G vs ds) : RpAll G (cutV vs lo hi) (cutD ds lo hi) := by
  unfold cutV cutD
  rw [r.length]
  exact RpAll.take _ (RpAll.drop _ r)
theorem wm_slL {tl th : TO} {Q : Own → Es → Prop} (h : WE te es fun d e1 => ∃ ds, d = .list ds ∧ WO tl e1 fun lo e2 => WO th e2 fun hi e3 => ∀ p, Q (ml p (cutD ds lo hi)) e3) : WM (tSl (rSlL K) te tl th) es Q := fun σ G H Rs K hs k =>
  h σ G H Rs _ hs fun v d G1 H1 R1 e1 s1 r1 st1 ⟨ds, ed, q⟩ => by
    subst ed
    cases r1 with
    | @lst a vs _ ha ra =>
      refine q σ G1 H1 R1 _ s1 fun lo G2 H2 R2 e2 s2 st2 q => q σ G2 H2 R2 _ s2 fun hi G3 H3 R3 e3 s3 st3 q => ?_
      refine ⟨a, vs, rfl, SqL.of (s3.ex _ _ (st3.g _ _ (st2.g _ _ ha))), fun p hp => ?_⟩
      exact k _ _ G3 _ R3 (isP p) e3 (s3.lay hp) (tmp_ml s3 hp (cut_rp (ra.mono (ex_tr st2.g st3.g)))) ((st1.tr (st2.tr st3)).tr (stp_lay hp)) (q p)
/-! ### len, list, tuple -/
theorem we_len {Q : PyData → Es → Prop} (h : WE te es fun d e1 => ((∃ ds, d = .list ds ∧ Q (.int ds.length) e1) ∨ (∃ ds, d = .tuple ds ∧ Q (.int ds.length) e1))) :
    WE (tCB (fun xs H Q => ∃ p ys, xs = [.ref p] ∧ (SqL K H p ys ∨ SqT K H p ys) ∧ Q (.int ys.length) H) (tCons te tNil)) es Q := fun σ G H Rs K hs k =>
  h σ G H Rs _ hs fun v d G1 H1 R1 e1 s1 r1 st1 q => by
    rcases q with ⟨ds, ed, q⟩ | ⟨ds, ed, q⟩
    · subst ed
      cases r1 with
      | @lst a vs _ ha ra =>
        refine ⟨a, vs, rfl, .inl (SqL.of (s1.ex _ _ ha)), ?_⟩
        rw [ra.length]
        exact k _ _ G1 H1 R1 e1 s1 (.int _) st1 q
    · subst ed
      cases r1 with
      | @tup a vs _ ha ra =>
        refine ⟨a, vs, rfl, .inr (SqT.of (s1.ex _ _ ha)), ?_⟩
        rw [ra.length]
        exact k _ _ G1 H1 R1 e1 s1 (.int _) st1 q
theorem we_lenM {i : Nat} {p : Addr} {ds : List PyData} {Q : PyData → Es → Prop} (hi : es[i]? = some (some (ml p ds))) (q : Q (.int ds.length) es) :
    WE (tCB (fun xs H Q => ∃ p ys, xs = [.ref p] ∧ (SqL K H p ys ∨ SqT K H p ys) ∧ Q (.int ys.length) H) (tCons (tVar i) tNil)) es Q := fun σ G H Rs K hs k => by
  obtain ⟨v, ev, e, hp, vs, hv, r⟩ := hs.at' i _ hi
  subst e
  refine ⟨_, ev, p, vs, rfl, .inl (SqL.of hv), ?_⟩
  rw [r.length]
  exact k _ _ G H Rs es hs (.int _) .rf q
theorem wm_list {Q : Own → Es → Prop} (h : WE te es fun d e1 => ∃ ds, (d = .list ds ∨ d = .tuple ds) ∧ ∀ p, Q (ml p ds) e1) :
    WM (tCB (fun xs H Q => ∃ p ys, xs = [.ref p] ∧ (SqL K H p ys ∨ SqT K H p ys) ∧ ∀ l, H l = none → Q (.ref l) (upd H l (.lst ys))) (tCons te tNil)) es Q := fun σ G H Rs K hs k =>
  h σ G H Rs _ hs fun v d G1 H1 R1 e1 s1 r1 st1 ⟨ds, q, qq⟩ => by
    rcases q with ed | ed
    · subst ed
      cases r1 with
      | @lst a vs _ ha ra =>
        exact ⟨a, vs, rfl, .inl (SqL.of (s1.ex _ _ ha)), fun p hp => k _ _ G1 _ R1 (isP p) e1 (s1.lay hp) (tmp_ml s1 hp ra) (st1.tr (stp_lay hp)) (qq p)⟩
    · subst ed
      cases r1 with
      | @tup a vs _ ha ra =>
        exact ⟨a, vs, rfl, .inr (SqT.of (s1.ex _ _ ha)), fun p hp => k _ _ G1 _ R1 (isP p) e1 (s1.lay hp) (tmp_ml s1 hp ra) (st1.tr (stp_lay hp)) (qq p)⟩
/-! ### methods of the list in slot i -/
theorem tyV_l {p : Addr} {vs : List V} (h : H p = some (.lst vs)) : tyV K "list" (.ref p) H := .inl ⟨rfl, vs, SqL.of h⟩
theorem RpAll.mo {G' : Hp} {vs : List V} {ds : List PyData} (r : RpAll G vs ds) (e : Ex G G') : RpAll G' vs ds := r.mono e
/-- the object at p of slot i changes -/
theorem stp_mut {U : Addr → Prop} {p : Addr} {o : HO} (hp : U p) (ha : H p ≠ none) : Stp G H U G (upd H p o) U :=
  ⟨ex_rf _, fun a u h n => by rw [upd_ne (fun z => n (by rw [z]; exact hp))]; exact h, fun a z => by
    by_cases e : a = p
    · subst e
      rw [upd_same] at z
      cases z
    · rw [upd_ne e] at z
      exact z, fun a z => .inl z, fun a z => .inl z⟩
theorem Sat.mut {i : Nat} {p : Addr} {o : HO} {r r' : Own} {v : V} (hs : Sat G H σ es Rs) (nt : ∀ xs, o ≠ .tup xs) (hi : es[i]? = some (some r)) (hv : σ[i]? = some (some v)) (hp : Rs i p) (h : r'.P G (upd H p o) (Rs i) v) : Sat G (upd H p o) σ (es.set i (some r')) Rs := by
  refine ⟨ex_mut hs.ex (hs.ng i p hp), by rw [List.length_set]; exact hs.len, fun j q hj => ?_, hs.dj, hs.ng, fun j a ha => ?_, hs.st.tr (stp_mut ⟨i, hp⟩ (hs.al i p hp))⟩
  · by_cases e : j = i
    · subst e
      rw [List.getElem?_set_self (List.getElem?_eq_some_iff.mp hi).1] at hj
      cases hj
      exact ⟨v, hv, h⟩
    · rw [List.getElem?_set_ne (Ne.symm e)] at hj
      obtain ⟨w, a, b⟩ := hs.at' j q hj
      refine ⟨w, a, q.fr b (ex_rf _) fun x u hx hu => ?_⟩
      rw [upd_ne (fun z => e (hs.dj j i x hx (by rw [z]; exact hp)))]
      exact hu
  · by_cases e : a = p
    · subst e
      exact .of upd_same nt
    · exact (hs.al2 j a ha).ex fun o z => by rw [upd_ne e]; exact z
theorem ws_append {i : Nat} {p : Addr} {ds : List PyData} (hi : es[i]? = some (some (ml p ds))) (h : WE te es fun d e1 => e1[i]? = some (some (ml p ds)) ∧ ds.length < 100000 ∧ E.nx (e1.set i (some (ml p (ds ++ [d]))))) :
    WS (tDrop (tBM K "list" rAppend (tVar i) (tCons te tNil))) es E := fun σ G H Rs D hs hh => by
  obtain ⟨v, ev, e, hp, vs, hv, r⟩ := hs.at' i _ hi
  subst e
  refine ⟨_, ev, tyV_l hv, h σ G H Rs _ hs fun v d G1 H1 R1 e1 s1 r1 st1 ⟨h1, l, q⟩ => ?_⟩
  obtain ⟨w, ew, e, hp, vs, hv, r⟩ := s1.at' i _ h1
  subst e
  refine ⟨p, vs, v, rfl, rfl, hv, by rw [r.length]; exact Nat.lt_trans l (by decide), ?_⟩
  exact hh.nx σ G1 _ R1 _ (s1.mut (fun _ z => nomatch z) (p := p) (r' := ml p (ds ++ [d])) h1 ew hp ⟨rfl, hp, _, upd_same, r.append (.one r1)⟩) (st1.tr (stp_mut ⟨i, hp⟩ (by rw [hv]; simp))) q
theorem seqIx {n k : Nat} (h : k < n) : seqIndex? (k : Int) n = some k := by
  have e : ixN n (k : Int) = some k := by
    unfold ixN
    rw [if_pos (by omega), if_pos (by omega)]
    simp
  exact (ixN_seq e).1
theorem we_popAt {i : Nat} {p : Addr} {ds : List PyData} {Q : PyData → Es → Prop} (hi : es[i]? = some (some (ml p ds))) (h : WE te es fun d e1 => e1[i]? = some (some (ml p ds)) ∧ ∃ (k : Nat) (y : PyData), d = .int k ∧ ds[k]? = some y ∧ ds.length < 100000 ∧ Q y (e1.set i (some (ml p (ds.eraseIdx k))))) :
    WE (tBM K "list" rPopAt (tVar i) (tCons te tNil)) es Q := fun σ G H Rs K hs kk => by
  obtain ⟨v, ev, e, hp, vs, hv, r⟩ := hs.at' i _ hi
  subst e
  refine ⟨_, ev, tyV_l hv, h σ G H Rs _ hs fun v d G1 H1 R1 e1 s1 r1 st1 ⟨h1, k, y, ed, hy, hz, q⟩ => ?_⟩
  subst ed
  cases r1
  obtain ⟨w, ew, e, hp, vs, hv, r⟩ := s1.at' i _ h1
  subst e
  obtain ⟨x, hx, rx⟩ := r.get hy
  have hk : k < vs.length := (List.getElem?_eq_some_iff.mp hx).1
  have hz : vs.length < 100000 := by rw [r.length]; exact hz
  refine ⟨p, vs, (k : Int), k, x, rfl, rfl, hv, by omega, by omega, seqIx hk, hx, ?_⟩
  exact kk x y G1 _ R1 _ (s1.mut (fun _ z => nomatch z) (p := p) (r' := ml p (ds.eraseIdx k)) h1 ew hp ⟨rfl, hp, _, upd_same, r.eraseIdx k⟩) rx (st1.tr (stp_mut ⟨i, hp⟩ (by rw [hv]; simp))) q
end
end DV

namespace DV
open PySem PySem.Spec PyProof.Rows L2
/-- the base at a state -/
abbrev bsAt (G H : Hp) (Rs : Nat → Addr → Prop) : Bs := ⟨G, H, Un Rs⟩
/-! ### what a def promises, at the data level -/
abbrev FSp := List Own → (Own → List Own → Prop) → Prop
def spF (F : FSp) : Sp := fun vs H Q _ => ∃ G args Rs, Sat0 G H (vs.map some) (args.map some) Rs ∧ ∃ P, F args P ∧ ∀ r args', args'.length = args.length → P r args' → ∀ v G' H' Rs' Rr, Sat0 G' H' (vs.map some) (args'.map some) Rs' →
  Tmp0 r G' H' Rs' Rr v → Stp G H (Un Rs) G' H' (fun a => Un Rs' a ∨ Rr a) → Q v H'
/-- the same value -/
def Pin (r r' : Own) : Prop := ∀ G H R v G' H' R' v', r.P G H R v → r'.P G' H' R' v' → v = v'
def Keep (args : List Own) (e : Es) (args' : List Own) (i : Nat) : Prop :=
  (∃ d, args[i]? = some (fz d) ∧ args'[i]? = some (fz d)) ∨ ∃ r r', args[i]? = some r ∧ args'[i]? = some r' ∧ e[i]? = some (some r') ∧ Pin r r'
@[irreducible] def Fin (args : List Own) (Q : Own → List Own → Prop) (r : Own) (e : Es) : Prop := ∃ args', args'.length = args.length ∧ (∀ i, i < args.length → Keep args e args' i) ∧ Q r args'
theorem Fin.out {args : List Own} {Q : Own → List Own → Prop} {r : Own} {e : Es} (h : Fin args Q r e) : ∃ args', args'.length = args.length ∧ (∀ i, i < args.length → Keep args e args' i) ∧ Q r args' := by
  unfold Fin at h
  exact h
theorem Fin.mk {args args' : List Own} {Q : Own → List Own → Prop} {r : Own} {e : Es} (h1 : args'.length = args.length) (h2 : ∀ i, i < args.length → Keep args e args' i) (h3 : Q r args') : Fin args Q r e := by
  unfold Fin
  exact ⟨args', h1, h2, h3⟩
def fin (args : List Own) (Q : Own → List Own → Prop) : SE := { nx := Fin args Q (fz .none), rt := Fin args Q }
theorem fin_sat {args args' : List Own} {e : Es} {vs : List V} {σ : L2.St} {G H G' H' : Hp} {Rs Rs' : Nat → Addr → Prop} (s : Sat0 G H (vs.map some) (args.map some) Rs) (s' : Sat0 G' H' σ e Rs') (g : Ex G G') (hl : args'.length = args.length)
    (k : ∀ i, i < args.length → Keep args e args' i) : Sat0 G' H' (vs.map some) (args'.map some) Rs' := by
  have hv : vs.length = args.length := by
    have := s.len
    simpa using this
  refine ⟨s'.ex, by rw [List.length_map, List.length_map, hl, hv], fun i r h => ?_, s'.dj, s'.ng, s'.al2⟩
  have hi : i < args'.length := by
    have q := (List.getElem?_eq_some_iff.mp h).1
    rw [List.length_map] at q
    exact q
  have ha : args'[i]? = some r := by simpa [List.getElem?_map] using h
  have at0 : ∀ r0, args[i]? = some r0 → ∃ v, (vs.map some)[i]? = some (some v) ∧ r0.P G H (Rs i) v := fun r0 h0 => s.at' i r0 (by rw [List.getElem?_map, h0]; rfl)
  rcases k i (by omega) with ⟨d, h1, h2⟩ | ⟨q, q', h1, h2, h3, pn⟩
  · rw [ha] at h2
    cases h2
    obtain ⟨v, a, b⟩ := at0 _ h1
    exact ⟨v, a, Rp.mono g b⟩
  · rw [ha] at h2
    cases h2
    obtain ⟨v, a, b⟩ := at0 _ h1
    obtain ⟨v', a', b'⟩ := s'.at' i _ h3
    rw [pn _ _ _ _ _ _ _ _ b b'] at a
    exact ⟨v', a, b'⟩
section
variable {P : Program} {w : World} {K : PySem.W.Frag} {mg : Str → Option Value} {base : Heap}
theorem sat_start {G H : Hp} {vs : List V} {args : List Own} {Rs : Nat → Addr → Prop} {N : List Str} (s : Sat0 G H (vs.map some) (args.map some) Rs) :
    Sat0 G H (L2.start N vs) (args.map some ++ List.replicate (N.length - args.length) none) Rs := by
  have hv : vs.length = args.length := by
    have := s.len
    simpa using this
  refine ⟨s.ex, by unfold L2.start; simp [hv], fun i r h => ?_, s.dj, s.ng, s.al2⟩
  by_cases hi : i < args.length
  · rw [List.getElem?_append_left (by simpa using hi)] at h
    obtain ⟨v, a, b⟩ := s.at' i r h
    exact ⟨v, by unfold L2.start; rw [List.getElem?_append_left (by simpa [hv] using hi)]; exact a, b⟩
  · rw [List.getElem?_append_right (by simpa using hi)] at h
    rw [List.getElem?_replicate] at h
    split at h <;> cases h
theorem fok {x qual : Str} {st : Stmt} {f : Addr} {fd : FuncData} {N ps : List Str} {k : Nat} {sp : FSp} (F : Fun K x qual st f fd) (S : FnScope N ps (defScope st)) (len : ∀ args Q, sp args Q → args.length = ps.length)
    (hbody : ∀ [B : Bs] (cdv : Value) (A : Around) (outer : List Env) (s : Shared) (H : Hp) (E : XK), Room k (A.deeper (envOfC qual (defScope st) s.heap.objs.size f cdv)) → ∀ args Q, sp args Q →
      ∃ t, PSs (cxOf CX0 P w K mg base N qual (defScope st) f cdv A outer s H E).nox (defBody st) t ∧ WS t (args.map some ++ List.replicate (N.length - args.length) none) (fin args Q)) : FnOk P w K mg base CX0 (k + 1) f fd ps (spF sp) := by
  refine F.ok S (fun vs H Q E h => ?_) (fun cdv A outer s H vs Q E hr h => ?_)
  · obtain ⟨G, args, Rs, hs, P, hp, _⟩ := h
    have := hs.len
    rw [List.length_map, List.length_map] at this
    rw [this]
    exact len _ _ hp
  · obtain ⟨G, args, Rs, hs, P, hp, hq⟩ := h
    letI : Bs := bsAt G H Rs
    obtain ⟨t, h1, h2⟩ := @hbody (bsAt G H Rs) cdv A outer s H E hr args P hp
    refine ⟨t, h1, h2 _ G H Rs _ ((sat_start hs).up .rf) ⟨fun σ' G' H' Rs' es' a b c => ?_, fun v r σ' G' H' Rs' Rr es' a b c d => ?_, fun σ' G' H' Rs' es' a b c => c.elim, fun σ' G' H' Rs' es' a b c => c.elim⟩⟩
    · obtain ⟨args', hl, kp, q⟩ := Fin.out c
      exact hq _ args' hl q .non G' H' Rs' noR (fin_sat hs a.z b.g hl kp) (tmp_fz .non).z b.no
    · obtain ⟨args', hl, kp, q⟩ := Fin.out d
      exact hq _ args' hl q v G' H' Rs' Rr (fin_sat hs a.z c.g hl kp) b.z c
end
/-! ### a call -/
def lend (es : Es) : List Arg → Option (List Own)
  | [] => some []
  | .d d :: r => (lend es r).map (fz d :: ·)
  | .s i :: r => match es[i]? with
    | some (some o) => (lend es r).map (o :: ·)
    | _ => none
def slots : List Arg → List Nat
  | [] => []
  | .d _ :: r => slots r
  | .s i :: r => i :: slots r
def back (e : Es) : List Arg → List Own → Es
  | .d _ :: as, _ :: os => back e as os
  | .s i :: as, o :: os => (back e as os).set i (some o)
  | _, _ => e
def idxS : List Arg → Nat → Option Nat
  | [], _ => none
  | .d _ :: as, j => (idxS as j).map (· + 1)
  | .s i :: as, j => if i = j then some 0 else (idxS as j).map (· + 1)
theorem lend_len {es : Es} : ∀ {as : List Arg} {os : List Own}, lend es as = some os → os.length = as.length
  | [], _, h => by
    simp [lend] at h
    subst h
    rfl
  | .d d :: r, _, h => by
    simp only [lend, Option.map_eq_some_iff] at h
    obtain ⟨os, e, rfl⟩ := h
    simp [lend_len e]
  | .s i :: r, _, h => by
    unfold lend at h
    split at h
    · simp only [Option.map_eq_some_iff] at h
      obtain ⟨os, e, rfl⟩ := h
      simp [lend_len e]
    · cases h
theorem lend_at {es : Es} : ∀ {as : List Arg} {os : List Own} {k : Nat} {r : Own}, lend es as = some os → os[k]? = some r → (∃ d, as[k]? = some (.d d) ∧ r = fz d) ∨ ∃ i, as[k]? = some (.s i) ∧ es[i]? = some (some r)
  | [], _, k, r, h, e => by
    simp [lend] at h
    subst h
    simp at e
  | .d d :: as, _, k, r, h, e => by
    simp only [lend, Option.map_eq_some_iff] at h
    obtain ⟨os, e1, rfl⟩ := h
    cases k with
    | zero =>
      simp at e
      exact .inl ⟨d, rfl, e.symm⟩
    | succ k =>
      simp at e
      simpa using lend_at e1 e
  | .s i :: as, _, k, r, h, e => by
    unfold lend at h
    split at h
    · rename_i o ho
      simp only [Option.map_eq_some_iff] at h
      obtain ⟨os, e1, rfl⟩ := h
      cases k with
      | zero =>
        simp at e
        subst e
        exact .inr ⟨i, rfl, ho⟩
      | succ k =>
        simp at e
        simpa using lend_at e1 e
    · cases h
theorem mem_slots : ∀ {as : List Arg} {k i : Nat}, as[k]? = some (.s i) → i ∈ slots as
  | [], k, i, h => by simp at h
  | .d d :: as, 0, i, h => by simp at h
  | .d d :: as, k + 1, i, h => by
    simp at h
    exact mem_slots (as := as) h
  | .s j :: as, 0, i, h => by
    simp at h
    subst h
    exact List.mem_cons_self
  | .s j :: as, k + 1, i, h => by
    simp at h
    exact List.mem_cons_of_mem _ (mem_slots (as := as) h)
theorem slots_inj : ∀ {as : List Arg} {k l i : Nat}, (slots as).Nodup → as[k]? = some (.s i) → as[l]? = some (.s i) → k = l
  | [], k, l, i, _, h, _ => by simp at h
  | .d d :: as, k, l, i, n, h1, h2 => by
    cases k with
    | zero => simp at h1
    | succ k => cases l with
      | zero => simp at h2
      | succ l =>
        simp at h1 h2
        rw [slots_inj (as := as) n h1 h2]
  | .s j :: as, k, l, i, n, h1, h2 => by
    have n' := List.nodup_cons.mp (show (j :: slots as).Nodup from n)
    cases k with
    | zero =>
      simp at h1
      subst h1
      cases l with
      | zero => rfl
      | succ l =>
        simp at h2
        exact absurd (mem_slots h2) n'.1
    | succ k => cases l with
      | zero =>
        simp at h2
        subst h2
        simp at h1
        exact absurd (mem_slots h1) n'.1
      | succ l =>
        simp at h1 h2
        rw [slots_inj (as := as) n'.2 h1 h2]
theorem idxS_some : ∀ {as : List Arg} {j k : Nat}, idxS as j = some k → as[k]? = some (.s j)
  | [], j, k, h => by simp [idxS] at h
  | .d d :: as, j, k, h => by
    simp only [idxS, Option.map_eq_some_iff] at h
    obtain ⟨l, e, rfl⟩ := h
    simpa using idxS_some e
  | .s i :: as, j, k, h => by
    unfold idxS at h
    split at h
    · rename_i e
      cases h
      rw [e]
      rfl
    · simp only [Option.map_eq_some_iff] at h
      obtain ⟨l, e, rfl⟩ := h
      simpa using idxS_some e
theorem back_len {e : Es} : ∀ {as : List Arg} {os : List Own}, (back e as os).length = e.length
  | [], _ => rfl
  | .d _ :: as, [] => rfl
  | .s _ :: as, [] => rfl
  | .d _ :: as, _ :: os => back_len (as := as)
  | .s i :: as, o :: os => by
    unfold back
    rw [List.length_set]
    exact back_len (as := as)
theorem back_at {e : Es} : ∀ {as : List Arg} {os : List Own} {j : Nat} {r : Own}, os.length = as.length → (back e as os)[j]? = some (some r) →
    (∃ k, idxS as j = some k ∧ os[k]? = some r) ∨ (idxS as j = none ∧ e[j]? = some (some r))
  | [], os, j, r, hl, h => .inr ⟨rfl, h⟩
  | .d d :: as, [], j, r, hl, h => by simp at hl
  | .s d :: as, [], j, r, hl, h => by simp at hl
  | .d d :: as, o :: os, j, r, hl, h => by
    rcases back_at (as := as) (os := os) (by simpa using hl) h with ⟨k, a, b⟩ | ⟨a, b⟩
    · exact .inl ⟨k + 1, by simp [idxS, a], by simpa using b⟩
    · exact .inr ⟨by simp [idxS, a], b⟩
  | .s i :: as, o :: os, j, r, hl, h => by
    unfold back at h
    by_cases q : i = j
    · subst q
      have hi : i < (back e as os).length := by
        have z := (List.getElem?_eq_some_iff.mp h).1
        rw [List.length_set] at z
        exact z
      rw [List.getElem?_set_self hi] at h
      cases h
      exact .inl ⟨0, by simp [idxS], rfl⟩
    · rw [List.getElem?_set_ne q] at h
      rcases back_at (as := as) (os := os) (by simpa using hl) h with ⟨k, a, b⟩ | ⟨a, b⟩
      · exact .inl ⟨k + 1, by simp [idxS, a, q], by simpa using b⟩
      · exact .inr ⟨by simp [idxS, a, q], b⟩
theorem AVs.length {G : Hp} {σ : L2.St} : ∀ {as : List Arg} {vs : List V}, AVs G σ as vs → vs.length = as.length
  | _, _, .nil => rfl
  | _, _, .cons _ r => congrArg (· + 1) (AVs.length r)
theorem AVs.get {G : Hp} {σ : L2.St} : ∀ {as : List Arg} {vs : List V} {k : Nat} {a : Arg}, AVs G σ as vs → as[k]? = some a → ∃ v, vs[k]? = some v ∧ AV G σ a v
  | _, _, k, a, .nil, h => by simp at h
  | _, _, 0, a, .cons h _, e => by
    simp at e
    subst e
    exact ⟨_, rfl, h⟩
  | _, _, k + 1, a, .cons _ r, e => by
    simp at e
    simpa using AVs.get r e
/-- the regions of the arguments -/
def argR (Rs : Nat → Addr → Prop) (as : List Arg) : Nat → Addr → Prop := fun k => match as[k]? with
  | some (.s i) => Rs i
  | _ => noR
def retR (Rs Rc : Nat → Addr → Prop) (as : List Arg) : Nat → Addr → Prop := fun j => match idxS as j with
  | some k => Rc k
  | none => Rs j
theorem argR_of {Rs : Nat → Addr → Prop} {as : List Arg} {k : Nat} {a : Addr} (h : argR Rs as k a) : ∃ i, as[k]? = some (.s i) ∧ Rs i a := by
  unfold argR at h
  cases q : as[k]? with
  | none =>
    rw [q] at h
    exact h.elim
  | some z =>
    rw [q] at h
    cases z with
    | d d => exact h.elim
    | s i => exact ⟨i, rfl, h⟩
section
variable {es : Es} {σ : L2.St} {G H : Hp} {Rs : Nat → Addr → Prop}
variable [B : Bs]
theorem sat_args {as : List Arg} {os : List Own} {vs : List V} (hs : Sat G H σ es Rs) (ha : AVs G σ as vs) (hl : lend es as = some os) (nd : (slots as).Nodup) : Sat0 G H (vs.map some) (os.map some) (argR Rs as) := by
  refine ⟨hs.ex, by rw [List.length_map, List.length_map, ha.length, lend_len hl], fun k r h => ?_, fun k l a h1 h2 => ?_, fun k a h => ?_, fun k a h => ?_⟩
  · have h0 : os[k]? = some r := by simpa [List.getElem?_map] using h
    rcases lend_at hl h0 with ⟨d, e, rfl⟩ | ⟨i, e, hi⟩
    · obtain ⟨v, hv, r⟩ := ha.get e
      exact ⟨v, by rw [List.getElem?_map, hv]; rfl, r⟩
    · obtain ⟨v, hv, r1⟩ := ha.get e
      obtain ⟨v', a, b⟩ := hs.at' i r hi
      have r1 : σ[i]? = some (some v) := r1
      rw [r1] at a
      cases a
      exact ⟨v, by rw [List.getElem?_map, hv]; rfl, by unfold argR; rw [e]; exact b⟩
  · obtain ⟨i, e1, z1⟩ := argR_of h1
    obtain ⟨j, e2, z2⟩ := argR_of h2
    have := hs.dj i j a z1 z2
    subst this
    exact slots_inj nd e1 e2
  · obtain ⟨i, _, z⟩ := argR_of h
    exact hs.ng i a z
  · obtain ⟨i, _, z⟩ := argR_of h
    exact hs.al2 i a z
theorem un_arg {as : List Arg} {a : Addr} (h : Un (argR Rs as) a) : Un Rs a := by
  obtain ⟨k, h⟩ := h
  obtain ⟨i, _, z⟩ := argR_of h
  exact ⟨i, z⟩
/-- behind the call -/
theorem sat_back {as : List Arg} {os' : List Own} {vs : List V} {G' H' : Hp} {Rc U : Nat → Addr → Prop} {Rr : Addr → Prop} (hs : Sat G H σ es Rs) (ha : AVs G σ as vs) (nd : (slots as).Nodup) (hl : os'.length = as.length)
    (s' : Sat0 G' H' (vs.map some) (os'.map some) Rc) (st : Stp G H (Un (argR Rs as)) G' H' (fun a => Un Rc a ∨ Rr a)) (hd : ∀ i a, Rr a → ¬ Rc i a) (hg : ∀ a, Rr a → G' a = none) (hal : ∀ a, Rr a → H' a ≠ none) :
    Sat G' H' σ (back es as os') (retR Rs Rc as) ∧ (∀ i a, Rr a → ¬ retR Rs Rc as i a) ∧ (∀ a, Rr a → B.U a ∨ B.H a = none) ∧ Stp G H (Un Rs) G' H' (fun a => Un (retR Rs Rc as) a ∨ Rr a) := by
  have out : ∀ j a, idxS as j = none → Rs j a → ¬ Un (argR Rs as) a := fun j a hj hr ⟨k, hk⟩ => by
    obtain ⟨i, e, z⟩ := argR_of hk
    have := hs.dj i j a z hr
    subst this
    have : ∀ {as : List Arg} {k : Nat}, as[k]? = some (.s i) → idxS as i ≠ none := by
      intro as
      induction as with
      | nil => intro k h; simp at h
      | cons a as ih =>
        intro k h q
        cases a with
        | d d =>
          cases k with
          | zero => simp at h
          | succ k =>
            simp at h
            simp only [idxS, Option.map_eq_none_iff] at q
            exact ih h q
        | s j =>
          unfold idxS at q
          split at q
          · cases q
          · rename_i ne
            cases k with
            | zero =>
              simp at h
              exact ne h
            | succ k =>
              simp at h
              simp only [Option.map_eq_none_iff] at q
              exact ih h q
    exact this e hj
  have old : ∀ j a, idxS as j = none → Rs j a → ¬ Rr a ∧ ∀ k, ¬ Rc k a := fun j a hj hr => by
    have al := hs.al j a hr
    have nu := out j a hj hr
    refine ⟨fun z => ?_, fun k z => ?_⟩
    · rcases st.u a (.inr z) with y | y
      · exact nu y
      · exact al y
    · rcases st.u a (.inl ⟨k, z⟩) with y | y
      · exact nu y
      · exact al y
  have stp : Stp G H (Un Rs) G' H' (fun a => Un (retR Rs Rc as) a ∨ Rr a) := by
    refine ⟨st.g, fun a o h n => st.h a o h fun z => n (un_arg z), st.d, fun a z => ?_, fun a z => (st.n a z).imp id fun z => z.imp id fun z => z.imp un_arg id⟩
    · rcases z with ⟨j, z⟩ | z
      · unfold retR at z
        cases e1 : idxS as j with
        | some k =>
          rw [e1] at z
          exact (st.u a (.inl ⟨k, z⟩)).imp un_arg id
        | none =>
          rw [e1] at z
          exact .inl ⟨j, z⟩
      · exact (st.u a (.inr z)).imp un_arg id
  refine ⟨⟨s'.ex, by rw [back_len]; exact hs.len, fun j r h => ?_, fun i j a h1 h2 => ?_, fun j a h => ?_, fun j a h => ?_, hs.st.tr (stp.weak fun x z => .inl z)⟩, fun j a h1 h2 => ?_, fun a z => ?_, stp⟩
  · rcases back_at hl h with ⟨k, e, hk⟩ | ⟨e, hk⟩
    · obtain ⟨v, hv, p⟩ := s'.at' k r (by rw [List.getElem?_map, hk]; rfl)
      obtain ⟨v2, hv2, q⟩ := ha.get (idxS_some e)
      rw [List.getElem?_map, hv2] at hv
      have : v2 = v := by simpa using hv
      subst this
      exact ⟨v2, q, by unfold retR; rw [e]; exact p⟩
    · obtain ⟨v, hv, p⟩ := hs.at' j r hk
      exact ⟨v, hv, by
        unfold retR
        rw [e]
        exact r.fr p st.g fun a o hr ho => st.h a o ho (out j a e hr)⟩
  · unfold retR at h1 h2
    cases e1 : idxS as i with
    | some k =>
      cases e2 : idxS as j with
      | some l =>
        rw [e1] at h1
        rw [e2] at h2
        have := s'.dj k l a h1 h2
        subst this
        have a1 := idxS_some e1
        have a2 := idxS_some e2
        rw [a1] at a2
        cases a2
        rfl
      | none =>
        rw [e1] at h1
        rw [e2] at h2
        exact absurd h1 ((old j a e2 h2).2 k)
    | none =>
      cases e2 : idxS as j with
      | some l =>
        rw [e1] at h1
        rw [e2] at h2
        exact absurd h2 ((old i a e1 h1).2 l)
      | none =>
        rw [e1] at h1
        rw [e2] at h2
        exact hs.dj i j a h1 h2
  · unfold retR at h
    cases e1 : idxS as j with
    | some k =>
      rw [e1] at h
      exact s'.ng k a h
    | none =>
      rw [e1] at h
      cases q : G' a with
      | none => rfl
      | some o =>
        rcases st.n a (by rw [q]; simp) with y | y | y
        · exact absurd (hs.ng j a h) y
        · exact absurd y (hs.al j a h)
        · rcases y with y | y
          · exact absurd y (out j a e1 h)
          · exact absurd y (hs.al2 j a h).nt
  · unfold retR at h
    cases e1 : idxS as j with
    | some k =>
      rw [e1] at h
      exact s'.al2 k a h
    | none =>
      rw [e1] at h
      exact (hs.al2 j a h).ex fun o z => st.h a o z (out j a e1 h)
  · unfold retR at h2
    cases e1 : idxS as j with
    | some k =>
      rw [e1] at h2
      exact hd k a h1 h2
    | none =>
      rw [e1] at h2
      exact (old j a e1 h2).1 h1
  · rcases st.u a (.inr z) with y | y
    · exact hs.st.u a (un_arg y)
    · exact .inr (hs.st.d a y)
theorem wm_call {sp : FSp} {EE : XK} {ta : TA} {Q : Own → Es → Prop} (h : WA ta es fun as e => ∃ os, lend e as = some os ∧ (slots as).Nodup ∧ sp os fun r os' => Q r (back e as os')) : WM (tCall (spF sp) [] EE ta) es Q := fun σ G H Rs K hs k =>
  h σ G H Rs _ hs fun vs as G1 H1 R1 e1 s1 r1 st1 ⟨os, hl, nd, q⟩ => by
    refine ⟨G1, os, argR R1 as, by rw [List.append_nil]; exact sat_args s1 r1 hl nd, _, q, fun r os' hl' q v G' H' Rc Rr s' t st => ?_⟩
    rw [List.append_nil] at s'
    obtain ⟨a, b, b2, c⟩ := sat_back (U := Rc) s1 r1 nd (by rw [hl', lend_len hl]) s' st t.dj t.ng t.al
    exact k v r G' H' _ Rr _ a ⟨t.p, t.ng, t.al2, b, b2⟩ (st1.tr c) q
theorem we_call {sp : FSp} {EE : XK} {ta : TA} {Q : PyData → Es → Prop} (h : WA ta es fun as e => ∃ os, lend e as = some os ∧ (slots as).Nodup ∧ sp os fun r os' => ∃ d, Frz r d ∧ Q d (back e as os')) : WE (tCall (spF sp) [] EE ta) es Q :=
  we_wm (wm_call h)
/-- a method of the object in slot i -/
def IsIns (C : Addr) (m : Str) (r : Own) : Prop := ∀ G H R v, r.P G H R v → ∃ a dx fs, v = .ref a ∧ H a = some (.ins C dx fs) ∧ fs.lookup m = none
theorem wm_meth {C : Addr} {m : Str} {sp : FSp} {EE : XK} {ta : TA} {i : Nat} {r0 : Own} {Q : Own → Es → Prop} (hi : es[i]? = some (some r0)) (hc : IsIns C m r0) (h : WA ta es fun as e => ∃ os, lend e (.s i :: as) = some os ∧ (slots (.s i :: as)).Nodup ∧ sp os fun r os' => Q r (back e (.s i :: as) os')) :
    WM (tMeth C m (spF sp) [] EE (tVar i) ta) es Q := fun σ G H Rs K hs k => by
  obtain ⟨v0, hv, p⟩ := hs.at' i r0 hi
  obtain ⟨a, dx, fs, e0, ha, lk⟩ := hc _ _ _ _ p
  subst e0
  refine ⟨_, hv, a, dx, fs, rfl, ha, lk, h σ G H Rs _ hs fun vs as G1 H1 R1 e1 s1 r1 st1 ⟨os, hl, nd, q⟩ => ?_⟩
  have r2 : AVs G1 σ (.s i :: as) (.ref a :: vs) := .cons hv r1
  refine ⟨G1, os, argR R1 (.s i :: as), by rw [List.append_nil]; exact sat_args s1 r2 hl nd, _, q, fun r os' hl' q v G' H' Rc Rr s' t st => ?_⟩
  rw [List.append_nil] at s'
  obtain ⟨a, b, b2, c⟩ := sat_back (U := Rc) s1 r2 nd (by rw [hl', lend_len hl]) s' st t.dj t.ng t.al
  exact k v r G' H' _ Rr _ a ⟨t.p, t.ng, t.al2, b, b2⟩ (st1.tr c) q
end
end DV

namespace DV
open PySem PySem.Spec PyProof.Rows L2
/-! ### comprehensions -/
theorem wipe_get (σ : L2.St) : ∀ (vs : List Nat) (i : Nat), (wipe σ vs)[i]? = if i ∈ vs then (σ[i]?).map (fun _ => none) else σ[i]?
  | [], i => by simp [wipe]
  | v :: vs, i => by
    unfold wipe
    rw [List.getElem?_set, wipe_get σ vs i, wipe_length]
    by_cases h : v = i
    · subst h
      by_cases hl : v < σ.length
      · simp [hl]
      · simp [hl, List.getElem?_eq_none (Nat.le_of_not_lt hl)]
    · rw [if_neg h]
      by_cases h2 : i ∈ vs
      · simp [h2]
      · simp [h2, Ne.symm h]
theorem wipe_set {σ : L2.St} {vs : List Nat} {j : Nat} {x : Option V} (h : j ∈ vs) : wipe ((wipe σ vs).set j x) vs = wipe σ vs := by
  apply List.ext_getElem?
  intro i
  rw [wipe_get, wipe_get, List.getElem?_set, wipe_get, wipe_length]
  by_cases q : i ∈ vs
  · rw [if_pos q, if_pos q]
    by_cases e : j = i
    · subst e
      by_cases l : j < σ.length
      · simp [l]
      · simp [l, List.getElem?_eq_none (Nat.le_of_not_lt l)]
    · rw [if_neg e]
      cases σ[i]? <;> rfl
  · have e : j ≠ i := fun e => q (e ▸ h)
    rw [if_neg q, if_neg q, if_neg e]
/-- the comprehension's own slots are empty -/
def Free (vs : List Nat) (e : Es) : Prop := ∀ v ∈ vs, ∀ r, e[v]? ≠ some (some r)
variable [B : Bs]
section
variable [B : Bs] {es : Es} {σ : L2.St} {G H : Hp} {Rs : Nat → Addr → Prop} {ta tb te tl : TE} {tt : TT} {K : PySem.W.Frag}
theorem Sat.wipe {vs : List Nat} (hs : Sat G H σ es Rs) (f : Free vs es) : Sat G H (L2.wipe σ vs) es Rs :=
  ⟨hs.ex, by rw [wipe_length]; exact hs.len, fun i r h => by
    obtain ⟨v, a, b⟩ := hs.at' i r h
    exact ⟨v, by rw [wipe_get, if_neg fun q => f i q r h]; exact a, b⟩, hs.dj, hs.ng, hs.al2, hs.st⟩
theorem Sat.unwipe {vs : List Nat} (hs : Sat G H (L2.wipe σ vs) es Rs) (f : Free vs es) : Sat G H σ es Rs :=
  ⟨hs.ex, by have := hs.len; rw [wipe_length] at this; exact this, fun i r h => by
    obtain ⟨v, a, b⟩ := hs.at' i r h
    rw [wipe_get, if_neg fun q => f i q r h] at a
    exact ⟨v, a, b⟩, hs.dj, hs.ng, hs.al2, hs.st⟩
theorem stp_out {G0 H0 : Hp} {U0 U : Addr → Prop} {p : Addr} {o : HO} (st : Stp G0 H0 U0 G H U) (hp : H0 p = none) : Stp G0 H0 U0 G (upd H p o) U :=
  ⟨st.g, fun a u h n => by rw [upd_ne (ne_of_none h hp)]; exact st.h a u h n, fun a z => by
    by_cases e : a = p
    · subst e
      exact hp
    · rw [upd_ne e] at z
      exact st.d a z, st.u, st.n⟩
/-- an object that no one knows changes -/
theorem Sat.out {p : Addr} {o : HO} (hs : Sat G H σ es Rs) (hg : G p = none) (hu : ¬ Un Rs p) (hb : B.H p = none) : Sat G (upd H p o) σ es Rs :=
  ⟨ex_mut hs.ex hg, hs.len, fun i r h => let ⟨v, a, b⟩ := hs.at' i r h; ⟨v, a, r.fr b (ex_rf _) fun x u hx h2 => by
      rw [upd_ne (fun z => hu ⟨i, by rw [← z]; exact hx⟩)]
      exact h2⟩, hs.dj, hs.ng, fun i a ha => (hs.al2 i a ha).ex fun u h2 => by
      rw [upd_ne (fun z => hu ⟨i, by rw [← z]; exact ha⟩)]
      exact h2, stp_out hs.st hb⟩
theorem Sat.clr {i : Nat} {v : Option V} (hs : Sat G H (σ.set i v) es Rs) : Sat G H σ (es.set i none) Rs :=
  ⟨hs.ex, by have := hs.len; rw [List.length_set] at this ⊢; exact this, fun j r h => by
    have hj : j ≠ i := fun e => by
      subst e
      rw [List.getElem?_set] at h
      simp at h
    rw [List.getElem?_set_ne (Ne.symm hj)] at h
    obtain ⟨w, a, b⟩ := hs.at' j r h
    rw [List.getElem?_set_ne (Ne.symm hj)] at a
    exact ⟨w, a, b⟩, hs.dj, hs.ng, hs.al2, hs.st.weak fun x z => z⟩
/-- what the iterator J tells: the data ds, at each state that meets C -/
def Src (J : It) (ds : List PyData) (C : Nat → Hp → Hp → Prop) : Prop :=
  (∀ k G H, C k G H → k < ds.length → J.go k H ∧ ∀ x H', J.yld k H x H' → H' = H ∧ ∃ d, ds[k]? = some d ∧ Rp G x d) ∧ ∀ G H, C ds.length G H → J.stop ds.length H
theorem lc_mid {J : It} {ds : List PyData} {j : Nat} {vs : List Nat} {Kf : VK} {D : Addr} {Q : Own → Es → Prop} (hj : j ∈ vs) (hs : Sat G H σ es Rs) (f0 : Free vs es) (hD : H D = none) (I : Nat → List PyData → Es → Prop) (h0 : I 0 [] es) (hl : ds.length ≤ 100000)
    (src : ∀ k acc e G' H' Rs', k ≤ ds.length → I k acc e → Sat G' H' σ e Rs' → Stp G H (Un Rs) G' H' (Un Rs') → (k < ds.length → J.go k H' ∧ ∀ x H'', J.yld k H' x H'' → H'' = H' ∧ ∃ d, ds[k]? = some d ∧ Rp G' x d) ∧ (k = ds.length → J.stop k H'))
    (turn : ∀ k x acc e, ds[k]? = some x → I k acc e → WT tt (e.set j (some (fz x))) fun b e2 => (b = true → WE te e2 fun y e3 => Free vs (e3.set j none) ∧ I (k + 1) (acc ++ [y]) (e3.set j none)) ∧ (b = false → Free vs (e2.set j none) ∧ I (k + 1) acc (e2.set j none)))
    (stop : ∀ acc e, I ds.length acc e → Q (ml D acc) e) (kk : ∀ v r G' H' Rs' Rr es', Sat G' H' σ es' Rs' → Tmp r G' H' Rs' Rr v → Stp G H (Un Rs) G' H' (fun a => Un Rs' a ∨ Rr a) → Q r es' → Kf v H') :
    ∃ W : Nat → Nat → Hp → Prop, (∃ m, W 0 m (upd H D (.lst []))) ∧ ∀ i m H, W i m H →
      (J.stop i H ∧ Kf (.ref D) H) ∨ (J.go i H ∧ ∃ Nx : Hp → Prop, (∀ H', Nx H' → ∃ m', m' < m ∧ W (i + 1) m' H') ∧ ∀ x H', J.yld i H x H' → (gName j) x (L2.wipe σ vs) H' fun σ2 H2 => L2.wipe σ2 vs = L2.wipe σ vs ∧ tt σ2 H2 fun b H3 =>
        if b = true then te σ2 H3 fun y H4 => ∃ acc, H4 D = some (.lst acc) ∧ acc.length < sizeLine ∧ Nx (upd H4 D (.lst (acc ++ [y]))) else Nx H3) := by
  let Pv : Nat → Hp → Prop := fun k H' => ∃ acc va e G' Rs', Sat G' H' (L2.wipe σ vs) e Rs' ∧ Free vs e ∧ H' D = some (.lst va) ∧ RpAll G' va acc ∧ G' D = none ∧ ¬ Un Rs' D ∧ Stp G H (Un Rs) G' H' (Un Rs') ∧ I k acc e ∧ acc.length ≤ k
  have hu : ¬ Un Rs D := fun ⟨i, z⟩ => hs.al i D z hD
  refine ⟨fun i m H' => m = ds.length - i ∧ i ≤ ds.length ∧ Pv i H', ⟨ds.length, by simp, Nat.zero_le _, [], [], es, G, Rs, (hs.lay hD).wipe f0, f0, upd_same, .nil, hs.gnone hD, hu, stp_out .rf hD, h0, Nat.le_refl _⟩, ?_⟩
  rintro i m H1 ⟨rfl, hi, acc, va, e, G1, R1, s1, f1, hv, rv, gD, uD, st, ik, al⟩
  obtain ⟨c1, c2⟩ := src i acc e G1 H1 R1 hi ik (s1.unwipe f1) st
  by_cases hlt : i < ds.length
  · obtain ⟨go, yl⟩ := c1 hlt
    refine .inr ⟨go, Pv (i + 1), fun H' p' => ⟨ds.length - (i + 1), by omega, rfl, hlt, p'⟩, fun x H' y => ?_⟩
    obtain ⟨eH, d, hd, rx⟩ := yl x H' y
    subst eH
    refine ⟨wipe_set hj, ?_⟩
    obtain ⟨R2, s2, u2⟩ := s1.setv (i := j) rx
    have noD : ∀ {G3 H3 R3}, Stp G1 H' (Un R2) G3 H3 (Un R3) → H3 D = some (.lst va) ∧ G3 D = none ∧ ¬ Un R3 D := fun {G3 H3 R3} st3 => by
      have nu : ¬ Un R2 D := fun z => uD (u2 _ z)
      refine ⟨st3.h D _ hv nu, ?_, fun z => ?_⟩
      · cases q : G3 D with
        | none => rfl
        | some o =>
          rcases st3.n D (by rw [q]; simp) with z | z | z | ⟨ys, z⟩
          · exact absurd gD z
          · rw [hv] at z
            cases z
          · exact absurd z nu
          · rw [hv] at z
            cases z
      · rcases st3.u D z with z | z
        · exact nu z
        · rw [hv] at z
          cases z
    refine turn i d acc e hd ik _ G1 H' R2 _ s2 fun b G3 H3 R3 e3 s3 st3 ⟨q1, q2⟩ => ?_
    have st3' : Stp G1 H' (Un R1) G3 H3 (Un R3) := (Stp.weak .rf u2).tr st3
    cases b with
    | true =>
      refine (if_pos rfl).mpr (q1 rfl _ G3 H3 R3 _ s3 fun v y G4 H4 R4 e4 s4 ry st4 ⟨f4, i4⟩ => ?_)
      obtain ⟨n1, n2, n3⟩ := noD (st3.tr st4)
      have st5 := st3'.tr st4
      refine ⟨va, n1, ?_, acc ++ [y], va ++ [v], e4.set j none, G4, R4, (s4.clr.out n2 n3 (hs.st.d D hD)), f4, upd_same, (rv.mono st5.g).append (.one ry), n2, n3, stp_out (st.tr st5) hD, i4, ?_⟩
      · rw [rv.length]
        exact Nat.lt_of_le_of_lt (Nat.le_trans al (Nat.le_trans hi hl)) (by decide)
      · rw [List.length_append, List.length_singleton]
        omega
    | false =>
      refine (if_neg Bool.false_ne_true).mpr ?_
      obtain ⟨n1, n2, n3⟩ := noD st3
      obtain ⟨f4, i4⟩ := q2 rfl
      exact ⟨acc, va, e3.set j none, G3, R3, s3.clr, f4, n1, rv.mono st3'.g, n2, n3, st.tr st3', i4, Nat.le_succ_of_le al⟩
  · have e0 : i = ds.length := by omega
    subst e0
    refine .inl ⟨c2 rfl, kk (.ref D) (ml D acc) G1 H1 R1 (isP D) e (s1.unwipe f1) ⟨⟨rfl, rfl, va, hv, rv⟩, fun a z => by rw [show a = D from z]; exact gD, fun a z => by rw [show a = D from z]; exact .of hv (fun _ z => nomatch z), fun i a z y => uD ⟨i, by rw [← show a = D from z]; exact y⟩, fun a z => .inr (by rw [show a = D from z]; exact hs.st.d D hD)⟩ ⟨st.g, st.h, st.d, fun a z => ?_, st.n⟩ (stop acc e ik)⟩
    rcases z with z | z
    · exact st.u a z
    · exact .inr (by rw [show a = D from z]; exact hD)
/-- what a comprehension asks: from the data ds on -/
def LcI (tt : TT) (te : TE) (j : Nat) (vs : List Nat) (ds : List PyData) (es : Es) (Q : Own → Es → Prop) : Prop :=
  j ∈ vs ∧ Free vs es ∧ ds.length ≤ 100000 ∧ ∃ I : Nat → List PyData → Es → Prop, I 0 [] es ∧
    (∀ k x acc e, ds[k]? = some x → I k acc e → WT tt (e.set j (some (fz x))) fun b e2 => (b = true → WE te e2 fun y e3 => Free vs (e3.set j none) ∧ I (k + 1) (acc ++ [y]) (e3.set j none)) ∧ (b = false → Free vs (e2.set j none) ∧ I (k + 1) acc (e2.set j none))) ∧
    ∀ acc e, I ds.length acc e → ∀ p, Q (ml p acc) e
theorem wm_lcL {j : Nat} {vs : List Nat} {Q : Own → Es → Prop} (h : WE tl es fun d e => ∃ ds, d = .list ds ∧ LcI tt te j vs ds e Q) : WM (tLc (iList K tl) (gName j) tt te vs) es Q := fun σ G H Rs Kf hs kk =>
  h σ G H Rs _ hs fun v d G1 H1 R1 e1 s1 r1 st1 ⟨ds, ed, hj, f, l, I, i0, it, ie⟩ => by
    subst ed
    cases r1 with
    | @lst a xs _ ha ra =>
      refine ⟨a, rfl, ⟨xs, SqL.of (s1.ex _ _ ha)⟩, fun D hD => lc_mid hj s1 f hD I i0 l (fun k acc e G' H' Rs' hk ik s st => ?_) it (fun acc e i => ie acc e i D) fun v r G' H' Rs' Rr es' a b c d => kk v r G' H' Rs' Rr es' a b (st1.tr c) d⟩
      have hx : SqL K H' a xs := SqL.of (s.ex _ _ (st.g _ _ ha))
      refine ⟨fun hk => ?_, fun e => ⟨xs, hx, by rw [ra.length]; omega⟩⟩
      have hk2 : k < xs.length := by rw [ra.length]; exact hk
      refine ⟨⟨xs, xs[k], hx, List.getElem?_eq_getElem hk2⟩, fun x H'' ⟨e, y⟩ => ⟨e, ?_⟩⟩
      obtain ⟨d, hd, rd⟩ := ra.getV (y xs hx)
      exact ⟨d, hd, rd.mono st.g⟩
theorem wm_lcT {j : Nat} {vs : List Nat} {Q : Own → Es → Prop} (h : WE tl es fun d e => ∃ ds, d = .tuple ds ∧ LcI tt te j vs ds e Q) : WM (tLc (iTup K tl) (gName j) tt te vs) es Q := fun σ G H Rs Kf hs kk =>
  h σ G H Rs _ hs fun v d G1 H1 R1 e1 s1 r1 st1 ⟨ds, ed, hj, f, l, I, i0, it, ie⟩ => by
    subst ed
    cases r1 with
    | @tup a xs _ ha ra =>
      refine ⟨a, rfl, ⟨xs, SqT.of (s1.ex _ _ ha)⟩, fun D hD => lc_mid hj s1 f hD I i0 l (fun k acc e G' H' Rs' hk ik s st => ?_) it (fun acc e i => ie acc e i D) fun v r G' H' Rs' Rr es' a b c d => kk v r G' H' Rs' Rr es' a b (st1.tr c) d⟩
      have hx : SqT K H' a xs := SqT.of (s.ex _ _ (st.g _ _ ha))
      refine ⟨fun hk => ?_, fun e => ⟨xs, hx, by rw [ra.length]; omega⟩⟩
      have hk2 : k < xs.length := by rw [ra.length]; exact hk
      refine ⟨⟨xs, xs[k], hx, List.getElem?_eq_getElem hk2⟩, fun x H'' ⟨e, y⟩ => ⟨e, ?_⟩⟩
      obtain ⟨d, hd, rd⟩ := ra.getV (y xs hx)
      exact ⟨d, hd, rd.mono st.g⟩
def upto (n : Nat) : List PyData := (List.range n).map fun (k : Nat) => PyData.int (k : Int)
theorem wm_lcR {j : Nat} {vs : List Nat} {ta : TA} {Q : Own → Es → Prop} (h : WA ta es fun as e => ∃ n : Int, as = [.d (.int n)] ∧ n < 2 ^ 62 ∧ -(2 ^ 62) ≤ n ∧ LcI tt te j vs (upto n.toNat) e Q) : WM (tLc (iRng1 ta) (gName j) tt te vs) es Q := fun σ G H Rs Kf hs kk =>
  h σ G H Rs _ hs fun ws as G1 H1 R1 e1 s1 r1 st1 ⟨n, ea, l1, l2, hj, f, l, I, i0, it, ie⟩ => by
    subst ea
    cases r1 with
    | cons r rr =>
      cases rr
      have r : Rp G1 _ (.int n) := r
      cases r
      refine ⟨n, rfl, l2, l1, fun D hD => lc_mid hj s1 f hD I i0 l (fun k acc e G' H' Rs' hk ik s st => ?_) it (fun acc e i => ie acc e i D) fun v r G' H' Rs' Rr es' a b c d => kk v r G' H' Rs' Rr es' a b (st1.tr c) d⟩
      have hn : (upto n.toNat).length = n.toNat := by simp [upto]
      refine ⟨fun hk => ⟨by rw [hn] at hk; exact hk, fun x H'' ⟨e, y⟩ => ⟨e, .int k, by rw [hn] at hk; simp [upto, hk], ?_⟩⟩, fun e => by rw [hn] at e; exact Nat.le_of_eq e.symm⟩
      rw [y, Int.zero_add]
      exact .int _
def signs (x : Str) : List PyData := x.cps.toList.map fun c => .str ⟨#[c]⟩
theorem wm_lcS {j : Nat} {vs : List Nat} {Q : Own → Es → Prop} (h : WE tl es fun d e => ∃ x, d = .str x ∧ LcI tt te j vs (signs x) e Q) : WM (tLc (iStr tl) (gName j) tt te vs) es Q := fun σ G H Rs Kf hs kk =>
  h σ G H Rs _ hs fun v d G1 H1 R1 e1 s1 r1 st1 ⟨x, ed, hj, f, l, I, i0, it, ie⟩ => by
    subst ed
    cases r1
    refine ⟨x, rfl, fun D hD => lc_mid hj s1 f hD I i0 l (fun k acc e G' H' Rs' hk ik s st => ?_) it (fun acc e i => ie acc e i D) fun v r G' H' Rs' Rr es' a b c d => kk v r G' H' Rs' Rr es' a b (st1.tr c) d⟩
    have hn : (signs x).length = x.cps.size := by simp [signs]
    refine ⟨fun hk => ⟨by rw [hn] at hk; exact hk, fun v H'' ⟨e, c, hc, y⟩ => ⟨e, .str ⟨#[c]⟩, ?_, ?_⟩⟩, fun e => by rw [hn] at e; exact Nat.le_of_eq e.symm⟩
    · have hc' : x.cps.toList[k]? = some c := by rw [Array.getElem?_toList]; exact hc
      unfold signs
      rw [List.getElem?_map, hc']
      rfl
    · rw [y]
      exact .str _
/-- over the list in slot i, which stands still -/
theorem wm_lcM {i j : Nat} {p : Addr} {ds : List PyData} {vs : List Nat} {Q : Own → Es → Prop} (hi : es[i]? = some (some (ml p ds))) (hj : j ∈ vs) (f : Free vs es) (l : ds.length ≤ 100000) (I : Nat → List PyData → Es → Prop) (h0 : I 0 [] es)
    (it : ∀ k x acc e, ds[k]? = some x → I k acc e → WT tt (e.set j (some (fz x))) fun b e2 => (b = true → WE te e2 fun y e3 => Free vs (e3.set j none) ∧ I (k + 1) (acc ++ [y]) (e3.set j none)) ∧ (b = false → Free vs (e2.set j none) ∧ I (k + 1) acc (e2.set j none)))
    (st : ∀ k acc e, I k acc e → e[i]? = some (some (ml p ds))) (ie : ∀ acc e, I ds.length acc e → ∀ p, Q (ml p acc) e) : WM (tLc (iList K (tVar i)) (gName j) tt te vs) es Q := fun σ G H Rs Kf hs kk => by
  obtain ⟨v, hv, e, hp, ws, hw, rw'⟩ := hs.at' i _ hi
  subst e
  refine ⟨_, hv, p, rfl, ⟨ws, SqL.of hw⟩, fun D hD => lc_mid hj hs f hD I h0 l (fun k acc e G' H' Rs' hk ik s st' => ?_) it (fun acc e i => ie acc e i D) kk⟩
  obtain ⟨v, hv, e2, hp, xs, hx, ra⟩ := s.at' i _ (st k acc e ik)
  have hx : SqL K H' p xs := SqL.of hx
  refine ⟨fun hk => ?_, fun e => ⟨xs, hx, by rw [ra.length]; omega⟩⟩
  have hk2 : k < xs.length := by rw [ra.length]; exact hk
  exact ⟨⟨xs, xs[k], hx, List.getElem?_eq_getElem hk2⟩, fun x H'' ⟨e, y⟩ => ⟨e, ra.getV (y xs hx)⟩⟩
/-- the plain case: a test and an element that are functions of the item, the slots as they are -/
theorem lcI_fn {j : Nat} {vs : List Nat} {ds : List PyData} {Q : Own → Es → Prop} (f : PyData → Bool) (g : PyData → PyData) (hj : j ∈ vs) (fr : Free vs es) (l : ds.length ≤ 100000)
    (ht : ∀ x ∈ ds, WT tt (es.set j (some (fz x))) fun b e2 => b = f x ∧ e2 = es.set j (some (fz x))) (he : ∀ x ∈ ds, f x = true → WE te (es.set j (some (fz x))) fun y e2 => y = g x ∧ e2 = es.set j (some (fz x)))
    (q : ∀ p, Q (ml p ((ds.filter f).map g)) es) (hn : es.set j none = es) : LcI tt te j vs ds es Q := by
  have hcl : ∀ x, (es.set j (some (fz x))).set j none = es := fun x => by rw [List.set_set, hn]
  refine ⟨hj, fr, l, fun k acc e => acc = ((ds.take k).filter f).map g ∧ e = es, ⟨by simp, rfl⟩, fun k x acc e hx ⟨ea, ee⟩ => ?_, fun acc e ⟨ea, ee⟩ p => ?_⟩
  · subst ea ee
    have hm : x ∈ ds := List.mem_of_getElem? hx
    have tk : ds.take (k + 1) = ds.take k ++ [x] := by rw [List.take_succ, hx]; rfl
    refine wt_mono (ht x hm) fun b e2 ⟨eb, ee⟩ => ⟨fun hb => ?_, fun hb => ?_⟩
    · rw [ee]
      have hfx : f x = true := by rw [← eb]; exact hb
      refine we_mono (he x hm hfx) fun y e3 ⟨ey, ee⟩ => ?_
      rw [ey, ee, hcl]
      refine ⟨fr, ?_, rfl⟩
      rw [tk, List.filter_append, List.map_append, List.filter_cons, if_pos hfx]
      rfl
    · have hfx : f x = false := by rw [← eb]; exact hb
      rw [ee, hcl]
      refine ⟨fr, ?_, rfl⟩
      rw [tk, List.filter_append, List.map_append, List.filter_cons, if_neg (by rw [hfx]; decide)]
      simp
  · subst ea ee
    rw [List.take_length]
    exact q p
theorem lcI_map {j : Nat} {vs : List Nat} {ds : List PyData} {Q : Own → Es → Prop} (g : PyData → PyData) (hj : j ∈ vs) (fr : Free vs es) (l : ds.length ≤ 100000)
    (he : ∀ x ∈ ds, WE te (es.set j (some (fz x))) fun y e2 => y = g x ∧ e2 = es.set j (some (fz x))) (q : ∀ p, Q (ml p (ds.map g)) es) (hn : es.set j none = es) : LcI tYes te j vs ds es Q :=
  lcI_fn (fun _ => true) g hj fr l (fun x _ σ G H Rs K hs k => k true G H Rs _ hs .rf ⟨rfl, rfl⟩) (fun x hx _ => he x hx) (fun p => by rw [List.filter_eq_self.mpr (fun _ _ => rfl)]; exact q p) hn
theorem wt_yes {Q : Bool → Es → Prop} (q : Q true es) : WT tYes es Q := fun σ G H Rs K hs k => k true G H Rs _ hs .rf q
end
end DV

namespace DV
open PySem PySem.Spec PyProof.Rows L2
section
variable [B : Bs] {es : Es} {σ : L2.St} {G H : Hp} {Rs : Nat → Addr → Prop} {ta tb te tl : TE} {tt : TT} {ts us : TS} {E : SE} {K : PySem.W.Frag}
theorem we_lenS {Q : PyData → Es → Prop} (h : WE te es fun d e1 => ∃ z : Str, d = .str z ∧ z.length ≤ sizeLine ∧ Q (.int z.length) e1) :
    WE (tCB (fun xs H Q => ∃ z : Str, xs = [.str z] ∧ z.length ≤ sizeLine ∧ Q (.int z.length) H) (tCons te tNil)) es Q := fun σ G H Rs K hs k =>
  h σ G H Rs _ hs fun v d G1 H1 R1 e1 s1 r1 st1 ⟨z, ed, l, q⟩ => by
    subst ed
    cases r1
    exact ⟨z, rfl, l, k _ _ G1 H1 R1 e1 s1 (.int _) st1 q⟩
theorem wm_cat {Q : Own → Es → Prop} (h : WE ta es fun d e1 => ∃ xs, d = .list xs ∧ WE tb e1 fun d2 e2 => ∃ ys, d2 = .list ys ∧ xs.length + ys.length ≤ 100000 ∧ ∀ p, Q (ml p (xs ++ ys)) e2) : WM (tOp rCat ta tb) es Q := fun σ G H Rs K hs k =>
  h σ G H Rs _ hs fun v d G1 H1 R1 e1 s1 r1 st1 ⟨xs, ed, q⟩ => by
    subst ed
    cases r1 with
    | @lst a vs _ ha ra =>
      refine q σ G1 H1 R1 _ s1 fun v d G2 H2 R2 e2 s2 r2 st2 ⟨ys, ed, l, q⟩ => ?_
      subst ed
      cases r2 with
      | @lst b ws _ hb rb =>
        refine ⟨a, b, vs, ws, rfl, rfl, s2.ex _ _ (st2.g _ _ ha), s2.ex _ _ hb, by rw [ra.length, rb.length]; exact Nat.le_trans l (by decide), fun p hp => ?_⟩
        exact k _ _ G2 _ R2 (isP p) e2 (s2.lay hp) (tmp_ml s2 hp ((ra.mono st2.g).append rb)) ((st1.tr st2).tr (stp_lay hp)) (q p)
theorem rp_bools : ∀ {vs : List V} {bs : List Bool}, RpAll G vs (bs.map .bool) → vs = bs.map V.bl
  | [], [], _ => rfl
  | [], _ :: _, h => by cases h
  | _ :: _, [], h => by cases h
  | _ :: vs, b :: bs, .cons h r => by
    cases h
    rw [rp_bools r]
    rfl
theorem rp_strs : ∀ {vs : List V} {bs : List Str}, RpAll G vs (bs.map .str) → vs = bs.map V.str
  | [], [], _ => rfl
  | [], _ :: _, h => by cases h
  | _ :: _, [], h => by cases h
  | _ :: vs, b :: bs, .cons h r => by
    cases h
    rw [rp_strs r]
    rfl
theorem rp_of_strs : ∀ (bs : List Str), RpAll G (bs.map V.str) (bs.map .str)
  | [] => .nil
  | b :: bs => .cons (.str b) (rp_of_strs bs)
theorem we_all {Q : PyData → Es → Prop} (h : WE te es fun d e1 => ∃ bs : List Bool, d = .list (bs.map .bool) ∧ Q (.bool (bs.all id)) e1) : WE (tCB (rAll K) (tCons te tNil)) es Q := fun σ G H Rs K hs k =>
  h σ G H Rs _ hs fun v d G1 H1 R1 e1 s1 r1 st1 ⟨bs, ed, q⟩ => by
    subst ed
    cases r1 with
    | @lst a vs _ ha ra =>
      have e := rp_bools ra
      subst e
      exact ⟨a, bs, rfl, SqL.of (s1.ex _ _ ha), k _ _ G1 H1 R1 e1 s1 (.bl _) st1 q⟩
theorem we_any {Q : PyData → Es → Prop} (h : WE te es fun d e1 => ∃ bs : List Bool, d = .list (bs.map .bool) ∧ Q (.bool (bs.any id)) e1) : WE (tCB (rAny K) (tCons te tNil)) es Q := fun σ G H Rs K hs k =>
  h σ G H Rs _ hs fun v d G1 H1 R1 e1 s1 r1 st1 ⟨bs, ed, q⟩ => by
    subst ed
    cases r1 with
    | @lst a vs _ ha ra =>
      have e := rp_bools ra
      subst e
      exact ⟨a, bs, rfl, SqL.of (s1.ex _ _ ha), k _ _ G1 H1 R1 e1 s1 (.bl _) st1 q⟩
/-- sep.join(list of texts) -/
theorem we_join {Q : PyData → Es → Prop} (h : WE ta es fun d e1 => ∃ a, d = .str a ∧ WE tb e1 fun d2 e2 => ∃ ys : List Str, d2 = .list (ys.map .str) ∧ (ys.map (·.length)).sum + ys.length * a.length ≤ 16777216 ∧ Q (.str (Txt.join a ys)) e2) :
    WE (tM1 (fun x xs H Q => ∃ a p, ∃ ys : List Str, x = .str a ∧ xs = [.ref p] ∧ (SqL K H p (ys.map V.str) ∨ SqT K H p (ys.map V.str)) ∧ (ys.map (·.length)).sum + ys.length * a.length ≤ 16777216 ∧ Q (.str (Txt.join a ys)) H) ta tb) es Q := fun σ G H Rs K hs k =>
  h σ G H Rs _ hs fun v d G1 H1 R1 e1 s1 r1 st1 ⟨a, ed, q⟩ => by
    subst ed
    cases r1
    refine ⟨⟨a, rfl⟩, q σ G1 H1 R1 _ s1 fun v d G2 H2 R2 e2 s2 r2 st2 ⟨ys, ed, l, q⟩ => ?_⟩
    subst ed
    cases r2 with
    | @lst b ws _ hb rb =>
      have e := rp_strs rb
      subst e
      exact ⟨a, b, ys, rfl, rfl, .inl (SqL.of (s2.ex _ _ hb)), l, k _ _ G2 H2 R2 e2 s2 (.str _) (st1.tr st2) q⟩
theorem wm_split {Q : Own → Es → Prop} (h : WE ta es fun d e1 => ∃ a, d = .str a ∧ WE tb e1 fun d2 e2 => ∃ b, d2 = .str b ∧ (b.length == 0) = false ∧ a.length + 2 ≤ sizeLine ∧ ∀ p, Q (ml p ((Txt.split a b).map .str)) e2) :
    WM (tM1 (fun x xs H Q => ∃ a b, x = .str a ∧ xs = [.str b] ∧ (b.length == 0) = false ∧ a.length + 2 ≤ sizeLine ∧ rNewStrs (Txt.split a b) H Q) ta tb) es Q := fun σ G H Rs K hs k =>
  h σ G H Rs _ hs fun v d G1 H1 R1 e1 s1 r1 st1 ⟨a, ed, q⟩ => by
    subst ed
    cases r1
    refine ⟨⟨a, rfl⟩, q σ G1 H1 R1 _ s1 fun v d G2 H2 R2 e2 s2 r2 st2 ⟨b, ed, c, l, q⟩ => ?_⟩
    subst ed
    cases r2
    exact ⟨a, b, rfl, rfl, c, l, fun p hp => k _ _ G2 _ R2 (isP p) e2 (s2.lay hp) (tmp_ml s2 hp (rp_of_strs _)) ((st1.tr st2).tr (stp_lay hp)) (q p)⟩
/-! ### in -/
theorem inV_str (x : Str) : ∀ ys : List Str, inV (.str x) (ys.map V.str) = decide (x ∈ ys)
  | [] => rfl
  | y :: ys => by
    have ih := inV_str x ys
    unfold inV at ih ⊢
    rw [List.map_cons, List.any_cons, ih]
    have e : eqV (.str y) (.str x) = decide (x = y) := by
      show (y == x) = decide (x = y)
      rw [Bool.beq_eq_decide_eq]
      by_cases q : y = x
      · rw [decide_eq_true q, decide_eq_true q.symm]
      · rw [decide_eq_false q, decide_eq_false (Ne.symm q)]
    rw [e]
    by_cases q : x = y <;> simp [q]
theorem flat_strs' (ys : List Str) : (ys.map V.str).all flatV = true := by
  rw [List.all_eq_true]
  intro v h
  obtain ⟨y, _, rfl⟩ := List.mem_map.mp h
  rfl
/-- a text in a list or tuple of texts -/
theorem we_inS {neg : Bool} {Q : PyData → Es → Prop} (h : WE ta es fun d e1 => ∃ x, d = .str x ∧ WE tb e1 fun d2 e2 => ∃ ys : List Str, (d2 = .list (ys.map .str) ∨ d2 = .tuple (ys.map .str)) ∧ Q (.bool (if neg then !decide (x ∈ ys) else decide (x ∈ ys))) e2) :
    WE (tOp (rIn K neg) ta tb) es Q := fun σ G H Rs K hs k =>
  h σ G H Rs _ hs fun v d G1 H1 R1 e1 s1 r1 st1 ⟨x, ed, q⟩ => by
    subst ed
    cases r1
    refine q σ G1 H1 R1 _ s1 fun v d G2 H2 R2 e2 s2 r2 st2 ⟨ys, ed, q⟩ => ?_
    rcases ed with ed | ed
    · subst ed
      cases r2 with
      | @lst b ws _ hb rb =>
        have e := rp_strs rb
        subst e
        refine ⟨b, _, rfl, .inl (SqL.of (s2.ex _ _ hb)), rfl, flat_strs' ys, ?_⟩
        rw [inV_str]
        exact k _ _ G2 H2 R2 e2 s2 (.bl _) (st1.tr st2) q
    · subst ed
      cases r2 with
      | @tup b ws _ hb rb =>
        have e := rp_strs rb
        subst e
        refine ⟨b, _, rfl, .inr (SqT.of (s2.ex _ _ hb)), rfl, flat_strs' ys, ?_⟩
        rw [inV_str]
        exact k _ _ G2 H2 R2 e2 s2 (.bl _) (st1.tr st2) q
end
/-! ### comprehensions, shorter -/
def freeB (vs : List Nat) (e : Es) : Bool := vs.all fun v => match e[v]? with
  | some (some _) => false
  | _ => true
theorem free_of {vs : List Nat} {e : Es} (h : freeB vs e = true) : Free vs e := fun v hv r q => by
  have := List.all_eq_true.mp h v hv
  rw [q] at this
  cases this
section
variable [B : Bs] {es : Es} {te : TE} {tt : TT}
theorem lcI_bools {j : Nat} {vs : List Nat} {ds : List PyData} {Q : List Bool → Es → Prop} (b : PyData → Bool) (hj : j ∈ vs) (fr : freeB vs es = true) (l : ds.length ≤ 100000)
    (he : ∀ x ∈ ds, WE te (es.set j (some (fz x))) fun y e2 => y = .bool (b x) ∧ e2 = es.set j (some (fz x))) (hn : es.set j none = es) (q : Q (ds.map b) es) :
    LcI tYes te j vs ds es fun r e => ∃ d, Frz r d ∧ ∃ bs : List Bool, d = .list (bs.map .bool) ∧ Q bs e :=
  lcI_map (fun x => .bool (b x)) hj (free_of fr) l he (fun p => ⟨_, frz_ml, ds.map b, by rw [List.map_map]; rfl, q⟩) hn
theorem lcI_map' {j : Nat} {vs : List Nat} {ds : List PyData} {Q : Own → Es → Prop} (g : PyData → PyData) (hj : j ∈ vs) (fr : freeB vs es = true) (l : ds.length ≤ 100000)
    (he : ∀ x ∈ ds, WE te (es.set j (some (fz x))) fun y e2 => y = g x ∧ e2 = es.set j (some (fz x))) (hn : es.set j none = es) (q : ∀ p, Q (ml p (ds.map g)) es) : LcI tYes te j vs ds es Q := lcI_map g hj (free_of fr) l he q hn
theorem lcI_fn' {j : Nat} {vs : List Nat} {ds : List PyData} {Q : Own → Es → Prop} (f : PyData → Bool) (g : PyData → PyData) (hj : j ∈ vs) (fr : freeB vs es = true) (l : ds.length ≤ 100000)
    (ht : ∀ x ∈ ds, WT tt (es.set j (some (fz x))) fun b e2 => b = f x ∧ e2 = es.set j (some (fz x))) (he : ∀ x ∈ ds, f x = true → WE te (es.set j (some (fz x))) fun y e2 => y = g x ∧ e2 = es.set j (some (fz x))) (hn : es.set j none = es)
    (q : ∀ p, Q (ml p ((ds.filter f).map g)) es) : LcI tt te j vs ds es Q := lcI_fn f g hj (free_of fr) l ht he q hn
theorem mem_signs {x : PyData} {s : Str} (h : x ∈ signs s) : ∃ c ∈ s.cps.toList, x = .str ⟨#[c]⟩ := by
  obtain ⟨c, hc, e⟩ := List.mem_map.mp h
  exact ⟨c, hc, e.symm⟩
theorem signs_length (s : Str) : (signs s).length = s.length := by simp [signs, Str.length]
end
/-! ### the end of a def -/
def Kp1 (r : Own) (e : Option Own) (r' : Own) : Prop := (∃ d, r = fz d ∧ r' = fz d) ∨ (e = some r' ∧ Pin r r')
def KpL : List Own → Es → List Own → Prop
  | [], _, [] => True
  | r :: rs, e :: es, r' :: rs' => Kp1 r e r' ∧ KpL rs es rs'
  | _, _, _ => False
theorem kpL : ∀ {args : List Own} {e : Es} {args' : List Own}, KpL args e args' → args'.length = args.length ∧ ∀ i, i < args.length → Keep args e args' i
  | [], e, [], _ => ⟨rfl, fun i h => absurd h (Nat.not_lt_zero _)⟩
  | [], e, _ :: _, h => by cases e <;> exact h.elim
  | r :: rs, [], args', h => by cases args' <;> exact h.elim
  | r :: rs, e :: es, [], h => h.elim
  | r :: rs, e :: es, r' :: rs', ⟨h1, h2⟩ => by
    obtain ⟨l, k⟩ := kpL h2
    refine ⟨by simp [l], fun i h => ?_⟩
    cases i with
    | zero =>
      rcases h1 with ⟨d, a, b⟩ | ⟨a, b⟩
      · exact .inl ⟨d, by simp [a], by simp [b]⟩
      · exact .inr ⟨r, r', rfl, rfl, by simp [a], b⟩
    | succ i =>
      have q := k i (by simpa using h)
      unfold Keep at q ⊢
      simpa using q
theorem fin_of {args args' : List Own} {e : Es} {Q : Own → List Own → Prop} {r : Own} (h : KpL args e args') (q : Q r args') : Fin args Q r e :=
  let ⟨a, b⟩ := kpL h
  Fin.mk a b q
theorem kp_fz {d : PyData} {e : Option Own} : Kp1 (fz d) e (fz d) := .inl ⟨d, rfl, rfl⟩
theorem kp_st {r r' : Own} (h : Pin r r') : Kp1 r (some r') r' := .inr ⟨rfl, h⟩
theorem fin0 {e : Es} {Q : Own → List Own → Prop} {r : Own} (q : Q r []) : Fin [] Q r e := fin_of (by cases e <;> trivial) q
theorem fin1 {a : PyData} {x : Option Own} {e : Es} {Q : Own → List Own → Prop} {r : Own} (q : Q r [fz a]) : Fin [fz a] Q r (x :: e) := fin_of (args' := [fz a]) ⟨kp_fz, by cases e <;> trivial⟩ q
theorem fin2 {a b : PyData} {x y : Option Own} {e : Es} {Q : Own → List Own → Prop} {r : Own} (q : Q r [fz a, fz b]) : Fin [fz a, fz b] Q r (x :: y :: e) := fin_of (args' := [fz a, fz b]) ⟨kp_fz, kp_fz, by cases e <;> trivial⟩ q
theorem fin3 {a b c : PyData} {x y z : Option Own} {e : Es} {Q : Own → List Own → Prop} {r : Own} (q : Q r [fz a, fz b, fz c]) : Fin [fz a, fz b, fz c] Q r (x :: y :: z :: e) := fin_of (args' := [fz a, fz b, fz c]) ⟨kp_fz, kp_fz, kp_fz, by cases e <;> trivial⟩ q
theorem fin4 {a b c d : PyData} {x y z u : Option Own} {e : Es} {Q : Own → List Own → Prop} {r : Own} (q : Q r [fz a, fz b, fz c, fz d]) : Fin [fz a, fz b, fz c, fz d] Q r (x :: y :: z :: u :: e) := fin_of (args' := [fz a, fz b, fz c, fz d]) ⟨kp_fz, kp_fz, kp_fz, kp_fz, by cases e <;> trivial⟩ q
theorem finS {s s' : Own} {e : Es} {Q : Own → List Own → Prop} {r : Own} (p : Pin s s') (q : Q r [s']) : Fin [s] Q r (some s' :: e) := fin_of (args' := [s']) ⟨kp_st p, by cases e <;> trivial⟩ q
theorem finS1 {s s' : Own} {a : PyData} {x : Option Own} {e : Es} {Q : Own → List Own → Prop} {r : Own} (p : Pin s s') (q : Q r [s', fz a]) : Fin [s, fz a] Q r (some s' :: x :: e) := fin_of (args' := [s', fz a]) ⟨kp_st p, kp_fz, by cases e <;> trivial⟩ q
theorem finS2 {s s' : Own} {a b : PyData} {x y : Option Own} {e : Es} {Q : Own → List Own → Prop} {r : Own} (p : Pin s s') (q : Q r [s', fz a, fz b]) : Fin [s, fz a, fz b] Q r (some s' :: x :: y :: e) := fin_of (args' := [s', fz a, fz b]) ⟨kp_st p, kp_fz, kp_fz, by cases e <;> trivial⟩ q
theorem finS3 {s s' : Own} {a b c : PyData} {x y z : Option Own} {e : Es} {Q : Own → List Own → Prop} {r : Own} (p : Pin s s') (q : Q r [s', fz a, fz b, fz c]) : Fin [s, fz a, fz b, fz c] Q r (some s' :: x :: y :: z :: e) := fin_of (args' := [s', fz a, fz b, fz c]) ⟨kp_st p, kp_fz, kp_fz, kp_fz, by cases e <;> trivial⟩ q
/-! ### a def of the text: where it stands -/
structure Df (K : PySem.W.Frag) (mg : Str → Option Value) (x : Str) (st : Stmt) (ps : List Str) where
  a : Addr
  fd : FuncData
  F : Fun K x x st a fd
  m : mg x = some (.ref a)
  b : Binds K fd ps []
structure Mf (K : PySem.W.Frag) (C : Addr) (x qual : Str) (st : Stmt) (ps : List Str) where
  a : Addr
  fd : FuncData
  F : Fun K x qual st a fd
  me : Meth K C x a
  b : Binds K fd ps []
end DV

namespace DV
open PySem PySem.Spec PyProof.Rows L2
/-! ### rows -/
inductive Row where
  | g (w : Str)
  | r (w : Str) (b : List Str)
  | c (b : List Str)
def strsD (b : List Str) : PyData := .list (b.map .str)
def rowD : Row → PyData
  | .g w => .tuple [.str "ground", .str w]
  | .r w b => .tuple [.str "rule", .str w, strsD b]
  | .c b => .tuple [.str "clash", strsD b]
def rowsD (rs : List Row) : PyData := .list (rs.map rowD)
def lettersS : Str := "abcdefghijklmnopqrstuvwxyz"
def WordOk (x : Str) : Prop := 1 ≤ x.length ∧ x.length ≤ 6 ∧ ∀ c ∈ x.cps.toList, c ∈ lettersS.cps.toList
def rBody : Row → List Str
  | .g _ => []
  | .r _ b => b
  | .c b => b
def rWords : Row → List Str
  | .g w => [w]
  | .r w b => w :: b
  | .c b => b
def RowOk (r : Row) : Prop := (∀ w ∈ rWords r, WordOk w) ∧ (rBody r).length ≤ 5
/-- the ground of a row -/
def rGround : Row → Option Str
  | .g w => some w
  | _ => none
def groundsOf (rs : List Row) : List Str := rs.filterMap rGround
/-! ### a book at a -/
def bk (C a l : Addr) (rs : List Row) : Own := ⟨fun G H R v => v = .ref a ∧ R a ∧ ∃ dx vs, R dx ∧ R l ∧ H dx = some (.own a) ∧ H a = some (.ins C dx [("told_rows", .ref l)]) ∧ H l = some (.lst vs) ∧ RpAll G vs (rs.map rowD),
  fun ⟨e, ra, dx, vs, rd, rl, h1, h2, h3, h4⟩ x k => ⟨e, ra, dx, vs, rd, rl, k _ _ rd h1, k _ _ ra h2, k _ _ rl h3, h4.mono x⟩⟩
/-- an instance just made -/
def rawI (C a : Addr) : Own := ⟨fun G H R v => v = .ref a ∧ R a ∧ ∃ dx, R dx ∧ dx ≠ a ∧ H dx = some (.own a) ∧ H a = some (.ins C dx []),
  fun ⟨e, ra, dx, rd, ne, h1, h2⟩ x k => ⟨e, ra, dx, rd, ne, k _ _ rd h1, k _ _ ra h2⟩⟩
theorem pin_bk {C C' a l l' : Addr} {rs rs' : List Row} : Pin (bk C a l rs) (bk C' a l' rs') := fun _ _ _ _ _ _ _ _ h h' => h.1.trans h'.1.symm
theorem pin_raw {C C' a l : Addr} {rs' : List Row} : Pin (rawI C a) (bk C' a l rs') := fun _ _ _ _ _ _ _ _ h h' => h.1.trans h'.1.symm
theorem ins_bk {C a l : Addr} {rs : List Row} {m : Str} (h : ¬ m = "told_rows") : IsIns C m (bk C a l rs) := fun G H R v ⟨e, _, dx, vs, _, _, _, h2, _⟩ => ⟨a, dx, _, e, h2, by
  have q : (m == ("told_rows" : Str)) = false := by simpa using h
  simp [List.lookup, q]⟩
section
variable [B : Bs] {es : Es} {σ : L2.St} {G H : Hp} {Rs : Nat → Addr → Prop} {ta tb te tl : TE} {tt : TT} {ts us : TS} {E : SE} {K : PySem.W.Frag} {C a l : Addr} {rs : List Row} {i : Nat}
theorem lk_told : ([("told_rows", V.ref l)] : List (Str × V)).lookup ("told_rows" : Str) = some (.ref l) := by simp [List.lookup]
theorem we_lenB {Q : PyData → Es → Prop} (c : Cls K C) (n : NoAttr K C "told_rows") (hi : es[i]? = some (some (bk C a l rs))) (q : Q (.int rs.length) es) :
    WE (tCB (fun xs H Q => ∃ p ys, xs = [.ref p] ∧ (SqL K H p ys ∨ SqT K H p ys) ∧ Q (.int ys.length) H) (tCons (tFld K (tVar i) "told_rows") tNil)) es Q := fun σ G H Rs K' hs k => by
  obtain ⟨v, hv, e, ra, dx, vs, rd, rl, h1, h2, h3, h4⟩ := hs.at' i _ hi
  subst e
  refine ⟨_, hv, a, C, dx, _, _, rfl, h2, c, n, lk_told, l, vs, rfl, .inl (SqL.of h3), ?_⟩
  rw [h4.length, List.length_map]
  exact k _ _ G H Rs es hs (.int _) .rf q
theorem wm_lcB {j : Nat} {vs : List Nat} {Q : Own → Es → Prop} (c : Cls K C) (n : NoAttr K C "told_rows") (hi : es[i]? = some (some (bk C a l rs))) (hj : j ∈ vs) (f : freeB vs es = true) (hz : rs.length ≤ 100000) (I : Nat → List PyData → Es → Prop) (h0 : I 0 [] es)
    (it : ∀ k x acc e, rs[k]? = some x → I k acc e → WT tt (e.set j (some (fz (rowD x)))) fun b e2 => (b = true → WE te e2 fun y e3 => Free vs (e3.set j none) ∧ I (k + 1) (acc ++ [y]) (e3.set j none)) ∧ (b = false → Free vs (e2.set j none) ∧ I (k + 1) acc (e2.set j none)))
    (st : ∀ k acc e, I k acc e → e[i]? = some (some (bk C a l rs))) (ie : ∀ acc e, I rs.length acc e → ∀ p, Q (ml p acc) e) : WM (tLc (iList K (tFld K (tVar i) "told_rows")) (gName j) tt te vs) es Q := fun σ G H Rs Kf hs kk => by
  obtain ⟨v, hv, e, ra, dx, ws, rd, rl, h1, h2, h3, h4⟩ := hs.at' i _ hi
  subst e
  have hl0 : ws.length = rs.length := by rw [h4.length, List.length_map]
  refine ⟨_, hv, a, C, dx, _, _, rfl, h2, c, n, lk_told, l, rfl, ⟨ws, SqL.of h3⟩, fun D hD => lc_mid (ds := rs.map rowD) hj hs (free_of f) hD I h0 (by rw [List.length_map]; exact hz) (fun k acc e G' H' Rs' hk ik s st' => ?_) (fun k x acc e hx => ?_) (fun acc e i => ie acc e (by rw [List.length_map] at i; exact i) D) kk⟩
  · obtain ⟨v, hv, e2, ra', dx', xs, rd', rl', g1, g2, g3, g4⟩ := s.at' i _ (st k acc e ik)
    have hx : SqL K H' l xs := SqL.of g3
    refine ⟨fun hk => ?_, fun e => ⟨xs, hx, by rw [g4.length]; omega⟩⟩
    have hk2 : k < xs.length := by rw [g4.length]; exact hk
    exact ⟨⟨xs, xs[k], hx, List.getElem?_eq_getElem hk2⟩, fun x H'' ⟨e, y⟩ => ⟨e, g4.getV (y xs hx)⟩⟩
  · rw [List.getElem?_map, Option.map_eq_some_iff] at hx
    obtain ⟨r, hr, rfl⟩ := hx
    exact it k r acc e hr
theorem ws_appB (c : Cls K C) (n : NoAttr K C "told_rows") (hi : es[i]? = some (some (bk C a l rs))) (h : WE te es fun d e1 => e1[i]? = some (some (bk C a l rs)) ∧ ∃ r, d = rowD r ∧ rs.length < 100000 ∧ E.nx (e1.set i (some (bk C a l (rs ++ [r]))))) :
    WS (tDrop (tBM K "list" rAppend (tFld K (tVar i) "told_rows") (tCons te tNil))) es E := fun σ G H Rs D hs hh => by
  obtain ⟨v, hv, e, ra, dx, vs, rd, rl, h1, h2, h3, h4⟩ := hs.at' i _ hi
  subst e
  refine ⟨_, hv, a, C, dx, _, _, rfl, h2, c, n, lk_told, tyV_l h3, h σ G H Rs _ hs fun v d G1 H1 R1 e1 s1 r1 st1 ⟨g, r, ed, hz, q⟩ => ?_⟩
  subst ed
  obtain ⟨w, hw, e, ra, dx, vs, rd, rl, h1, h2, h3, h4⟩ := s1.at' i _ g
  subst e
  have la : a ≠ l := ne_of h2 h3 (by intro z; cases z)
  have ld : dx ≠ l := ne_of h1 h3 (by intro z; cases z)
  refine ⟨l, vs, v, rfl, rfl, h3, ?_, ?_⟩
  · rw [h4.length, List.length_map]
    exact Nat.lt_trans hz (by decide)
  · exact hh.nx σ G1 _ R1 _ (s1.mut (fun _ z => nomatch z) (p := l) (r' := bk C a l (rs ++ [r])) g hw rl ⟨rfl, ra, dx, _, rd, rl, by rw [upd_ne ld]; exact h1, by rw [upd_ne la]; exact h2, upd_same, by rw [List.map_append]; exact h4.append (.one r1)⟩) (st1.tr (stp_mut ⟨i, rl⟩ (by rw [h3]; simp))) q
theorem ws_initB (c : Cls K C) (n : NoAttr K C "told_rows") (hi : es[i]? = some (some (rawI C a))) (h : ∀ l, E.nx (es.set i (some (bk C a l [])))) :
    WS (sFld K (tVar i) (tLst tNil) "told_rows") es E := fun σ G H Rs D hs hh => by
  obtain ⟨v, hv, e, ra, dx, rd, ne, h1, h2⟩ := hs.at' i _ hi
  subst e
  refine ⟨by show 0 ≤ sizeLine; decide, fun l hl => ?_⟩
  have la : a ≠ l := ne_of_none h2 hl
  have ld : dx ≠ l := ne_of_none h1 hl
  have s0 := hs.lay (o := .lst []) hl
  have gl := hs.gnone hl
  refine ⟨_, hv, a, C, dx, [], rfl, by rw [upd_ne la]; exact h2, c, n, by decide, ?_⟩
  have gi : ∀ o, ∀ x o', Rs i x → x ≠ a → upd H l (.lst []) x = some o' → upd (upd H l (.lst [])) a o x = some o' := fun o x o' _ hx z => by rw [upd_ne hx]; exact z
  let R2 : Nat → Addr → Prop := setR Rs i fun x => Rs i x ∨ x = l
  have r2 : ∀ j x, R2 j x → (Rs j x) ∨ (j = i ∧ x = l) := fun j x z => by
    unfold R2 setR at z
    split at z
    · rename_i e
      subst e
      exact z.imp id fun z => ⟨rfl, z⟩
    · exact .inl z
  have nol : ∀ j, ¬ Rs j l := fun j z => hs.al j l z hl
  have stp : Stp G H (Un Rs) G (upd (upd H l (.lst [])) a (.ins C dx [("told_rows", .ref l)])) (Un R2) := by
    refine ⟨ex_rf _, fun x o ho nu => ?_, fun x z => ?_, fun x ⟨j, z⟩ => ?_, fun x z => .inl z⟩
    · have e1 : x ≠ a := fun e => nu ⟨i, by rw [e]; exact ra⟩
      rw [upd_ne e1]
      exact ex_new hl x o ho
    · by_cases e : x = a
      · rw [e, upd_same] at z
        cases z
      · rw [upd_ne e] at z
        by_cases e2 : x = l
        · rw [e2]
          exact hl
        · rw [upd_ne e2] at z
          exact z
    · rcases r2 j x z with y | ⟨_, e⟩
      · exact .inl ⟨j, y⟩
      · exact .inr (by rw [e]; exact hl)
  refine hh.nx σ G _ R2 _ ⟨ex_mut s0.ex (hs.ng i a ra), by rw [List.length_set]; exact hs.len, fun j q hj => ?_, fun j k x z1 z2 => ?_, fun j x z => ?_, fun j x z => ?_, hs.st.tr stp⟩ stp (h l)
  · by_cases e : j = i
    · subst e
      rw [List.getElem?_set_self (List.getElem?_eq_some_iff.mp hi).1] at hj
      cases hj
      refine ⟨_, hv, rfl, ?_, dx, [], ?_, ?_, ?_, upd_same, ?_, .nil⟩
      · show R2 j a
        unfold R2 setR
        rw [if_pos rfl]
        exact .inl ra
      · show R2 j dx
        unfold R2 setR
        rw [if_pos rfl]
        exact .inl rd
      · show R2 j l
        unfold R2 setR
        rw [if_pos rfl]
        exact .inr rfl
      · rw [upd_ne ne, upd_ne ld]
        exact h1
      · rw [upd_ne (Ne.symm la)]
        exact upd_same
    · rw [List.getElem?_set_ne (Ne.symm e)] at hj
      obtain ⟨w, x1, x2⟩ := s0.at' j q hj
      refine ⟨w, x1, ?_⟩
      have : R2 j = Rs j := by
        unfold R2 setR
        rw [if_neg e]
      rw [this]
      refine q.fr x2 (ex_rf _) fun x u hx hu => ?_
      rw [upd_ne (fun z => e (hs.dj j i x hx (by rw [z]; exact ra)))]
      exact hu
  · rcases r2 j x z1 with y1 | ⟨y1, e1⟩ <;> rcases r2 k x z2 with y2 | ⟨y2, e2⟩
    · exact hs.dj j k x y1 y2
    · rw [e2] at y1
      exact absurd y1 (nol j)
    · rw [e1] at y2
      exact absurd y2 (nol k)
    · rw [y1, y2]
  · rcases r2 j x z with y | ⟨_, e⟩
    · exact hs.ng j x y
    · rw [e]
      exact gl
  · by_cases e : x = a
    · rw [e]
      exact .of upd_same (by intro _ z; cases z)
    · rcases r2 j x z with w | ⟨_, e2⟩
      · exact (s0.al2 j x w).ex fun u hu => by rw [upd_ne e]; exact hu
      · rw [e2]
        exact .of (by rw [upd_ne (fun z => e (e2.trans z)), upd_same]) (by intro _ z; cases z)
/-! ### C(..) -/
def IsRef (p : Addr) (r : Own) : Prop := ∀ G H R v, r.P G H R v → v = .ref p
theorem wm_make {C : Addr} {sp : FSp} {EE : XK} {ta : TA} {Q : Own → Es → Prop} (h : WA ta es fun as e => ∃ os, lend e as = some os ∧ (slots as).Nodup ∧ ∀ p, sp (rawI C p :: os) fun r os' => ∃ r0 os2, os' = r0 :: os2 ∧ r = fz .none ∧ IsRef p r0 ∧ Q r0 (back e as os2)) :
    WM (tMake C (spF sp) [] EE ta) es Q := fun σ G H Rs K hs k =>
  h σ G H Rs _ hs fun vs as G1 H1 R1 e1 s1 r1 st1 ⟨os, hl, nd, q⟩ p dx hp hd ne => by
    rw [List.append_nil]
    have sa := sat_args s1 r1 hl nd
    have sH : Ex H1 (upd (upd H1 dx (.own p)) p (.ins C dx [])) := ex_tr (ex_new hd) (ex_new (by rw [upd_ne ne.symm]; exact hp))
    have hne : ∀ x, H1 x ≠ none → x ≠ p ∧ x ≠ dx := fun x z => ⟨fun e => z (by rw [e]; exact hp), fun e => z (by rw [e]; exact hd)⟩
    -- the regions: the new instance first
    let Rc : Nat → Addr → Prop := fun j => match j with
      | 0 => fun x => x = p ∨ x = dx
      | j + 1 => argR R1 as j
    have s2 : Sat0 G1 (upd (upd H1 dx (.own p)) p (.ins C dx [])) ((V.ref p :: vs).map some) ((rawI C p :: os).map some) Rc := by
      refine ⟨ex_tr s1.ex sH, by simpa using sa.len, fun j r hj => ?_, fun i j x z1 z2 => ?_, fun j x z => ?_, fun j x z => ?_⟩
      · cases j with
        | zero =>
          simp at hj
          subst hj
          exact ⟨.ref p, rfl, rfl, .inl rfl, dx, .inr rfl, ne, by rw [upd_ne ne]; exact upd_same, upd_same⟩
        | succ j =>
          obtain ⟨v, x1, x2⟩ := sa.at' j r (by simpa using hj)
          exact ⟨v, by simpa using x1, r.fr x2 (ex_rf _) fun x o _ z => sH x o z⟩
      · cases i <;> cases j
        · rfl
        · rename_i j
          exact absurd z1 fun z => z.elim (fun z => (hne x (sa.al j x z2)).1 z) fun z => (hne x (sa.al j x z2)).2 z
        · rename_i i
          exact absurd z2 fun z => z.elim (fun z => (hne x (sa.al i x z1)).1 z) fun z => (hne x (sa.al i x z1)).2 z
        · rw [sa.dj _ _ x z1 z2]
      · cases j with
        | zero =>
          rcases z with z | z
          · rw [z]
            exact s1.gnone hp
          · rw [z]
            exact s1.gnone hd
        | succ j => exact sa.ng j x z
      · cases j with
        | zero =>
          rcases z with z | z
          · rw [z]
            exact .of upd_same (by intro _ z; cases z)
          · rw [z]
            exact .of (by rw [upd_ne ne, upd_same]) (by intro _ z; cases z)
        | succ j => exact (sa.al2 j x z).ex fun u hu => sH x u hu
    refine ⟨G1, rawI C p :: os, Rc, s2, _, q p, fun r os' hl' q v G' H' Rc' Rr s' t st => ?_⟩
    obtain ⟨r0, os2, e0, er, ir, q⟩ := q
    subst e0 er
    have st0 : Stp G1 H1 (DV.Un (argR R1 as)) G1 (upd (upd H1 dx (.own p)) p (.ins C dx [])) (DV.Un Rc) := by
      refine ⟨ex_rf _, fun x o z _ => sH x o z, fun x z => ?_, fun x ⟨j, z⟩ => ?_, fun x z => .inl z⟩
      · cases e : H1 x with
        | none => rfl
        | some o =>
          rw [sH x o e] at z
          cases z
      · cases j with
        | zero =>
          rcases z with z | z
          · exact .inr (by rw [z]; exact hp)
          · exact .inr (by rw [z]; exact hd)
        | succ j => exact .inl ⟨j, z⟩
    have st2 := st0.tr st
    obtain ⟨v0, hv0, p0⟩ := s'.at' 0 r0 rfl
    have ev : v0 = .ref p := ir _ _ _ _ p0
    subst ev
    have l2 : os2.length = as.length := by
      have : os2.length = os.length := by simpa using hl'
      rw [this, lend_len hl]
    have s3 : Sat0 G' H' (vs.map some) (os2.map some) fun j => Rc' (j + 1) :=
      ⟨s'.ex, by simpa using s'.len, fun j r hj => by
        obtain ⟨v, x1, x2⟩ := s'.at' (j + 1) r (by simpa using hj)
        exact ⟨v, by simpa using x1, x2⟩, fun i j x z1 z2 => by have := s'.dj _ _ x z1 z2; omega, fun j x z => s'.ng _ x z, fun j x z => s'.al2 _ x z⟩
    obtain ⟨b1, b2, b4, b3⟩ := sat_back (U := Rc') (Rc := fun j => Rc' (j + 1)) (Rr := Rc' 0) s1 r1 nd l2 s3 (st2.weak fun x z => .inl (z.elim (fun ⟨j, z⟩ => ⟨j + 1, z⟩) fun z => ⟨0, z⟩)) (fun i x z1 z2 => by have := s'.dj _ _ x z1 z2; omega) (s'.ng 0) (s'.al 0)
    have ev2 : v = .non := by
      have h := t.p
      cases h
      rfl
    subst ev2
    exact ⟨rfl, k (.ref p) r0 G' H' _ (Rc' 0) _ b1 ⟨p0, s'.ng 0, s'.al2 0, b2, b4⟩ (st1.tr b3) q⟩
end
end DV

namespace SX
open PySem PySem.Spec PyProof.Rows L2
/-- the object of a new set -/
abbrev freshO (w : World) : Obj := { cls := .type "set", dict := none, data := .set #[] 0 (.fresh 0 0 (!w.params.followText "set-order")) }
/-- one more text -/
def ins (xs : List Str) (x : Str) : List Str := if x ∈ xs then xs else xs ++ [x]
def insAll (xs ys : List Str) : List Str := ys.foldl ins xs
theorem ins_len (xs : List Str) (x : Str) : (ins xs x).length ≤ xs.length + 1 := by
  unfold ins
  split
  · omega
  · simp
theorem mem_ins {xs : List Str} {x y : Str} : y ∈ ins xs x ↔ y ∈ xs ∨ y = x := by
  unfold ins
  split
  · rename_i h
    exact ⟨.inl, fun z => z.elim id fun e => e ▸ h⟩
  · simp
theorem nd_ins {xs : List Str} {x : Str} (h : xs.Nodup) : (ins xs x).Nodup := by
  unfold ins
  split
  · exact h
  · rename_i q
    exact List.nodup_append.mpr ⟨h, by simp, fun a ha b hb e => by simp at hb; exact q (hb ▸ e ▸ ha)⟩
theorem insAll_len : ∀ (ys xs : List Str), (insAll xs ys).length ≤ xs.length + ys.length
  | [], xs => Nat.le_refl _
  | y :: ys, xs => by
    have h1 := insAll_len ys (ins xs y)
    have h2 := ins_len xs y
    show (insAll (ins xs y) ys).length ≤ xs.length + (ys.length + 1)
    omega
theorem mem_insAll {y : Str} : ∀ (ys xs : List Str), y ∈ insAll xs ys ↔ y ∈ xs ∨ y ∈ ys
  | [], xs => by simp [insAll]
  | z :: ys, xs => by
    show y ∈ insAll (ins xs z) ys ↔ _
    rw [mem_insAll ys, mem_ins, List.mem_cons]
    exact or_assoc
theorem nd_insAll : ∀ (ys xs : List Str), xs.Nodup → (insAll xs ys).Nodup
  | [], xs, h => h
  | z :: ys, xs, h => nd_insAll ys _ (nd_ins h)
/-- how a set of texts is described -/
structure Desc (P : Program) (w : World) (most : Nat) where
  I : Heap → Addr → List Str → Prop
  at_ : ∀ {h h' : Heap} {a : Addr} {xs : List Str}, I h a xs → (∀ o, h.get? a = some o → h'.get? a = some o) → I h' a xs
  new : ∀ {h : Heap} {a : Addr}, h.get? a = some (freshO w) → I h a []
  add : ∀ {A : Around} {E : Value → Shared → Prop} {s : Shared} {a : Addr} {xs : List Str} {x : Str} {tk : Tok} {Q : Bool → Shared → Prop}, I s.heap a xs → xs.length + 1 ≤ most →
    (∀ (b : Bool) h', Heap.SameBut a s.heap h' → I h' a (ins xs x) → Q b { s with heap := h' }) → wpAny (model P w) A (setAddHashed a (.str x tk) (hashStr w x)) Q E s
section
variable {P : Program} {w : World} {A : Around} {E : Value → Shared → Prop} {s : Shared} {most : Nat}
theorem update {D : Desc P w most} {J : Addr} {fp wr : List Addr} {G : Array GenState → Array GenState → Prop} {n : Nat} {Pv : Nat → Value → Prop} {Sg : Nat → Shared → Prop} {R : Result → Shared → Prop}
    (W : WalksS P w A.in1 J fp wr G n Pv Sg) (S : Addr) (sf : S ∉ fp) (xs : List Str) (hn : n = xs.length) (hb : xs.length ≤ most) (hval : ∀ i v, Pv i v → ∃ x t, xs[i]? = some x ∧ v = .str x t) :
    ∀ (k i : Nat) (s : Shared), n - i = k → i ≤ n → Sg i s → D.I s.heap S (insAll [] (xs.take i)) → (∀ s', Moved (S :: wr) G s s' → D.I s'.heap S (insAll [] xs) → R (.ok (.ret .none)) s') →
      codeAny (model P w) A (.builtin "set.update.loop" ⟨[.ref S, .ref J], []⟩) R s := by
  have sw : S ∉ wr := fun h => sf (W.sub _ h)
  have more : ∀ b ∈ wr, b ∈ S :: wr := fun b hb => List.mem_cons_of_mem _ hb
  intro k
  induction k with
  | zero =>
    intro i s hk hi hs hS hR
    have e : i = n := by omega
    subst e
    refine codeAny_builtin F.entry_set_update_loop ?_
    rw [Around.under_plainId F.plain_set_update_loop _]
    refine wpAny_bind (W.done s _ _ hs fun s' hm => wpAny_pure (hR s' (hm.mono more) (D.at_ ?_ fun o e => hm.heap S o sw e)))
    rw [List.take_of_length_le (by omega)] at hS
    exact hS
  | succ k ih =>
    intro i s hk hi hs hS hR
    have lt : i < n := by omega
    refine codeAny_builtin F.entry_set_update_loop ?_
    rw [Around.under_plainId F.plain_set_update_loop _]
    refine wpAny_bind (W.item i s _ _ lt hs fun v s1 hp hs1 hm => ?_)
    obtain ⟨x, t, hx, rfl⟩ := hval i v hp
    have hS1 := D.at_ hS fun o e => hm.heap S o sw e
    refine wpAny_bind (wpAny_holding ?_)
    unfold setAdd
    refine wpAny_holding ?_
    refine wpAny_bind ((strKind P w).pyHash (k := x) (show Value.isStrOf x (.str x t) = true by simp [Value.isStrOf]) ?_)
    refine D.add (s := { s1 with toks := s1.toks + 1 }) hS1 ?_ fun b h' sb hI => ?_
    · have h1 := insAll_len (xs.take i) []
      rw [List.length_take] at h1
      simp at h1
      omega
    have e2 : insAll [] (xs.take (i + 1)) = ins (insAll [] (xs.take i)) x := by
      rw [List.take_add_one, hx]
      unfold insAll
      rw [List.foldl_append]
      rfl
    refine wpAny_pure ⟨plainId_quiet F.plain_set_update_loop _, ih (i + 1) _ (by omega) lt (W.frame _ s1 _ _ hs1 (Nat.le_succ _) fun b hb o e => ?_) (by rw [e2]; exact hI) fun s2 hm2 hI2 => ?_⟩
    · rw [sb.2 b (fun h : b = S => sf (by rw [← h]; exact hb))]
      exact e
    · refine hR s2 (Moved.trans W.gtrans ((hm.mono more).then_heap (Nat.le_succ _) fun b o hb e => ?_) hm2) hI2
      rw [sb.2 b (fun h : b = S => hb (by rw [h]; exact List.mem_cons_self))]
      exact e

set_option maxHeartbeats 8000000 in
theorem call_list {D : Desc P w most} {l : Addr} {items : Array Value} (xs : List Str) {Q : Value → Shared → Prop} (hh : A.handled = none) (hl : s.heap.IsList l items) (hi : StrsAre items.toList xs) (hb : xs.length ≤ most)
    (h : ∀ (h' : Heap) (tk : Nat), D.I h' s.heap.objs.size (insAll [] xs) → (∀ b o, s.heap.get? b = some o → h'.get? b = some o) → Q (.ref s.heap.objs.size) { s with heap := h', toks := tk }) :
    wpAny (model P w) A (call (.type "set") [.ref l]) Q E s := by
  have isz : items.size = xs.length := by
    rw [← StrsAre.len_eq hi, Array.length_toList]
  obtain ⟨c, tl, hmro⟩ := F.called_set.mro
  have hmade := F.called_set.made
  have hsub := F.called_set.sub
  refine wpAny_call (codeAny_of_tree ?_)
  show wpAny _ _ (callAny (.type "set") _) _ _ _
  refine wpAny_pure ⟨Code.quiet_builtin _ (by decide +kernel), codeAny_builtin F.entry_type_call ?_⟩
  rw [Around.under_plain (weight_type_call_type "set" [.ref l] []) rfl]
  have h1 := F.called_set.notType
  have h2 := F.called_set.canCreate
  have hct := F.typeCall_set_1 (.ref l)
  repeat (any_goals (first | assumption | wp_step))
  refine codeAny_mono (code_set_led1 (.ref l) (E := E) (Q₁ := fun obj s1 => obj = .ref s.heap.objs.size ∧ s1 = { s with heap := s.heap.push (freshO w) }) ⟨rfl, rfl⟩) fun r s1 hr => ?_
  cases r with
  | error e => exact hr
  | ok fl =>
    cases fl with
    | ret obj =>
      obtain ⟨rfl, rfl⟩ := hr
      have hS : (s.heap.push (freshO w)).get? s.heap.objs.size = some (freshO w) := Heap.get?_push_size _ rfl
      have hT : Shared.TypeIs { s with heap := s.heap.push (freshO w) } (.ref s.heap.objs.size) "set" := ⟨_, hS, rfl⟩
      have hli := F.called_set.init.lookup
      have hbi := F.called_set.init.bind (.ref s.heap.objs.size)
      repeat (any_goals (first | assumption | wp_step))
      refine codeAny_mono (codeAny_call_builtin (R := wants (fun r s2 => r = .none ∧ ∃ h' tk, s2 = { s with heap := h', toks := tk } ∧ D.I h' s.heap.objs.size (insAll [] xs) ∧
          (∀ b o, s.heap.get? b = some o → h'.get? b = some o)) E) F.called_set.init.plain F.entry_set_init (check_set_init_1 hT ?_)) fun r2 s2 hr2 => ?_
      · obtain ⟨ol, hol, hcl, nl, hdl⟩ := hl
        obtain ⟨ocls, odict, odata, oslots⟩ := ol
        simp only at hcl hdl
        subst hcl; subst hdl
        have hol' : (s.heap.push (freshO w)).get? l = some { cls := .type "list", dict := odict, data := .seq items nl, slots := oslots } := Heap.get?_push_of_some _ hol
        have hsls := F.sub_list_set
        have hslf := F.sub_list_frozenset
        have hne : (Value.type "list" == Value.type "dict") = false := by decide
        have hl1 : (s.heap.push (freshO w)).IsList l items := ⟨_, hol', rfl, nl, rfl⟩
        unfold Builtin.«set.__init__» noKeywords Builtin.Frozenset.updateFrom
        generalize hPI : pyIter = PI
        wp_walk
        subst hPI
        refine wpAny_pyIter_list hl1 ?_
        refine wpAny_bind (wpAny_runValue ?_)
        have hlS : l < s.heap.objs.size := Heap.lt_size hol
        have hh3 : A.in1.in1.in1.handled = none := by simp [hh]
        have hneI : l ≠ (s.heap.push (freshO w)).objs.size := by
          rw [Heap.size_push]; exact Nat.ne_of_lt (Nat.lt_succ_of_lt hlS)
        have hSf : s.heap.objs.size ∉ [(s.heap.push (freshO w)).objs.size, l] := by
          rw [Heap.size_push]; simp only [List.mem_cons, List.mem_singleton, List.not_mem_nil, or_false, not_or]
          exact ⟨Nat.ne_of_lt (Nat.lt_succ_self _), Nat.ne_of_gt hlS⟩
        have hval : ∀ (i : Nat) (v : Value), items[i]? = some v → ∃ x t, xs[i]? = some x ∧ v = .str x t := fun i v hv => by
          have lt : i < xs.length := by rw [← isz]; exact (Array.getElem?_eq_some_iff.mp hv).1
          obtain ⟨t, e⟩ := SS.strs_at hi i v (by rw [Array.getElem?_toList]; exact hv)
          refine ⟨xs[i], t, List.getElem?_eq_getElem lt, ?_⟩
          rw [e, List.getD_eq_getElem?_getD, List.getElem?_eq_getElem lt] <;> rfl
        refine update (D := D) ((Walks.list hh3 _ l hneI items).toS) s.heap.objs.size
          hSf xs isz hb hval (items.size - 0) 0 _ (by omega) (Nat.zero_le _)
          ⟨⟨_, Heap.get?_push_size _ rfl, rfl, rfl⟩, (hl1.push _)⟩ ?hS0 ?hR
        case hS0 => exact D.new (Heap.get?_push_of_some _ hS)
        case hR =>
          intro s' hm hS'
          obtain ⟨h', g2, d', tk', os'⟩ := s'
          have eg : g2 = s.gens := hm.gens
          have ed : d' = s.drawn := hm.drawn
          have eo : os' = s.os := hm.os
          subst eg; subst ed; subst eo
          refine wpAny_pure ?_
          refine wpAny_pure ⟨rfl, h', tk', rfl, hS', fun b o e => ?_⟩
          have hb0 : b < s.heap.objs.size := Heap.lt_size e
          have hb1 : b ≠ s.heap.objs.size := Nat.ne_of_lt hb0
          have hb2 : b ≠ (s.heap.push (freshO w)).objs.size := by
            rw [Heap.size_push]; exact Nat.ne_of_lt (Nat.lt_succ_of_lt hb0)
          exact hm.heap b o (by simp only [List.mem_cons, List.mem_singleton, List.not_mem_nil, or_false, not_or]; exact ⟨hb1, hb2⟩) (Heap.get?_push_of_some _ (Heap.get?_push_of_some _ e))
      · cases r2 with
        | error e => exact hr2
        | ok fl2 =>
          cases fl2 with
          | ret r =>
            obtain ⟨rfl, h', tk, rfl, hS', hk'⟩ := hr2
            repeat (any_goals (first | assumption | wp_step))
            exact h _ _ hS' hk'
          | _ => exact hr2.elim
    | _ => exact hr.elim

set_option maxHeartbeats 8000000 in
theorem call_tuple {D : Desc P w most} {l : Addr} {items : Array Value} (xs : List Str) {Q : Value → Shared → Prop} (hh : A.handled = none) (hl : s.heap.IsTuple l items) (hi : StrsAre items.toList xs) (hb : xs.length ≤ most)
    (h : ∀ (h' : Heap) (tk : Nat), D.I h' s.heap.objs.size (insAll [] xs) → (∀ b o, s.heap.get? b = some o → h'.get? b = some o) → Q (.ref s.heap.objs.size) { s with heap := h', toks := tk }) :
    wpAny (model P w) A (call (.type "set") [.ref l]) Q E s := by
  have isz : items.size = xs.length := by
    rw [← StrsAre.len_eq hi, Array.length_toList]
  obtain ⟨c, tl, hmro⟩ := F.called_set.mro
  have hmade := F.called_set.made
  have hsub := F.called_set.sub
  refine wpAny_call (codeAny_of_tree ?_)
  show wpAny _ _ (callAny (.type "set") _) _ _ _
  refine wpAny_pure ⟨Code.quiet_builtin _ (by decide +kernel), codeAny_builtin F.entry_type_call ?_⟩
  rw [Around.under_plain (weight_type_call_type "set" [.ref l] []) rfl]
  have h1 := F.called_set.notType
  have h2 := F.called_set.canCreate
  have hct := F.typeCall_set_1 (.ref l)
  repeat (any_goals (first | assumption | wp_step))
  refine codeAny_mono (code_set_led1 (.ref l) (E := E) (Q₁ := fun obj s1 => obj = .ref s.heap.objs.size ∧ s1 = { s with heap := s.heap.push (freshO w) }) ⟨rfl, rfl⟩) fun r s1 hr => ?_
  cases r with
  | error e => exact hr
  | ok fl =>
    cases fl with
    | ret obj =>
      obtain ⟨rfl, rfl⟩ := hr
      have hS : (s.heap.push (freshO w)).get? s.heap.objs.size = some (freshO w) := Heap.get?_push_size _ rfl
      have hT : Shared.TypeIs { s with heap := s.heap.push (freshO w) } (.ref s.heap.objs.size) "set" := ⟨_, hS, rfl⟩
      have hli := F.called_set.init.lookup
      have hbi := F.called_set.init.bind (.ref s.heap.objs.size)
      repeat (any_goals (first | assumption | wp_step))
      refine codeAny_mono (codeAny_call_builtin (R := wants (fun r s2 => r = .none ∧ ∃ h' tk, s2 = { s with heap := h', toks := tk } ∧ D.I h' s.heap.objs.size (insAll [] xs) ∧
          (∀ b o, s.heap.get? b = some o → h'.get? b = some o)) E) F.called_set.init.plain F.entry_set_init (check_set_init_1 hT ?_)) fun r2 s2 hr2 => ?_
      · obtain ⟨ol, hol, hcl, nl, hdl⟩ := hl
        obtain ⟨ocls, odict, odata, oslots⟩ := ol
        simp only at hcl hdl
        subst hcl; subst hdl
        have hol' : (s.heap.push (freshO w)).get? l = some { cls := .type "tuple", dict := odict, data := .seq items nl, slots := oslots } := Heap.get?_push_of_some _ hol
        have hsls := F.sub_tuple_set
        have hslf := F.sub_tuple_frozenset
        have hne : (Value.type "tuple" == Value.type "dict") = false := by decide
        have hl1 : (s.heap.push (freshO w)).IsTuple l items := ⟨_, hol', rfl, nl, rfl⟩
        unfold Builtin.«set.__init__» noKeywords Builtin.Frozenset.updateFrom
        generalize hPI : pyIter = PI
        wp_walk
        subst hPI
        refine wpAny_pyIter_tuple hl1 ?_
        refine wpAny_bind (wpAny_runValue ?_)
        have hlS : l < s.heap.objs.size := Heap.lt_size hol
        have hh3 : A.in1.in1.in1.handled = none := by simp [hh]
        have hneI : l ≠ (s.heap.push (freshO w)).objs.size := by
          rw [Heap.size_push]; exact Nat.ne_of_lt (Nat.lt_succ_of_lt hlS)
        have hSf : s.heap.objs.size ∉ [(s.heap.push (freshO w)).objs.size, l] := by
          rw [Heap.size_push]; simp only [List.mem_cons, List.mem_singleton, List.not_mem_nil, or_false, not_or]
          exact ⟨Nat.ne_of_lt (Nat.lt_succ_self _), Nat.ne_of_gt hlS⟩
        have hval : ∀ (i : Nat) (v : Value), items[i]? = some v → ∃ x t, xs[i]? = some x ∧ v = .str x t := fun i v hv => by
          have lt : i < xs.length := by rw [← isz]; exact (Array.getElem?_eq_some_iff.mp hv).1
          obtain ⟨t, e⟩ := SS.strs_at hi i v (by rw [Array.getElem?_toList]; exact hv)
          refine ⟨xs[i], t, List.getElem?_eq_getElem lt, ?_⟩
          rw [e, List.getD_eq_getElem?_getD, List.getElem?_eq_getElem lt] <;> rfl
        refine update (D := D) ((Walks.tuple hh3 _ l hneI items).toS) s.heap.objs.size
          hSf xs isz hb hval (items.size - 0) 0 _ (by omega) (Nat.zero_le _)
          ⟨⟨_, Heap.get?_push_size _ rfl, rfl, rfl⟩, (hl1.push _)⟩ ?hS0 ?hR
        case hS0 => exact D.new (Heap.get?_push_of_some _ hS)
        case hR =>
          intro s' hm hS'
          obtain ⟨h', g2, d', tk', os'⟩ := s'
          have eg : g2 = s.gens := hm.gens
          have ed : d' = s.drawn := hm.drawn
          have eo : os' = s.os := hm.os
          subst eg; subst ed; subst eo
          refine wpAny_pure ?_
          refine wpAny_pure ⟨rfl, h', tk', rfl, hS', fun b o e => ?_⟩
          have hb0 : b < s.heap.objs.size := Heap.lt_size e
          have hb1 : b ≠ s.heap.objs.size := Nat.ne_of_lt hb0
          have hb2 : b ≠ (s.heap.push (freshO w)).objs.size := by
            rw [Heap.size_push]; exact Nat.ne_of_lt (Nat.lt_succ_of_lt hb0)
          exact hm.heap b o (by simp only [List.mem_cons, List.mem_singleton, List.not_mem_nil, or_false, not_or]; exact ⟨hb1, hb2⟩) (Heap.get?_push_of_some _ (Heap.get?_push_of_some _ e))
      · cases r2 with
        | error e => exact hr2
        | ok fl2 =>
          cases fl2 with
          | ret r =>
            obtain ⟨rfl, h', tk, rfl, hS', hk'⟩ := hr2
            repeat (any_goals (first | assumption | wp_step))
            exact h _ _ hS' hk'
          | _ => exact hr2.elim
    | _ => exact hr.elim
end
end SX

namespace SX
open PySem PySem.Spec PyProof.Rows L2
/-! sets of texts that rise: their members in the order in which they were first told -/
def txt (e : Int × Value) : Str := match e.2 with
  | .str x _ => x
  | _ => Str.empty
def IsTx (w : World) (e : Int × Value) : Prop := ∃ x tk, e.2 = Value.str x tk ∧ e.1 = hashStr w x
abbrev Led (w : World) (t : SetTable) : Prop := w.params.followText "set-order" = true ∨ t.led = true
/-- entries and table tell the texts xs -/
structure Tells (w : World) (es : Array (Int × Value)) (t : SetTable) (xs : List Str) : Prop where
  tx : ∀ e ∈ es.toList, IsTx w e
  pm : (es.toList.map txt).Perm xs
  nd : xs.Nodup
  few : xs.length < scanBound
  fit : t.fits es.size = true
  ris : Ris t.place.toList
  led : Led w t
def Txs (w : World) (h : Heap) (a : Addr) (xs : List Str) : Prop := ∃ o es ep t, h.get? a = some o ∧ o.ExactSet ∧ o.data = .set es ep t ∧ Tells w es t xs
section
variable {P : Program} {w : World} {A : Around} {E : Value → Shared → Prop} {s : Shared} {a : Addr} {xs : List Str}
theorem Tells.size {es : Array (Int × Value)} {t : SetTable} (T : Tells w es t xs) : es.size = xs.length := by
  have z := T.pm.length_eq
  rw [List.length_map, Array.length_toList] at z
  exact z
theorem Tells.elems {es : Array (Int × Value)} {t : SetTable} (T : Tells w es t xs) : ElemsOf (PySem.strKind P w) es.toList := fun e he => by
  obtain ⟨x, tk, h1, h2⟩ := T.tx e he
  exact ⟨⟨x, by rw [h1]; simp [PySem.strKind, Value.isStrOf], h2⟩, by rw [h1] <;> rfl⟩
theorem is_txt {e : Int × Value} (g : IsTx w e) (x : Str) : (PySem.strKind P w).is x e.2 = true ↔ txt e = x := by
  obtain ⟨y, tk, h1, _⟩ := g
  unfold txt
  rw [h1]
  simp [PySem.strKind, Value.isStrOf]
theorem Txs.at_ {h h' : Heap} (X : Txs w h a xs) (k : ∀ o, h.get? a = some o → h'.get? a = some o) : Txs w h' a xs := by
  obtain ⟨o, es, ep, t, ho, r⟩ := X
  exact ⟨o, es, ep, t, k o ho, r⟩
theorem new_txs {h : Heap} (e : h.get? a = some (freshO w)) : Txs w h a [] :=
  ⟨_, #[], 0, _, e, ⟨rfl, rfl, rfl⟩, rfl, fun e he => by simp at he, by simp, List.nodup_nil, by decide, rfl, List.Pairwise.nil, by
    show _ ∨ (!w.params.followText "set-order") = true
    cases w.params.followText "set-order" <;> simp⟩
/-- the store behind a new entry, and the table laid anew where it is too full -/
theorem add_store {gw : Bool → Sem Unit} (hg : ∀ (b : Bool) (s₁ : Shared) (Q' : Unit → Shared → Prop), Q' () s₁ → wpAny (model P w) A (gw b) Q' E s₁)
    {o : Obj} {es es1 : Array (Int × Value)} {ep : Nat} {t t2 : SetTable} (ho : s.heap.get? a = some o) (hex : o.ExactSet) (hd : o.data = .set es ep t) (T : Tells w es1 t2 xs) {dm : Bool} {R : Option Bool → Shared → Prop}
    (hR : ∀ h', Heap.SameBut a s.heap h' → Txs w h' a xs → R (some true) { s with heap := h' }) :
    wpAny (model P w) A (storeSet a es1 t2 >>= fun _ => if (!dm && t2.tooFull) = true then gw (relayAll t2 es1 (SetTable.grown es1.size)).2.2 >>= fun _ => storeSet a (relayAll t2 es1 (SetTable.grown es1.size)).1 (relayAll t2 es1 (SetTable.grown es1.size)).2.1 >>= fun _ => pure (some true)
          else pure (some true)) R E s := by
  have fw : es1.size < scanBound := by
    rw [T.size]
    exact T.few
  refine wpAny_bind (wpAny_storeSet_of ho hd ?_ (fits_of_scanBound fw))
  have st1 := store_at (es' := es1) (t' := t2) ho hd
  have b1 := Heap.SameBut.update s.heap a (Obj.putSet es1 t2)
  by_cases full : (!dm && t2.tooFull) = true
  · rw [if_pos full]
    have q1 := relayAll_perm t2 es1 (SetTable.grown es1.size)
    have q2 := relayAll_fits t2 es1 (SetTable.grown es1.size)
    have q3 := relayAll_ris t2 es1 (SetTable.grown es1.size)
    have q4 := relayAll_led t2 es1 (SetTable.grown es1.size)
    generalize relayAll t2 es1 (SetTable.grown es1.size) = laid at q1 q2 q3 q4 ⊢
    obtain ⟨es2, t3, gv⟩ := laid
    dsimp only at q1 q2 q3 q4 ⊢
    have z : es2.size = es1.size := by rw [← Array.length_toList, q1.length_eq, Array.length_toList]
    refine wpAny_bind (hg _ _ _ (wpAny_bind (wpAny_storeSet_of st1 rfl ?_ (fits_of_scanBound (by rw [z]; exact fw)))))
    exact wpAny_pure (hR _ (b1.trans (Heap.SameBut.update _ a _)) ⟨_, es2, _, t3, store_at (es' := es2) (t' := t3) st1 rfl, hex, rfl,
      ⟨fun e he => T.tx e (q1.mem_iff.mp he), (q1.map txt).trans T.pm, T.nd, T.few, q2, q3, T.led.imp id fun y => by rw [q4]; exact y⟩⟩)
  · rw [if_neg full]
    exact wpAny_pure (hR _ b1 ⟨_, es1, _, t2, st1, hex, rfl, T⟩)
theorem perm_ins {l : List Str} {x : Str} (p : l.Perm xs) (n : x ∉ xs) : (x :: l).Perm (ins xs x) := by
  unfold ins
  rw [if_neg n]
  exact (p.cons x).trans (List.perm_append_singleton x xs).symm
theorem add_txs {x : Str} {tk : Tok} {Q : Bool → Shared → Prop} (X : Txs w s.heap a xs) (room : xs.length + 1 < scanBound)
    (hQ : ∀ (b : Bool) h', Heap.SameBut a s.heap h' → Txs w h' a (ins xs x) → Q b { s with heap := h' }) : wpAny (model P w) A (setAddHashed a (.str x tk) (hashStr w x)) Q E s := by
  have me := X
  obtain ⟨o, es, ep, t, ho, hex, hd, T⟩ := X
  have kx : (PySem.strKind P w).is x (.str x tk) = true := by simp [PySem.strKind, Value.isStrOf]
  have sx : (Value.str x tk).scannable = true := rfl
  have fw : es.size < scanBound := by
    rw [T.size]
    exact T.few
  have el : ElemsOf (PySem.strKind P w) es.toList := T.elems
  show wpAny (model P w) A (setAddHashed a (.str x tk) ((PySem.strKind P w).hash x)) Q E s
  unfold setAddHashed setAddHashedIn
  refine wpAny_holding (wpAny_bind (wpAny_setState_of ho hd T.fit ?_))
  dsimp only
  rw [byScan_of sx fw el]
  simp only [↓reduceIte]
  unfold setAddByScan
  refine wpAny_bind (wpAny_bind (wpAny_rule (wpAny_bind (wpAny_setScan_of kx ho hd T.fit el ?_))))
  cases found : List.findIdx? (fun e => (PySem.strKind P w).is x e.2) es.toList with
  | some j =>
    obtain ⟨lj, pj, _⟩ := List.findIdx?_eq_some_iff_getElem.mp found
    have mj : es.toList[j] ∈ es.toList := List.getElem_mem lj
    have mx : x ∈ xs := T.pm.mem_iff.mp (List.mem_map.mpr ⟨_, mj, (is_txt (T.tx _ mj) x).mp pj⟩)
    have q := hQ false s.heap (Heap.SameBut.refl a s.heap) (by
      unfold ins
      rw [if_pos mx]
      exact me)
    exact wpAny_pure (wpAny_pure q)
  | none =>
    have nx : x ∉ xs := fun mx => by
      obtain ⟨e, he, q⟩ := List.mem_map.mp (T.pm.mem_iff.mpr mx)
      have c := List.findIdx?_eq_none_iff.mp found e he
      rw [(is_txt (T.tx e he) x).mpr q] at c
      cases c
    have gw : ∀ (b : Bool) {s₁ : Shared} {Q' : Unit → Shared → Prop}, Q' () s₁ → wpAny (model P w) A (match b with | true => rule "set.scan.the-table-gave-way" | false => pure ()) Q' E s₁ := fun b s₁ Q' q => by
      cases b
      · exact wpAny_pure q
      · exact wpAny_rule q
    have q1 := layNew_perm t es ((PySem.strKind P w).hash x) (.str x tk)
    have q2 := layNew_fits t es ((PySem.strKind P w).hash x) (.str x tk)
    have q3 := layNew_ris t es ((PySem.strKind P w).hash x) (.str x tk) T.ris
    have q4 := layNew_led t es ((PySem.strKind P w).hash x) (.str x tk)
    generalize layNew t es ((PySem.strKind P w).hash x) (.str x tk) = laid at q1 q2 q3 q4 ⊢
    obtain ⟨es1, t1, dm, gv⟩ := laid
    dsimp only at q1 q2 q3 q4 ⊢
    rw [Array.toList_push] at q1
    have qc := q1.trans (List.perm_append_singleton (hashStr w x, Value.str x tk) es.toList)
    have T1 : ∀ t2 : SetTable, t2.fits es1.size = true → Ris t2.place.toList → Led w t2 → Tells w es1 t2 (ins xs x) := fun t2 f2 r2 l2 =>
      ⟨fun e he => by
        rcases List.mem_cons.mp (qc.mem_iff.mp he) with y | y
        · rw [y]
          exact ⟨x, tk, rfl, rfl⟩
        · exact T.tx e y, (qc.map txt).trans (perm_ins T.pm nx), nd_ins T.nd, Nat.lt_of_le_of_lt (ins_len xs x) room, f2, r2, l2⟩
    have led1 : Led w t1 := T.led.imp id fun y => by
      rw [q4]
      exact y
    refine wpAny_bind (gw _ ?_)
    have rest : ∀ h', Heap.SameBut a s.heap h' → Txs w h' a (ins xs x) → Q true { s with heap := h' } := hQ true
    have gws : ∀ (b : Bool) (s₁ : Shared) (Q' : Unit → Shared → Prop), Q' () s₁ → wpAny (model P w) A (match b with | true => rule "set.scan.the-table-gave-way" | false => pure ()) Q' E s₁ := fun b s₁ Q' q => gw b q
    split
    · refine wpAny_bind ?_
      rw [hashByValue_scannable 8 sx]
      refine wpAny_pure (add_store gws ho hex hd (T1 _ ?_ ?_ ?_) fun h' sb r => wpAny_pure (rest h' sb r))
      · first | (split <;> first | exact q2 | exact SetTable.fits_plain_off q2) | exact q2
      · first | (split <;> exact q3) | exact q3
      · first | (split <;> exact led1) | exact led1
    · refine wpAny_bind (wpAny_pure ?_)
      simp only [↓reduceIte]
      exact add_store gws ho hex hd (T1 _ q2 q3 led1) fun h' sb r => wpAny_pure (rest h' sb r)
def txsDesc (P : Program) (w : World) : Desc P w 1000 where
  I := Txs w
  at_ := Txs.at_
  new := new_txs
  add := fun X l q => add_txs X (by unfold scanBound; omega) q
/-! ### sorted -/
theorem strs_of : ∀ (l : List Value), (∀ v ∈ l, ∃ x tk, v = Value.str x tk) → StrsAre l (l.map fun v => txt (0, v))
  | [], _ => .nil
  | v :: l, h => by
    obtain ⟨x, tk, rfl⟩ := h v List.mem_cons_self
    exact .cons x tk (strs_of l fun u hu => h u (List.mem_cons_of_mem _ hu))
/-- the members of a set, in order -/
theorem sort_txs {n : Nat} {Q : Value → Shared → Prop} (X : Txs w s.heap a xs) (quiet : A.handled = none) (few : xs.length ≤ 1000)
    (hQ : ∀ s' p (out : Array Value) (c : Nat) (ys : List Str), (∀ b o, s.heap.get? b = some o → s'.heap.get? b = some o) → s'.gens = s.gens → s'.os = s.os → s.heap.objs.size ≤ p →
      s'.heap.get? p = some (seqObj "list" out c) → StrsAre out.toList ys → ys.Perm xs → sortedS ys = true → Q (.ref p) s') : wpAny (model P w) A (call (.builtin "sorted") [.ref a]) Q E s := by
  obtain ⟨o, es, ep, t, ho, hex, hd, T⟩ := X
  have fw : es.size < scanBound := by
    rw [T.size]
    exact T.few
  refine Calls.call_function_entry kind_sorted plain_sorted entry_sorted (args_sorted1 _) ?_
  unfold Builtin.«sorted»
  refine wpAny_bind (m := checkCount "sorted" 1 1 _) (wpAny_pure (wpAny_bind (collect_set (A := A.in1) quiet ⟨o, ho, hex.1, hd⟩ T.fit fw T.ris T.led fun s1 vs k1 hz g1 o1 pm => ?_)))
  have lv : vs.length = xs.length := by
    rw [pm.length_eq, List.length_map, Array.length_toList]
    exact T.size
  have sv : StrsAre vs (vs.map fun v => txt (0, v)) := strs_of vs fun v hv => by
    obtain ⟨e, he, q⟩ := List.mem_map.mp (pm.mem_iff.mp hv)
    obtain ⟨x, tk, h1, _⟩ := T.tx e he
    exact ⟨x, tk, by rw [← q]; exact h1⟩
  have px : (vs.map fun v => txt (0, v)).Perm xs := by
    have q := pm.map fun v => txt (0, v)
    rw [List.map_map] at q
    exact q.trans T.pm
  have lz : vs.length ≤ sizeLine := by
    rw [lv]
    exact Nat.le_trans few (by decide)
  refine wpAny_bind (wpAny_newList ?_ lz)
  have oL : (s1.heap.push (seqObj "list" vs.toArray 0)).get? s1.heap.objs.size = some (seqObj "list" vs.toArray 0) := Heap.get?_push_size _ rfl
  refine wpAny_bind (wpAny_holding (wpAny_call_entry slot_list_sort ⟨_, oL, rfl⟩ entry_list_sort (list_sort_treeKAny strKind_oneLt oL sv.keysOf (fun v₁ v₂ rest e => keyKind_strs (by rw [← e]; exact sv)) lz fun st' a1 a2 => ⟨_, rfl, ?_⟩) (args_list_sort _)))
  obtain ⟨ys, b1, b2, b3⟩ := sorted_out_str sv a1 a2
  obtain ⟨c, hc⟩ := sortedHeap_at (vs := vs) (out := (arrOf st').map (·.2)) oL
  refine wpAny_pure ⟨_, rfl, hQ _ s1.heap.objs.size _ c ys (fun b u e => ?_) g1 o1 hz hc b1 (b2.trans px) b3⟩
  have q := k1 b u e
  have lt := Heap.lt_size q
  show (sortedHeap (s1.heap.push (seqObj "list" vs.toArray 0)) s1.heap.objs.size vs _).get? b = some u
  rw [sortedHeap_old (Nat.ne_of_lt lt) (by rw [size_push']; exact Nat.lt_succ_of_lt lt)]
  exact Heap.get?_push_of_some _ q
end
/-! ### over the layer -/
/-- the set of texts at a -/
def SetT (w : World) (a : Addr) (xs : List Str) : HO := .ext fun h => Txs w h a xs
section
variable {X : Cx}
theorem setT_new {w : World} {P : Program} {H : Hp} {h : Heap} {a : Addr} {xs : List Str} (R : Txs w h a xs) : ObjOk P w H h a (SetT w a xs) := by
  have ⟨o, _, _, _, ho, _⟩ := R
  exact ⟨R, ⟨o, ho⟩, fun h1 h2 r k => Txs.at_ r k⟩
theorem setT_get {pins : List (Addr × Obj)} {σ : L2.St} {H : Hp} {s : Shared} {a : Addr} {xs : List Str} (I : Inv X pins σ H s) (ha : H a = some (SetT X.w a xs)) : Txs X.w s.heap a xs := (I.hok a _ ha).1
/-- set(a list of texts) -/
def rSetL (K : PySem.W.Frag) (w : World) : List V → Hp → VK → Prop := fun vs H Q => ∃ (l : Addr) (xs : List Str), vs = [.ref l] ∧ SqL K H l (xs.map V.str) ∧ xs.length ≤ 1000 ∧ ∀ p, H p = none → Q (.ref p) (upd H p (SetT w p (insAll [] xs)))
theorem cr_setS (hc : X.calm = true) : CallR X (.type "set") (rSetL X.K X.w) := by
  intro pins s σ H vs us Q I r h
  obtain ⟨l, xs, rfl, hl, few, q⟩ := h
  obtain ⟨its, rv, il, _⟩ := I.list hl
  rw [Vals.ref1 r]
  exact call_list (D := txsDesc X.prog X.w) xs (I.ok.hd hc) il.isList rv.strs few fun h' tk Z k =>
    ⟨.ref _, upd H s.heap.objs.size (SetT X.w s.heap.objs.size (insAll [] xs)), I.laid (t' := tk) k (Nat.le_refl _) (setT_new Z), rfl, q _ (I.hok.fresh (Nat.le_refl _))⟩
/-- sorted(a set of texts) -/
def rSortT (w : World) : List V → Hp → VK → Prop := fun vs H Q => ∃ (a : Addr) (xs : List Str), vs = [V.ref a] ∧ H a = some (SetT w a xs) ∧ xs.length ≤ 1000 ∧ ∀ (ys : List Str) (p : Addr), ys.Perm xs → sortedS ys = true → H p = none → Q (.ref p) (upd H p (.lst (ys.map V.str)))
theorem cr_sortedSS (hc : X.calm = true) : CallR X (.builtin "sorted") (rSortT X.w) := by
  intro pins s σ H vs us Q I r h
  obtain ⟨a, xs, rfl, ha, few, q⟩ := h
  rw [Vals.ref1 r]
  refine sort_txs (n := 0) (setT_get I ha) (I.ok.hd hc) few fun s' p out c ys k g o hp hg sy py ry => ?_
  have hlen : (ys.map V.str).length ≤ sizeLine := by
    rw [List.length_map, py.length_eq]
    exact Nat.le_trans few (by decide)
  have hn : H p = none := I.hok.fresh hp
  exact ⟨.ref p, upd H p (.lst (ys.map V.str)), I.call' (ch := []) o (Un.laid k hp hn) (I.hok.laid k hp ⟨hlen, out.toList, c, vals_of_strs sy, hg⟩) (by rw [g]; exact I.bare) (fun _ z => nomatch z), rfl, q ys p py ry hn⟩
end
end SX

namespace DV
open PySem PySem.Spec PyProof.Rows L2
/-! ### texts in order -/
def leS (a b : Str) : Bool := !ltCps b.cps.toList a.cps.toList
/-- the unlike ones of xs, in order -/
def srt (xs : List Str) : List Str := (SX.insAll [] xs).mergeSort leS
theorem leS_iff {a b : Str} : leS a b = true ↔ ¬ b.cps.toList < a.cps.toList := by
  unfold leS
  rw [ltCps_eq]
  simp
theorem leS_trans (a b c : Str) (h1 : leS a b = true) (h2 : leS b c = true) : leS a c = true := by
  rw [leS_iff] at *
  exact List.le_trans (α := Nat) h1 h2
theorem leS_total (a b : Str) : (leS a b || leS b a) = true := by
  rw [Bool.or_eq_true, leS_iff, leS_iff]
  exact (List.le_total (α := Nat) a.cps.toList b.cps.toList)
theorem leS_anti {a b : Str} (h1 : leS a b = true) (h2 : leS b a = true) : a = b := by
  rw [leS_iff] at *
  have e := List.le_antisymm (α := Nat) h1 h2
  cases a
  cases b
  simp only at e
  congr 1
  exact Array.toList_inj.mp e
theorem pw_of_sortedS : ∀ {l : List Str}, sortedS l = true → l.Pairwise fun a b => leS a b = true := by
  have go : ∀ (l : List Str) (p : Str), risingS p l = true → (p :: l).Pairwise fun a b => leS a b = true := by
    intro l
    induction l with
    | nil => intro p _; simp
    | cons x r ih =>
      intro p h
      have h' : leS p x = true ∧ risingS x r = true := by
        have : (leS p x && risingS x r) = true := h
        simpa using this
      have q := ih x h'.2
      refine List.pairwise_cons.mpr ⟨fun y hy => ?_, q⟩
      rcases List.mem_cons.mp hy with e | hy
      · rw [e]
        exact h'.1
      · exact leS_trans _ _ _ h'.1 ((List.pairwise_cons.mp q).1 y hy)
  intro l h
  cases l with
  | nil => simp
  | cons x r => exact go r x h
theorem eq_of_pw : ∀ {l k : List Str}, l.Perm k → l.Pairwise (fun a b => leS a b = true) → k.Pairwise (fun a b => leS a b = true) → l = k
  | [], k, p, _, _ => p.nil_eq
  | x :: l, [], p, _, _ => absurd p.length_eq (by simp)
  | x :: l, y :: k, p, h1, h2 => by
    obtain ⟨a1, b1⟩ := List.pairwise_cons.mp h1
    obtain ⟨a2, b2⟩ := List.pairwise_cons.mp h2
    have e : x = y := by
      rcases List.mem_cons.mp (p.mem_iff.mp List.mem_cons_self) with e | m
      · exact e
      · rcases List.mem_cons.mp (p.mem_iff.mpr List.mem_cons_self) with e | m2
        · exact e.symm
        · exact leS_anti (a1 y m2) (a2 x m)
    subst e
    rw [eq_of_pw ((List.perm_cons x).mp p) b1 b2]
theorem srt_pw (xs : List Str) : (srt xs).Pairwise fun a b => leS a b = true := List.pairwise_mergeSort leS_trans leS_total _
theorem srt_perm (xs : List Str) : (srt xs).Perm (SX.insAll [] xs) := List.mergeSort_perm _ _
theorem srt_eq {ys xs : List Str} (p : ys.Perm (SX.insAll [] xs)) (s : sortedS ys = true) : ys = srt xs := eq_of_pw (p.trans (srt_perm xs).symm) (pw_of_sortedS s) (srt_pw xs)
theorem mem_srt {x : Str} {xs : List Str} : x ∈ srt xs ↔ x ∈ xs := by
  rw [(srt_perm xs).mem_iff, SX.mem_insAll]
  simp
theorem nd_srt (xs : List Str) : (srt xs).Nodup := (srt_perm xs).nodup_iff.mpr (SX.nd_insAll xs [] List.nodup_nil)
theorem srt_len (xs : List Str) : (srt xs).length ≤ xs.length := by
  rw [(srt_perm xs).length_eq]
  have := SX.insAll_len xs []
  simpa using this
section
variable [B : Bs] {es : Es} {σ : L2.St} {G H : Hp} {Rs : Nat → Addr → Prop} {ta tb te tl : TE} {tt : TT} {ts us : TS} {E : SE} {K : PySem.W.Frag} {w : World}
/-- sorted(set(a list of texts)) -/
theorem wm_sortSet {Q : Own → Es → Prop} (h : WE te es fun d e => ∃ xs : List Str, d = .list (xs.map .str) ∧ xs.length ≤ 1000 ∧ ∀ p, Q (ml p ((srt xs).map .str)) e) :
    WM (tCB (SX.rSortT w) (tCons (tCB (SX.rSetL K w) (tCons te tNil)) tNil)) es Q := fun σ G H Rs Kf hs kk =>
  h σ G H Rs _ hs fun v d G1 H1 R1 e1 s1 r1 st1 ⟨xs, ed, few, q⟩ => by
    subst ed
    cases r1 with
    | @lst a vs _ ha ra =>
      have e := rp_strs ra
      subst e
      refine ⟨a, xs, rfl, SqL.of (s1.ex _ _ ha), few, fun p hp => ⟨p, SX.insAll [] xs, rfl, upd_same, ?_, fun ys p2 py ry hp2 => ?_⟩⟩
      · have := SX.insAll_len xs []
        exact Nat.le_trans (by simpa using this) few
      · rw [srt_eq py ry]
        exact kk _ _ G1 _ R1 (isP p2) e1 ((s1.lay hp).lay hp2) (tmp_ml (s1.lay hp) hp2 (rp_of_strs _)) (st1.tr (((stp_lay hp).weak fun x z => .inl z).tr (stp_lay hp2))) (q p2)
/-! ### isinstance -/
def tyD : PyData → String
  | .none => "NoneType"
  | .bool _ => "bool"
  | .int _ => "int"
  | .str _ => "str"
  | .list _ => "list"
  | .tuple _ => "tuple"
  | .dict _ => "dict"
theorem Rp.tyx {v : V} {d : PyData} (r : Rp G v d) (e : Ex G H) : TyX K H v (.type (tyD d)) := by
  cases r with
  | non => exact .base .non
  | bl b => exact .base (.bl b)
  | int i => exact .base (.int i)
  | str x => exact .base (.str x)
  | lst h _ => exact .base (.lst (e _ _ h))
  | tup h _ => exact .base (.tup (e _ _ h))
  | dk h _ => exact .base (.dK (e _ _ h))
  | dt h _ _ _ _ => exact .base (.dT (e _ _ h))
theorem we_isi {T : String} {Q : PyData → Es → Prop} (h : WE te es fun d e => ∃ b, kitB (tyD d) T = some b ∧ Q (.bool b) e) : WE (tCB (rIsi K) (tCons te (tCons (tC (.ty T)) tNil))) es Q := fun σ G H Rs Kf hs kk =>
  h σ G H Rs _ hs fun v d G1 H1 R1 e1 s1 r1 st1 ⟨b, hb, q⟩ => ⟨v, .ty T, .type (tyD d), .type T, b, rfl, .ty T, r1.tyx s1.ex, kit_ty hb, kk _ _ G1 H1 R1 e1 s1 (.bl b) st1 q⟩
/-- isinstance of the own class, the instance in slot i -/
def IsIn (C : Addr) (r : Own) : Prop := ∀ G H R v, r.P G H R v → ∃ a dx fs, v = .ref a ∧ H a = some (.ins C dx fs)
theorem isin_bk {C a l : Addr} {rs : List Row} : IsIn C (bk C a l rs) := fun G H R v ⟨e, _, dx, vs, _, _, _, h2, _⟩ => ⟨a, dx, _, e, h2⟩
theorem we_isC {C : Addr} {i : Nat} {r : Own} {Q : PyData → Es → Prop} (hi : es[i]? = some (some r)) (c : IsIn C r) (q : Q (.bool true) es) :
    WE (tCB (fun xs H Q => ∃ a dx fs, xs = [.ref a, .ref C] ∧ H a = some (.ins C dx fs) ∧ Q (.bl true) H) (tCons (tVar i) (tCons (tC (.ref C)) tNil))) es Q := fun σ G H Rs Kf hs kk => by
  obtain ⟨v, hv, p⟩ := hs.at' i _ hi
  obtain ⟨a, dx, fs, e, ha⟩ := c _ _ _ _ p
  subst e
  exact ⟨_, hv, a, dx, fs, rfl, ha, kk _ _ G H Rs es hs (.bl true) .rf q⟩
/-! ### int(..), min -/
theorem we_int1 {Q : PyData → Es → Prop} (h : WE te es fun d e => (∃ i, d = .int i ∧ Q (.int i) e) ∨ ∃ b, d = .bool b ∧ Q (.int (if b then 1 else 0)) e) :
    WE (tCB (fun xs H Q => (∃ i, xs = [.int i] ∧ Q (.int i) H) ∨ ∃ k, xs = [.bl k] ∧ Q (.int (if k then 1 else 0)) H) (tCons te tNil)) es Q := fun σ G H Rs Kf hs kk =>
  h σ G H Rs _ hs fun v d G1 H1 R1 e1 s1 r1 st1 q => by
    rcases q with ⟨i, ed, q⟩ | ⟨b, ed, q⟩
    · subst ed
      cases r1
      exact .inl ⟨i, rfl, kk _ _ G1 H1 R1 e1 s1 (.int _) st1 q⟩
    · subst ed
      cases r1
      exact .inr ⟨b, rfl, kk _ _ G1 H1 R1 e1 s1 (.int _) st1 q⟩
/-! ### the box of drawn numbers -/
def bxS (p q : Addr) (s : Int) (xs : List Int) : Own := ⟨fun G H R v => v = .ref p ∧ R p ∧ R q ∧ H p = some (.lst [.ref q, .int s]) ∧ H q = some (.lst (xs.map V.int)),
  fun ⟨e, rp, rq, h1, h2⟩ x k => ⟨e, rp, rq, k _ _ rp h1, k _ _ rq h2⟩⟩
def BxOk (s : Int) (xs : List Int) : Prop := 0 ≤ s ∧ s < 2147483647 ∧ xs.length ≤ 64
def bx (p : Addr) : Own := ⟨fun G H R v => ∃ q s xs, BxOk s xs ∧ (bxS p q s xs).P G H R v, fun ⟨q, s, xs, o, h⟩ x k => ⟨q, s, xs, o, (bxS p q s xs).fr h x k⟩⟩
theorem pin_bx {p : Addr} : Pin (bx p) (bx p) := fun _ _ _ _ _ _ _ _ ⟨_, _, _, _, h⟩ ⟨_, _, _, _, h'⟩ => h.1.trans h'.1.symm
theorem set_self {i : Nat} {x : Option Own} {e : Es} (h : e[i]? = some x) : e.set i x = e := by
  apply List.ext_getElem?
  intro j
  by_cases q : i = j
  · subst q
    rw [List.getElem?_set_self (List.getElem?_eq_some_iff.mp h).1, h]
  · rw [List.getElem?_set_ne q]
/-- what stands in slot i, told otherwise -/
theorem Sat.re {i : Nat} {r r' : Own} (hs : Sat G H σ es Rs) (hi : es[i]? = some (some r)) (k : ∀ v, r.P G H (Rs i) v → r'.P G H (Rs i) v) : Sat G H σ (es.set i (some r')) Rs :=
  ⟨hs.ex, by rw [List.length_set]; exact hs.len, fun j q hj => by
    by_cases e : i = j
    · subst e
      rw [List.getElem?_set_self (List.getElem?_eq_some_iff.mp hi).1] at hj
      cases hj
      obtain ⟨v, a, b⟩ := hs.at' i r hi
      exact ⟨v, a, k v b⟩
    · rw [List.getElem?_set_ne e] at hj
      exact hs.at' j q hj, hs.dj, hs.ng, hs.al2, hs.st⟩
theorem ws_open {i : Nat} {p : Addr} (hi : es[i]? = some (some (bx p))) (h : ∀ q s xs, BxOk s xs → WS ts (es.set i (some (bxS p q s xs))) E) : WS ts es E := fun σ G H Rs D hs hh => by
  obtain ⟨v, hv, q, s, xs, o, z⟩ := hs.at' i _ hi
  refine h q s xs o σ G H Rs D (hs.re hi fun v' z' => ?_) hh
  obtain ⟨w, hw, q', s', xs', o', z2⟩ := hs.at' i _ hi
  obtain ⟨q2, s2, x2, o2, z3⟩ := z'
  have e : v' = v := z3.1.trans z.1.symm
  rw [e]
  exact z
theorem fin_shut {i : Nat} {p q : Addr} {s : Int} {xs : List Int} {Q : Own → List Own → Prop} {r : Own} (o : BxOk s xs) : ∀ G H R v, (bxS p q s xs).P G H R v → (bx p).P G H R v := fun G H R v z => ⟨q, s, xs, o, z⟩
theorem ws_shut {i : Nat} {p q : Addr} {s : Int} {xs : List Int} (hi : es[i]? = some (some (bxS p q s xs))) (o : BxOk s xs) (h : WS ts (es.set i (some (bx p))) E) : WS ts es E := fun σ G H Rs D hs hh =>
  h σ G H Rs D (hs.re hi fun v z => ⟨q, s, xs, o, z⟩) hh
variable {i : Nat} {p q : Addr} {s : Int} {xs : List Int}
theorem we_bx1 {Q : PyData → Es → Prop} (hi : es[i]? = some (some (bxS p q s xs))) (k : Q (.int s) es) : WE (tOp (rIxL K) (tVar i) (tC (.int 1))) es Q := fun σ G H Rs Kf hs kk => by
  obtain ⟨v, hv, e, rp, rq, h1, h2⟩ := hs.at' i _ hi
  subst e
  exact ⟨_, hv, p, _, 1, _, rfl, rfl, SqL.of h1, rfl, kk _ _ G H Rs es hs (.int _) .rf k⟩
theorem we_bxE {Q : PyData → Es → Prop} (hi : es[i]? = some (some (bxS p q s xs))) (k : Q (.bool xs.isEmpty) es) : WE (tOp (rEqD K) (tOp (rIxL K) (tVar i) (tC (.int 0))) (tLst tNil)) es Q := fun σ G H Rs Kf hs kk => by
  obtain ⟨v, hv, e, rp, rq, h1, h2⟩ := hs.at' i _ hi
  subst e
  refine ⟨_, hv, p, _, 0, _, rfl, rfl, SqL.of h1, rfl, by show 0 ≤ sizeLine; decide, fun l hl => ?_⟩
  have x := hs.lay (o := .lst []) hl
  have st : Stp G H (Un Rs) G (upd H l (.lst [])) (Un Rs) := (stp_lay hl).weak fun a z => .inl z
  have hq : upd H l (.lst []) q = some (.lst (xs.map V.int)) := ex_new hl _ _ h2
  have allI : ∀ ys : List Int, DpAll K (upd H l (.lst [])) (ys.map V.int) (ys.map .int) := fun ys => by
    induction ys with
    | nil => exact .nil
    | cons y ys ih => exact .cons (.int y) ih
  have cl : ∀ ys : List Int, PyData.canLayAll0 (ys.map .int) = true := fun ys => by
    induction ys with
    | nil => rfl
    | cons y ys ih =>
      show (true && _) = true
      exact ih
  have dz : ∀ ys : List Int, PyData.depth (.list (ys.map .int)) ≤ 64 := fun ys => by
    have : ∀ ys : List Int, PyData.depthAll (ys.map .int) = 0 := fun ys => by
      induction ys with
      | nil => rfl
      | cons y ys ih => simp [PyData.depthAll, PyData.depth, ih]
    simp [PyData.depth, this]
  refine ⟨.list (xs.map .int), .list [], .lst (SqL.of hq) (allI xs), .lst (SqL.of upd_same) .nil, ?_, by decide, ?_⟩
  · unfold SeqAt.shaped
    rw [Bool.and_eq_true]
    exact ⟨cl xs, decide_eq_true (dz xs)⟩
  · have e : PyData.eqv (.list (xs.map .int)) (.list []) = xs.isEmpty := by cases xs <;> rfl
    rw [e]
    exact kk _ _ G _ Rs es x (.bl _) st k
theorem we_bx00 {Q : PyData → Es → Prop} {x : Int} (hi : es[i]? = some (some (bxS p q s xs))) (hx : xs.head? = some x) (k : Q (.int x) es) : WE (tOp (rIxL K) (tOp (rIxL K) (tVar i) (tC (.int 0))) (tC (.int 0))) es Q := fun σ G H Rs Kf hs kk => by
  obtain ⟨v, hv, e, rp, rq, h1, h2⟩ := hs.at' i _ hi
  subst e
  cases xs with
  | nil => cases hx
  | cons y ys =>
    cases hx
    exact ⟨_, hv, p, _, 0, _, rfl, rfl, SqL.of h1, rfl, q, _, 0, .int x, rfl, rfl, SqL.of h2, by simp [atI, ixN], kk _ _ G H Rs es hs (.int _) .rf k⟩
theorem ws_bx1 (hi : es[i]? = some (some (bxS p q s xs))) (h : WE te es fun d e => ∃ s', d = .int s' ∧ e[i]? = some (some (bxS p q s xs)) ∧ E.nx (e.set i (some (bxS p q s' xs)))) :
    WS (tAsg te (gSub (tVar i) (tC (.int 1)) L2.rSetL)) es E := fun σ G H Rs D hs hh =>
  h σ G H Rs _ hs fun v d G1 H1 R1 e1 s1 r1 st1 ⟨s', ed, h1, k⟩ => by
    subst ed
    cases r1
    obtain ⟨v, hv, e, rp, rq, g1, g2⟩ := s1.at' i _ h1
    subst e
    have pq : p ≠ q := fun z => by
      rw [z, g2] at g1
      cases xs with
      | nil => cases g1
      | cons y ys =>
        have := (HO.lst.inj (Option.some.inj g1))
        simp at this
    refine ⟨_, hv, p, _, 1, 1, rfl, rfl, g1, rfl, ?_⟩
    refine hh.nx σ G1 _ R1 _ (s1.mut (fun _ z => nomatch z) (p := p) (r' := bxS p q s' xs) h1 hv rp ⟨rfl, rp, rq, upd_same, by rw [upd_ne (Ne.symm pq)]; exact g2⟩) (st1.tr (stp_mut ⟨i, rp⟩ (by rw [g1]; simp))) k
theorem ws_bx00 {x : Int} {ys : List Int} (hi : es[i]? = some (some (bxS p q s (x :: ys)))) (h : WE te es fun d e => ∃ y, d = .int y ∧ e[i]? = some (some (bxS p q s (x :: ys))) ∧ E.nx (e.set i (some (bxS p q s (y :: ys))))) :
    WS (tAsg te (gSub (tOp (rIxL K) (tVar i) (tC (.int 0))) (tC (.int 0)) L2.rSetL)) es E := fun σ G H Rs D hs hh =>
  h σ G H Rs _ hs fun v d G1 H1 R1 e1 s1 r1 st1 ⟨y, ed, h1, k⟩ => by
    subst ed
    cases r1
    obtain ⟨v, hv, e, rp, rq, g1, g2⟩ := s1.at' i _ h1
    subst e
    have pq : q ≠ p := fun z => by
      rw [z, g1] at g2
      have := (HO.lst.inj (Option.some.inj g2))
      simp at this
    refine ⟨_, hv, p, _, 0, _, rfl, rfl, SqL.of g1, rfl, q, _, 0, 0, rfl, rfl, g2, by simp [ixN], ?_⟩
    refine hh.nx σ G1 _ R1 _ (s1.mut (fun _ z => nomatch z) (p := q) (r' := bxS p q s (y :: ys)) h1 hv rq ⟨rfl, rp, rq, by rw [upd_ne (Ne.symm pq)]; exact g1, upd_same⟩) (st1.tr (stp_mut ⟨i, rq⟩ (by rw [g2]; simp))) k
theorem ws_bxPop {x : Int} {ys : List Int} (hi : es[i]? = some (some (bxS p q s (x :: ys)))) (hl : ys.length ≤ 64) (k : E.nx (es.set i (some (bxS p q s ys)))) :
    WS (tDrop (tBM K "list" rPopAt (tOp (rIxL K) (tVar i) (tC (.int 0))) (tCons (tC (.int 0)) tNil))) es E := fun σ G H Rs D hs hh => by
  obtain ⟨v, hv, e, rp, rq, g1, g2⟩ := hs.at' i _ hi
  subst e
  have pq : q ≠ p := fun z => by
    rw [z, g1] at g2
    have := (HO.lst.inj (Option.some.inj g2))
    simp at this
  refine ⟨_, hv, p, _, 0, _, rfl, rfl, SqL.of g1, rfl, tyV_l g2, q, _, 0, 0, .int x, rfl, rfl, g2, by decide, by decide, seqIx (k := 0) (by simp), rfl, ?_⟩
  exact hh.nx σ G _ Rs _ (hs.mut (fun _ z => nomatch z) (p := q) (r' := bxS p q s ys) hi hv rq ⟨rfl, rp, rq, by rw [upd_ne (Ne.symm pq)]; exact g1, upd_same⟩) (.tr .rf (stp_mut ⟨i, rq⟩ (by rw [g2]; simp))) k
end
end DV

namespace DV
open PySem PySem.Spec PyProof.Rows L2
/-! ### what may be told -/
def isWordB (x : Str) : Bool := decide (1 ≤ x.length) && decide (x.length ≤ 6) && x.cps.toList.all fun c => decide (c ∈ lettersS.cps.toList)
theorem isWordB_iff {x : Str} : isWordB x = true ↔ WordOk x := by
  unfold isWordB WordOk
  rw [Bool.and_eq_true, Bool.and_eq_true, decide_eq_true_eq, decide_eq_true_eq, List.all_eq_true, and_assoc]
  simp only [decide_eq_true_eq]
def gsOf (rs : List Row) : List Str := srt (groundsOf rs)
def faultOf (rs : List Row) (r : Row) : Option Str :=
  if 60 ≤ rs.length then some "rows" else if (rWords r).all isWordB = false then some "word" else if 5 < (rBody r).length then some "body"
  else match rGround r with
    | some g => if g ∉ gsOf rs ∧ 8 ≤ (gsOf rs).length then some "grounds" else none
    | none => none
/-- a book's rows -/
inductive Told : List Row → Prop where
  | nil : Told []
  | tell {rs : List Row} {r : Row} : Told rs → faultOf rs r = none → Told (rs ++ [r])
theorem fault_ok {rs : List Row} {r : Row} (h : faultOf rs r = none) : rs.length < 60 ∧ RowOk r := by
  unfold faultOf at h
  split at h
  · cases h
  · rename_i h1
    split at h
    · cases h
    · rename_i h2
      split at h
      · cases h
      · rename_i h3
        refine ⟨by omega, fun w hw => ?_, by omega⟩
        have := List.all_eq_true.mp (by simpa using h2) w hw
        exact isWordB_iff.mp this
theorem Told.ok {rs : List Row} (h : Told rs) : rs.length ≤ 60 ∧ ∀ r ∈ rs, RowOk r := by
  induction h with
  | nil => exact ⟨by simp, fun r hr => by simp at hr⟩
  | tell h1 h2 ih =>
    obtain ⟨a, b⟩ := fault_ok h2
    refine ⟨by simp; omega, fun r hr => ?_⟩
    rcases List.mem_append.mp hr with hr | hr
    · exact ih.2 r hr
    · rw [List.mem_singleton.mp hr]
      exact b
theorem grounds_map : ∀ rs : List Row, ((rs.filter fun r => (rGround r).isSome).map fun r => PyData.str ((rGround r).getD Str.empty)) = (groundsOf rs).map .str
  | [] => rfl
  | r :: rs => by
    have ih := grounds_map rs
    unfold groundsOf at ih ⊢
    cases h : rGround r with
    | none => rw [List.filter_cons_of_neg (by rw [h]; decide), List.filterMap_cons_none h, ih]
    | some g => rw [List.filter_cons_of_pos (by rw [h]; rfl), List.filterMap_cons_some h, List.map_cons, List.map_cons, ih, h] <;> rfl
theorem atI_nat {ds : List PyData} {k : Nat} {x : PyData} (h : ds[k]? = some x) : atI ds (k : Int) = some x := by
  have hk := (List.getElem?_eq_some_iff.mp h).1
  have e : ixN ds.length (k : Int) = some k := by
    unfold ixN
    rw [if_pos (by omega), if_pos (by omega)]
    simp
  unfold atI
  rw [e]
  exact h
theorem atI_0 {x : PyData} {ds : List PyData} : atI (x :: ds) 0 = some x := atI_nat (k := 0) rfl
theorem atI_1 {x y : PyData} {ds : List PyData} : atI (x :: y :: ds) 1 = some y := atI_nat (k := 1) rfl
theorem cut_drop (xs : List PyData) (k : Nat) : DV.cutD xs (some (k : Int)) none = xs.drop k := by
  unfold DV.cutD
  rw [HT.sIx_nat, HT.sIx_none, List.take_of_length_le (by rw [List.length_drop]; omega)]
  by_cases h : k ≤ xs.length
  · rw [Nat.min_eq_left h]
  · rw [Nat.min_eq_right (by omega), List.drop_of_length_le (by omega), List.drop_of_length_le (by omega)]
theorem cut_take (xs : List PyData) (k : Nat) : DV.cutD xs none (some (k : Int)) = xs.take k := by
  unfold DV.cutD
  rw [HT.sIx_nat, HT.sIx_none, List.drop_zero, Nat.sub_zero]
  by_cases h : k ≤ xs.length
  · rw [Nat.min_eq_left h]
  · rw [Nat.min_eq_right (by omega), List.take_of_length_le (by omega), List.take_of_length_le (by omega)]
theorem cut_mid (xs : List PyData) (j k : Nat) : DV.cutD xs (some (j : Int)) (some (k : Int)) = (xs.take k).drop j := by
  unfold DV.cutD
  rw [HT.sIx_nat, HT.sIx_nat, List.drop_take]
  by_cases h : j ≤ xs.length
  · by_cases h2 : k ≤ xs.length
    · rw [Nat.min_eq_left h, Nat.min_eq_left h2]
    · rw [Nat.min_eq_left h, Nat.min_eq_right (by omega), List.take_of_length_le (by rw [List.length_drop]; omega), List.take_of_length_le (by rw [List.length_drop]; omega)]
  · rw [List.drop_of_length_le (show xs.length ≤ min j xs.length by omega), List.drop_of_length_le (show xs.length ≤ j by omega)]
    simp
theorem cut_1 (xs : List PyData) : DV.cutD xs (some 1) none = xs.drop 1 := cut_drop xs 1
theorem cut_2 (xs : List PyData) : DV.cutD xs (some 2) none = xs.drop 2 := cut_drop xs 2
def optD : Option Str → PyData
  | none => .none
  | some x => .str x
/-- the rows one by one, by their numbers -/
def nthRow (rs : List Row) (k : Nat) (_ : PyData) : PyData := (rs[k]?).elim .none rowD
theorem nthRow_all {rs : List Row} {ds : List PyData} (h : ds.length = rs.length) : ds.mapIdx (nthRow rs) = rs.map rowD := by
  apply List.ext_getElem?
  intro k
  rw [List.getElem?_mapIdx, List.getElem?_map]
  by_cases hk : k < rs.length
  · rw [List.getElem?_eq_getElem (show k < ds.length by omega), List.getElem?_eq_getElem hk]
    unfold nthRow
    rw [Option.map_some, List.getElem?_eq_getElem hk]
    rfl
  · rw [List.getElem?_eq_none (show ds.length ≤ k by omega), List.getElem?_eq_none (show rs.length ≤ k by omega)]
    rfl
theorem ref_bk {C a l : Addr} {rs : List Row} : IsRef a (bk C a l rs) := fun _ _ _ _ h => h.1
section
variable [B : Bs] {es : Es} {σ : L2.St} {G H : Hp} {Rs : Nat → Addr → Prop} {ta tb te tl : TE} {tt : TT} {ts us : TS} {E : SE} {K : PySem.W.Frag} {C a l : Addr} {rs : List Row} {i : Nat}
theorem wm_lcBf {j : Nat} {vs : List Nat} {Q : Own → Es → Prop} (f : Row → Bool) (g : Row → PyData) (c : Cls K C) (n : NoAttr K C "told_rows") (hi : es[i]? = some (some (bk C a l rs))) (hj : j ∈ vs) (fr : freeB vs es = true) (hz : rs.length ≤ 100000) (hn : es.set j none = es)
    (ht : ∀ x ∈ rs, WT tt (es.set j (some (fz (rowD x)))) fun b e2 => b = f x ∧ e2 = es.set j (some (fz (rowD x)))) (he : ∀ x ∈ rs, f x = true → WE te (es.set j (some (fz (rowD x)))) fun y e2 => y = g x ∧ e2 = es.set j (some (fz (rowD x))))
    (q : ∀ p, Q (ml p ((rs.filter f).map g)) es) : WM (tLc (iList K (tFld K (tVar i) "told_rows")) (gName j) tt te vs) es Q := by
  have hcl : ∀ x, (es.set j (some (fz x))).set j none = es := fun x => by rw [List.set_set, hn]
  refine wm_lcB c n hi hj fr hz (fun k acc e => acc = ((rs.take k).filter f).map g ∧ e = es) ⟨by simp, rfl⟩ (fun k x acc e hx ⟨ea, ee⟩ => ?_) (fun k acc e ⟨_, ee⟩ => by rw [ee]; exact hi) fun acc e ⟨ea, ee⟩ p => ?_
  · subst ea ee
    have hm : x ∈ rs := List.mem_of_getElem? hx
    have tk : rs.take (k + 1) = rs.take k ++ [x] := by rw [List.take_succ, hx]; rfl
    refine wt_mono (ht x hm) fun b e2 ⟨eb, ee⟩ => ⟨fun hb => ?_, fun hb => ?_⟩
    · rw [ee]
      have hfx : f x = true := by rw [← eb]; exact hb
      refine we_mono (he x hm hfx) fun y e3 ⟨ey, ee⟩ => ?_
      rw [ey, ee, hcl]
      refine ⟨free_of fr, ?_, rfl⟩
      rw [tk, List.filter_append, List.map_append, List.filter_cons, if_pos hfx]
      rfl
    · have hfx : f x = false := by rw [← eb]; exact hb
      rw [ee, hcl]
      refine ⟨free_of fr, ?_, rfl⟩
      rw [tk, List.filter_append, List.map_append, List.filter_cons, if_neg (by rw [hfx]; decide)]
      simp
  · subst ea ee
    rw [List.take_length]
    exact q p
/-- over data that are told of the members of xs -/
theorem lcI_fnA {α : Type} {j : Nat} {vs : List Nat} {xs : List α} {Q : Own → Es → Prop} (dd : α → PyData) (f : α → Bool) (g : α → PyData) (hj : j ∈ vs) (fr : freeB vs es = true) (l : xs.length ≤ 100000) (hn : es.set j none = es)
    (ht : ∀ x ∈ xs, WT tt (es.set j (some (fz (dd x)))) fun b e2 => b = f x ∧ e2 = es.set j (some (fz (dd x)))) (he : ∀ x ∈ xs, f x = true → WE te (es.set j (some (fz (dd x)))) fun y e2 => y = g x ∧ e2 = es.set j (some (fz (dd x))))
    (q : ∀ p, Q (ml p ((xs.filter f).map g)) es) : LcI tt te j vs (xs.map dd) es Q := by
  have hcl : ∀ x, (es.set j (some (fz x))).set j none = es := fun x => by rw [List.set_set, hn]
  refine ⟨hj, free_of fr, by rw [List.length_map]; exact l, fun k acc e => acc = ((xs.take k).filter f).map g ∧ e = es, ⟨by simp, rfl⟩, fun k x acc e hx ⟨ea, ee⟩ => ?_, fun acc e ⟨ea, ee⟩ p => ?_⟩
  · subst ea ee
    rw [List.getElem?_map, Option.map_eq_some_iff] at hx
    obtain ⟨y, hy, rfl⟩ := hx
    have hm : y ∈ xs := List.mem_of_getElem? hy
    have tk : xs.take (k + 1) = xs.take k ++ [y] := by rw [List.take_succ, hy]; rfl
    refine wt_mono (ht y hm) fun b e2 ⟨eb, ee⟩ => ⟨fun hb => ?_, fun hb => ?_⟩
    · rw [ee]
      have hfx : f y = true := by rw [← eb]; exact hb
      refine we_mono (he y hm hfx) fun z e3 ⟨ez, ee⟩ => ?_
      rw [ez, ee, hcl]
      refine ⟨free_of fr, ?_, rfl⟩
      rw [tk, List.filter_append, List.map_append, List.filter_cons, if_pos hfx]
      rfl
    · have hfx : f y = false := by rw [← eb]; exact hb
      rw [ee, hcl]
      refine ⟨free_of fr, ?_, rfl⟩
      rw [tk, List.filter_append, List.map_append, List.filter_cons, if_neg (by rw [hfx]; decide)]
      simp
  · subst ea ee
    rw [List.length_map, List.take_length]
    exact q p
theorem lcI_mapA {α : Type} {j : Nat} {vs : List Nat} {xs : List α} {Q : Own → Es → Prop} (dd : α → PyData) (g : α → PyData) (hj : j ∈ vs) (fr : freeB vs es = true) (l : xs.length ≤ 100000) (hn : es.set j none = es)
    (he : ∀ x ∈ xs, WE te (es.set j (some (fz (dd x)))) fun y e2 => y = g x ∧ e2 = es.set j (some (fz (dd x)))) (q : ∀ p, Q (ml p (xs.map g)) es) : LcI tYes te j vs (xs.map dd) es Q :=
  lcI_fnA dd (fun _ => true) g hj fr l hn (fun x _ => wt_yes ⟨rfl, rfl⟩) (fun x hx _ => he x hx) fun p => by rw [List.filter_eq_self.mpr (fun _ _ => rfl)]; exact q p
/-- the box is shut when the def ends -/
theorem ws_shutRt {i : Nat} {p : Addr} (h : WS ts es { E with rt := fun r e => ∃ q s xs, e[i]? = some (some (bxS p q s xs)) ∧ BxOk s xs ∧ E.rt r (e.set i (some (bx p))) }) : WS ts es E := fun σ G H Rs D hs hh =>
  h σ G H Rs D hs ⟨hh.nx, fun v r σ' G' H' Rs' Rr es' x y w ⟨q, s, xs, a, b, c⟩ => hh.rt v r σ' G' H' Rs' Rr _ (x.re (r' := bx p) a fun v z => ⟨q, s, xs, b, z⟩) y w c, hh.bk, hh.ct⟩
theorem we_neg {Q : PyData → Es → Prop} (h : WE te es fun d e => ∃ i, d = .int i ∧ Q (.int (-i)) e) : WE (tUn (rU fun i => .int (-i)) te) es Q := fun σ G H Rs Kf hs kk =>
  h σ G H Rs _ hs fun v d G1 H1 R1 e1 s1 r1 st1 ⟨i, ed, q⟩ => by
    subst ed
    cases r1
    exact ⟨i, rfl, kk _ _ G1 H1 R1 e1 s1 (.int _) st1 q⟩
/-! ### comprehensions over enumerate(a list) -/
theorem Sat.clr2 {m n : Nat} {u v : Option V} (hs : Sat G H ((σ.set m u).set n v) es Rs) : Sat G H σ ((es.set n none).set m none) Rs := hs.clr.clr
theorem lc_enum {m n : Nat} {vs : List Nat} {ds : List PyData} {p : Addr} {xs : List V} {Kf : VK} {D : Addr} {Q : Own → Es → Prop} (hm : m ∈ vs) (hn : n ∈ vs) (hs : Sat G H σ es Rs) (f0 : Free vs es) (hD : H D = none) (hl : ds.length ≤ 100000)
    (hp : G p = some (.lst xs)) (rp : RpAll G xs ds) (I : Nat → List PyData → Es → Prop) (h0 : I 0 [] es)
    (turn : ∀ k x acc e, ds[k]? = some x → I k acc e → WT tt ((e.set m (some (fz (.int (k : Int))))).set n (some (fz x))) fun b e2 => (b = true → WE te e2 fun y e3 => Free vs ((e3.set n none).set m none) ∧ I (k + 1) (acc ++ [y]) ((e3.set n none).set m none)) ∧ (b = false → Free vs ((e2.set n none).set m none) ∧ I (k + 1) acc ((e2.set n none).set m none)))
    (stop : ∀ acc e, I ds.length acc e → Q (ml D acc) e) (kk : ∀ v r G' H' Rs' Rr es', Sat G' H' σ es' Rs' → Tmp r G' H' Rs' Rr v → Stp G H (Un Rs) G' H' (fun a => Un Rs' a ∨ Rr a) → Q r es' → Kf v H') :
    ∃ W : Nat → Nat → Hp → Prop, (∃ m, W 0 m (upd H D (.lst []))) ∧ ∀ i mm H, W i mm H →
      ((Ite K p).stop i H ∧ Kf (.ref D) H) ∨ ((Ite K p).go i H ∧ ∃ Nx : Hp → Prop, (∀ H', Nx H' → ∃ m', m' < mm ∧ W (i + 1) m' H') ∧ ∀ x H', (Ite K p).yld i H x H' → (gTup K 2 (gCons (gName m) (gCons (gName n) gNil))) x (L2.wipe σ vs) H' fun σ2 H2 => L2.wipe σ2 vs = L2.wipe σ vs ∧ tt σ2 H2 fun b H3 =>
        if b = true then te σ2 H3 fun y H4 => ∃ acc, H4 D = some (.lst acc) ∧ acc.length < sizeLine ∧ Nx (upd H4 D (.lst (acc ++ [y]))) else Nx H3) := by
  let Pv : Nat → Hp → Prop := fun k H' => ∃ acc va e G' Rs', Sat G' H' (L2.wipe σ vs) e Rs' ∧ Free vs e ∧ H' D = some (.lst va) ∧ RpAll G' va acc ∧ G' D = none ∧ ¬ Un Rs' D ∧ Stp G H (Un Rs) G' H' (Un Rs') ∧ I k acc e ∧ acc.length ≤ k
  have hu : ¬ Un Rs D := fun ⟨i, z⟩ => hs.al i D z hD
  refine ⟨fun i m H' => m = ds.length - i ∧ i ≤ ds.length ∧ Pv i H', ⟨ds.length, by simp, Nat.zero_le _, [], [], es, G, Rs, (hs.lay hD).wipe f0, f0, upd_same, .nil, hs.gnone hD, hu, stp_out .rf hD, h0, Nat.le_refl _⟩, ?_⟩
  rintro i mm H1 ⟨rfl, hi, acc, va, e, G1, R1, s1, f1, hv, rv, gD, uD, st, ik, al⟩
  have hx1 : SqL K H1 p xs := SqL.of (s1.ex _ _ (st.g _ _ hp))
  by_cases hlt : i < ds.length
  · have hk2 : i < xs.length := by rw [rp.length]; exact hlt
    refine .inr ⟨⟨xs, xs[i], hx1, List.getElem?_eq_getElem hk2⟩, Pv (i + 1), fun H' p' => ⟨ds.length - (i + 1), by omega, rfl, hlt, p'⟩, ?_⟩
    rintro _ _ ⟨T, x, rfl, hT, rfl, hx⟩
    obtain ⟨d, hd, rx0⟩ := rp.getV (hx xs hx1)
    have rx := rx0.mono st.g
    refine ⟨T, [.int i, x], rfl, SqT.of upd_same, rfl, .int i, [x], rfl, x, [], rfl, rfl, ?_, ?_⟩
    · have e1 : L2.wipe (((L2.wipe σ vs).set m (some (.int i))).set n (some x)) vs = L2.wipe ((L2.wipe σ vs).set m (some (.int i))) vs := by
        apply List.ext_getElem?
        intro k
        rw [wipe_get, wipe_get]
        by_cases q : k ∈ vs
        · rw [if_pos q, if_pos q, List.getElem?_set]
          by_cases z : n = k
          · subst z
            rw [if_pos rfl]
            by_cases l : n < ((L2.wipe σ vs).set m (some (V.int i))).length
            · rw [if_pos l, List.getElem?_eq_getElem l]
              rfl
            · rw [if_neg l, List.getElem?_eq_none (Nat.le_of_not_lt l)]
          · rw [if_neg z]
        · rw [if_neg q, if_neg q, List.getElem?_set_ne (fun z : n = k => q (by rw [← z]; exact hn))]
      rw [e1, wipe_set hm]
    have sT : Sat G1 (upd H1 T (.tup [.int i, x])) (L2.wipe σ vs) e R1 := s1.lay hT
    have stT : Stp G1 H1 (Un R1) G1 (upd H1 T (.tup [.int i, x])) (Un R1) := (stp_lay hT).weak fun a z => .inl z
    have hvT : upd H1 T (.tup [.int i, x]) D = some (.lst va) := ex_new hT _ _ hv
    obtain ⟨R2', s2', u2'⟩ := sT.setv (i := m) (.int (i : Int))
    obtain ⟨R2, s2, u2''⟩ := s2'.setv (i := n) rx
    have u2 : ∀ x, Un R2 x → Un R1 x := fun x z => u2' _ (u2'' _ z)
    have noD : ∀ {G3 H3 R3}, Stp G1 (upd H1 T (.tup [.int i, x])) (Un R2) G3 H3 (Un R3) → H3 D = some (.lst va) ∧ G3 D = none ∧ ¬ Un R3 D := fun {G3 H3 R3} st3 => by
      have nu : ¬ Un R2 D := fun z => uD (u2 _ z)
      refine ⟨st3.h D _ hvT nu, ?_, fun z => ?_⟩
      · cases q : G3 D with
        | none => rfl
        | some o =>
          rcases st3.n D (by rw [q]; simp) with z | z | z | ⟨ys, z⟩
          · exact absurd gD z
          · rw [hvT] at z
            cases z
          · exact absurd z nu
          · rw [hvT] at z
            cases z
      · rcases st3.u D z with z | z
        · exact nu z
        · rw [hvT] at z
          cases z
    refine turn i d acc e hd ik _ G1 _ R2 _ s2 fun b G3 H3 R3 e3 s3 st3 ⟨q1, q2⟩ => ?_
    have st3' : Stp G1 H1 (Un R1) G3 H3 (Un R3) := stT.tr ((Stp.weak .rf u2).tr st3)
    cases b with
    | true =>
      refine (if_pos rfl).mpr (q1 rfl _ G3 H3 R3 _ s3 fun v y G4 H4 R4 e4 s4 ry st4 ⟨f4, i4⟩ => ?_)
      obtain ⟨n1, n2, n3⟩ := noD (st3.tr st4)
      have st5 := st3'.tr st4
      refine ⟨va, n1, ?_, acc ++ [y], va ++ [v], _, G4, R4, (s4.clr2.out n2 n3 (hs.st.d D hD)), f4, upd_same, (rv.mono st5.g).append (.one ry), n2, n3, stp_out (st.tr st5) hD, i4, ?_⟩
      · rw [rv.length]
        exact Nat.lt_of_le_of_lt (Nat.le_trans al (Nat.le_trans hi hl)) (by decide)
      · rw [List.length_append, List.length_singleton]
        omega
    | false =>
      refine (if_neg Bool.false_ne_true).mpr ?_
      obtain ⟨n1, n2, n3⟩ := noD st3
      obtain ⟨f4, i4⟩ := q2 rfl
      exact ⟨acc, va, _, G3, R3, s3.clr2, f4, n1, rv.mono st3'.g, n2, n3, st.tr st3', i4, Nat.le_succ_of_le al⟩
  · have e0 : i = ds.length := by omega
    subst e0
    refine .inl ⟨⟨xs, hx1, by rw [rp.length]; exact Nat.le_refl _⟩, kk (.ref D) (ml D acc) G1 H1 R1 (isP D) e (s1.unwipe f1) ⟨⟨rfl, rfl, va, hv, rv⟩, fun a z => by rw [show a = D from z]; exact gD, fun a z => by rw [show a = D from z]; exact .of hv (fun _ z => nomatch z), fun i a z y => uD ⟨i, by rw [← show a = D from z]; exact y⟩, fun a z => .inr (by rw [show a = D from z]; exact hs.st.d D hD)⟩ ⟨st.g, st.h, st.d, fun a z => ?_, st.n⟩ (stop acc e ik)⟩
    rcases z with z | z
    · exact st.u a z
    · exact .inr (by rw [show a = D from z]; exact hD)
theorem wm_lcE {m n : Nat} {vs : List Nat} {Q : Own → Es → Prop} (h : WE tl es fun d e => ∃ ds, d = .list ds ∧ m ∈ vs ∧ n ∈ vs ∧ freeB vs e = true ∧ ds.length ≤ 100000 ∧ ∃ I : Nat → List PyData → Es → Prop, I 0 [] e ∧
    (∀ k x acc e, ds[k]? = some x → I k acc e → WT tt ((e.set m (some (fz (.int (k : Int))))).set n (some (fz x))) fun b e2 => (b = true → WE te e2 fun y e3 => Free vs ((e3.set n none).set m none) ∧ I (k + 1) (acc ++ [y]) ((e3.set n none).set m none)) ∧ (b = false → Free vs ((e2.set n none).set m none) ∧ I (k + 1) acc ((e2.set n none).set m none))) ∧
    ∀ acc e, I ds.length acc e → ∀ p, Q (ml p acc) e) : WM (tLc (iEnum K (tCons tl tNil)) (gTup K 2 (gCons (gName m) (gCons (gName n) gNil))) tt te vs) es Q := fun σ G H Rs Kf hs kk =>
  h σ G H Rs _ hs fun v d G1 H1 R1 e1 s1 r1 st1 ⟨ds, ed, hm, hn, f, l, I, i0, it, ie⟩ => by
    subst ed
    cases r1 with
    | @lst a xs _ ha ra =>
      exact ⟨a, xs, rfl, SqL.of (s1.ex _ _ ha), fun D hD => lc_enum hm hn s1 (free_of f) hD l ha ra I i0 it (fun acc e i => ie acc e i D) fun v r G' H' Rs' Rr es' a b c d => kk v r G' H' Rs' Rr es' a b (st1.tr c) d⟩
/-- the plain case -/
theorem wm_lcEf {m n : Nat} {vs : List Nat} {Q : Own → Es → Prop} (h : WE tl es fun d e => ∃ ds, d = .list ds ∧ ∃ g : Nat → PyData → PyData, m ∈ vs ∧ n ∈ vs ∧ freeB vs e = true ∧ ds.length ≤ 100000 ∧ (e.set n none).set m none = e ∧
    (∀ (k : Nat) x, ds[k]? = some x → WE te ((e.set m (some (fz (.int (k : Int))))).set n (some (fz x))) fun y e2 => y = g k x ∧ (e2.set n none).set m none = e) ∧ ∀ p, Q (ml p (ds.mapIdx g)) e) : WM (tLc (iEnum K (tCons tl tNil)) (gTup K 2 (gCons (gName m) (gCons (gName n) gNil))) tYes te vs) es Q :=
  wm_lcE (we_mono h fun d e ⟨ds, ed, g, hm, hn, f, l, cl, it, q⟩ => ⟨ds, ed, hm, hn, f, l, fun k acc e' => e' = e ∧ acc = (ds.take k).mapIdx g, ⟨rfl, by simp⟩, fun k x acc e' hx ⟨ee, ea⟩ => by
    subst ee ea
    refine wt_yes ⟨fun _ => we_mono (it k x hx) fun y e2 ⟨ey, c2⟩ => ?_, fun z => by cases z⟩
    rw [c2, ey]
    have hk : k < ds.length := (List.getElem?_eq_some_iff.mp hx).1
    have tk : ds.take (k + 1) = ds.take k ++ [x] := by rw [List.take_succ, hx]; rfl
    refine ⟨free_of f, rfl, ?_⟩
    rw [tk, List.mapIdx_append]
    simp [Nat.min_eq_left (Nat.le_of_lt hk)], fun acc e' ⟨ee, ea⟩ p => by
    subst ee ea
    rw [List.take_length]
    exact q p⟩)
end
end DV

namespace DV
open PySem PySem.Spec PyProof.Rows L2
/-! ### texts split and joined -/
theorem str_ext {a b : Str} (h : a.cps.toList = b.cps.toList) : a = b := by
  cases a
  cases b
  simp only at h
  congr 1
  exact Array.toList_inj.mp h
theorem cps_app (a b : Str) : (a ++ b).cps.toList = a.cps.toList ++ b.cps.toList := by
  show (a.cps ++ b.cps).toList = _
  rw [Array.toList_append]
theorem cons_inj {c : Nat} : ∀ {x y A B : List Nat}, c ∉ x → c ∉ y → x ++ c :: A = y ++ c :: B → x = y ∧ A = B
  | [], [], A, B, _, _, h => by simpa using h
  | [], b :: y, A, B, _, hy, h => by
    simp at h
    exact absurd h.1 fun z => hy (by rw [z]; exact List.mem_cons_self)
  | a :: x, [], A, B, hx, _, h => by
    simp at h
    exact absurd h.1.symm fun z => hx (by rw [z]; exact List.mem_cons_self)
  | a :: x, b :: y, A, B, hx, hy, h => by
    simp at h
    obtain ⟨e1, e2⟩ := cons_inj (fun z => hx (List.mem_cons_of_mem _ z)) (fun z => hy (List.mem_cons_of_mem _ z)) h.2
    exact ⟨by rw [h.1, e1], e2⟩
theorem join_cons2 (sep x y : Str) (r : List Str) : (Str.join sep (x :: y :: r)).cps.toList = x.cps.toList ++ (sep.cps.toList ++ (Str.join sep (y :: r)).cps.toList) := by
  show (x ++ sep ++ Str.join sep (y :: r)).cps.toList = _
  rw [cps_app, cps_app, List.append_assoc]
theorem join_inj (c : Nat) : ∀ (ts us : List Str), ts ≠ [] → us ≠ [] → (∀ t ∈ ts, c ∉ t.cps.toList) → (∀ t ∈ us, c ∉ t.cps.toList) → Str.join ⟨#[c]⟩ ts = Str.join ⟨#[c]⟩ us → ts = us
  | [], _, h, _, _, _, _ => absurd rfl h
  | _ :: _, [], _, h, _, _, _ => absurd rfl h
  | [x], [y], _, _, _, _, e => by
    have e : x = y := e
    rw [e]
  | [x], y :: z :: r, _, _, hx, _, e => by
    have e1 := congrArg (fun s => s.cps.toList) e
    rw [join_cons2] at e1
    have e2 : x.cps.toList = y.cps.toList ++ ([c] ++ (Str.join ⟨#[c]⟩ (z :: r)).cps.toList) := e1
    exact absurd (by rw [e2]; simp) (hx x List.mem_cons_self)
  | x :: z :: r, [y], _, _, _, hy, e => by
    have e1 := congrArg (fun s => s.cps.toList) e
    rw [join_cons2] at e1
    have e2 : x.cps.toList ++ ([c] ++ (Str.join ⟨#[c]⟩ (z :: r)).cps.toList) = y.cps.toList := e1
    exact absurd (by rw [← e2]; simp) (hy y List.mem_cons_self)
  | x :: x2 :: r, y :: y2 :: q, _, _, hx, hy, e => by
    have e1 := congrArg (fun s => s.cps.toList) e
    rw [join_cons2, join_cons2] at e1
    obtain ⟨a, b⟩ := cons_inj (c := c) (hx x List.mem_cons_self) (hy y List.mem_cons_self) (show x.cps.toList ++ c :: (Str.join ⟨#[c]⟩ (x2 :: r)).cps.toList = y.cps.toList ++ c :: (Str.join ⟨#[c]⟩ (y2 :: q)).cps.toList from e1)
    rw [str_ext a, join_inj c (x2 :: r) (y2 :: q) (by simp) (by simp) (fun t ht => hx t (List.mem_cons_of_mem _ ht)) (fun t ht => hy t (List.mem_cons_of_mem _ ht)) (str_ext b)]
theorem split_ne (x y : Str) : Txt.split x y ≠ [] := fun h => by
  have := split_pos x y
  rw [h] at this
  simp at this
theorem split_join' (c : Nat) (ts : List Str) (h : ts ≠ []) (hf : ∀ t ∈ ts, c ∉ t.cps.toList) : Txt.split (Str.join ⟨#[c]⟩ ts) ⟨#[c]⟩ = ts :=
  join_inj c _ ts (split_ne _ _) h (fun t ht => StrLaws.split_free _ c t ht) hf (StrLaws.join_split _ _)
theorem txt_join (sep : Str) (ts : List Str) : Txt.join sep ts = Str.join sep ts := by
  first | exact join_eq _ _ | exact glued_eq_join _ _ | exact StrLaws.glued_eq_join _ _
theorem split_join (c : Nat) (ts : List Str) (h : ts ≠ []) (hf : ∀ t ∈ ts, c ∉ t.cps.toList) : Txt.split (Txt.join ⟨#[c]⟩ ts) ⟨#[c]⟩ = ts := by
  rw [txt_join]
  exact split_join' c ts h hf
/-! ### a row's text -/
def kindS : Row → Str
  | .g _ => "ground"
  | .r _ _ => "rule"
  | .c _ => "clash"
def rowText (r : Row) : Str := Txt.join " " (kindS r :: rWords r)
def textOf (rs : List Row) : Str := Txt.join "\n" (rs.map rowText)
theorem letters_lo : ∀ c ∈ lettersS.cps.toList, 97 ≤ c := by decide +kernel
theorem word_lo {x : Str} (h : WordOk x) : ∀ c ∈ x.cps.toList, 97 ≤ c := fun c hc => letters_lo c (h.2.2 c hc)
theorem kindS_in (r : Row) : kindS r ∈ ([("ground" : Str), "rule", "clash"] : List Str) := by cases r <;> simp [kindS]
theorem kind_lo (r : Row) : ∀ c ∈ (kindS r).cps.toList, 97 ≤ c := (by decide +kernel : ∀ k ∈ ([("ground" : Str), "rule", "clash"] : List Str), ∀ c ∈ k.cps.toList, 97 ≤ c) _ (kindS_in r)
theorem kind_len (r : Row) : 1 ≤ (kindS r).length ∧ (kindS r).length ≤ 6 := (by decide +kernel : ∀ k ∈ ([("ground" : Str), "rule", "clash"] : List Str), 1 ≤ k.length ∧ k.length ≤ 6) _ (kindS_in r)
theorem row_lo {r : Row} (h : RowOk r) : ∀ t ∈ kindS r :: rWords r, ∀ c ∈ t.cps.toList, 97 ≤ c := fun t ht => by
  rcases List.mem_cons.mp ht with e | ht
  · rw [e]
    exact kind_lo r
  · exact word_lo (h.1 t ht)
theorem split_row {r : Row} (h : RowOk r) : Txt.split (rowText r) " " = kindS r :: rWords r := by
  refine split_join 32 _ (by simp) fun t ht hc => ?_
  have := row_lo h t ht 32 hc
  omega
theorem mem_txt_join {c : Nat} {sep : Str} {ts : List Str} (h : c ∈ (Txt.join sep ts).cps.toList) : (∃ t ∈ ts, c ∈ t.cps.toList) ∨ c ∈ sep.cps.toList := by
  rw [txt_join] at h
  induction ts with
  | nil => simp [Str.join, Str.empty] at h
  | cons x r ih =>
    cases r with
    | nil => exact .inl ⟨x, List.mem_cons_self, h⟩
    | cons y r =>
      rw [join_cons2, List.mem_append, List.mem_append] at h
      rcases h with h | h | h
      · exact .inl ⟨x, List.mem_cons_self, h⟩
      · exact .inr h
      · rcases ih h with ⟨t, ht, hc⟩ | hc
        · exact .inl ⟨t, List.mem_cons_of_mem _ ht, hc⟩
        · exact .inr hc
theorem split_text {rs : List Row} (h : ∀ r ∈ rs, RowOk r) (hn : rs ≠ []) : Txt.split (textOf rs) "\n" = rs.map rowText := by
  refine split_join 10 _ (by simpa using hn) fun t ht hc => ?_
  obtain ⟨r, hr, rfl⟩ := List.mem_map.mp ht
  rcases mem_txt_join hc with ⟨u, hu, hc⟩ | hc
  · have := row_lo (h r hr) u hu 10 hc
    omega
  · have : (10 : Nat) ∉ (" " : Str).cps.toList := by decide +kernel
    exact this hc
/-! lengths -/
theorem sum_le {B : Nat} : ∀ {ts : List Str}, (∀ t ∈ ts, t.length ≤ B) → (ts.map (·.length)).sum ≤ ts.length * B
  | [], _ => by simp
  | x :: r, h => by
    have h1 := h x List.mem_cons_self
    have h2 := sum_le (ts := r) fun t ht => h t (List.mem_cons_of_mem _ ht)
    simp only [List.map_cons, List.sum_cons, List.length_cons, Nat.succ_mul]
    omega
theorem txt_join_len (sep : Str) (ts : List Str) : (Txt.join sep ts).length ≤ (ts.map (·.length)).sum + ts.length * sep.length := by
  rw [txt_join]
  exact StrLaws.join_length_le sep ts
theorem row_sum {r : Row} (h : RowOk r) : ((kindS r :: rWords r).map (·.length)).sum ≤ 42 ∧ (kindS r :: rWords r).length ≤ 7 := by
  have hk := (kind_len r).2
  have hl : (rWords r).length ≤ 6 := by
    have := h.2
    cases r <;> simp [rWords, rBody] at this ⊢ <;> omega
  have hs := sum_le (B := 6) fun t ht => (h.1 t ht).2.1
  refine ⟨?_, by simp; omega⟩
  rw [List.map_cons, List.sum_cons]
  have : (rWords r).length * 6 ≤ 36 := by omega
  omega
theorem sp_len : (" " : Str).length = 1 := by decide +kernel
theorem nl_len : ("\n" : Str).length = 1 := by decide +kernel
theorem rowText_len {r : Row} (h : RowOk r) : (rowText r).length ≤ 49 := by
  obtain ⟨a, b⟩ := row_sum h
  have := txt_join_len " " (kindS r :: rWords r)
  rw [sp_len] at this
  show (Txt.join " " (kindS r :: rWords r)).length ≤ 49
  omega
theorem text_sum {rs : List Row} (h : ∀ r ∈ rs, RowOk r) : ((rs.map rowText).map (·.length)).sum ≤ rs.length * 49 := by
  have := sum_le (ts := rs.map rowText) (B := 49) fun t ht => by
    obtain ⟨r, hr, rfl⟩ := List.mem_map.mp ht
    exact rowText_len (h r hr)
  rwa [List.length_map] at this
theorem textOf_len {rs : List Row} (h : ∀ r ∈ rs, RowOk r) : (textOf rs).length ≤ rs.length * 50 := by
  have a := text_sum h
  have b := txt_join_len "\n" (rs.map rowText)
  rw [nl_len, List.length_map] at b
  show (Txt.join "\n" (rs.map rowText)).length ≤ _
  omega
theorem rowText_pos (r : Row) : 1 ≤ (rowText r).length := by
  have : ∀ (x : Str) (ts : List Str), x.length ≤ (Txt.join " " (x :: ts)).length := fun x ts => by
    rw [txt_join]
    cases ts with
    | nil => exact Nat.le_refl _
    | cons y ts =>
      have e := congrArg List.length (join_cons2 " " x y ts)
      rw [List.length_append] at e
      have e2 : ∀ s : Str, s.cps.toList.length = s.length := fun s => by simp [Str.length]
      rw [e2, e2] at e
      omega
  have h := this (kindS r) (rWords r)
  have hk := (kind_len r).1
  exact Nat.le_trans hk h
theorem textOf_nil : textOf [] = "" := by decide +kernel
theorem textOf_ne {rs : List Row} (h : rs ≠ []) : textOf rs ≠ "" := fun e => by
  cases rs with
  | nil => exact h rfl
  | cons r rs =>
    have h1 := rowText_pos r
    have h2 : (rowText r).length ≤ (textOf (r :: rs)).length := by
      show _ ≤ (Txt.join "\n" (rowText r :: rs.map rowText)).length
      rw [txt_join]
      cases rs with
      | nil => exact Nat.le_refl _
      | cons y ts =>
        have e := congrArg List.length (join_cons2 "\n" (rowText r) (rowText y) (ts.map rowText))
        rw [List.length_append] at e
        have e2 : ∀ s : Str, s.cps.toList.length = s.length := fun s => by simp [Str.length]
        rw [e2, e2] at e
        rw [List.map_cons]
        omega
    rw [e] at h2
    have : ("" : Str).length = 0 := by decide +kernel
    omega
theorem join_two (x y : Str) : Txt.join " " [x, y] = x ++ " " ++ y := by
  rw [txt_join]
  rfl
theorem join_more (x y : Str) (b : List Str) : Txt.join " " ((x ++ " " ++ y) :: b) = Txt.join " " (x :: y :: b) := by
  rw [txt_join, txt_join]
  apply str_ext
  rw [join_cons2]
  cases b with
  | nil =>
    show (x ++ " " ++ y).cps.toList = _
    rw [cps_app, cps_app, List.append_assoc]
    rfl
  | cons z b =>
    rw [join_cons2, join_cons2, cps_app, cps_app]
    simp only [List.append_assoc]
/-- a part of a row is put to the text -/
def putPart (s : Str) : PyData → Str
  | .str w => s ++ " " ++ w
  | .list b => Txt.join " " (s :: b.map fun d => match d with | .str w => w | _ => "")
  | _ => s
def partsOf : Row → List PyData
  | .g w => [.str w]
  | .r w b => [.str w, strsD b]
  | .c b => [strsD b]
theorem put_strs (s : Str) (b : List Str) : putPart s (strsD b) = Txt.join " " (s :: b) := by
  unfold strsD
  show Txt.join " " (s :: (b.map PyData.str).map _) = _
  rw [List.map_map]
  congr 2
  exact List.map_id' b
theorem parts_text (r : Row) : (partsOf r).foldl putPart (kindS r) = rowText r := by
  cases r with
  | g w =>
    show kindS (.g w) ++ " " ++ w = _
    rw [← join_two]
    rfl
  | r w b =>
    show putPart (kindS (.r w b) ++ " " ++ w) (strsD b) = _
    rw [put_strs, join_more]
    rfl
  | c b =>
    show putPart (kindS (.c b)) (strsD b) = _
    rw [put_strs]
    rfl
theorem row_parts (r : Row) : rowD r = .tuple (.str (kindS r) :: partsOf r) := by cases r <;> rfl
theorem parts_kind {r : Row} (h : RowOk r) : ∀ x ∈ partsOf r, (∃ w, x = .str w ∧ w.length ≤ 6) ∨ ∃ b : List Str, x = strsD b ∧ (b.map (·.length)).sum ≤ 30 ∧ b.length ≤ 5 := fun x hx => by
  have six : ∀ {b : List Str}, b.length ≤ 5 → (∀ w ∈ b, w.length ≤ 6) → (b.map (·.length)).sum ≤ 30 := fun {b} hb hw => by
    have := sum_le hw
    omega
  cases r with
  | g w =>
    rw [List.mem_singleton.mp hx]
    exact .inl ⟨w, rfl, (h.1 w (by simp [rWords])).2.1⟩
  | r w b =>
    rcases List.mem_cons.mp hx with e | hx
    · rw [e]
      exact .inl ⟨w, rfl, (h.1 w (by simp [rWords])).2.1⟩
    · rw [List.mem_singleton.mp hx]
      exact .inr ⟨b, rfl, six h.2 fun w hw => (h.1 w (by simp [rWords, hw])).2.1, h.2⟩
  | c b =>
    rw [List.mem_singleton.mp hx]
    exact .inr ⟨b, rfl, six h.2 fun w hw => (h.1 w (by simpa [rWords] using hw)).2.1, h.2⟩
theorem app_len (a b : Str) : (a ++ b).length = a.length + b.length := by
  have e : ∀ s : Str, s.length = s.cps.toList.length := fun s => by simp [Str.length]
  rw [e, e, e, cps_app, List.length_append]
theorem put_len {s : Str} {x : PyData} (h : (∃ w, x = .str w ∧ w.length ≤ 6) ∨ ∃ b : List Str, x = strsD b ∧ (b.map (·.length)).sum ≤ 30 ∧ b.length ≤ 5) : (putPart s x).length ≤ s.length + 40 := by
  rcases h with ⟨w, rfl, hw⟩ | ⟨b, rfl, hb, lb⟩
  · show (s ++ " " ++ w).length ≤ _
    rw [app_len, app_len, sp_len]
    omega
  · rw [put_strs]
    have := txt_join_len " " (s :: b)
    rw [sp_len] at this
    simp at this
    omega
end DV

namespace DV
open PySem PySem.Spec PyProof.Rows L2
section
variable [B : Bs] {es : Es} {σ : L2.St} {G H : Hp} {Rs : Nat → Addr → Prop} {ta tb te tl : TE} {tt : TT} {ts us : TS} {E : SE} {K : PySem.W.Frag} {i : Nat}
/-- a comprehension of which each element is P -/
theorem lcI_all {j : Nat} {vs : List Nat} {ds : List PyData} {Q : Own → Es → Prop} (P : PyData → Prop) (hj : j ∈ vs) (fr : freeB vs es = true) (l : ds.length ≤ 100000) (hn : es.set j none = es)
    (he : ∀ x ∈ ds, WE te (es.set j (some (fz x))) fun y e2 => P y ∧ e2 = es.set j (some (fz x))) (q : ∀ p acc, acc.length = ds.length → (∀ y ∈ acc, P y) → Q (ml p acc) es) : LcI tYes te j vs ds es Q := by
  have hcl : ∀ x, (es.set j (some (fz x))).set j none = es := fun x => by rw [List.set_set, hn]
  refine ⟨hj, free_of fr, l, fun k acc e => acc.length = k ∧ (∀ y ∈ acc, P y) ∧ e = es, ⟨rfl, fun y hy => by simp at hy, rfl⟩, fun k x acc e hx ⟨la, pa, ee⟩ => ?_, fun acc e ⟨la, pa, ee⟩ p => ?_⟩
  · subst ee
    refine wt_yes ⟨fun _ => we_mono (he x (List.mem_of_getElem? hx)) fun y e2 ⟨py, e2e⟩ => ?_, fun z => by cases z⟩
    rw [e2e, hcl]
    refine ⟨free_of fr, by simp [la], fun z hz => ?_, rfl⟩
    rcases List.mem_append.mp hz with hz | hz
    · exact pa z hz
    · rw [List.mem_singleton.mp hz]
      exact py
  · rw [ee]
    exact q p acc la pa
theorem strs_ofP {P : Str → Prop} : ∀ {acc : List PyData}, (∀ y ∈ acc, ∃ w, y = .str w ∧ P w) → ∃ ws : List Str, acc = ws.map .str ∧ ∀ w ∈ ws, P w
  | [], _ => ⟨[], rfl, fun w hw => by simp at hw⟩
  | y :: acc, h => by
    obtain ⟨w, rfl, pw⟩ := h y List.mem_cons_self
    obtain ⟨ws, rfl, pws⟩ := strs_ofP fun z hz => h z (List.mem_cons_of_mem _ hz)
    exact ⟨w :: ws, rfl, fun u hu => (List.mem_cons.mp hu).elim (fun e => by rw [e]; exact pw) (pws u)⟩
/-- tuple(a list or a tuple) -/
theorem we_tupOf {Q : PyData → Es → Prop} (h : WE te es fun d e => ∃ ds, (d = .list ds ∨ d = .tuple ds) ∧ Q (.tuple ds) e) : WE (tCB (tupR K) (tCons te tNil)) es Q := fun σ G H Rs Kf hs kk =>
  h σ G H Rs _ hs fun v d G1 H1 R1 e1 s1 r1 st1 ⟨ds, q, qq⟩ => by
    rcases q with ed | ed
    · subst ed
      cases r1 with
      | @lst a vs _ ha ra =>
        exact ⟨a, vs, rfl, .inl ⟨SqL.of (s1.ex _ _ ha), fun p hp => kk _ _ _ _ R1 e1 (s1.layG hp) (.tup upd_same (ra.mono (ex_new (s1.gnone hp)))) (st1.tr (stp_layG s1.ex hp)) qq⟩⟩
    · subst ed
      cases r1 with
      | @tup a vs _ ha ra => exact ⟨a, vs, rfl, .inr ⟨SqT.of (s1.ex _ _ ha), kk _ _ G1 H1 R1 e1 s1 (.tup ha ra) st1 qq⟩⟩
/-- a slice of a tuple -/
theorem we_slT {tl th : TO} {Q : PyData → Es → Prop} (h : WE te es fun d e1 => ∃ ds, d = .tuple ds ∧ WO tl e1 fun lo e2 => WO th e2 fun hi e3 => Q (.tuple (DV.cutD ds lo hi)) e3) : WE (tSl (rSlA K) te tl th) es Q := fun σ G H Rs K hs k =>
  h σ G H Rs _ hs fun v d G1 H1 R1 e1 s1 r1 st1 ⟨ds, ed, q⟩ => by
    subst ed
    cases r1 with
    | @tup a vs _ ha ra =>
      refine q σ G1 H1 R1 _ s1 fun lo G2 H2 R2 e2 s2 st2 q => q σ G2 H2 R2 _ s2 fun hi G3 H3 R3 e3 s3 st3 q => ?_
      have ha3 := st3.g _ _ (st2.g _ _ ha)
      have ra3 := ra.mono (ex_tr st2.g st3.g)
      refine ⟨a, vs, rfl, SqT.of (s3.ex _ _ ha3), fun c => ?_, fun c p hp => ?_⟩
      · have e : DV.cutD ds lo hi = ds := by
          unfold DV.cutD
          rw [← ra.length, c.1, c.2, List.drop_zero, Nat.sub_zero, List.take_of_length_le (by rw [ra.length]; exact Nat.le_refl _)]
        have q : Q (.tuple (DV.cutD ds lo hi)) e3 := q
        rw [e] at q
        exact k _ _ G3 H3 R3 e3 s3 (.tup ha3 ra3) (st1.tr (st2.tr st3)) q
      · exact k _ _ _ _ R3 e3 (s3.layG hp) (.tup upd_same ((cut_rp ra3).mono (ex_new (s3.gnone hp)))) ((st1.tr (st2.tr st3)).tr (stp_layG s3.ex hp)) q
theorem we_min {Q : PyData → Es → Prop} {ta : TA} (h : WA ta es fun as e => ∃ i j : Int, as = [.d (.int i), .d (.int j)] ∧ Q (.int (if j < i then j else i)) e) : WE (tCB (fun xs H Q => ∃ i j, xs = [.int i, .int j] ∧ Q (.int (if j < i then j else i)) H) ta) es Q := fun σ G H Rs K hs k =>
  h σ G H Rs _ hs fun vs as G1 H1 R1 e1 s1 r1 st1 ⟨i, j, ea, q⟩ => by
    subst ea
    cases r1 with
    | cons a r =>
      cases r with
      | cons b r =>
        cases r
        have a : Rp G1 _ (.int i) := a
        have b : Rp G1 _ (.int j) := b
        cases a
        cases b
        exact ⟨i, j, rfl, k _ _ G1 H1 R1 e1 s1 (.int _) st1 q⟩
/-! ### == of data -/
mutual
theorem Rp.dp {v : V} {d : PyData} (r : Rp G v d) (e : Ex G H) (h : d.canLay0 = true) : Dp K H v d := by
  cases r with
  | non => exact .non
  | bl b => exact .bl b
  | int i => exact .int i
  | str x => exact .str x
  | lst ha ra => exact .lst (SqL.of (e _ _ ha)) (RpAll.dp ra e h)
  | tup ha ra => exact .tup (SqT.of (e _ _ ha)) (RpAll.dp ra e h)
  | dk ha ra => cases h
  | dt _ _ _ _ _ => cases h
theorem RpAll.dp {v : List V} {d : List PyData} (r : RpAll G v d) (e : Ex G H) (h : PyData.canLayAll0 d = true) : DpAll K H v d := by
  cases r with
  | nil => exact .nil
  | cons a r =>
    have h' := Bool.and_eq_true_iff.mp h
    exact .cons (Rp.dp a e h'.1) (RpAll.dp r e h'.2)
end
theorem we_eqD {Q : PyData → Es → Prop} (h : WE ta es fun d1 e1 => WE tb e1 fun d2 e2 => SeqAt.shaped d1 = true ∧ SeqAt.shaped d2 = true ∧ Q (.bool (PyData.eqv d1 d2)) e2) : WE (tOp (rEqD K) ta tb) es Q := fun σ G H Rs K hs k =>
  h σ G H Rs _ hs fun v1 d1 G1 H1 R1 e1 s1 r1 st1 q => q σ G1 H1 R1 _ s1 fun v2 d2 G2 H2 R2 e2 s2 r2 st2 ⟨z1, z2, q⟩ =>
    ⟨d1, d2, (r1.mono st2.g).dp s2.ex (SeqAt.canLay_of_shaped z1), r2.dp s2.ex (SeqAt.canLay_of_shaped z2), z1, z2, k _ _ G2 H2 R2 e2 s2 (.bl _) (st1.tr st2) q⟩
theorem we_neD {Q : PyData → Es → Prop} (h : WE ta es fun d1 e1 => WE tb e1 fun d2 e2 => SeqAt.shaped d1 = true ∧ SeqAt.shaped d2 = true ∧ Q (.bool (!PyData.eqv d1 d2)) e2) : WE (tOp (rNeD K) ta tb) es Q := fun σ G H Rs K hs k =>
  h σ G H Rs _ hs fun v1 d1 G1 H1 R1 e1 s1 r1 st1 q => q σ G1 H1 R1 _ s1 fun v2 d2 G2 H2 R2 e2 s2 r2 st2 ⟨z1, z2, q⟩ =>
    ⟨d1, d2, (r1.mono st2.g).dp s2.ex (SeqAt.canLay_of_shaped z1), r2.dp s2.ex (SeqAt.canLay_of_shaped z2), z1, z2, k _ _ G2 H2 R2 e2 s2 (.bl _) (st1.tr st2) q⟩
/-- the list in slot i, is it other than [] -/
theorem we_neNil {p : Addr} {ds : List PyData} {Q : PyData → Es → Prop} (hi : es[i]? = some (some (ml p ds))) (z : SeqAt.shaped (.list ds) = true) (q : Q (.bool (!ds.isEmpty)) es) : WE (tOp (rNeD K) (tVar i) (tLst tNil)) es Q := fun σ G H Rs Kf hs kk => by
  obtain ⟨v, hv, e, hp, vs, hx, ra⟩ := hs.at' i _ hi
  subst e
  refine ⟨_, hv, by show 0 ≤ sizeLine; decide, fun l hl => ?_⟩
  have x := hs.lay (o := .lst []) hl
  have st : Stp G H (Un Rs) G (upd H l (.lst [])) (Un Rs) := (stp_lay hl).weak fun a z => .inl z
  refine ⟨.list ds, .list [], .lst (SqL.of (ex_new hl _ _ hx)) (ra.dp x.ex (SeqAt.canLay_of_shaped z)), .lst (SqL.of upd_same) .nil, z, by decide, ?_⟩
  have e : PyData.eqv (.list ds) (.list []) = ds.isEmpty := by cases ds <;> rfl
  rw [e]
  exact kk _ _ G _ Rs es x (.bl _) st q
/-! ### x[i], a list or a tuple -/
theorem we_ixs {Q : PyData → Es → Prop} (h : WE ta es fun d e1 => ∃ ds, (d = .list ds ∨ d = .tuple ds) ∧ WE tb e1 fun d2 e2 => ∃ i x, d2 = .int i ∧ atI ds i = some x ∧ Q x e2) : WE (tOp (ixsR K) ta tb) es Q := fun σ G H Rs K hs k =>
  h σ G H Rs _ hs fun v d G1 H1 R1 e1 s1 r1 st1 ⟨ds, ed, q⟩ => by
    rcases ed with ed | ed
    · subst ed
      cases r1 with
      | @lst a vs _ ha ra =>
        refine q σ G1 H1 R1 _ s1 fun v d G2 H2 R2 e2 s2 r2 st2 ⟨i, x, ei, ex, q⟩ => ?_
        subst ei
        cases r2
        obtain ⟨v, hv, rv⟩ := atI_rp (ra.mono st2.g) ex
        exact .inl ⟨a, vs, i, v, rfl, rfl, SqL.of (s2.ex _ _ (st2.g _ _ ha)), hv, k _ _ G2 H2 R2 e2 s2 rv (st1.tr st2) q⟩
    · subst ed
      cases r1 with
      | @tup a vs _ ha ra =>
        refine q σ G1 H1 R1 _ s1 fun v d G2 H2 R2 e2 s2 r2 st2 ⟨i, x, ei, ex, q⟩ => ?_
        subst ei
        cases r2
        obtain ⟨v, hv, rv⟩ := atI_rp (ra.mono st2.g) ex
        exact .inr ⟨a, vs, i, v, rfl, rfl, SqT.of (s2.ex _ _ (st2.g _ _ ha)), hv, k _ _ G2 H2 R2 e2 s2 rv (st1.tr st2) q⟩
end
/-! ### drawn rows -/
def InW (ws : List Str) (r : Row) : Prop := ∀ w ∈ rWords r, w ∈ ws
def InG (gs : List Str) (r : Row) : Prop := ∀ g, rGround r = some g → g ∈ gs
theorem groundsOf_in {gs : List Str} {rs : List Row} (h : ∀ r ∈ rs, InG gs r) : ∀ g ∈ groundsOf rs, g ∈ gs := fun g hg => by
  obtain ⟨r, hr, e⟩ := List.mem_filterMap.mp hg
  exact h r hr g e
theorem nodup_sub_len {α : Type} [DecidableEq α] : ∀ {l k : List α}, l.Nodup → (∀ x ∈ l, x ∈ k) → l.length ≤ k.length
  | [], _, _, _ => Nat.zero_le _
  | x :: l, k, n, h => by
    obtain ⟨n1, n2⟩ := List.nodup_cons.mp n
    have hx := h x List.mem_cons_self
    have := nodup_sub_len (k := k.erase x) n2 fun y hy => (List.mem_erase_of_ne (fun e : y = x => n1 (by rw [← e]; exact hy))).mpr (h y (List.mem_cons_of_mem _ hy))
    rw [List.length_erase_of_mem hx] at this
    have := List.length_pos_of_mem hx
    simp
    omega
theorem tellable {gs : List Str} {rs : List Row} {r : Row} (h8 : gs.length ≤ 8) (hl : rs.length < 60) (hr : RowOk r) (hg : ∀ r ∈ rs, InG gs r) (hg1 : InG gs r) : faultOf rs r = none := by
  unfold faultOf
  rw [if_neg (by omega), if_neg, if_neg (by have := hr.2; omega)]
  · cases e : rGround r with
    | none => rfl
    | some g =>
      refine if_neg fun ⟨a, b⟩ => ?_
      have hn : (g :: gsOf rs).Nodup := List.nodup_cons.mpr ⟨a, nd_srt _⟩
      have := nodup_sub_len (k := gs) hn fun x hx => by
        rcases List.mem_cons.mp hx with e2 | hx
        · rw [e2]
          exact hg1 g e
        · exact groundsOf_in hg x (mem_srt.mp hx)
      simp at this
      omega
  · have : (rWords r).all isWordB = true := List.all_eq_true.mpr fun w hw => isWordB_iff.mpr (hr.1 w hw)
    rw [this]
    decide
theorem all_tellable {gs : List Str} {rs : List Row} (h8 : gs.length ≤ 8) (hl : rs.length ≤ 60) (hr : ∀ r ∈ rs, RowOk r) (hg : ∀ r ∈ rs, InG gs r) : ∀ k (h : k < rs.length), faultOf (rs.take k) rs[k] = none := fun k h =>
  tellable h8 (by rw [List.length_take]; omega) (hr _ (List.getElem_mem h)) (fun r hr => hg r (List.mem_of_mem_take hr)) (hg _ (List.getElem_mem h))
end DV
namespace DV
open PySem PySem.Spec PyProof.Rows L2
/-! ### rows are data that can be compared -/
theorem word_lay {x : Str} (h : WordOk x) : PyData.canLay0 (.str x) = true := by
  show x.cps.all (· < 0x110000) = true
  rw [← Array.all_toList, List.all_eq_true]
  intro c hc
  have : c < 0x110000 := (by decide +kernel : ∀ c ∈ lettersS.cps.toList, c < 0x110000) c (h.2.2 c hc)
  exact decide_eq_true this
theorem words_lay : ∀ {ws : List Str}, (∀ w ∈ ws, WordOk w) → PyData.canLayAll0 (ws.map .str) = true
  | [], _ => rfl
  | w :: ws, h => by
    show (_ && _) = true
    rw [word_lay (h w List.mem_cons_self), words_lay fun x hx => h x (List.mem_cons_of_mem _ hx)]
    rfl
theorem row_lay {r : Row} (h : RowOk r) : PyData.canLay0 (rowD r) = true := by
  have k : ∀ k : Str, k ∈ ([("ground" : Str), "rule", "clash"] : List Str) → PyData.canLay0 (.str k) = true := by decide +kernel
  cases r with
  | g w =>
    show (_ && (_ && true)) = true
    rw [k "ground" (by simp), word_lay (h.1 w (by simp [rWords]))]
    rfl
  | r w b =>
    show (_ && (_ && (_ && true))) = true
    rw [k "rule" (by simp), word_lay (h.1 w (by simp [rWords])), show PyData.canLay0 (strsD b) = true from words_lay fun x hx => h.1 x (by simp [rWords, hx])]
    rfl
  | c b =>
    show (_ && (_ && true)) = true
    rw [k "clash" (by simp), show PyData.canLay0 (strsD b) = true from words_lay fun x hx => h.1 x (by simpa [rWords] using hx)]
    rfl
theorem rows_lay : ∀ {rs : List Row}, (∀ r ∈ rs, RowOk r) → PyData.canLayAll0 (rs.map rowD) = true
  | [], _ => rfl
  | r :: rs, h => by
    show (_ && _) = true
    rw [row_lay (h r List.mem_cons_self), rows_lay fun x hx => h x (List.mem_cons_of_mem _ hx)]
    rfl
theorem words_depth : ∀ ws : List Str, PyData.depthAll (ws.map .str) = 0
  | [] => rfl
  | w :: ws => by simp [PyData.depthAll, PyData.depth, words_depth ws]
theorem row_depth (r : Row) : PyData.depth (rowD r) ≤ 2 := by
  cases r <;> simp [rowD, strsD, PyData.depth, PyData.depthAll, words_depth]
theorem rows_depth : ∀ rs : List Row, PyData.depthAll (rs.map rowD) ≤ 2
  | [] => by simp [PyData.depthAll]
  | r :: rs => by
    have h1 := row_depth r
    have h2 := rows_depth rs
    simp only [List.map_cons, PyData.depthAll]
    omega
theorem rows_shaped {rs : List Row} (h : ∀ r ∈ rs, RowOk r) : SeqAt.shaped (rowsD rs) = true := by
  unfold SeqAt.shaped
  rw [Bool.and_eq_true]
  refine ⟨rows_lay h, decide_eq_true ?_⟩
  have := rows_depth rs
  show PyData.depth (.list (rs.map rowD)) ≤ 64
  simp only [PyData.depth]
  omega
end DV
namespace DV
/-- a drawn row: of these words, its ground among gs -/
structure Drawn (ws gs : List PySem.Str) (r : Row) : Prop where
  w : InW ws r
  b : (rBody r).length ≤ 5
  g : InG gs r
theorem Drawn.ok {ws gs : List PySem.Str} {r : Row} (d : Drawn ws gs r) (h : ∀ w ∈ ws, WordOk w) : RowOk r := ⟨fun w hw => h w (d.w w hw), d.b⟩
end DV
namespace DV
theorem erase_map {α β : Type} (f : α → β) : ∀ (l : List α) (k : Nat), (l.map f).eraseIdx k = (l.eraseIdx k).map f
  | [], k => by simp
  | x :: l, 0 => rfl
  | x :: l, k + 1 => by
    show f x :: (l.map f).eraseIdx k = f x :: (l.eraseIdx k).map f
    rw [erase_map f l k]
end DV
namespace DV
open PySem PySem.Spec PyProof.Rows L2
/-! ### data that are asked for their likeness -/
mutual
def longest : PyData → Nat
  | .list xs => max xs.length (longestAll xs)
  | .tuple xs => max xs.length (longestAll xs)
  | _ => 0
def longestAll : List PyData → Nat
  | [] => 0
  | x :: xs => max (longest x) (longestAll xs)
end
/-- of depth n at most, of lists and tuples of 100000 members at most -/
structure Askable (n : Nat) (d : PyData) : Prop where
  lay : d.canLay0 = true
  dep : d.depth ≤ n
  lon : longest d ≤ 100000
theorem all_dep {n : Nat} : ∀ {xs : List PyData}, PyData.depthAll xs ≤ n → ∀ x ∈ xs, x.depth ≤ n
  | [], _, x, h => by simp at h
  | y :: xs, h, x, hx => by
    simp only [PyData.depthAll] at h
    rcases List.mem_cons.mp hx with e | hx
    · rw [e]
      omega
    · exact all_dep (by omega) x hx
theorem all_lon {n : Nat} : ∀ {xs : List PyData}, longestAll xs ≤ n → ∀ x ∈ xs, longest x ≤ n
  | [], _, x, h => by simp at h
  | y :: xs, h, x, hx => by
    simp only [longestAll] at h
    rcases List.mem_cons.mp hx with e | hx
    · rw [e]
      omega
    · exact all_lon (by omega) x hx
theorem all_lay : ∀ {xs : List PyData}, PyData.canLayAll0 xs = true → ∀ x ∈ xs, PyData.canLay0 x = true
  | [], _, x, h => by simp at h
  | y :: xs, h, x, hx => by
    have h' : (PyData.canLay0 y && PyData.canLayAll0 xs) = true := h
    rw [Bool.and_eq_true] at h'
    rcases List.mem_cons.mp hx with e | hx
    · rw [e]
      exact h'.1
    · exact all_lay h'.2 x hx
theorem Askable.inL {n : Nat} {xs : List PyData} (a : Askable (n + 1) (.list xs)) : xs.length ≤ 100000 ∧ ∀ x ∈ xs, Askable n x := by
  have h1 := a.dep
  have h2 := a.lon
  simp only [PyData.depth, longest] at h1 h2
  exact ⟨by omega, fun x hx => ⟨all_lay a.lay x hx, all_dep (by omega) x hx, all_lon (by omega) x hx⟩⟩
theorem Askable.inT {n : Nat} {xs : List PyData} (a : Askable (n + 1) (.tuple xs)) : xs.length ≤ 100000 ∧ ∀ x ∈ xs, Askable n x := by
  have h1 := a.dep
  have h2 := a.lon
  simp only [PyData.depth, longest] at h1 h2
  exact ⟨by omega, fun x hx => ⟨all_lay a.lay x hx, all_dep (by omega) x hx, all_lon (by omega) x hx⟩⟩
theorem Askable.shaped {n : Nat} {d : PyData} (a : Askable n d) (h : n ≤ 64) : SeqAt.shaped d = true := by
  unfold SeqAt.shaped
  rw [Bool.and_eq_true]
  exact ⟨a.lay, decide_eq_true (Nat.le_trans a.dep h)⟩
theorem Askable.refl {n : Nat} {d : PyData} (a : Askable n d) : PyData.eqv d d = true := SeqAt.eqv_refl d a.lay
theorem words_lon : ∀ ws : List Str, longestAll (ws.map .str) = 0
  | [] => rfl
  | w :: ws => by simp [longestAll, longest, words_lon ws]
theorem ask_str {x : Str} (h : PyData.canLay0 (.str x) = true) : Askable 0 (.str x) := ⟨h, Nat.le_refl _, by simp [longest]⟩
theorem row_lon {r : Row} (h : (rBody r).length ≤ 1000) : longest (rowD r) ≤ 1000 := by
  cases r <;> simp [rowD, strsD, longest, longestAll, words_lon, rBody] at h ⊢ <;> omega
theorem rows_lon : ∀ {rs : List Row}, (∀ r ∈ rs, (rBody r).length ≤ 1000) → longestAll (rs.map rowD) ≤ 1000
  | [], _ => by simp [longestAll]
  | r :: rs, h => by
    have h1 := row_lon (h r List.mem_cons_self)
    have h2 := rows_lon (rs := rs) fun x hx => h x (List.mem_cons_of_mem _ hx)
    simp only [List.map_cons, longestAll]
    omega
theorem ask_rows {rs : List Row} (h : ∀ r ∈ rs, RowOk r) (hl : rs.length ≤ 1000) : Askable 3 (rowsD rs) := by
  have h1 := rows_depth rs
  have h2 := rows_lon (rs := rs) fun r hr => Nat.le_trans (h r hr).2 (by decide)
  refine ⟨rows_lay h, ?_, ?_⟩
  · show PyData.depth (.list (rs.map rowD)) ≤ 3
    simp only [PyData.depth]
    omega
  · show longest (.list (rs.map rowD)) ≤ 100000
    simp only [longest, List.length_map]
    omega
end DV
namespace DV
open PySem PySem.Spec PyProof.Rows L2
theorem str_lay {x : Str} (h : ∀ c ∈ x.cps.toList, c < 0x110000) : PyData.canLay0 (.str x) = true := by
  show x.cps.all (· < 0x110000) = true
  rw [← Array.all_toList, List.all_eq_true]
  exact fun c hc => decide_eq_true (h c hc)
theorem lay_str {x : Str} (h : PyData.canLay0 (.str x) = true) : ∀ c ∈ x.cps.toList, c < 0x110000 := fun c hc => by
  have h : x.cps.all (· < 0x110000) = true := h
  rw [← Array.all_toList, List.all_eq_true] at h
  exact of_decide_eq_true (h c hc)
theorem kind_lay (r : Row) : PyData.canLay0 (.str (kindS r)) = true := (by decide +kernel : ∀ k ∈ ([("ground" : Str), "rule", "clash"] : List Str), PyData.canLay0 (.str k) = true) _ (kindS_in r)
theorem text_lay {rs : List Row} (h : ∀ r ∈ rs, RowOk r) : PyData.canLay0 (.str (textOf rs)) = true := str_lay fun c hc => by
  rcases mem_txt_join hc with ⟨t, ht, hc⟩ | hc
  · obtain ⟨r, hr, rfl⟩ := List.mem_map.mp ht
    rcases mem_txt_join hc with ⟨u, hu, hc⟩ | hc
    · rcases List.mem_cons.mp hu with e | hu
      · rw [e] at hc
        exact lay_str (kind_lay r) c hc
      · exact lay_str (word_lay ((h r hr).1 u hu)) c hc
    · exact (by decide +kernel : ∀ c ∈ (" " : Str).cps.toList, c < 0x110000) c hc
  · exact (by decide +kernel : ∀ c ∈ ("\n" : Str).cps.toList, c < 0x110000) c hc
end DV

namespace DV
open PySem PySem.Spec PyProof.Rows L2
/-! ### the script: a list of numbers that stands, wherever -/
theorem sql_mono {K : PySem.W.Frag} {G H : Hp} {a : Addr} {xs : List V} (h : SqL K G a xs) (e : Ex G H) : SqL K H a xs := by
  rcases h with h | h
  · exact .inl (h.imp (fun z => e _ _ z) fun ⟨o, z⟩ => ⟨o, e _ _ z⟩)
  · exact .inr h
def scr (K : PySem.W.Frag) (a : Addr) (xs : List Int) : Own := ⟨fun G _ _ v => v = .ref a ∧ SqL K G a (xs.map V.int), fun ⟨e, h⟩ x _ => ⟨e, sql_mono h x⟩⟩
theorem pin_scr {K : PySem.W.Frag} {a : Addr} {xs : List Int} : Pin (scr K a xs) (scr K a xs) := fun _ _ _ _ _ _ _ _ h h' => h.1.trans h'.1.symm
section
variable [B : Bs] {es : Es} {σ : L2.St} {G H : Hp} {Rs : Nat → Addr → Prop} {ta tb te tl : TE} {tt : TT} {ts us : TS} {E : SE} {K : PySem.W.Frag} {i j : Nat} {a : Addr} {xs : List Int}
theorem ws_forS (hi : es[i]? = some (some (scr K a xs))) (I : Nat → Es → Prop) (i0 : I 0 es) (it : ∀ k x e, xs[k]? = some x → I k e → WS ts (e.set j (some (fz (.int x)))) { nx := I (k + 1), rt := E.rt, bk := E.nx, ct := I (k + 1) }) (ie : ∀ e, I xs.length e → E.nx e) :
    WS (tFor (iList K (tVar i)) (gName j) ts) es E := fun σ G H Rs D hs hh => by
  obtain ⟨v, hv, e, hq⟩ := hs.at' i _ hi
  subst e
  refine ⟨_, hv, a, rfl, ⟨_, sql_mono hq hs.ex⟩, for_list (K := K) (xs := xs.map V.int) (fun k σ' H' => ∃ e G' Rs', Sat G' H' σ' e Rs' ∧ Stp G H (Un Rs) G' H' (Un Rs') ∧ I k e) ⟨es, G, Rs, hs, .rf, i0⟩ (fun k σ' H' _ ⟨e, G', Rs', s, st, _⟩ => sql_mono hq (ex_tr st.g s.ex)) ?_ ?_⟩
  · rintro k x σ2 H2 hx ⟨e, G2, R2, s2, st2, ik⟩
    rw [List.getElem?_map, Option.map_eq_some_iff] at hx
    obtain ⟨y, hy, rfl⟩ := hx
    obtain ⟨R3, s3, u3⟩ := s2.setv (i := j) (.int y)
    have st3 : Stp G H (Un Rs) G2 H2 (Un R3) := st2.weak u3
    exact it k y e hy ik _ G2 H2 R3 _ s3 ⟨fun σ' G' H' Rs' es' x y z => ⟨es', G', Rs', x, st3.tr y, z⟩, (hh.step st3).rt, fun σ' G' H' Rs' es' x y z => hh.nx σ' G' H' Rs' es' x (st3.tr y) z, fun σ' G' H' Rs' es' x y z => ⟨es', G', Rs', x, st3.tr y, z⟩⟩
  · rintro σ2 H2 ⟨e, G2, R2, s2, st2, ik⟩
    rw [List.length_map] at ik
    exact hh.nx σ2 G2 H2 R2 e s2 st2 (ie e ik)
theorem we_lenScr {Q : PyData → Es → Prop} (hi : es[i]? = some (some (scr K a xs))) (q : Q (.int xs.length) es) : WE (tCB (lenR K) (tCons (tVar i) tNil)) es Q := fun σ G H Rs Kf hs k => by
  obtain ⟨v, hv, e, hq⟩ := hs.at' i _ hi
  subst e
  refine ⟨_, hv, a, _, rfl, .inl (sql_mono hq hs.ex), ?_⟩
  rw [List.length_map]
  exact k _ _ G H Rs es hs (.int _) .rf q
theorem wm_boxS {ty : TE} {Q : Own → Es → Prop} (hi : es[i]? = some (some (scr K a xs))) (hl : xs.length ≤ 64) (h2 : WE ty es fun d2 e2 => ∃ s, d2 = .int s ∧ 0 ≤ s ∧ s < 2147483647 ∧ ∀ p, Q (bx p) e2) :
    WM (tLst (tCons (tCB (listR K) (tCons (tVar i) tNil)) (tCons ty tNil))) es Q := fun σ G1 H1 R1 Kf s1 kk => by
  obtain ⟨v, hv, e, hq⟩ := s1.at' i _ hi
  subst e
  refine ⟨_, hv, a, _, rfl, .inl (sql_mono hq s1.ex), fun l hl0 => ?_⟩
  have gl := s1.gnone hl0
  have nl : ∀ i, ¬ R1 i l := fun i z => s1.al i l z hl0
  refine h2 σ G1 _ R1 _ (s1.lay hl0) fun v d G2 H2 R2 e2 s2 r2 st2 ⟨s, ed, z0, z1, q⟩ => ?_
  subst ed
  cases r2
  have hl2 : H2 l = some (.lst (xs.map V.int)) := st2.h l _ upd_same fun ⟨i, z⟩ => nl i z
  have gl2 : G2 l = none := by
    cases c : G2 l with
    | none => rfl
    | some o =>
      rcases st2.n l (by rw [c]; simp) with z | z | ⟨i, z⟩ | ⟨ys, z⟩
      · exact absurd gl z
      · rw [upd_same] at z
        cases z
      · exact absurd z (nl i)
      · rw [upd_same] at z
        cases z
  have nl2 : ∀ i, ¬ R2 i l := fun i z => by
    rcases st2.u l ⟨i, z⟩ with ⟨j, y⟩ | y
    · exact nl j y
    · rw [upd_same] at y
      cases y
  refine ⟨by show 2 ≤ sizeLine; decide, fun p hp => ?_⟩
  have lp : l ≠ p := fun z => by
    rw [← z, hl2] at hp
    cases hp
  have st3 : Stp G1 H1 (Un R1) G2 (upd H2 p (.lst [.ref l, .int s])) (fun a => Un R2 a ∨ (a = p ∨ a = l)) := by
    have b1 : Stp G1 H1 (Un R1) G1 (upd H1 l (.lst (xs.map V.int))) (Un R1) := (stp_lay hl0).weak fun a z => .inl z
    have b2 := (b1.tr st2).tr (stp_lay (o := .lst [.ref l, .int s]) hp)
    exact ⟨b2.g, b2.h, b2.d, fun x z => by
      rcases z with z | z | z
      · exact b2.u x (.inl z)
      · exact b2.u x (.inr z)
      · exact .inr (by rw [z]; exact hl0), b2.n⟩
  exact kk _ (bx p) G2 _ R2 (fun a => a = p ∨ a = l) e2 (s2.lay hp) ⟨⟨l, s, xs, ⟨z0, z1, hl⟩, rfl, .inl rfl, .inr rfl, upd_same, by rw [upd_ne lp]; exact hl2⟩,
    fun a z => by
      rcases z with z | z
      · rw [z]
        exact s2.gnone hp
      · rw [z]
        exact gl2,
    fun a z => by
      rcases z with z | z
      · rw [z]
        exact .of upd_same (by intro _ z; cases z)
      · rw [z]
        exact .of (by rw [upd_ne lp]; exact hl2) (by intro _ z; cases z),
    fun i a z y => by
      rcases z with z | z
      · rw [z] at y
        exact s2.al i p y hp
      · rw [z] at y
        exact nl2 i y,
    fun a z => by
      rcases z with z | z
      · rw [z]
        exact .inr (s2.st.d p hp)
      · rw [z]
        exact .inr (s1.st.d l hl0)⟩ st3 (q p)
end
/-- where the law's promise is met: at the script as the head hands it in -/
theorem sp_top {F : FSp} {K : PySem.W.Frag} {H : Hp} {a : Addr} {ns : List Int} (hS : SqL K H a (ns.map V.int)) (hF : F [scr K a ns] fun r _ => r = fz (.bool true)) : spF F [.ref a] H (fun v _ => v = .bl true) fun _ _ _ => False := by
  refine ⟨H, [scr K a ns], fun _ _ => False, ⟨ex_rf _, rfl, fun i r h => ?_, fun _ _ _ z => z.elim, fun _ _ z => z.elim, fun _ _ z => z.elim⟩, _, hF, fun r args' hl er v G' H' Rs' Rr s t st => ?_⟩
  · cases i with
    | zero =>
      cases h
      exact ⟨.ref a, rfl, rfl, hS⟩
    | succ i => simp at h
  · subst er
    have h : Rp G' v (.bool true) := t.p
    cases h
    rfl
theorem kit_self {K : PySem.W.Frag} {C : Addr} : PySem.W.kitOne K (.ref C) (.ref C) = some true := by
  unfold PySem.W.kitOne
  rw [if_pos (beq_self_eq_true _)]
end DV

namespace DV
open PySem PySem.Spec PyProof.Rows L2
/-! ### exceptions of own classes: their class, their fields -/
structure ExD where
  C : Addr
  fs : List (Str × PyData)
inductive RpF (G : Hp) : List (Str × V) → List (Str × PyData) → Prop
  | nil : RpF G [] []
  | cons {f : Str} {v : V} {d : PyData} {vs : List (Str × V)} {ds : List (Str × PyData)} : Rp G v d → RpF G vs ds → RpF G ((f, v) :: vs) ((f, d) :: ds)
theorem RpF.mono {G G' : Hp} (e : Ex G G') : ∀ {vs : List (Str × V)} {ds : List (Str × PyData)}, RpF G vs ds → RpF G' vs ds
  | _, _, .nil => .nil
  | _, _, .cons h r => .cons (h.mono e) (r.mono e)
/-- the exception's dict stands frozen at dd -/
def XdAt (G H : Hp) (dd : Addr) (x : ExD) : Prop := ∃ vs, G dd = some (.xd vs) ∧ RpF G vs x.fs
abbrev FXp := List Own → (Own → List Own → Prop) → (ExD → List Own → Prop) → Prop
def spX (F : FXp) : Sp := fun vs H Q E => ∃ G args Rs, Sat0 G H (vs.map some) (args.map some) Rs ∧ ∃ P PX, F args P PX ∧ (∀ r args', args'.length = args.length → P r args' → ∀ v G' H' Rs' Rr, Sat0 G' H' (vs.map some) (args'.map some) Rs' →
  Tmp0 r G' H' Rs' Rr v → Stp G H (Un Rs) G' H' (fun a => Un Rs' a ∨ Rr a) → Q v H') ∧
  ∀ x args', args'.length = args.length → PX x args' → ∀ G' H' Rs' dd, Sat0 G' H' (vs.map some) (args'.map some) Rs' → Stp G H (Un Rs) G' H' (Un Rs') → XdAt G' H' dd x → E (.ref x.C) (some dd) H'
@[irreducible] def FinX (args : List Own) (PX : ExD → List Own → Prop) (x : ExD) (e : Es) : Prop := ∃ args', args'.length = args.length ∧ (∀ i, i < args.length → Keep args e args' i) ∧ PX x args'
theorem FinX.out {args : List Own} {PX : ExD → List Own → Prop} {x : ExD} {e : Es} (h : FinX args PX x e) : ∃ args', args'.length = args.length ∧ (∀ i, i < args.length → Keep args e args' i) ∧ PX x args' := by
  unfold FinX at h
  exact h
theorem finX_of {args args' : List Own} {e : Es} {PX : ExD → List Own → Prop} {x : ExD} (h : KpL args e args') (q : PX x args') : FinX args PX x e := by
  unfold FinX
  exact ⟨args', (kpL h).1, (kpL h).2, q⟩
/-- what is wished for at an exception: it is met wherever the data allow it -/
def Lets [B : Bs] (W : WX) (ok : ExD → Es → Prop) : Prop := ∀ (x : ExD) (σ : L2.St) (G' H' : Hp) (Rs' : Nat → Addr → Prop) (es' : Es) (dd : Addr), Sat G' H' σ es' Rs' → XdAt G' H' dd x → ok x es' → W (.ref x.C) (some dd) σ H'
section
variable {P : Program} {w : World} {K : PySem.W.Frag} {mg : Str → Option Value} {base : Heap}
theorem fokX {x qual : Str} {st : Stmt} {f : Addr} {fd : FuncData} {N ps : List Str} {k : Nat} {sp : FXp} (F : Fun K x qual st f fd) (S : FnScope N ps (defScope st)) (len : ∀ args Q QX, sp args Q QX → args.length = ps.length)
    (hbody : ∀ [B : Bs] (cdv : Value) (A : Around) (outer : List Env) (s : Shared) (H : Hp) (E : XK), Room k (A.deeper (envOfC qual (defScope st) s.heap.objs.size f cdv)) → ∀ args Q QX, sp args Q QX → Lets (fun cls d _ H => E cls d H) (FinX args QX) →
      ∃ t, PSs (cxOf (L2.CX P w) P w K mg base N qual (defScope st) f cdv A outer s H E) (defBody st) t ∧ WS t (args.map some ++ List.replicate (N.length - args.length) none) (fin args Q)) : FnOk P w K mg base (L2.CX P w) (k + 1) f fd ps (spX sp) := by
  refine F.okX S (fun vs H Q E h => ?_) (fun cdv A outer s H vs Q E hr h => ?_)
  · obtain ⟨G, args, Rs, hs, P, PX, hp, _⟩ := h
    have := hs.len
    rw [List.length_map, List.length_map] at this
    rw [this]
    exact len _ _ _ hp
  · obtain ⟨G, args, Rs, hs, P, PX, hp, hq, hx⟩ := h
    letI : Bs := bsAt G H Rs
    obtain ⟨t, h1, h2⟩ := @hbody (bsAt G H Rs) cdv A outer s H E hr args P PX hp fun x σ G' H' Rs' es' dd sa xa ok => by
      obtain ⟨args', hl, kp, q⟩ := ok.out
      exact hx x args' hl q G' H' Rs' dd (fin_sat hs sa.z sa.st.g hl kp) sa.st xa
    refine ⟨t, h1, h2 _ G H Rs _ ((sat_start hs).up .rf) ⟨fun σ' G' H' Rs' es' a b c => ?_, fun v r σ' G' H' Rs' Rr es' a b c d => ?_, fun σ' G' H' Rs' es' a b c => c.elim, fun σ' G' H' Rs' es' a b c => c.elim⟩⟩
    · obtain ⟨args', hl, kp, q⟩ := Fin.out c
      exact hq _ args' hl q .non G' H' Rs' noR (fin_sat hs a.z b.g hl kp) (tmp_fz .non).z b.no
    · obtain ⟨args', hl, kp, q⟩ := Fin.out d
      exact hq _ args' hl q v G' H' Rs' Rr (fin_sat hs a.z c.g hl kp) b.z c
end
theorem lets0 [B : Bs] : Lets (fun _ _ _ _ => False) (fun _ _ => False) := fun _ _ _ _ _ _ _ _ _ z => z
section
variable [B : Bs] {es : Es}
theorem wm_callX {sp : FXp} {W : WX} {ok : ExD → Es → Prop} {ta : TA} {Q : Own → Es → Prop} (L : Lets W ok) (h : WA ta es fun as e => ∃ os, lend e as = some os ∧ (slots as).Nodup ∧ sp os (fun r os' => Q r (back e as os')) fun x os' => ok x (back e as os')) :
    WM (tCallS (spX sp) (L2.WE W) ta) es Q := fun σ G H Rs K hs k =>
  h σ G H Rs _ hs fun vs as G1 H1 R1 e1 s1 r1 st1 ⟨os, hl, nd, q⟩ => by
    refine ⟨G1, os, argR R1 as, sat_args s1 r1 hl nd, _, _, q, fun r os' hl' q v G' H' Rc Rr s' t st => ?_, fun x os' hl' q G' H' Rc dd s' st xa => ?_⟩
    · obtain ⟨a, b, b2, c⟩ := sat_back (U := Rc) s1 r1 nd (by rw [hl', lend_len hl]) s' st t.dj t.ng t.al
      exact k v r G' H' _ Rr _ a ⟨t.p, t.ng, t.al2, b, b2⟩ (st1.tr c) q
    · obtain ⟨a, b, b2, c⟩ := sat_back (U := Rc) (Rr := noR) s1 r1 nd (by rw [hl', lend_len hl]) s' st.no (fun _ _ z => z.elim) (fun _ z => z.elim) (fun _ z => z.elim)
      exact L x σ G' H' _ _ dd a xa q
end
end DV

namespace DV
open PySem PySem.Spec PyProof.Rows L2
section
variable {X : Cx} {o e : Expr} {es : List Expr} {to te : TE} {ta : TA} {x : Str} {CG : Addr} {p1 p2 pos : Pos}
/-- what the written part says of a class that has ValueError's own __init__ -/
structure BaseI (K : PySem.W.Frag) (CG : Addr) : Prop where
  sp : PySem.W.specialIn K (.ref CG) "__getattribute__" = some (some (.builtin "type.__getattribute__"))
  rd : PySem.W.readsIn K CG (.type "type") = true
  fc : PySem.W.findCls K (.ref CG) (.type "type") "__init__" = some (.val (.builtin "ValueError.__init__"))
/-- Base.__init__(self, ..), Base an own class without an __init__ of its own -/
theorem pe_geinit {pl : Sem Bool} (hg : Gl X x) (hm : X.mg x = some (.ref CG)) (b : BaseI X.K CG) (ha : PA X (e :: es) ta) (hdb : (x == ("__debug__" : Str)) = false := by decide)
    (hc : eval (.Call (.Attribute (.Name x p1) "__init__" p2) (e :: es) [] pos) X.env = (do
      let ov ← eval (.Name x p1) X.env
      standAt p2.atName
      let (f, first) ← holding [ov] (getMethod ov "__init__" pl)
      callWith pos f first (backTo pos (starEach (e :: es) X.env)) (backToKw pos (keywordEach [] X.env))) := by rfl)
    (he : starEach (e :: es) X.env = (false, eval e X.env) :: starEach es X.env := by rfl) (hpl : (backTo pos (starEach es X.env)).any (·.1) = false := by rfl) :
    PE X (.Call (.Attribute (.Name x p1) "__init__" p2) (e :: es) [] pos) (tVeI X.K ta) := by
  refine ⟨fun pins s σ H Q I h => ?_⟩
  refine PySem.W.methodCall_KW (ld_glob I hg hm ?_ hdb) hc
  refine PySem.W.method_cls I.kIn b.sp (PySem.W.cls_value I.kIn b.rd b.fc (by decide +kernel) ?_)
  show wpAny _ _ (callWith pos (Value.builtin "ValueError.__init__") [] (backTo pos (starEach (e :: es) X.env)) []) _ _ _
  refine PyProof.Rows.callWith_method1 (thn (ha.run pos pins _ σ H _ (I.tok _) h) fun us s1 ⟨vs, H1, I1, r1, a, C, ws, ev, hl, T, ea, q⟩ => ?_) he hpl
  subst ev
  cases r1 with
  | @cons _ u0 _ ur ra rw' =>
    obtain rfl : u0 = Value.ref a := ra
    have hlen : ur.length ≤ sizeLine := by
      rw [← Paired.length rw', sizeLine_eq]
      omega
    exact oinit_ok T I1 ea hlen fun s' J => ⟨.non, H1, J, rfl, q⟩
end
end DV
namespace DV
open PySem PySem.Spec PyProof.Rows L2
/-! ### __init__ of an own exception: its base's, then its fields -/
/-- what must be so of the class at C, that its fields be stored: fs the fields in the order in which they are stored -/
structure XCls (K : PySem.W.Frag) (C : Addr) (fs : List Str) : Prop where
  oex : OexC K C
  no : ∀ f ∈ fs, PySem.W.findIn K (.ref C) f = some none
/-- one field, f, the argument -/
def spI1 (C : Addr) (f : Str) : Sp := fun vs H Q _ => ∃ a v, vs = [.ref a, v] ∧ H a = some (exo a C none) ∧ ∀ dx, H dx = none → dx ≠ a → Q .non (upd (upd H dx (exd dx [(f, v)])) a (exo a C (some dx)))
/-- two fields, f and g, the arguments -/
def spI2 (C : Addr) (f g : Str) : Sp := fun vs H Q _ => ∃ a v u, vs = [.ref a, v, u] ∧ H a = some (exo a C none) ∧ ∀ dx, H dx = none → dx ≠ a → Q .non (upd (upd (upd H dx (exd dx [(f, v)])) a (exo a C (some dx))) dx (exd dx [(g, u), (f, v)]))
theorem run_I1 {K : PySem.W.Frag} {C : Addr} {f : Str} (T : XCls K C [f]) {te : TE} {D : Ends} {H : Hp} {a : Addr} {v : V} {σ : L2.St} (h0 : σ[0]? = some (some (.ref a))) (h1 : σ[1]? = some (some v)) (ha : H a = some (exo a C none)) {ta : TA}
    (harg : ∀ (σ : L2.St) (H : Hp) (Q : List V → Hp → Prop), σ[0]? = some (some (.ref a)) → σ[1]? = some (some v) → (∀ w, Q [.ref a, w] H) → ta σ H Q)
    (q : ∀ dx, H dx = none → dx ≠ a → D.nx σ (upd (upd H dx (exd dx [(f, v)])) a (exo a C (some dx)))) :
    tSeq (tDrop (tVeI K ta)) (tOst K f (tVar 0) (tVar 1)) D σ H := by
  refine harg σ H _ h0 h1 fun w => ⟨a, C, [w], rfl, by show 1 ≤ 1000; decide, T.oex, ha, ?_⟩
  exact ⟨v, h1, _, h0, a, C, rfl, T.oex, T.no f (by simp), .inl ⟨ha, q⟩⟩
theorem run_I2 {K : PySem.W.Frag} {C : Addr} {f g : Str} (T : XCls K C [f, g]) {D : Ends} {H : Hp} {a : Addr} {v u : V} {σ : L2.St} (h0 : σ[0]? = some (some (.ref a))) (h1 : σ[1]? = some (some v)) (h2 : σ[2]? = some (some u)) (ha : H a = some (exo a C none)) {ta : TA}
    (harg : ∀ (H : Hp) (Q : List V → Hp → Prop), (∀ w, Q [.ref a, w] H) → ta σ H Q)
    (q : ∀ dx, H dx = none → dx ≠ a → D.nx σ (upd (upd (upd H dx (exd dx [(f, v)])) a (exo a C (some dx))) dx (exd dx [(g, u), (f, v)]))) :
    tSeq (tDrop (tVeI K ta)) (tSeq (tOst K f (tVar 0) (tVar 1)) (tOst K g (tVar 0) (tVar 2))) D σ H := by
  refine harg H _ fun w => ⟨a, C, [w], rfl, by show 1 ≤ 1000; decide, T.oex, ha, ?_⟩
  refine ⟨v, h1, _, h0, a, C, rfl, T.oex, T.no f (by simp), .inl ⟨ha, fun dx hdx ne => ?_⟩⟩
  exact ⟨u, h2, _, h0, a, C, rfl, T.oex, T.no g (by simp), .inr ⟨dx, [(f, v)], upd_same, by rw [upd_ne ne]; exact upd_same, by show 1 ≤ 900; decide, q dx hdx ne⟩⟩
/-! ### raise C(..) -/
section
variable [B : Bs] {es : Es} {E : SE}
theorem ws_raise1 {W : WX} {ok : ExD → Es → Prop} {C : Addr} {f : Str} {ta : TA} (L : Lets W ok) (h : WA ta es fun as e => ∃ d, as = [.d d] ∧ ok ⟨C, [(f, d)]⟩ e) :
    WS (fun _ σ H => tMkO C (spI1 C f) [] ta σ H fun cls d H' => W cls d σ H') es E := fun σ G H Rs D hs hh =>
  h σ G H Rs _ hs fun vs as G1 H1 R1 e1 s1 r1 st1 ⟨d, ea, q⟩ => by
    subst ea
    cases r1 with
    | @cons _ v _ _ rv rn =>
      cases rn
      have rv : Rp G1 v d := rv
      refine ⟨by show 1 ≤ 1000; decide, fun a ha => ⟨a, v, rfl, upd_same, fun dx hdx ne => ⟨rfl, dx, [(f, v)], upd_same, ?_, ?_, ?_⟩⟩⟩
      · rw [upd_ne ne, upd_same]
      · rw [upd_ne ne] at hdx
        exact hdx
      · rw [upd_ne ne] at hdx
        have eh : upd (L2.del (upd (upd (upd H1 a (exo a C none)) dx (exd dx [(f, v)])) a (exo a C (some dx))) a) dx (.xd [(f, v)]) = upd H1 dx (.xd [(f, v)]) := by
          funext b
          by_cases hb : b = dx
          · rw [hb, upd_same, upd_same]
          · rw [upd_ne hb, upd_ne hb]
            by_cases hba : b = a
            · rw [hba, del_same, ha]
            · rw [del_ne hba, upd_ne hba, upd_ne hb, upd_ne hba]
        rw [eh]
        exact L ⟨C, [(f, d)]⟩ σ _ _ R1 e1 dx (s1.layG hdx) ⟨_, upd_same, .cons (rv.mono (ex_new (s1.gnone hdx))) .nil⟩ q
theorem ws_raise2 {W : WX} {ok : ExD → Es → Prop} {C : Addr} {f g : Str} {ta : TA} (L : Lets W ok) (h : WA ta es fun as e => ∃ d c, as = [.d d, .d c] ∧ ok ⟨C, [(g, c), (f, d)]⟩ e) :
    WS (fun _ σ H => tMkO C (spI2 C f g) [] ta σ H fun cls d H' => W cls d σ H') es E := fun σ G H Rs D hs hh =>
  h σ G H Rs _ hs fun vs as G1 H1 R1 e1 s1 r1 st1 ⟨d, c, ea, q⟩ => by
    subst ea
    cases r1 with
    | @cons _ v _ _ rv rn =>
      cases rn with
      | @cons _ u _ _ ru rn =>
        cases rn
        have rv : Rp G1 v d := rv
        have ru : Rp G1 u c := ru
        refine ⟨by show 2 ≤ 1000; decide, fun a ha => ⟨a, v, u, rfl, upd_same, fun dx hdx ne => ⟨rfl, dx, [(g, u), (f, v)], ?_, upd_same, ?_, ?_⟩⟩⟩
        · rw [upd_ne ne.symm, upd_same]
        · rw [upd_ne ne] at hdx
          exact hdx
        · rw [upd_ne ne] at hdx
          have eh : upd (L2.del (upd (upd (upd (upd H1 a (exo a C none)) dx (exd dx [(f, v)])) a (exo a C (some dx))) dx (exd dx [(g, u), (f, v)])) a) dx (.xd [(g, u), (f, v)]) = upd H1 dx (.xd [(g, u), (f, v)]) := by
            funext b
            by_cases hb : b = dx
            · rw [hb, upd_same, upd_same]
            · rw [upd_ne hb, upd_ne hb]
              by_cases hba : b = a
              · rw [hba, del_same, ha]
              · rw [del_ne hba, upd_ne hb, upd_ne hba, upd_ne hb, upd_ne hba]
          rw [eh]
          exact L ⟨C, [(g, c), (f, d)]⟩ σ _ _ R1 e1 dx (s1.layG hdx) ⟨_, upd_same, .cons (ru.mono (ex_new (s1.gnone hdx))) (.cons (rv.mono (ex_new (s1.gnone hdx))) .nil)⟩ q
end
end DV
namespace DV
open PySem PySem.Spec PyProof.Rows L2
/-! ### try: .. except X as n: .. -/
/-- the caught exception: at a, its dict at dd -/
def exv (a dd : Addr) (x : ExD) : Own := ⟨fun G _ _ v => v = .ref a ∧ ∃ vs, G dd = some (.xd vs) ∧ RpF G vs x.fs, fun ⟨e, vs, h, r⟩ y _ => ⟨e, vs, y _ _ h, r.mono y⟩⟩
theorem Sat.gone [B : Bs] {G H : Hp} {σ : L2.St} {es : Es} {Rs : Nat → Addr → Prop} {i : Nat} (hs : Sat G H σ es Rs) : Sat G H (σ.set i none) (es.set i none) Rs :=
  ⟨hs.ex, by rw [List.length_set, List.length_set]; exact hs.len, fun j r h => by
    have hj : j ≠ i := fun e => by
      subst e
      rw [List.getElem?_set] at h
      simp at h
    rw [List.getElem?_set_ne (Ne.symm hj)] at h ⊢
    exact hs.at' j r h, hs.dj, hs.ng, hs.al2, hs.st⟩
theorem ws_try [B : Bs] {es : Es} {E : SE} {K : PySem.W.Frag} {tb : WX → TS} {ts : Addr → Value → Option Addr → TS} {Wout : WX} {c : Value} {i : Nat} (ok : ExD → Es → Prop) (hbody : ∀ [B : Bs] (W : WX), Lets W ok → WS (tb W) es E)
    (hcatch : ∀ x e, ok x e → PySem.W.exmOne K (.ref x.C) c = some true ∧ ∀ a dd, WS (ts a (.ref x.C) (some dd)) (e.set i (some (exv a dd x))) { nx := fun e => E.nx (e.set i none), rt := E.rt, bk := fun e => E.bk (e.set i none), ct := fun e => E.ct (e.set i none) }) :
    WS (fun D σ H => tb (wAs K c i ts Wout D) D σ H) es E := fun σ G H Rs D hs hh => by
  have up : ∀ {σ' : L2.St} {G' H' : Hp} {Rs' : Nat → Addr → Prop} {e : Es}, @Sat (bsAt G H Rs) G' H' σ' e Rs' → Sat G' H' σ' e Rs' := fun s => by
    obtain ⟨a1, a2, a3, a4, a5, a6, a7⟩ := s
    exact ⟨a1, a2, a3, a4, a5, a6, hs.st.tr a7⟩
  have upt : ∀ {r : Own} {G' H' : Hp} {Rs' : Nat → Addr → Prop} {Rr : Addr → Prop} {v : V}, @Tmp (bsAt G H Rs) r G' H' Rs' Rr v → Tmp r G' H' Rs' Rr v := fun t => by
    obtain ⟨a1, a2, a3, a4, a5⟩ := t
    exact ⟨a1, a2, a3, a4, fun a z => (a5 a z).elim (hs.st.u a) fun z => .inr (hs.st.d a z)⟩
  refine @hbody (bsAt G H Rs) (wAs K c i ts Wout D) (fun x σ' G' H' Rs' es' dd s xa o => ?_) σ G H Rs D (@Sat0.up (bsAt G H Rs) _ _ _ _ _ hs.z Stp.rf)
    (@Holds.mk (bsAt G H Rs) _ _ _ _ _ (fun σ' G' H' Rs' es' a b z => hh.nx σ' G' H' Rs' es' (up a) b z) (fun v r σ' G' H' Rs' Rr es' a b d z => hh.rt v r σ' G' H' Rs' Rr es' (up a) (upt b) d z) (fun σ' G' H' Rs' es' a b z => hh.bk σ' G' H' Rs' es' (up a) b z) (fun σ' G' H' Rs' es' a b z => hh.ct σ' G' H' Rs' es' (up a) b z))
  obtain ⟨m, hw⟩ := hcatch x es' o
  refine ⟨true, m, fun _ a ha => ?_, fun z => by cases z⟩
  have st : Stp G H (Un Rs) G' H' (Un Rs') := by
    obtain ⟨a1, a2, a3, a4, a5, a6, a7⟩ := s
    exact a7
  have s2 : Sat G' H' (σ'.set i (some (.ref a))) (es'.set i (some (exv a dd x))) (setR Rs' i noR) := (up s).set ⟨⟨rfl, xa⟩, fun _ z => z.elim, fun _ z => z.elim, fun _ _ z => z.elim, fun _ z => z.elim⟩
  have st2 : Stp G H (Un Rs) G' H' (Un (setR Rs' i noR)) := st.weak fun y z => (un_setR y z).elim id fun z => z.elim
  exact hw a dd _ G' H' _ _ s2 ⟨fun σ' G' H' Rs' es' a b z => hh.nx _ G' H' Rs' _ a.gone (st2.tr b) z, fun v r σ' G' H' Rs' Rr es' a b d z => hh.rt v r σ' G' H' Rs' Rr es' a b (st2.tr d) z, fun σ' G' H' Rs' es' a b z => hh.bk _ G' H' Rs' _ a.gone (st2.tr b) z, fun σ' G' H' Rs' es' a b z => hh.ct _ G' H' Rs' _ a.gone (st2.tr b) z⟩
end DV

namespace DV
open PySem PySem.Spec PyProof.Rows L2
/-! ### methods and C(..) that may raise -/
def tMethX (C : Addr) (m : Str) (sp : Sp) (EE : L2.St → XK) (ta : TE) (t : TA) : TE := fun σ H Q => ta σ H fun x H1 => ∃ a dx fs, x = .ref a ∧ H1 a = some (.ins C dx fs) ∧ fs.lookup m = none ∧ t σ H1 fun vs H2 => sp (x :: vs) H2 Q (EE σ)
def tMakeX (C : Addr) (sp : Sp) (EE : L2.St → XK) (t : TA) : TE := fun σ H Q => t σ H fun vs H1 => ∀ x dx, H1 x = none → H1 dx = none → dx ≠ x → sp (.ref x :: vs) (upd (upd H1 dx (.own x)) x (.ins C dx [])) (fun v H2 => v = .non ∧ Q (.ref x) H2) (EE σ)
section
variable {X : Cx} {CX : CXT} {k : Nat} {f C : Addr} {fd : FuncData} {ps : List Str} {sp : Sp} {EE : L2.St → XK} {x m : Str} {p pos apos : Pos} {e o : Expr} {es : List Expr} {ta : TE} {t : TA}
theorem pe_methX {pl : Sem Bool} (he : PE X o ta) (c : Cls X.K C) (hm : L2.Meth X.K C m f) (F : FnOk X.prog X.w X.K X.mg X.base CX k f fd ps sp) (hr : Room k X.A) (hb : Binds X.K fd ps []) (hx : ∀ σ, PassesAt CX X σ (EE σ)) (ha : PA X (e :: es) t)
    (hst : starEach (e :: es) X.env = (false, eval e X.env) :: starEach es X.env := by rfl) (hpl : (backTo pos (starEach es X.env)).any (·.1) = false := by rfl)
    (ht : eval (.Call (.Attribute o m apos) (e :: es) [] pos) X.env = (do
      let ov ← eval o X.env
      standAt apos.atName
      let (f, first) ← holding [ov] (getMethod ov m pl)
      callWith pos f first (backTo pos (starEach (e :: es) X.env)) (backToKw pos (keywordEach [] X.env))) := by rfl) :
    PE X (.Call (.Attribute o m apos) (e :: es) [] pos) (tMethX C m sp EE ta t) := by
  refine ⟨fun pins s σ H Q I h => PySem.W.methodCall_KW (pl := pl) (thn (he.run pins s σ H _ I h) fun u s1 ⟨x, H1, I1, rx, a, dx, fs, ex, ea, l, q⟩ => ?_) ht⟩
  subst ex
  obtain rfl : u = Value.ref a := rx
  refine getmeth_ok I1 ea c hm l (PySem.W.callWith_K (first := [.ref a]) (h₀ := X.base) I.ok.mod.kin hm.kp (thn (ha.run pos pins s1 σ H1 _ I1 q) fun us s2 ⟨vs, H2, I2, r, q2⟩ => ⟨I2.kIn, ?_⟩) hst hpl)
  exact run_fnS (us := .ref a :: us) (vs := .ref a :: vs) F hr hb (hx σ) I2 (.cons rfl r) q2
theorem run_makeX {pins : List (Addr × Obj)} {σ : L2.St} {H : Hp} {s : Shared} {Q : VK} {us : List Value} {vs : List V} (M : Mk X.K C f) (F : FnOk X.prog X.w X.K X.mg X.base CX k f fd ps sp) (hr : Room (k + 1) X.A) (hb : Binds X.K fd ps [])
    (hx : PassesAt CX X σ (EE σ)) (I : L2.Inv X pins σ H s) (r : Vals vs us)
    (h : ∀ x dx, H x = none → H dx = none → dx ≠ x → sp (.ref x :: vs) (upd (upd H dx (.own x)) x (.ins C dx [])) (fun v H2 => v = .non ∧ Q (.ref x) H2) (EE σ)) : wpAny (model X.prog X.w) X.A (call (.ref C) us) (EP X pins σ Q) X.xe s := by
  have hq := h (s.heap.objs.size + 1) s.heap.objs.size (I.hok.fresh (Nat.le_succ _)) (I.hok.fresh (Nat.le_refl _)) (Nat.ne_of_lt (Nat.lt_succ_self _))
  have J := Inv.made (C := C) I
  have rr : Vals (V.ref (s.heap.objs.size + 1) :: vs) (Value.ref (s.heap.objs.size + 1) :: us) := .cons rfl r
  have hl : (Value.ref (s.heap.objs.size + 1) :: us).length = ps.length := by
    rw [← rr.length]
    exact F.len _ _ _ _ hq
  have bb := hb { s with heap := ((s.heap.push _).push _) } (Value.ref (s.heap.objs.size + 1) :: us) J.kIn (by rw [List.append_nil]; exact hl)
  rw [List.append_nil] at bb
  refine wpAny_call (make_map (f := f) I.kIn M.makes M.init (beq_iff_eq.mp M.fn) (codeAny_mono (F.run _ X.stack _ _ ⟨Value.ref (s.heap.objs.size + 1) :: us, []⟩ (Value.ref (s.heap.objs.size + 1) :: us) _ _ (EE σ) (hr.make C us [])
    (J.env0.make C us []) bb rr hq) fun r s' hq' => ?_))
  cases r with
  | error e => exact hx pins _ _ e s' J hq'
  | ok fl =>
    cases fl with
    | ret u =>
      obtain ⟨v, H', I3, rv, ev, q3⟩ := J.after hq'
      subst ev
      exact ⟨rv, ⟨V.ref (s.heap.objs.size + 1), H', I3, rfl, q3⟩⟩
    | next => exact False.elim hq'
    | brk => exact False.elim hq'
    | cont => exact False.elim hq'
theorem pe_makeX (M : Mk X.K C f) (F : FnOk X.prog X.w X.K X.mg X.base CX k f fd ps sp) (hr : Room (k + 1) X.A) (hg : Gl X x) (hm : X.mg x = some (.ref C)) (hb : Binds X.K fd ps []) (hx : ∀ σ, PassesAt CX X σ (EE σ))
    (ha : PA X (e :: es) t) (hdb : (x == ("__debug__" : Str)) = false := by decide) (he : starEach (e :: es) X.env = (false, eval e X.env) :: starEach es X.env := by rfl) (hpl : (backTo pos (starEach es X.env)).any (·.1) = false := by rfl) :
    PE X (.Call (.Name x p) (e :: es) [] pos) (tMakeX C sp EE t) := by
  refine ⟨fun pins s σ H Q I h => wpAny_Call_Name_kw (ld_glob I hg hm ?_ hdb)⟩
  refine PySem.W.callWith_K (h₀ := X.base) I.ok.mod.kin M.kp (thn (ha.run pos pins s σ H _ I h) fun us s1 ⟨vs, H1, I1, r, q⟩ => ⟨I1.kIn, ?_⟩) he hpl
  exact run_makeX M F hr hb (hx σ) I1 r q
end
end DV
namespace DV
open PySem PySem.Spec PyProof.Rows L2
section
variable [B : Bs] {es : Es}
theorem wm_methX {C : Addr} {m : Str} {sp : FXp} {W : WX} {ok : ExD → Es → Prop} {ta : TA} {i : Nat} {r0 : Own} {Q : Own → Es → Prop} (L : Lets W ok) (hi : es[i]? = some (some r0)) (hc : IsIns C m r0)
    (h : WA ta es fun as e => ∃ os, lend e (.s i :: as) = some os ∧ (slots (.s i :: as)).Nodup ∧ sp os (fun r os' => Q r (back e (.s i :: as) os')) fun x os' => ok x (back e (.s i :: as) os')) :
    WM (tMethX C m (spX sp) (L2.WE W) (tVar i) ta) es Q := fun σ G H Rs K hs k => by
  obtain ⟨v0, hv, p⟩ := hs.at' i r0 hi
  obtain ⟨a, dx, fs, e0, ha, lk⟩ := hc _ _ _ _ p
  subst e0
  refine ⟨_, hv, a, dx, fs, rfl, ha, lk, h σ G H Rs _ hs fun vs as G1 H1 R1 e1 s1 r1 st1 ⟨os, hl, nd, q⟩ => ?_⟩
  have r2 : AVs G1 σ (.s i :: as) (.ref a :: vs) := .cons hv r1
  refine ⟨G1, os, argR R1 (.s i :: as), sat_args s1 r2 hl nd, _, _, q, fun r os' hl' q v G' H' Rc Rr s' t st => ?_, fun x os' hl' q G' H' Rc dd s' st xa => ?_⟩
  · obtain ⟨a, b, b2, c⟩ := sat_back (U := Rc) s1 r2 nd (by rw [hl', lend_len hl]) s' st t.dj t.ng t.al
    exact k v r G' H' _ Rr _ a ⟨t.p, t.ng, t.al2, b, b2⟩ (st1.tr c) q
  · obtain ⟨a, b, b2, c⟩ := sat_back (U := Rc) (Rr := noR) s1 r2 nd (by rw [hl', lend_len hl]) s' st.no (fun _ _ z => z.elim) (fun _ z => z.elim) (fun _ z => z.elim)
    exact L x σ G' H' _ _ dd a xa q
theorem wm_makeX {C : Addr} {sp : FXp} {W : WX} {ok : ExD → Es → Prop} {ta : TA} {Q : Own → Es → Prop} (L : Lets W ok) (h : WA ta es fun as e => ∃ os, lend e as = some os ∧ (slots as).Nodup ∧ ∀ p, sp (rawI C p :: os) (fun r os' => ∃ r0 os2, os' = r0 :: os2 ∧ r = fz .none ∧ IsRef p r0 ∧ Q r0 (back e as os2)) fun x os' => ∃ r0 os2, os' = r0 :: os2 ∧ ok x (back e as os2)) :
    WM (tMakeX C (spX sp) (L2.WE W) ta) es Q := fun σ G H Rs K hs k =>
  h σ G H Rs _ hs fun vs as G1 H1 R1 e1 s1 r1 st1 ⟨os, hl, nd, q⟩ p dx hp hd ne => by
    have sa := sat_args s1 r1 hl nd
    have sH : Ex H1 (upd (upd H1 dx (.own p)) p (.ins C dx [])) := ex_tr (ex_new hd) (ex_new (by rw [upd_ne ne.symm]; exact hp))
    have hne : ∀ x, H1 x ≠ none → x ≠ p ∧ x ≠ dx := fun x z => ⟨fun e => z (by rw [e]; exact hp), fun e => z (by rw [e]; exact hd)⟩
    -- the regions: the new instance first
    let Rc : Nat → Addr → Prop := fun j => match j with
      | 0 => fun x => x = p ∨ x = dx
      | j + 1 => argR R1 as j
    have s2 : Sat0 G1 (upd (upd H1 dx (.own p)) p (.ins C dx [])) ((V.ref p :: vs).map some) ((rawI C p :: os).map some) Rc := by
      refine ⟨ex_tr s1.ex sH, by simpa using sa.len, fun j r hj => ?_, fun i j x z1 z2 => ?_, fun j x z => ?_, fun j x z => ?_⟩
      · cases j with
        | zero =>
          simp at hj
          subst hj
          exact ⟨.ref p, rfl, rfl, .inl rfl, dx, .inr rfl, ne, by rw [upd_ne ne]; exact upd_same, upd_same⟩
        | succ j =>
          obtain ⟨v, x1, x2⟩ := sa.at' j r (by simpa using hj)
          exact ⟨v, by simpa using x1, r.fr x2 (ex_rf _) fun x o _ z => sH x o z⟩
      · cases i <;> cases j
        · rfl
        · rename_i j
          exact absurd z1 fun z => z.elim (fun z => (hne x (sa.al j x z2)).1 z) fun z => (hne x (sa.al j x z2)).2 z
        · rename_i i
          exact absurd z2 fun z => z.elim (fun z => (hne x (sa.al i x z1)).1 z) fun z => (hne x (sa.al i x z1)).2 z
        · rw [sa.dj _ _ x z1 z2]
      · cases j with
        | zero =>
          rcases z with z | z
          · rw [z]
            exact s1.gnone hp
          · rw [z]
            exact s1.gnone hd
        | succ j => exact sa.ng j x z
      · cases j with
        | zero =>
          rcases z with z | z
          · rw [z]
            exact .of upd_same (by intro _ z; cases z)
          · rw [z]
            exact .of (by rw [upd_ne ne, upd_same]) (by intro _ z; cases z)
        | succ j => exact (sa.al2 j x z).ex fun u hu => sH x u hu
    have st0 : Stp G1 H1 (DV.Un (argR R1 as)) G1 (upd (upd H1 dx (.own p)) p (.ins C dx [])) (DV.Un Rc) := by
      refine ⟨ex_rf _, fun x o z _ => sH x o z, fun x z => ?_, fun x ⟨j, z⟩ => ?_, fun x z => .inl z⟩
      · cases e : H1 x with
        | none => rfl
        | some o =>
          rw [sH x o e] at z
          cases z
      · cases j with
        | zero =>
          rcases z with z | z
          · exact .inr (by rw [z]; exact hp)
          · exact .inr (by rw [z]; exact hd)
        | succ j => exact .inl ⟨j, z⟩
    refine ⟨G1, rawI C p :: os, Rc, s2, _, _, q p, fun r os' hl' q v G' H' Rc' Rr s' t st => ?_, fun x os' hl' q G' H' Rc' dd s' st xa => ?_⟩
    · obtain ⟨r0, os2, e0, er, ir, q⟩ := q
      subst e0 er
      have st2 := st0.tr st
      obtain ⟨v0, hv0, p0⟩ := s'.at' 0 r0 rfl
      have ev : v0 = .ref p := ir _ _ _ _ p0
      subst ev
      have l2 : os2.length = as.length := by
        have : os2.length = os.length := by simpa using hl'
        rw [this, lend_len hl]
      have s3 : Sat0 G' H' (vs.map some) (os2.map some) fun j => Rc' (j + 1) :=
        ⟨s'.ex, by simpa using s'.len, fun j r hj => by
          obtain ⟨v, x1, x2⟩ := s'.at' (j + 1) r (by simpa using hj)
          exact ⟨v, by simpa using x1, x2⟩, fun i j x z1 z2 => by have := s'.dj _ _ x z1 z2; omega, fun j x z => s'.ng _ x z, fun j x z => s'.al2 _ x z⟩
      obtain ⟨b1, b2, b4, b3⟩ := sat_back (U := Rc') (Rc := fun j => Rc' (j + 1)) (Rr := Rc' 0) s1 r1 nd l2 s3 (st2.weak fun x z => .inl (z.elim (fun ⟨j, z⟩ => ⟨j + 1, z⟩) fun z => ⟨0, z⟩)) (fun i x z1 z2 => by have := s'.dj _ _ x z1 z2; omega) (s'.ng 0) (s'.al 0)
      have ev2 : v = .non := by
        have h := t.p
        cases h
        rfl
      subst ev2
      exact ⟨rfl, k (.ref p) r0 G' H' _ (Rc' 0) _ b1 ⟨p0, s'.ng 0, s'.al2 0, b2, b4⟩ (st1.tr b3) q⟩
    · obtain ⟨r0, os2, e0, q⟩ := q
      subst e0
      have st2 := st0.tr st
      have l2 : os2.length = as.length := by
        have : os2.length = os.length := by simpa using hl'
        rw [this, lend_len hl]
      have s3 : Sat0 G' H' (vs.map some) (os2.map some) fun j => Rc' (j + 1) :=
        ⟨s'.ex, by simpa using s'.len, fun j r hj => by
          obtain ⟨v, x1, x2⟩ := s'.at' (j + 1) r (by simpa using hj)
          exact ⟨v, by simpa using x1, x2⟩, fun i j x z1 z2 => by have := s'.dj _ _ x z1 z2; omega, fun j x z => s'.ng _ x z, fun j x z => s'.al2 _ x z⟩
      obtain ⟨b1, b2, b4, b3⟩ := sat_back (U := Rc') (Rc := fun j => Rc' (j + 1)) (Rr := Rc' 0) s1 r1 nd l2 s3 (st2.weak fun x z => z.elim (fun ⟨j, z⟩ => ⟨j + 1, z⟩) fun z => ⟨0, z⟩) (fun i x z1 z2 => by have := s'.dj _ _ x z1 z2; omega) (s'.ng 0) (s'.al 0)
      exact L x σ G' H' _ _ dd b1 xa q
end
end DV

namespace DV
open PySem PySem.Spec PyProof.Rows L2
/-! ### in the suite: isinstance(e, X), e.f; e stands at a, of the class cls, its dict d -/
/-- isinstance(e, c) -/
def rIsX (K : PySem.W.Frag) (a : Addr) (cls : Value) (d : Option Addr) : List V → Hp → VK → Prop := fun xs H Q => ∃ (D dd : Addr) (fs : List (Str × V)) (c : V) (cv : Value) (b : Bool), cls = .ref D ∧ d = some dd ∧ H dd = some (.xd fs) ∧ ExcC K D ∧ xs = [.ref a, c] ∧ (∀ u, RelV c u → u = cv) ∧ PySem.W.kitOne K (.ref D) cv = some b ∧ Q (.bl b) H
theorem inst_of {X : Cx} {a dd D : Addr} {oe : Obj} {pn pins : List (Addr × Obj)} {σ : L2.St} {H : Hp} {s : Shared} {fs : List (Str × V)} (I : L2.Inv (X.suite a ((a, oe) :: pn)) pins σ H s) (hz : Zc (.ref D) (some dd) oe) (hf : ∃ vs, oe.data = .fields vs) (hd : H dd = some (.xd fs)) :
    ∃ mA od, PySem.W.InstAt s.heap a oe D (some od) ∧ s.heap.Ns1 dd mA ∧ (∀ f, RelO (fs.lookup f) (mA f)) ∧ ∀ f, PySem.W.lookIn f od = some (mA f) := by
  obtain ⟨hget, _⟩ := I.pin (a, oe) (List.mem_append.mpr (.inl List.mem_cons_self))
  obtain ⟨vs, hv⟩ := hf
  have hx : ObjOk X.prog X.w H s.heap dd (.xd fs) := I.hok dd _ hd
  obtain ⟨mA, hns, hr⟩ := hx
  obtain ⟨od, ho, hl⟩ := lookIn_ns hns
  exact ⟨mA, od, ⟨hget, hz.1, by unfold PySem.W.notCls; rw [hv] <;> rfl, by rw [hz.2]; exact ho⟩, hns, hr, hl⟩
section
open PySem.W PySem.Calls
variable {prog : Program} {w : World} {A : Around} {E : Value → Shared → Prop} {s : Shared} {K : Frag} {x D : Addr} {ox : Obj} {od : Option Obj}
theorem fo_data {name : Str} {a g : Value} (hc : (clsIn K D).isSome = true) (ha : findIn K (.ref D) name = some (some a)) (hg : specialIn K a "__get__" = some (some g)) (ht : takesIn K a = some true) : findObj K D od name = some (.bind g a) := by
  obtain ⟨cd, q⟩ := Option.isSome_iff_exists.mp hc
  unfold findObj
  rw [q, Option.bind_some, ha, Option.bind_some]
  simp [hg, ht]
/-- e.__class__, e with a dict of its own too -/
theorem cls_of_exc {Q : Option Value → Shared → Prop} (C : ExcC K D) (X : K.In s.heap) (I : InstAt s.heap x ox D od) (h : Q (some (.ref D)) { s with toks := s.toks + 1 }) : wpAny (model prog w) A (getAttr? (.ref x) "__class__") Q E s := by
  have hf : findObj K D od "__class__" = some (.bind (.builtin "getset_descriptor.__get__") (.builtin "object.__class__")) := fo_data (by obtain ⟨cd, hc, _⟩ := any_some C.hd; rw [hc]; rfl) C.ha C.hn C.ht
  obtain ⟨hp, g, d, t, os⟩ := s
  have q0 := I.type (M := model prog w)
  have q1 := looks_findIn (M := model prog w) X C.hg
  have q2 := looks_findIn (M := model prog w) X C.hk
  have q3 := looks_find (M := model prog w) X I hf
  have sb : Looks (model prog w) hp (isInstance (.ref x) (.type "BaseException")) true := q0.andThen (looks_subIn X C.hs)
  have z2 : (Value.builtin "BaseException.__getattribute__" == Value.builtin "object.__getattribute__") = false := by decide +kernel
  have z1 : (onTheHeap (Value.ref D) && Value.builtin "BaseException.__getattribute__" == Value.builtin "object.__getattribute__") = false := by rw [z2]; rfl
  unfold getAttr? getAttrBy? getAttrBy
  refine wpAny_bind (wpAny_mkText (wpAny_bind (wpAny_attempt (wpAny_holding (wpAny_bind (q0.at (wpAny_bind (q1.at ?_))))))))
  show wpAny _ _ (if (onTheHeap (Value.ref D) && Value.builtin "BaseException.__getattribute__" == Value.builtin "object.__getattribute__") = true then _ else _) _ _ _
  rw [z1, if_neg Bool.false_ne_true]
  unfold getAttrByItsOwn hookBefore
  refine wpAny_bind ?_
  have z0 : onTheHeap (Value.ref D) = true := rfl
  rw [if_pos z0]
  refine q2.at (wpAny_bind (wpAny_attempt (wpAny_holding ?_)))
  unfold callGetattribute
  rw [show (false && onTheHeap (Value.builtin "BaseException.__getattribute__")) = false from rfl, if_neg Bool.false_ne_true]
  unfold boundAndCalled
  rw [PySem.F.excAttr_ValueError.ga.bind (.ref x)]
  refine wpAny_bind (wpAny_pure (?_ : wpAny _ _ (call (.builtin "BaseException.__getattribute__") [.ref x, .str "__class__" t]) _ _ _))
  refine wpAny_call (codeAny_call_builtin PySem.F.excAttr_ValueError.ga.plain PySem.F.entry_bexc_ga (@check_slot (model prog w) _ _ ⟨hp, g, d, t + 1, os⟩ "BaseException.__getattribute__" "BaseException" "__getattribute__" (.ref x) [.str "__class__" t] [] _ (by decide +kernel) (by decide +kernel) sb (PySem.F.args_bexc_ga (.ref x) (.str "__class__" t)) ?_))
  unfold Builtin.«object.__getattribute__»
  refine wpAny_bind (wpAny_of_eq (a := ((Value.ref x : Value), [Value.str "__class__" t])) (by first | rfl | (simp only [slotArgs]; rfl)) (wpAny_bind (wpAny_pure (wpAny_bind (q0.at (wpAny_bind (q3.at ?_)))))))
  show wpAny _ _ (holding [Value.builtin "object.__class__"] (call (.builtin "getset_descriptor.__get__") [.builtin "object.__class__", .ref x, .ref D]) >>= ret) _ _ _
  refine wpAny_bind (wpAny_holding (wpAny_call (class_get (s := ⟨hp, g, d, t + 1, os⟩) (ox := ox) (od := od) X I C.hm (wpAny_pure ?_))))
  show wpAny _ _ (handedOut (.ref D)) _ _ _
  rw [handedOut_of (v := .ref D) rfl]
  first
    | exact wpAny_pure (wpAny_pure h)
    | exact wpAny_pure h
    | exact wpAny_pure (wpAny_bind (wpAny_pure (wpAny_pure h)))
theorem kit_exc (C : ExcC K D) : KitX K (.ref x) (.ref D) (fun h => InstAt h x ox D od) where
  ty := fun _ _ _ I => I.type
  it := fun _ _ X _ => by
    obtain ⟨cd, hc, _⟩ := any_some C.hd
    unfold clsIn at hc
    split at hc
    · rename_i _ _ _ _ at'
      exact fun A' Q' E' s' k q => by
        unfold isType loadHead
        exact wpAny_bind (wpAny_loadPart (k _ _ (X _ _ at')) (wpAny_pure q))
    · cases hc
  ne := (handS_kitx_exc (x := x) (ox := ox) C.hg C.hk C.hs C.hd C.ha C.hn C.ht C.hm).ne
  ca := fun X I k => cls_of_exc C X I k
end
theorem call_isX {X : Cx} {a : Addr} {cls : Value} {d : Option Addr} {oe : Obj} {pn : List (Addr × Obj)} (hz : Zc cls d oe) (hf : ∃ vs, oe.data = .fields vs) : CallR (X.suite a ((a, oe) :: pn)) (.builtin "isinstance") (rIsX X.K a cls d) := by
  intro pins s σ H xs us Q I r h
  obtain ⟨D, dd, fs, c, cv, b, ec, ed, hd, C, rfl, hcv, e, q⟩ := h
  subst ec ed
  cases r with
  | cons rx rr =>
    cases rr with
    | cons rt rr =>
      cases rr
      cases rx
      have ec := hcv _ rt
      subst ec
      obtain ⟨mA, od, J, _⟩ := inst_of I hz hf hd
      exact PySem.W.kia_one (kit_exc C) I.kIn J e (fun z => nomatch z) fun tk => ⟨.bl b, H, I.kept (t' := tk) fun _ _ z => z, rfl, q⟩
/-- e.f -/
def tXf (K : PySem.W.Frag) (a : Addr) (cls : Value) (d : Option Addr) (f : Str) (te : TE) : TE := fun σ H Q => te σ H fun x H1 => x = .ref a ∧ ∃ (D dd : Addr) (fs : List (Str × V)) (v : V), cls = .ref D ∧ d = some dd ∧ H1 dd = some (.xd fs) ∧ ExcC K D ∧ PySem.W.findIn K (.ref D) f = some none ∧ fs.lookup f = some v ∧ Q v H1
theorem pe_xf {X : Cx} {a : Addr} {cls : Value} {d : Option Addr} {oe : Obj} {pn : List (Addr × Obj)} {e : Expr} {te : TE} {f : Str} {pos : Pos} (hz : Zc cls d oe) (hf : ∃ vs, oe.data = .fields vs) (he : PE (X.suite a ((a, oe) :: pn)) e te)
    (hb : attributeBase e f X.env (eval e X.env) = eval e X.env := by rfl) : PE (X.suite a ((a, oe) :: pn)) (.Attribute e f pos) (tXf X.K a cls d f te) := by
  refine ⟨fun pins s σ H Q I h => attr_of hb (thn (he.run pins s σ H _ I h) fun u s1 hh => ?_)⟩
  obtain ⟨x, H1, I1, rx, ex, D, dd, fs, v, ec, ed, ea, C, no, l, q⟩ := hh
  subst ex
  obtain rfl : u = Value.ref a := rx
  subst ec ed
  obtain ⟨mA, od, J, hns, hr, hl⟩ := inst_of I1 hz hf ea
  obtain ⟨u, hu, ru⟩ := RelO.some_of (v := v) (o := mA f) (by rw [← l]; exact hr f)
  exact HandSPX.exc_get I1.kIn J C.hg C.hk C.hs (PySem.W.findObj_own C.hd no rfl (by rw [hl, hu])) (handed_of ru) ⟨v, H1, I1.tok _, ru, q⟩
end DV
namespace DV
open PySem PySem.Spec PyProof.Rows L2
section
variable [B : Bs] {es : Es} {K : PySem.W.Frag} {a dd : Addr} {x : ExD} {i : Nat}
theorem RpF.look {G : Hp} {f : Str} {d : PyData} : ∀ {vs : List (Str × V)} {ds : List (Str × PyData)}, RpF G vs ds → ds.lookup f = some d → ∃ v, vs.lookup f = some v ∧ Rp G v d
  | _, _, .nil, h => by cases h
  | _, _, .cons (f := g) (v := v) (d := c) hv r, h => by
    rw [List.lookup_cons] at h ⊢
    cases e : (f == g) with
    | true =>
      rw [e] at h
      cases h
      exact ⟨v, rfl, hv⟩
    | false =>
      rw [e] at h
      exact RpF.look r h
/-- isinstance(e, c) -/
theorem we_isX {c : V} {cv : Value} {b : Bool} {Q : PyData → Es → Prop} (C : ExcC K x.C) (hi : es[i]? = some (some (exv a dd x))) (hcv : ∀ u, RelV c u → u = cv) (hb : PySem.W.kitOne K (.ref x.C) cv = some b) (q : Q (.bool b) es) :
    WE (tCB (rIsX K a (.ref x.C) (some dd)) (tCons (tVar i) (tCons (tC c) tNil))) es Q := fun σ G H Rs Kf hs kk => by
  obtain ⟨v, hv, e, vs, hd, r⟩ := hs.at' i _ hi
  subst e
  exact ⟨_, hv, x.C, dd, vs, c, cv, b, rfl, rfl, hs.ex _ _ hd, C, rfl, hcv, hb, kk _ _ G H Rs es hs (.bl b) .rf q⟩
/-- e.f -/
theorem we_xf {f : Str} {d : PyData} {Q : PyData → Es → Prop} (C : ExcC K x.C) (no : PySem.W.findIn K (.ref x.C) f = some none) (hi : es[i]? = some (some (exv a dd x))) (hf : x.fs.lookup f = some d) (q : Q d es) : WE (tXf K a (.ref x.C) (some dd) f (tVar i)) es Q := fun σ G H Rs Kf hs kk => by
  obtain ⟨v, hv, e, vs, hd, r⟩ := hs.at' i _ hi
  subst e
  obtain ⟨u, hu, ru⟩ := r.look hf
  exact ⟨_, hv, rfl, x.C, dd, vs, u, rfl, rfl, hs.ex _ _ hd, C, no, hu, kk _ _ G H Rs es hs ru .rf q⟩
end
end DV
namespace DV
open PySem PySem.Spec PyProof.Rows L2
def tTry (K : PySem.W.Frag) (c : Value) (i : Nat) (tb : WX → TS) (ts : Addr → Value → Option Addr → TS) (Wout : WX) : TS := fun D σ H => tb (wAs K c i ts Wout D) D σ H
section
variable {X : Cx} {x n : Str} {c : Value} {i : Nat} {body suite : List Stmt} {b₀ : Stmt} {np pos pos' : Pos} {tb : WX → TS} {ts : Addr → Value → Option Addr → TS} {Wout : WX}
/-- as ps_try_as, with isinstance of the caught at hand -/
theorem ps_tryX (hs : X.stack = X.env :: X.outer) (hf : X.env.frame = some X.env.locals) (hN : X.N.Nodup) (hi : X.N[i]? = some n) (hln : X.env.kindOf n = some .local) (hc : Names X x c) (tk : Takes X Wout)
    (hb : ∀ (W : WX) (pn : List (Addr × Obj)) (xe : Value → Shared → Prop), Takes (X.tr pn xe) W → PassesOwn (model X.prog X.w) X.A X.env xe → PSs (X.tr pn xe) body (tb W))
    (hsu : ∀ (a : Addr) (oe : Obj) (cls : Value) (d : Option Addr) (pn : List (Addr × Obj)), Zc cls d oe → (∃ vs, oe.data = .fields vs) → CallR (X.suite a ((a, oe) :: pn)) (.builtin "isinstance") (rIsX X.K a cls d) → PSs (X.suite a ((a, oe) :: pn)) (b₀ :: suite) (ts a cls d)) :
    PS X (.Try body [.ExceptHandler (some (.Name x np)) (some n) (b₀ :: suite) pos'] [] [] pos) (tTry X.K c i tb ts Wout) :=
  ps_try_as hs hf hN hi hln hc tk hb fun a oe cls d pn hz hf => hsu a oe cls d pn hz hf (call_isX hz hf)
end
theorem ws_tryT [B : Bs] {es : Es} {E : SE} {K : PySem.W.Frag} {tb : WX → TS} {ts : Addr → Value → Option Addr → TS} {Wout : WX} {c : Value} {i : Nat} (ok : ExD → Es → Prop) (hbody : ∀ [B : Bs] (W : WX), Lets W ok → WS (tb W) es E)
    (hcatch : ∀ x e, ok x e → PySem.W.exmOne K (.ref x.C) c = some true ∧ ∀ a dd, WS (ts a (.ref x.C) (some dd)) (e.set i (some (exv a dd x))) { nx := fun e => E.nx (e.set i none), rt := E.rt, bk := fun e => E.bk (e.set i none), ct := fun e => E.ct (e.set i none) }) :
    WS (tTry K c i tb ts Wout) es E := ws_try ok hbody hcatch
end DV
namespace DV
open PySem PySem.Spec PyProof.Rows L2
section
variable {K : PySem.W.Frag} {t : Value} {C : Addr} {b : Bool}
theorem kit_ref (h1 : PySem.W.isClsIn K C = true) (h2 : PySem.W.typeIn K (.ref C) = some (.type "type")) (h3 : PySem.W.subIn K t (.ref C) = some b) (ne : (t == .ref C) = false) : PySem.W.kitOne K t (.ref C) = some b := by
  unfold PySem.W.kitOne
  rw [ne, if_neg Bool.false_ne_true]
  have e2 : ((PySem.W.clsIn K C).isSome && PySem.W.typeIn K (.ref C) == some (.type "type")) = true := by
    have h1' : (PySem.W.clsIn K C).isSome = true := h1
    rw [h1', h2] <;> rfl
  show (if ((PySem.W.clsIn K C).isSome && PySem.W.typeIn K (.ref C) == some (.type "type")) = true then PySem.W.subIn K t (.ref C) else none) = some b
  rw [if_pos e2]
  exact h3
theorem kit_type {T : String} {D : Addr} (h3 : PySem.W.subIn K (.ref D) (.type T) = some b) (m : PySem.W.kitMeta T = true) : PySem.W.kitOne K (.ref D) (.type T) = some b := by
  unfold PySem.W.kitOne
  rw [if_neg (show ¬ ((Value.ref D == Value.type T) = true) from Bool.false_ne_true)]
  show (if PySem.W.kitMeta T = true then PySem.W.subIn K (.ref D) (.type T) else none) = some b
  rw [if_pos m]
  exact h3
theorem exm_ref (h0 : PySem.W.subIn K (.ref C) (.type "BaseException") = some true) (h1 : PySem.W.isClsIn K C = true) (h2 : PySem.W.typeIn K (.ref C) = some (.type "type")) (h3 : PySem.W.subIn K t (.ref C) = some b) : PySem.W.exmOne K t (.ref C) = some b := by
  have e1 : (PySem.W.subIn K (.ref C) (.type "BaseException") == some true) = true := by rw [h0] <;> rfl
  have e2 : ((PySem.W.clsIn K C).isSome && PySem.W.typeIn K (.ref C) == some (.type "type")) = true := by
    have h1' : (PySem.W.clsIn K C).isSome = true := h1
    rw [h1', h2] <;> rfl
  show (if (PySem.W.subIn K (.ref C) (.type "BaseException") == some true) = true then (if ((PySem.W.clsIn K C).isSome && PySem.W.typeIn K (.ref C) == some (.type "type")) = true then PySem.W.subIn K t (.ref C) else none) else none) = some b
  rw [if_pos e1, if_pos e2]
  exact h3
end
end DV

namespace DV
open PySem PySem.Spec PyProof.Rows L2
/-! ### dicts: text keys, keys that are tuples of texts -/
section
variable {κ : Type} [DecidableEq κ]
def dkeys (es : List (κ × PyData)) : List κ := es.map (·.1)
def dlook (es : List (κ × PyData)) (k : κ) : Option PyData := (es.find? fun e => decide (e.1 = k)).map (·.2)
def dput (es : List (κ × PyData)) (k : κ) (d : PyData) : List (κ × PyData) := if k ∈ dkeys es then es.map (fun e => if e.1 = k then (k, d) else e) else es ++ [(k, d)]
theorem dlook_nil (k : κ) : dlook ([] : List (κ × PyData)) k = none := rfl
theorem dlook_cons (e : κ × PyData) (es : List (κ × PyData)) (k : κ) : dlook (e :: es) k = if e.1 = k then some e.2 else dlook es k := by
  unfold dlook
  rw [List.find?_cons]
  by_cases h : e.1 = k <;> simp [h]
theorem dlook_none {es : List (κ × PyData)} {k : κ} : dlook es k = none ↔ k ∉ dkeys es := by
  induction es with
  | nil => simp [dlook_nil, dkeys]
  | cons e es ih =>
    rw [dlook_cons]
    by_cases h : e.1 = k
    · simp [h, dkeys]
    · rw [if_neg h, ih]
      simp [dkeys, Ne.symm h]
theorem dlook_isSome {es : List (κ × PyData)} {k : κ} : (dlook es k).isSome = decide (k ∈ dkeys es) := by
  cases h : dlook es k with
  | none => simp [dlook_none.mp h]
  | some d =>
    have : k ∈ dkeys es := by
      by_cases c : k ∈ dkeys es
      · exact c
      · rw [dlook_none.mpr c] at h
        cases h
    simp [this]
/-- is it a key -/
def dhas (es : List (κ × PyData)) (k : κ) : Bool := (dlook es k).isSome
theorem dhas_iff {es : List (κ × PyData)} {k : κ} : dhas es k = true ↔ k ∈ dkeys es := by
  unfold dhas
  cases h : dlook es k with
  | none => simp [dlook_none.mp h]
  | some d =>
    have : k ∈ dkeys es := by
      by_cases c : k ∈ dkeys es
      · exact c
      · rw [dlook_none.mpr c] at h
        cases h
    simp [this]
theorem dlook_mem {es : List (κ × PyData)} {k : κ} {d : PyData} (h : dlook es k = some d) : (k, d) ∈ es := by
  induction es with
  | nil => simp [dlook_nil] at h
  | cons e es ih =>
    rw [dlook_cons] at h
    by_cases c : e.1 = k
    · rw [if_pos c] at h
      cases h
      subst c
      exact List.mem_cons_self
    · rw [if_neg c] at h
      exact List.mem_cons_of_mem _ (ih h)
theorem dkeys_put {es : List (κ × PyData)} {k : κ} {d : PyData} : dkeys (dput es k d) = if k ∈ dkeys es then dkeys es else dkeys es ++ [k] := by
  unfold dput
  split
  · unfold dkeys
    rw [List.map_map]
    refine List.map_congr_left fun e he => ?_
    show (if e.1 = k then (k, d) else e).1 = e.1
    split
    · rename_i h
      exact h.symm
    · rfl
  · simp [dkeys]
theorem mem_dput {es : List (κ × PyData)} {k j : κ} {d : PyData} : j ∈ dkeys (dput es k d) ↔ j ∈ dkeys es ∨ j = k := by
  rw [dkeys_put]
  split
  · rename_i h
    exact ⟨.inl, fun z => z.elim id fun e => e ▸ h⟩
  · simp
theorem nodup_dput {es : List (κ × PyData)} {k : κ} {d : PyData} (h : (dkeys es).Nodup) : (dkeys (dput es k d)).Nodup := by
  rw [dkeys_put]
  split
  · exact h
  · rename_i q
    exact List.nodup_append.mpr ⟨h, by simp, fun a ha b hb e => by simp at hb; exact q (hb ▸ e ▸ ha)⟩
theorem dput_length_le {es : List (κ × PyData)} {k : κ} {d : PyData} : (dput es k d).length ≤ es.length + 1 := by
  unfold dput
  split <;> simp
theorem dlook_append {es fs : List (κ × PyData)} {k : κ} : dlook (es ++ fs) k = (dlook es k).orElse fun _ => dlook fs k := by
  induction es with
  | nil => rfl
  | cons e es ih =>
    rw [List.cons_append, dlook_cons, dlook_cons]
    split
    · rfl
    · exact ih
theorem dlook_map {k j : κ} {d : PyData} : ∀ es : List (κ × PyData), dlook (es.map fun e => if e.1 = k then (k, d) else e) j = if k = j then (if k ∈ dkeys es then some d else none) else dlook es j
  | [] => by simp [dlook_nil, dkeys]
  | e :: es => by
    rw [List.map_cons, dlook_cons, dlook_map es, dlook_cons]
    by_cases h1 : e.1 = k
    · rw [if_pos h1]
      by_cases h2 : k = j
      · subst h2
        simp [dkeys, h1]
      · simp [h2, h1]
    · rw [if_neg h1]
      by_cases h2 : k = j
      · subst h2
        have : k ∈ dkeys (e :: es) ↔ k ∈ dkeys es := by simp [dkeys, Ne.symm h1]
        simp [h1, this]
      · simp [h2]
theorem dlook_put {es : List (κ × PyData)} {k j : κ} {d : PyData} : dlook (dput es k d) j = if k = j then some d else dlook es j := by
  unfold dput
  split
  · rename_i h
    rw [dlook_map, if_pos h]
  · rename_i h
    rw [dlook_append]
    by_cases c : k = j
    · subst c
      rw [dlook_none.mpr h]
      simp [dlook_cons]
    · rw [if_neg c, dlook_cons, if_neg c, dlook_nil]
      cases dlook es j <;> rfl
end
/-! ### in the heap -/
def kt (e : List Str × PyData) : PyData × PyData := (.tuple (e.1.map .str), e.2)
/-- a dict whose keys are tuples of texts -/
structure RpT (G : Hp) (vs : List (List Key × V)) (es : List (List Str × PyData)) : Prop where
  k : vs.map (·.1) = es.map (·.1.map Sum.inr)
  v : RpAll G (vs.map (·.2)) (es.map (·.2))
theorem RpT.mono {G G' : Hp} {vs : List (List Key × V)} {es : List (List Str × PyData)} (r : RpT G vs es) (e : Ex G G') : RpT G' vs es := ⟨r.k, r.v.mono e⟩
theorem inr_inj : ∀ {a b : List Str}, (a.map Sum.inr : List Key) = b.map Sum.inr → a = b
  | [], [], _ => rfl
  | [], _ :: _, h => by cases h
  | _ :: _, [], h => by cases h
  | x :: a, y :: b, h => by
    injection h with h1 h2
    injection h1 with h1
    rw [h1, inr_inj h2]
section
variable {G : Hp}
theorem kv_look : ∀ {vs : List (Key × V)} {es : List (Str × PyData)}, RpKV G vs (es.map kd) → ∀ x : Str, (dlook es x = none ∧ valV vs (Sum.inr x) = none) ∨ ∃ d v, dlook es x = some d ∧ valV vs (Sum.inr x) = some v ∧ Rp G v d
  | [], [], _, x => .inl ⟨rfl, rfl⟩
  | _ :: _, [], h, x => by cases h
  | [], _ :: _, h, x => by cases h
  | w :: vs, (k, d) :: es, h, x => by
    cases h with
    | @cons _ v _ _ _ rv r =>
      rw [dlook_cons]
      by_cases c : k = x
      · subst c
        exact .inr ⟨d, v, by simp, valV_pos rfl, rv⟩
      · rw [if_neg c, valV_neg (fun z => c (Sum.inr.inj z))]
        exact kv_look r x
theorem kv_any : ∀ {vs : List (Key × V)} {es : List (Str × PyData)}, RpKV G vs (es.map kd) → ∀ x : Str, (vs.any fun kv => decide (kv.1 = Sum.inr x)) = decide (x ∈ dkeys es) := fun {vs es} h x => by
  rw [valV_any]
  rcases kv_look h x with ⟨a, b⟩ | ⟨d, v, a, b, _⟩
  · rw [b]
    simp [dlook_none.mp a]
  · rw [b, ← dlook_isSome, a]
    rfl
theorem kv_repl {x : Str} {v : V} {d : PyData} (rv : Rp G v d) : ∀ {vs : List (Key × V)} {es : List (Str × PyData)}, RpKV G vs (es.map kd) → RpKV G (vs.map fun kv => if kv.1 = Sum.inr x then (kv.1, v) else kv) ((es.map fun e => if e.1 = x then (x, d) else e).map kd)
  | [], [], _ => .nil
  | _ :: _, [], h => by cases h
  | [], _ :: _, h => by cases h
  | w :: vs, (k, c) :: es, h => by
    cases h with
    | @cons _ u _ _ _ ru r =>
      rw [List.map_cons, List.map_cons, List.map_cons]
      by_cases q : k = x
      · subst q
        rw [if_pos rfl, if_pos rfl]
        exact .cons rv (kv_repl rv r)
      · rw [if_neg (fun z => q (Sum.inr.inj z)), if_neg q]
        exact .cons ru (kv_repl rv r)
theorem kv_app {x : Str} {v : V} {d : PyData} (rv : Rp G v d) : ∀ {vs : List (Key × V)} {es : List (Str × PyData)}, RpKV G vs (es.map kd) → RpKV G (vs ++ [(Sum.inr x, v)]) ((es ++ [(x, d)]).map kd)
  | [], [], _ => .cons rv .nil
  | _ :: _, [], h => by cases h
  | [], _ :: _, h => by cases h
  | w :: vs, (k, c) :: es, h => by
    cases h with
    | @cons _ u _ _ _ ru r => exact .cons ru (kv_app rv r)
theorem kv_put {x : Str} {v : V} {d : PyData} {vs : List (Key × V)} {es : List (Str × PyData)} (r : RpKV G vs (es.map kd)) (rv : Rp G v d) : RpKV G (putK vs (Sum.inr x) v) ((dput es x d).map kd) := by
  unfold putK dput
  rw [kv_any r x]
  by_cases c : x ∈ dkeys es
  · rw [if_pos (decide_eq_true c), if_pos c]
    exact kv_repl rv r
  · rw [if_neg (by simp [c]), if_neg c]
    exact kv_app rv r
theorem RpKV.length : ∀ {vs : List (Key × V)} {es : List (PyData × PyData)}, RpKV G vs es → vs.length = es.length
  | _, _, .nil => rfl
  | _, _, .cons _ r => congrArg (· + 1) r.length
theorem RpT.nil : RpT G [] [] := ⟨rfl, .nil⟩
theorem RpT.cons_inv {w : List Key × V} {vs : List (List Key × V)} {k : List Str} {c : PyData} {es : List (List Str × PyData)} (h : RpT G (w :: vs) ((k, c) :: es)) : w.1 = k.map Sum.inr ∧ Rp G w.2 c ∧ RpT G vs es := by
  obtain ⟨h1, h2⟩ := h
  rw [List.map_cons, List.map_cons] at h1 h2
  injection h1 with a b
  cases h2 with
  | cons x y => exact ⟨a, x, b, y⟩
theorem RpT.cons {w : List Key × V} {vs : List (List Key × V)} {k : List Str} {c : PyData} {es : List (List Str × PyData)} (a : w.1 = k.map Sum.inr) (b : Rp G w.2 c) (r : RpT G vs es) : RpT G (w :: vs) ((k, c) :: es) :=
  ⟨by rw [List.map_cons, List.map_cons, a, r.k], .cons b r.v⟩
theorem RpT.length {vs : List (List Key × V)} {es : List (List Str × PyData)} (r : RpT G vs es) : vs.length = es.length := by
  have := congrArg List.length r.k
  simpa using this
theorem kt_look : ∀ {vs : List (List Key × V)} {es : List (List Str × PyData)}, RpT G vs es → ∀ x : List Str, (dlook es x = none ∧ valV vs (x.map Sum.inr) = none) ∨ ∃ d v, dlook es x = some d ∧ valV vs (x.map Sum.inr) = some v ∧ Rp G v d
  | [], [], _, x => .inl ⟨rfl, rfl⟩
  | _ :: _, [], h, x => by cases h.k
  | [], _ :: _, h, x => by cases h.k
  | w :: vs, (k, d) :: es, h, x => by
    obtain ⟨a, b, r⟩ := h.cons_inv
    rw [dlook_cons]
    by_cases c : k = x
    · subst c
      exact .inr ⟨d, w.2, by simp, valV_pos a, b⟩
    · rw [if_neg c, valV_neg (fun z => c (inr_inj (a.symm.trans z)))]
      exact kt_look r x
theorem kt_repl {x : List Str} {v : V} {d : PyData} (rv : Rp G v d) : ∀ {vs : List (List Key × V)} {es : List (List Str × PyData)}, RpT G vs es → RpT G (vs.map fun kv => if kv.1 = x.map Sum.inr then (kv.1, v) else kv) (es.map fun e => if e.1 = x then (x, d) else e)
  | [], [], _ => .nil
  | _ :: _, [], h => by cases h.k
  | [], _ :: _, h => by cases h.k
  | w :: vs, (k, c) :: es, h => by
    obtain ⟨a, b, r⟩ := h.cons_inv
    rw [List.map_cons, List.map_cons]
    by_cases q : k = x
    · subst q
      rw [if_pos a, if_pos rfl]
      exact .cons a rv (kt_repl rv r)
    · rw [if_neg (fun z => q (inr_inj (a.symm.trans z))), if_neg q]
      exact .cons a b (kt_repl rv r)
theorem kt_app {x : List Str} {v : V} {d : PyData} (rv : Rp G v d) : ∀ {vs : List (List Key × V)} {es : List (List Str × PyData)}, RpT G vs es → RpT G (vs ++ [(x.map Sum.inr, v)]) (es ++ [(x, d)])
  | [], [], _ => .cons rfl rv .nil
  | _ :: _, [], h => by cases h.k
  | [], _ :: _, h => by cases h.k
  | w :: vs, (k, c) :: es, h => by
    obtain ⟨a, b, r⟩ := h.cons_inv
    exact .cons a b (kt_app rv r)
theorem kt_put {x : List Str} {v : V} {d : PyData} {vs : List (List Key × V)} {es : List (List Str × PyData)} (r : RpT G vs es) (rv : Rp G v d) : RpT G (putK vs (x.map Sum.inr) v) (dput es x d) := by
  unfold putK dput
  rw [valV_any]
  rcases kt_look r x with ⟨a, b⟩ | ⟨d, v, a, b, _⟩
  · rw [b, if_neg (by simp), if_neg (dlook_none.mp a)]
    exact kt_app rv r
  · rw [b, if_pos (by simp), if_pos (by
      by_cases c : x ∈ dkeys es
      · exact c
      · rw [dlook_none.mpr c] at a
        cases a)]
    exact kt_repl rv r
theorem rp_keyT : ∀ {vs : List V} {x : List Str}, RpAll G vs (x.map .str) → vs = (x.map Sum.inr).map kV
  | [], [], _ => rfl
  | [], _ :: _, h => by cases h
  | _ :: _, [], h => by cases h
  | _ :: vs, b :: bs, .cons h r => by
    cases h
    rw [rp_keyT r]
    rfl
end
/-- a dict with tuple keys at p that may change -/
def mt (p : Addr) (es : List (List Str × PyData)) : Own := ⟨fun G H R v => v = .ref p ∧ R p ∧ ∃ vs, H p = some (.dT vs) ∧ RpT G vs es, fun ⟨a, b, vs, c, d⟩ e k => ⟨a, b, vs, k _ _ b c, d.mono e⟩⟩
/-- the same while a walk holds it -/
def mtl (p : Addr) (o : Obj) (es : List (List Str × PyData)) : Own := ⟨fun G H R v => v = .ref p ∧ R p ∧ ∃ vs, H p = some (.frz o (.dT vs)) ∧ RpT G vs es, fun ⟨a, b, vs, c, d⟩ e k => ⟨a, b, vs, k _ _ b c, d.mono e⟩⟩
/-- what may be read as such a dict -/
def Dk (r : Own) (es : List (Str × PyData)) : Prop := ∀ G H R v, r.P G H R v → Ex G H → ∃ a vs, v = .ref a ∧ Rd H a (.dK vs) ∧ RpKV G vs (es.map kd)
def Dt (r : Own) (es : List (List Str × PyData)) : Prop := ∀ G H R v, r.P G H R v → Ex G H → ∃ a vs, v = .ref a ∧ Rd H a (.dT vs) ∧ RpT G vs es
theorem dk_md {p : Addr} {es : List (Str × PyData)} : Dk (md p es) es := fun G H R v ⟨e, _, vs, h, r⟩ _ => ⟨p, vs, e, .inl h, r⟩
theorem kd_no {es : List (Str × PyData)} {fs : List (List Str × PyData)} (h : es.map kd = fs.map fun e => (.tuple (e.1.map .str), e.2)) (n : fs ≠ []) : False := by
  cases fs with
  | nil => exact n rfl
  | cons f fs => cases es with
    | nil => cases h
    | cons e es =>
      injection h with h _
      injection h with h _
      cases h
theorem rp_dk {G : Hp} {v : V} {es : List (Str × PyData)} (r : Rp G v (.dict (es.map kd))) : ∃ a vs, v = .ref a ∧ G a = some (.dK vs) ∧ RpKV G vs (es.map kd) := by
  cases r with
  | @dk a vs _ h r => exact ⟨a, vs, rfl, h, r⟩
  | @dt a vs fs _ h n k r q =>
    refine (kd_no q fun e => ?_).elim
    subst e
    cases vs with
    | nil => exact n rfl
    | cons w vs => cases k
theorem dk_fz {es : List (Str × PyData)} : Dk (fz (.dict (es.map kd))) es := fun G H R v h e => by
  have h : Rp G v _ := h
  obtain ⟨a, vs, e1, h1, r⟩ := rp_dk h
  exact ⟨a, vs, e1, .inl (e _ _ h1), r⟩
theorem dt_mt {p : Addr} {es : List (List Str × PyData)} : Dt (mt p es) es := fun G H R v ⟨e, _, vs, h, r⟩ _ => ⟨p, vs, e, .inl h, r⟩
theorem dt_mtl {p : Addr} {o : Obj} {es : List (List Str × PyData)} : Dt (mtl p o es) es := fun G H R v ⟨e, _, vs, h, r⟩ _ => ⟨p, vs, e, .inr ⟨o, h⟩, r⟩
theorem kt_inj : ∀ {es fs : List (List Str × PyData)}, es.map kt = fs.map (fun e => (PyData.tuple (e.1.map .str), e.2)) → es = fs
  | [], [], _ => rfl
  | [], _ :: _, h => by cases h
  | _ :: _, [], h => by cases h
  | (k, d) :: es, (j, c) :: fs, h => by
    injection h with h1 h2
    injection h1 with h1 h3
    injection h1 with h1
    have e : k = j := by
      have inj : ∀ {a b : List Str}, a.map PyData.str = b.map PyData.str → a = b := by
        intro a
        induction a with
        | nil => intro b h; cases b with
          | nil => rfl
          | cons _ _ => cases h
        | cons x a ih => intro b h; cases b with
          | nil => cases h
          | cons y b =>
            injection h with h1 h2
            injection h1 with h1
            rw [h1, ih h2]
      exact inj h1
    rw [e, kt_inj h2]
    have h3 : d = c := h3
    rw [h3]
theorem rp_dt {G : Hp} {v : V} {es : List (List Str × PyData)} (n : es ≠ []) (r : Rp G v (.dict (es.map kt))) : ∃ a vs, v = .ref a ∧ G a = some (.dT vs) ∧ RpT G vs es := by
  generalize hd : es.map kt = ds at r
  cases r with
  | @dk a vs _ h r =>
    cases es with
    | nil => exact absurd rfl n
    | cons e es =>
      subst hd
      cases r
  | @dt a vs fs _ h n2 k r q =>
    subst q
    have e := kt_inj hd
    subst e
    exact ⟨a, vs, rfl, h, k, r⟩
theorem dt_fz {es : List (List Str × PyData)} (n : es ≠ []) : Dt (fz (.dict (es.map kt))) es := fun G H R v h e => by
  have h : Rp G v _ := h
  obtain ⟨a, vs, e1, h1, r⟩ := rp_dt n h
  exact ⟨a, vs, e1, .inl (e _ _ h1), r⟩
theorem frz_mt [B : Bs] {p : Addr} {es : List (List Str × PyData)} (n : es ≠ []) : Frz (mt p es) (.dict (es.map kt)) := fun G H R v ⟨e, hp, vs, hv, r⟩ ex ng => by
  subst e
  have x : Ex G (upd G p (.dT vs)) := ex_new (ng p hp)
  refine ⟨upd G p (.dT vs), x, ex_put ex hv, upd_new hp, .dt upd_same (fun z => ?_) (r.mono x).k (r.mono x).v rfl⟩
  subst z
  cases es with
  | nil => exact n rfl
  | cons _ _ => cases r.k
/-! ### the rules -/
variable [B : Bs]
section
variable {es : Es} {σ : L2.St} {G H : Hp} {Rs : Nat → Addr → Prop} {ta tb te td tx ty tv : TE} {i : Nat} {E : SE}
omit B in
theorem DGet.kr {H : Hp} {a : Addr} {vs : List (Key × V)} {k : Key} (e : Rd H a (.dK vs)) : DGet H a (kV k) (valV vs k) := .inl ⟨vs, k, e, rfl, rfl⟩
omit B in
theorem DGet.tr {H : Hp} {a b : Addr} {vs : List (List Key × V)} {k : List Key} (e : Rd H a (.dT vs)) (eb : H b = some (.tup (k.map kV))) : DGet H a (.ref b) (valV vs k) := .inr ⟨vs, k, b, e, rfl, eb, rfl⟩
omit B in
theorem some_has {κ : Type} [DecidableEq κ] {α : Type} {es : List (κ × PyData)} {x : κ} {o : Option α} {R : α → PyData → Prop} (h : (dlook es x = none ∧ o = none) ∨ ∃ d v, dlook es x = some d ∧ o = some v ∧ R v d) : o.isSome = dhas es x := by
  unfold dhas
  rcases h with ⟨a, b⟩ | ⟨d, v, a, b, _⟩
  · rw [a, b]
    rfl
  · rw [a, b]
    rfl
omit B in
theorem some_in {κ : Type} [DecidableEq κ] {α : Type} {es : List (κ × PyData)} {x : κ} {o : Option α} {R : α → PyData → Prop} (h : (dlook es x = none ∧ o = none) ∨ ∃ d v, dlook es x = some d ∧ o = some v ∧ R v d) : o.isSome = decide (x ∈ dkeys es) := by
  rw [← dlook_isSome]
  rcases h with ⟨a, b⟩ | ⟨d, v, a, b, _⟩
  · rw [a, b]
    rfl
  · rw [a, b]
    rfl
/-- x in d, the dict in slot i -/
theorem we_din {Q : PyData → Es → Prop} (h : WE ty es fun d e => ∃ x r ents, d = .str x ∧ e[i]? = some (some r) ∧ Dk r ents ∧ Q (.bool (decide (x ∈ dkeys ents))) e) : WE (tDIn ty (tVar i)) es Q := fun σ G H Rs K hs k =>
  h σ G H Rs _ hs fun v d G1 H1 R1 e1 s1 r1 st1 ⟨x, r, ents, ed, hi, hd, q⟩ => by
    subst ed
    cases r1
    obtain ⟨w, hw, p⟩ := s1.at' i r hi
    obtain ⟨a, vs, e, ha, rv⟩ := hd _ _ _ _ p s1.ex
    subst e
    refine ⟨_, hw, a, _, rfl, DGet.kr (k := Sum.inr x) ha, ?_⟩
    rw [some_in (kv_look rv x)]
    exact k _ _ G1 H1 R1 e1 s1 (.bl _) st1 q
theorem we_dnotin {Q : PyData → Es → Prop} (h : WE ty es fun d e => ∃ x r ents, d = .str x ∧ e[i]? = some (some r) ∧ Dk r ents ∧ Q (.bool (!decide (x ∈ dkeys ents))) e) : WE (tDNotIn ty (tVar i)) es Q := fun σ G H Rs K hs k =>
  h σ G H Rs _ hs fun v d G1 H1 R1 e1 s1 r1 st1 ⟨x, r, ents, ed, hi, hd, q⟩ => by
    subst ed
    cases r1
    obtain ⟨w, hw, p⟩ := s1.at' i r hi
    obtain ⟨a, vs, e, ha, rv⟩ := hd _ _ _ _ p s1.ex
    subst e
    refine ⟨_, hw, a, _, rfl, DGet.kr (k := Sum.inr x) ha, ?_⟩
    rw [some_in (kv_look rv x)]
    exact k _ _ G1 H1 R1 e1 s1 (.bl _) st1 q
/-- x in d, d frozen -/
theorem we_dinF {Q : PyData → Es → Prop} (h : WE ty es fun d e => ∃ x, d = .str x ∧ WE td e fun d2 e2 => ∃ ents : List (Str × PyData), d2 = .dict (ents.map kd) ∧ Q (.bool (decide (x ∈ dkeys ents))) e2) : WE (tDIn ty td) es Q := fun σ G H Rs K hs k =>
  h σ G H Rs _ hs fun v d G1 H1 R1 e1 s1 r1 st1 ⟨x, ed, q⟩ => by
    subst ed
    cases r1
    refine q σ G1 H1 R1 _ s1 fun v d G2 H2 R2 e2 s2 r2 st2 ⟨ents, ed, q⟩ => ?_
    subst ed
    obtain ⟨a, vs, e, ha, rv⟩ := rp_dk r2
    subst e
    refine ⟨a, _, rfl, DGet.kr (k := Sum.inr x) (.inl (s2.ex _ _ ha)), ?_⟩
    rw [some_in (kv_look rv x)]
    exact k _ _ G2 H2 R2 e2 s2 (.bl _) (st1.tr st2) q
theorem we_dnotinF {Q : PyData → Es → Prop} (h : WE ty es fun d e => ∃ x, d = .str x ∧ WE td e fun d2 e2 => ∃ ents : List (Str × PyData), d2 = .dict (ents.map kd) ∧ Q (.bool (!decide (x ∈ dkeys ents))) e2) : WE (tDNotIn ty td) es Q := fun σ G H Rs K hs k =>
  h σ G H Rs _ hs fun v d G1 H1 R1 e1 s1 r1 st1 ⟨x, ed, q⟩ => by
    subst ed
    cases r1
    refine q σ G1 H1 R1 _ s1 fun v d G2 H2 R2 e2 s2 r2 st2 ⟨ents, ed, q⟩ => ?_
    subst ed
    obtain ⟨a, vs, e, ha, rv⟩ := rp_dk r2
    subst e
    refine ⟨a, _, rfl, DGet.kr (k := Sum.inr x) (.inl (s2.ex _ _ ha)), ?_⟩
    rw [some_in (kv_look rv x)]
    exact k _ _ G2 H2 R2 e2 s2 (.bl _) (st1.tr st2) q
/-- x in d, x a tuple of texts, the dict in slot i -/
theorem we_dinT {Q : PyData → Es → Prop} (h : WE ty es fun d e => ∃ (x : List Str) (r : Own) (ents : List (List Str × PyData)), d = .tuple (x.map .str) ∧ e[i]? = some (some r) ∧ Dt r ents ∧ Q (.bool (dhas ents x)) e) : WE (tDIn ty (tVar i)) es Q := fun σ G H Rs K hs k =>
  h σ G H Rs _ hs fun v d G1 H1 R1 e1 s1 r1 st1 ⟨x, r, ents, ed, hi, hd, q⟩ => by
    subst ed
    cases r1 with
    | @tup b ws _ hb rb =>
      obtain ⟨w, hw, p⟩ := s1.at' i r hi
      obtain ⟨a, vs, e, ha, rv⟩ := hd _ _ _ _ p s1.ex
      subst e
      have e2 := rp_keyT rb
      subst e2
      refine ⟨_, hw, a, _, rfl, DGet.tr ha (s1.ex _ _ hb), ?_⟩
      rw [some_has (kt_look rv x)]
      exact k _ _ G1 H1 R1 e1 s1 (.bl _) st1 q
theorem we_dnotinT {Q : PyData → Es → Prop} (h : WE ty es fun d e => ∃ (x : List Str) (r : Own) (ents : List (List Str × PyData)), d = .tuple (x.map .str) ∧ e[i]? = some (some r) ∧ Dt r ents ∧ Q (.bool (!dhas ents x)) e) : WE (tDNotIn ty (tVar i)) es Q := fun σ G H Rs K hs k =>
  h σ G H Rs _ hs fun v d G1 H1 R1 e1 s1 r1 st1 ⟨x, r, ents, ed, hi, hd, q⟩ => by
    subst ed
    cases r1 with
    | @tup b ws _ hb rb =>
      obtain ⟨w, hw, p⟩ := s1.at' i r hi
      obtain ⟨a, vs, e, ha, rv⟩ := hd _ _ _ _ p s1.ex
      subst e
      have e2 := rp_keyT rb
      subst e2
      refine ⟨_, hw, a, _, rfl, DGet.tr ha (s1.ex _ _ hb), ?_⟩
      rw [some_has (kt_look rv x)]
      exact k _ _ G1 H1 R1 e1 s1 (.bl _) st1 q
/-- d[x], x a tuple of texts, the dict in slot i -/
theorem we_dgetT {Q : PyData → Es → Prop} (h : WE ty es fun d e => ∃ (x : List Str) (r : Own) (ents : List (List Str × PyData)) (c : PyData), d = .tuple (x.map .str) ∧ e[i]? = some (some r) ∧ Dt r ents ∧ dlook ents x = some c ∧ Q c e) (h0 : ∃ r, es[i]? = some (some r)) : WE (tDGet (tVar i) ty) es Q := fun σ G H Rs K hs k => by
  obtain ⟨r0, h0⟩ := h0
  obtain ⟨w0, hw0, _⟩ := hs.at' i r0 h0
  refine ⟨_, hw0, h σ G H Rs _ hs fun v d G1 H1 R1 e1 s1 r1 st1 ⟨x, r, ents, c, ed, hi, hd, hl, q⟩ => ?_⟩
  subst ed
  cases r1 with
  | @tup b ws _ hb rb =>
    obtain ⟨w, hw, p⟩ := s1.at' i r hi
    rw [hw0] at hw
    cases hw
    obtain ⟨a, vs, e, ha, rv⟩ := hd _ _ _ _ p s1.ex
    subst e
    have e2 := rp_keyT rb
    subst e2
    rcases kt_look rv x with ⟨z, _⟩ | ⟨c', v, z, hv, rc⟩
    · rw [hl] at z
      cases z
    · rw [hl] at z
      cases z
      exact ⟨a, v, rfl, by rw [← hv]; exact DGet.tr ha (s1.ex _ _ hb), k _ _ G1 H1 R1 e1 s1 rc st1 q⟩
omit B in
theorem isd_dk {H : Hp} {a : Addr} {vs : List (Key × V)} (h : Rd H a (.dK vs)) : IsD H a := .inl ⟨vs, h⟩
/-- d.get(x, z), the dict in slot i -/
theorem we_dget2 {r0 : Own} {ents0 : List (Str × PyData)} {Q : PyData → Es → Prop} (h0 : es[i]? = some (some r0)) (hd0 : Dk r0 ents0) (h : WE ty es fun d e => ∃ x, d = .str x ∧ WE tx e fun c e2 => ∃ r ents, e2[i]? = some (some r) ∧ Dk r ents ∧ Q ((dlook ents x).getD c) e2) :
    WE (tDGet2 (tVar i) ty tx) es Q := fun σ G H Rs K hs k => by
  obtain ⟨w0, hw0, p0⟩ := hs.at' i r0 h0
  obtain ⟨a, vs0, e, ha0, _⟩ := hd0 _ _ _ _ p0 hs.ex
  subst e
  refine ⟨_, hw0, a, rfl, isd_dk ha0, h σ G H Rs _ hs fun v d G1 H1 R1 e1 s1 r1 st1 ⟨x, ed, q⟩ => ?_⟩
  subst ed
  cases r1
  refine q σ G1 H1 R1 _ s1 fun z c G2 H2 R2 e2 s2 r2 st2 ⟨r, ents, hi, hd, q⟩ => ?_
  obtain ⟨w, hw, p⟩ := s2.at' i r hi
  rw [hw0] at hw
  cases hw
  obtain ⟨a', vs, e, ha, rv⟩ := hd _ _ _ _ p s2.ex
  cases e
  refine ⟨_, DGet.kr (k := Sum.inr x) ha, ?_⟩
  rcases kv_look rv x with ⟨z1, z2⟩ | ⟨c', v, z1, z2, rc⟩
  · rw [z2]
    rw [z1] at q
    exact k _ _ G2 H2 R2 e2 s2 r2 (st1.tr st2) q
  · rw [z2]
    rw [z1] at q
    exact k _ _ G2 H2 R2 e2 s2 rc (st1.tr st2) q
/-- .. of a frozen dict -/
theorem we_dget2F {Q : PyData → Es → Prop} (h : WE td es fun d0 e0 => ∃ ents : List (Str × PyData), d0 = .dict (ents.map kd) ∧ WE ty e0 fun d e => ∃ x, d = .str x ∧ WE tx e fun c e2 => Q ((dlook ents x).getD c) e2) :
    WE (tDGet2 td ty tx) es Q := fun σ G H Rs K hs k =>
  h σ G H Rs _ hs fun v0 d0 G0 H0 R0 e0 s0 r0 st0 ⟨ents, ed, q⟩ => by
    subst ed
    obtain ⟨a, vs, e, ha, rv⟩ := rp_dk r0
    subst e
    refine ⟨a, rfl, isd_dk (.inl (s0.ex _ _ ha)), q σ G0 H0 R0 _ s0 fun v d G1 H1 R1 e1 s1 r1 st1 ⟨x, ed, q⟩ => ?_⟩
    subst ed
    cases r1
    refine q σ G1 H1 R1 _ s1 fun z c G2 H2 R2 e2 s2 r2 st2 q => ?_
    have st := st1.tr st2
    refine ⟨_, DGet.kr (k := Sum.inr x) (.inl (s2.ex _ _ (st.g _ _ ha))), ?_⟩
    rcases kv_look (rv.mono st.g) x with ⟨z1, z2⟩ | ⟨c', v, z1, z2, rc⟩
    · rw [z2]
      rw [z1] at q
      exact k _ _ G2 H2 R2 e2 s2 r2 (st0.tr st) q
    · rw [z2]
      rw [z1] at q
      exact k _ _ G2 H2 R2 e2 s2 rc (st0.tr st) q
/-- d[x] = v, the dict in slot i -/
theorem ws_dput (h : WE tv es fun c e => (∃ r, e[i]? = some (some r)) ∧ WE ty e fun d e2 => ∃ x p ents, d = .str x ∧ e2[i]? = some (some (md p ents)) ∧ ents.length < 100000 ∧ E.nx (e2.set i (some (md p (dput ents x c))))) : WS (sDPut (tVar i) ty tv) es E := fun σ G H Rs D hs hh =>
  h σ G H Rs _ hs fun v c G1 H1 R1 e1 s1 r1 st1 ⟨⟨r0, h0⟩, q⟩ => by
    obtain ⟨w0, hw0, _⟩ := s1.at' i r0 h0
    refine ⟨_, hw0, q σ G1 H1 R1 _ s1 fun y d G2 H2 R2 e2 s2 r2 st2 ⟨x, p, ents, ed, hi, hl, q⟩ => ?_⟩
    subst ed
    cases r2
    obtain ⟨w, hw, e, rp, vs, hv, rv⟩ := s2.at' i _ hi
    rw [hw0] at hw
    cases hw
    cases e
    refine ⟨p, _, rfl, DPut.k (k := Sum.inr x) (v := v) hv ?_, ?_⟩
    · rw [rv.length, List.length_map]
      exact Nat.lt_trans hl (by decide)
    · exact hh.nx σ G2 _ R2 _ (s2.mut (fun _ z => nomatch z) (p := p) (r' := md p (dput ents x c)) hi hw0 rp ⟨rfl, rp, _, upd_same, kv_put rv (r1.mono st2.g)⟩) ((st1.tr st2).tr (stp_mut ⟨i, rp⟩ (by rw [hv]; simp))) q
theorem ws_dputT (h : WE tv es fun c e => (∃ r, e[i]? = some (some r)) ∧ WE ty e fun d e2 => ∃ (x : List Str) (p : Addr) (ents : List (List Str × PyData)), d = .tuple (x.map .str) ∧ e2[i]? = some (some (mt p ents)) ∧ ents.length < 100000 ∧ E.nx (e2.set i (some (mt p (dput ents x c))))) : WS (sDPut (tVar i) ty tv) es E := fun σ G H Rs D hs hh =>
  h σ G H Rs _ hs fun v c G1 H1 R1 e1 s1 r1 st1 ⟨⟨r0, h0⟩, q⟩ => by
    obtain ⟨w0, hw0, _⟩ := s1.at' i r0 h0
    refine ⟨_, hw0, q σ G1 H1 R1 _ s1 fun y d G2 H2 R2 e2 s2 r2 st2 ⟨x, p, ents, ed, hi, hl, q⟩ => ?_⟩
    subst ed
    cases r2 with
    | @tup b ws _ hb rb =>
      have e2' := rp_keyT rb
      subst e2'
      obtain ⟨w, hw, e, rp, vs, hv, rv⟩ := s2.at' i _ hi
      rw [hw0] at hw
      cases hw
      cases e
      refine ⟨p, _, rfl, DPut.t (v := v) hv (s2.ex _ _ hb) ?_, ?_⟩
      · rw [rv.length]
        exact Nat.lt_trans hl (by decide)
      · exact hh.nx σ G2 _ R2 _ (s2.mut (fun _ z => nomatch z) (p := p) (r' := mt p (dput ents x c)) hi hw0 rp ⟨rfl, rp, _, upd_same, kt_put rv (r1.mono st2.g)⟩) ((st1.tr st2).tr (stp_mut ⟨i, rp⟩ (by rw [hv]; simp))) q
theorem wm_dnewT {Q : Own → Es → Prop} (h : ∀ p, Q (mt p []) es) : WM tDNewT es Q := fun σ G H Rs K hs k p hp =>
  k _ _ G _ Rs (isP p) es (hs.lay hp) (hs.tmp (r := mt p []) hp (fun _ z => nomatch z) ⟨rfl, rfl, [], upd_same, .nil⟩) (stp_lay hp) (h p)
end
end DV

namespace DV
open PySem PySem.Spec PyProof.Rows L2
/-! ### loops -/
theorem for_by {J : It} {g : TG} {tb : TS} {D : Ends} {σ : L2.St} {H : Hp} (n : Nat) (Pv : Nat → L2.St → Hp → Prop) (h0 : Pv 0 σ H) (stop : ∀ σ H, Pv n σ H → J.stop n H ∧ D.nx σ H)
    (go : ∀ i σ H, i < n → Pv i σ H → J.go i H ∧ ∀ x H', J.yld i H x H' → g x σ H' fun σ2 H2 => tb { D with nx := Pv (i + 1), ct := Pv (i + 1), bk := D.nx } σ2 H2) :
    ∃ W : Nat → Nat → L2.St → Hp → Prop, (∃ m, W 0 m σ H) ∧ ∀ i m σ H, W i m σ H →
      (J.stop i H ∧ D.nx σ H) ∨ (J.go i H ∧ ∃ N : L2.St → Hp → Prop, (∀ σ' H', N σ' H' → ∃ m', m' < m ∧ W (i + 1) m' σ' H') ∧ ∀ x H', J.yld i H x H' → g x σ H' fun σ2 H2 => tb { D with nx := N, ct := N, bk := D.nx } σ2 H2) := by
  refine ⟨fun i m σ H => m = n - i ∧ i ≤ n ∧ Pv i σ H, ⟨n, by simp, Nat.zero_le _, h0⟩, ?_⟩
  rintro i m σ H ⟨rfl, hi, p⟩
  by_cases hlt : i < n
  · obtain ⟨a, b⟩ := go i σ H hlt p
    exact .inr ⟨a, Pv (i + 1), fun σ' H' p' => ⟨n - (i + 1), by omega, rfl, hlt, p'⟩, b⟩
  · have e : i = n := by omega
    subst e
    exact .inl (stop σ H p)
variable [B : Bs]
section
variable {es : Es} {σ : L2.St} {G H : Hp} {Rs : Nat → Addr → Prop} {ta tb te tl : TE} {ts us : TS} {E : SE} {K : PySem.W.Frag}
/-- the invariant of a loop, with the heap -/
def LpI (G1 H1 : Hp) (R1 : Nat → Addr → Prop) (I : Nat → Es → Prop) (k : Nat) (σ' : L2.St) (H' : Hp) : Prop := ∃ e G' Rs', Sat G' H' σ' e Rs' ∧ Stp G1 H1 (Un R1) G' H' (Un Rs') ∧ I k e
/-- the body, from a turn's state on -/
theorem lp_body {D : Ends} {G0 H0 G1 H1 G2 H2 G3 H3 : Hp} {R0 R1 R2 R3 : Nat → Addr → Prop} {I : Nat → Es → Prop} {k : Nat} {e : Es} (hh : Holds G0 H0 R0 E D) (st0 : Stp G0 H0 (Un R0) G1 H1 (Un R1)) (st1 : Stp G1 H1 (Un R1) G3 H3 (Un R3)) (s : Sat G3 H3 σ e R3)
    (h : WS ts e { nx := I (k + 1), rt := E.rt, bk := E.nx, ct := I (k + 1) }) : ts { D with nx := LpI G1 H1 R1 I (k + 1), ct := LpI G1 H1 R1 I (k + 1), bk := D.nx } σ H3 :=
  h σ G3 H3 R3 _ s ⟨fun σ' G' H' Rs' es' x y z => ⟨es', G', Rs', x, st1.tr y, z⟩, (hh.step (st0.tr st1)).rt, fun σ' G' H' Rs' es' x y z => hh.nx σ' G' H' Rs' es' x ((st0.tr st1).tr y) z, fun σ' G' H' Rs' es' x y z => ⟨es', G', Rs', x, st1.tr y, z⟩⟩
/-- for m, n in enumerate(a list) -/
theorem ws_forE {m n : Nat} (h : WE te es fun d e => ∃ ds, d = .list ds ∧ ∃ I : Nat → Es → Prop, I 0 e ∧ (∀ (k : Nat) x e, ds[k]? = some x → I k e → WS ts ((e.set m (some (fz (.int (k : Int))))).set n (some (fz x))) { nx := I (k + 1), rt := E.rt, bk := E.nx, ct := I (k + 1) }) ∧ ∀ e, I ds.length e → E.nx e) :
    WS (tFor (iEnum K (tCons te tNil)) (gTup K 2 (gCons (gName m) (gCons (gName n) gNil))) ts) es E := fun σ G H Rs D hs hh => by
  refine h σ G H Rs _ hs fun v d G1 H1 R1 e1 s1 r st1 ⟨ds, ed, I, i0, it, ie⟩ => ?_
  subst ed
  cases r with
  | @lst a xs _ ha ra =>
    refine ⟨a, xs, rfl, SqL.of (s1.ex _ _ ha), for_by ds.length (LpI G1 H1 R1 I) ⟨e1, G1, R1, s1, .rf, i0⟩ ?_ ?_⟩
    · rintro σ2 H2 ⟨e, G2, R2, s2, st2, ik⟩
      exact ⟨⟨xs, SqL.of (s2.ex _ _ (st2.g _ _ ha)), by rw [ra.length]; exact Nat.le_refl _⟩, hh.nx σ2 G2 H2 R2 e s2 (st1.tr st2) (ie e ik)⟩
    · rintro k σ2 H2 hk ⟨e, G2, R2, s2, st2, ik⟩
      have hx1 : SqL K H2 a xs := SqL.of (s2.ex _ _ (st2.g _ _ ha))
      have hk2 : k < xs.length := by rw [ra.length]; exact hk
      refine ⟨⟨xs, xs[k], hx1, List.getElem?_eq_getElem hk2⟩, ?_⟩
      rintro _ _ ⟨T, x, rfl, hT, rfl, hx⟩
      obtain ⟨d, hd, rx0⟩ := ra.getV (hx xs hx1)
      refine ⟨T, [.int k, x], rfl, SqT.of upd_same, rfl, .int k, [x], rfl, x, [], rfl, rfl, ?_⟩
      have sT := s2.lay (o := .tup [.int k, x]) hT
      have stT : Stp G2 H2 (Un R2) G2 (upd H2 T (.tup [.int k, x])) (Un R2) := (stp_lay hT).weak fun a z => .inl z
      obtain ⟨R3', s3', u3'⟩ := sT.setv (i := m) (.int (k : Int))
      obtain ⟨R3, s3, u3⟩ := s3'.setv (i := n) (rx0.mono st2.g)
      exact lp_body (H2 := H2) (G2 := G2) (R2 := R2) hh st1 (st2.tr (stT.weak fun x z => u3' _ (u3 _ z))) s3 (it k d e hd ik)
/-- for x, y in zip(two lists) -/
theorem ws_forZ {m n : Nat} (h : WE ta es fun d e => ∃ ds, d = .list ds ∧ WE tb e fun d2 e2 => ∃ cs, d2 = .list cs ∧ cs.length = ds.length ∧ ∃ I : Nat → Es → Prop, I 0 e2 ∧ (∀ (k : Nat) x y e, ds[k]? = some x → cs[k]? = some y → I k e → WS ts ((e.set m (some (fz x))).set n (some (fz y))) { nx := I (k + 1), rt := E.rt, bk := E.nx, ct := I (k + 1) }) ∧ ∀ e, I ds.length e → E.nx e) :
    WS (tFor (iZip K (tCons ta (tCons tb tNil))) (gTup K 2 (gCons (gName m) (gCons (gName n) gNil))) ts) es E := fun σ G H Rs D hs hh => by
  refine h σ G H Rs _ hs fun v d G1 H1 R1 e1 s1 r st1 ⟨ds, ed, h2⟩ => h2 σ G1 H1 R1 _ s1 fun v2 d2 G1' H1' R1' e1' s1' r2 st1' ⟨cs, ed2, hlen, I, i0, it, ie⟩ => ?_
  subst ed ed2
  cases r with
  | @lst a xs _ ha0 ra0 =>
    cases r2 with
    | @lst b ys _ hb rb =>
      have ha := st1'.g _ _ ha0
      have ra := ra0.mono st1'.g
      refine ⟨a, b, xs, ys, rfl, SqL.of (s1'.ex _ _ ha), SqL.of (s1'.ex _ _ hb), for_by ds.length (LpI G1' H1' R1' I) ⟨e1', G1', R1', s1', .rf, i0⟩ ?_ ?_⟩
      · rintro σ2 H2 ⟨e, G2, R2, s2, st2, ik⟩
        exact ⟨⟨xs, ys, SqL.of (s2.ex _ _ (st2.g _ _ ha)), SqL.of (s2.ex _ _ (st2.g _ _ hb)), .inl (by rw [ra.length]; exact Nat.le_refl _)⟩, hh.nx σ2 G2 H2 R2 e s2 ((st1.tr st1').tr st2) (ie e ik)⟩
      · rintro k σ2 H2 hk ⟨e, G2, R2, s2, st2, ik⟩
        have hx1 : SqL K H2 a xs := SqL.of (s2.ex _ _ (st2.g _ _ ha))
        have hy1 : SqL K H2 b ys := SqL.of (s2.ex _ _ (st2.g _ _ hb))
        have hk2 : k < xs.length := by rw [ra.length]; exact hk
        have hk3 : k < ys.length := by rw [rb.length, hlen]; exact hk
        refine ⟨⟨xs, ys, xs[k], ys[k], hx1, hy1, List.getElem?_eq_getElem hk2, List.getElem?_eq_getElem hk3⟩, ?_⟩
        rintro _ _ ⟨T, x, y, rfl, hT, rfl, hx, hy⟩
        obtain ⟨d, hd, rx0⟩ := ra.getV (hx xs hx1)
        obtain ⟨c, hc, ry0⟩ := rb.getV (hy ys hy1)
        refine ⟨T, [x, y], rfl, SqT.of upd_same, rfl, x, [y], rfl, y, [], rfl, rfl, ?_⟩
        have sT := s2.lay (o := .tup [x, y]) hT
        have stT : Stp G2 H2 (Un R2) G2 (upd H2 T (.tup [x, y])) (Un R2) := (stp_lay hT).weak fun a z => .inl z
        obtain ⟨R3', s3', u3'⟩ := sT.setv (i := m) (rx0.mono st2.g)
        obtain ⟨R3, s3, u3⟩ := s3'.setv (i := n) (ry0.mono st2.g)
        exact lp_body (H2 := H2) (G2 := G2) (R2 := R2) hh (st1.tr st1') (st2.tr (stT.weak fun x z => u3' _ (u3 _ z))) s3 (it k d c e hd hc ik)
/-- over the list in slot i, which stands still -/
theorem ws_forM {i j : Nat} {p : Addr} {ds : List PyData} (hi : es[i]? = some (some (ml p ds))) (I : Nat → Es → Prop) (i0 : I 0 es) (hp : ∀ k e, I k e → e[i]? = some (some (ml p ds)))
    (it : ∀ (k : Nat) x e, ds[k]? = some x → I k e → WS ts (e.set j (some (fz x))) { nx := I (k + 1), rt := E.rt, bk := E.nx, ct := I (k + 1) }) (ie : ∀ e, I ds.length e → E.nx e) :
    WS (tFor (iList K (tVar i)) (gName j) ts) es E := fun σ G H Rs D hs hh => by
  obtain ⟨v, hv, e0, rp, xs, hx, rx⟩ := hs.at' i _ hi
  subst e0
  refine ⟨_, hv, p, rfl, ⟨xs, SqL.of hx⟩, for_by ds.length (LpI G H Rs I) ⟨es, G, Rs, hs, .rf, i0⟩ ?_ ?_⟩
  · rintro σ2 H2 ⟨e, G2, R2, s2, st2, ik⟩
    obtain ⟨_, _, _, _, ys, hy, ry⟩ := s2.at' i _ (hp _ _ ik)
    exact ⟨⟨ys, SqL.of hy, by rw [ry.length]; exact Nat.le_refl _⟩, hh.nx σ2 G2 H2 R2 e s2 st2 (ie e ik)⟩
  · rintro k σ2 H2 hk ⟨e, G2, R2, s2, st2, ik⟩
    obtain ⟨_, _, _, _, ys, hy, ry⟩ := s2.at' i _ (hp _ _ ik)
    have hk2 : k < ys.length := by rw [ry.length]; exact hk
    refine ⟨⟨ys, ys[k], SqL.of hy, List.getElem?_eq_getElem hk2⟩, ?_⟩
    rintro x H' ⟨e1, y⟩
    subst e1
    obtain ⟨d, hd, rx0⟩ := ry.getV (y ys (SqL.of hy))
    obtain ⟨R3, s3, u3⟩ := s2.setv (i := j) rx0
    exact lp_body (H2 := H') (G2 := G2) (R2 := R2) hh .rf (st2.tr (Stp.rf.weak fun x z => u3 _ z)) s3 (it k d e hd ik)
/-- m, n = a pair -/
theorem ws_asg2 {m n : Nat} (h : WE te es fun d e => ∃ x y, d = .tuple [x, y] ∧ E.nx ((e.set m (some (fz x))).set n (some (fz y)))) : WS (tAsg te (gTup K 2 (gCons (gName m) (gCons (gName n) gNil)))) es E := fun σ G H Rs D hs hh =>
  h σ G H Rs _ hs fun v d G1 H1 R1 e1 s1 r1 st1 ⟨x, y, ed, q⟩ => by
    subst ed
    cases r1 with
    | @tup a vs _ ha ra =>
      cases ra with
      | @cons u _ _ _ ru ra =>
        cases ra with
        | @cons w _ _ _ rw' ra =>
          cases ra
          refine ⟨a, [u, w], rfl, SqT.of (s1.ex _ _ ha), rfl, u, [w], rfl, w, [], rfl, rfl, ?_⟩
          obtain ⟨R3', s3', u3'⟩ := s1.setv (i := m) ru
          obtain ⟨R3, s3, u3⟩ := s3'.setv (i := n) rw'
          exact hh.nx _ G1 H1 R3 _ s3 (st1.weak fun x z => u3' _ (u3 _ z)) q
/-- for i in range(a, b) -/
theorem ws_forR2 {j : Nat} {ta : TA} (h : WA ta es fun as e => ∃ a b : Int, as = [.d (.int a), .d (.int b)] ∧ -(2 ^ 62) ≤ a ∧ a < 2 ^ 62 ∧ -(2 ^ 62) ≤ b ∧ b < 2 ^ 62 ∧ ∃ I : Nat → Es → Prop, I 0 e ∧ (∀ (k : Nat) e, k < (b - a).toNat → I k e → WS ts (e.set j (some (fz (.int (a + k))))) { nx := I (k + 1), rt := E.rt, bk := E.nx, ct := I (k + 1) }) ∧ ∀ e, I (b - a).toNat e → E.nx e) :
    WS (tFor (iRng2 ta) (gName j) ts) es E := fun σ G H Rs D hs hh => by
  refine h σ G H Rs _ hs fun vs as G1 H1 R1 e1 s1 r st1 ⟨a, b, ea, l1, l2, l3, l4, I, i0, it, ie⟩ => ?_
  subst ea
  cases r with
  | cons r rr => cases rr with
    | cons r2 rr =>
      cases rr
      have r : Rp G1 _ (.int a) := r
      have r2 : Rp G1 _ (.int b) := r2
      cases r
      cases r2
      refine ⟨a, b, rfl, ⟨l1, l2, l3, l4⟩, for_by (b - a).toNat (LpI G1 H1 R1 I) ⟨e1, G1, R1, s1, .rf, i0⟩ ?_ ?_⟩
      · rintro σ2 H2 ⟨e, G2, R2, s2, st2, ik⟩
        exact ⟨Nat.le_refl _, hh.nx σ2 G2 H2 R2 e s2 (st1.tr st2) (ie e ik)⟩
      · rintro k σ2 H2 hk ⟨e, G2, R2, s2, st2, ik⟩
        refine ⟨hk, ?_⟩
        rintro x H' ⟨e1, y⟩
        subst e1 y
        obtain ⟨R3, s3, u3⟩ := s2.setv (i := j) (.int (a + (k : Int)))
        exact lp_body (H2 := H') (G2 := G2) (R2 := R2) hh st1 (st2.tr (Stp.rf.weak fun x z => u3 _ z)) s3 (it k e hk ik)
end
/-! ### for i in reversed(range(n)) -/
section
variable {es : Es} {te : TE} {ts : TS} {E : SE}
theorem ws_forRev {j : Nat} (h : WE te es fun d e => ∃ n : Nat, d = .int (n : Int) ∧ n < 2 ^ 62 ∧ ∃ I : Nat → Es → Prop, I n e ∧ (∀ (k : Nat) e, k < n → I (k + 1) e → WS ts (e.set j (some (fz (.int (k : Int))))) { nx := I k, rt := E.rt, bk := E.nx, ct := I k }) ∧ ∀ e, I 0 e → E.nx e) :
    WS (tFor (iRevR (tRg1 te)) (gName j) ts) es E := fun σ G H Rs D hs hh => by
  refine h σ G H Rs _ hs fun v d G1 H1 R1 e1 s1 r st1 ⟨n, ed, l1, I, i0, it, ie⟩ => ?_
  subst ed
  cases r
  have en : ((n : Int) - 0).toNat = n := by omega
  refine ⟨(n : Int), rfl, by decide, by decide, by omega, by omega, ?_⟩
  rw [en]
  refine for_by n (LpI G1 H1 R1 fun k => I (n - k)) ⟨e1, G1, R1, s1, .rf, i0⟩ ?_ ?_
  · rintro σ2 H2 ⟨e, G2, R2, s2, st2, ik⟩
    rw [Nat.sub_self] at ik
    exact ⟨Nat.le_refl _, hh.nx σ2 G2 H2 R2 e s2 (st1.tr st2) (ie e ik)⟩
  · rintro k σ2 H2 hk ⟨e, G2, R2, s2, st2, ik⟩
    refine ⟨hk, ?_⟩
    rintro x H' ⟨e1, y⟩
    subst e1 y
    have ex : (0 + (n : Int) - 1 + (k : Int) * (-1) : Int) = ((n - 1 - k : Nat) : Int) := by omega
    rw [ex]
    have e2 : n - k = (n - 1 - k) + 1 := by omega
    have e3 : n - (k + 1) = n - 1 - k := by omega
    obtain ⟨R3, s3, u3⟩ := s2.setv (i := j) (.int ((n - 1 - k : Nat) : Int))
    rw [e2] at ik
    have b := it (n - 1 - k) e (by omega) ik
    refine lp_body (I := fun k => I (n - k)) (k := k) (H2 := H') (G2 := G2) (R2 := R2) hh st1 (st2.tr (Stp.rf.weak fun x z => u3 _ z)) s3 ?_
    show WS ts _ { nx := I (n - (k + 1)), rt := E.rt, bk := E.nx, ct := I (n - (k + 1)) }
    rw [e3]
    exact b
end
/-! ### over a list or a tuple -/
section
variable {X : Cx} {tg : Expr}
def iSeq (K : PySem.W.Frag) (tl : TE) : TI := fun σ H R => tl σ H fun x H1 => ∃ a, x = .ref a ∧ (((∃ xs, SqL K H1 a xs) ∧ R (Itl K a) H1) ∨ ((∃ xs, SqT K H1 a xs) ∧ R (Itt K a) H1))
theorem pi_seq {l : Expr} {tl : TE} (hl : PE X l tl) : PI X tg l (iSeq X.K tl) := by
  refine ⟨fun pins s σ H R I h => ?_⟩
  refine thn (hl.run pins s σ H _ I h) fun v s1 ⟨x, H1, I1, r1, q1⟩ => ?_
  obtain ⟨a, e, q⟩ := q1
  subst e
  cases r1
  rcases q with ⟨⟨xs, hq⟩, q⟩ | ⟨⟨xs, hq⟩, q⟩
  · obtain ⟨its, rv, p, hz⟩ := I1.list hq
    refine wpAny_pyIter_list p.isList ?_
    refine ⟨s1.heap.objs.size, [s1.heap.objs.size], _, _, H1, rfl, I1.kept (t' := s1.toks) fun b o e => Heap.get?_push_of_some _ e, turn_list a _, ⟨_, Heap.get?_push_size _ rfl, rfl, rfl⟩, fun b hb => ?_, q⟩
    have e : b = s1.heap.objs.size := by simpa using hb
    subst e
    exact I1.fpOk (Nat.le_refl _) (I1.hok.fresh (Nat.le_refl _))
  · obtain ⟨its, rv, p, hz⟩ := I1.tuple hq
    refine wpAny_pyIter_tuple (show s1.heap.IsTuple a its.toArray from p) ?_
    refine ⟨s1.heap.objs.size, [s1.heap.objs.size], _, _, H1, rfl, I1.kept (t' := s1.toks) fun b o e => Heap.get?_push_of_some _ e, turn_tuple a _, ⟨_, Heap.get?_push_size _ rfl, rfl, rfl⟩, fun b hb => ?_, q⟩
    have e : b = s1.heap.objs.size := by simpa using hb
    subst e
    exact I1.fpOk (Nat.le_refl _) (I1.hok.fresh (Nat.le_refl _))
end
section
variable {es : Es} {σ : L2.St} {G H : Hp} {Rs : Nat → Addr → Prop} {ta tb te tl : TE} {tt : TT} {ts us : TS} {E : SE} {K : PySem.W.Frag}
theorem ws_forSq {j : Nat} (h : WE te es fun d e => ∃ ds, (d = .list ds ∨ d = .tuple ds) ∧ ∃ I : Nat → Es → Prop, I 0 e ∧ (∀ k x e, ds[k]? = some x → I k e → WS ts (e.set j (some (fz x))) { nx := I (k + 1), rt := E.rt, bk := E.nx, ct := I (k + 1) }) ∧ ∀ e, I ds.length e → E.nx e) :
    WS (tFor (iSeq K te) (gName j) ts) es E := fun σ G H Rs D hs hh => by
  refine h σ G H Rs _ hs fun v d G1 H1 R1 e1 s1 r st1 ⟨ds, ed, I, i0, it, ie⟩ => ?_
  rcases ed with ed | ed
  · subst ed
    cases r with
    | @lst a xs _ ha ra =>
      refine ⟨a, rfl, .inl ⟨⟨xs, SqL.of (s1.ex _ _ ha)⟩, for_by ds.length (LpI G1 H1 R1 I) ⟨e1, G1, R1, s1, .rf, i0⟩ ?_ ?_⟩⟩
      · rintro σ2 H2 ⟨e, G2, R2, s2, st2, ik⟩
        exact ⟨⟨xs, SqL.of (s2.ex _ _ (st2.g _ _ ha)), by rw [ra.length]; exact Nat.le_refl _⟩, hh.nx σ2 G2 H2 R2 e s2 (st1.tr st2) (ie e ik)⟩
      · rintro k σ2 H2 hk ⟨e, G2, R2, s2, st2, ik⟩
        have hx1 : SqL K H2 a xs := SqL.of (s2.ex _ _ (st2.g _ _ ha))
        have hk2 : k < xs.length := by rw [ra.length]; exact hk
        refine ⟨⟨xs, xs[k], hx1, List.getElem?_eq_getElem hk2⟩, ?_⟩
        rintro x H' ⟨e1, y⟩
        subst e1
        obtain ⟨d, hd, rx0⟩ := ra.getV (y xs hx1)
        obtain ⟨R3, s3, u3⟩ := s2.setv (i := j) (rx0.mono st2.g)
        exact lp_body (H2 := H') (G2 := G2) (R2 := R2) hh st1 (st2.tr (Stp.rf.weak fun x z => u3 _ z)) s3 (it k d e hd ik)
  · subst ed
    cases r with
    | @tup a xs _ ha ra =>
      refine ⟨a, rfl, .inr ⟨⟨xs, SqT.of (s1.ex _ _ ha)⟩, for_by ds.length (LpI G1 H1 R1 I) ⟨e1, G1, R1, s1, .rf, i0⟩ ?_ ?_⟩⟩
      · rintro σ2 H2 ⟨e, G2, R2, s2, st2, ik⟩
        exact ⟨⟨xs, SqT.of (s2.ex _ _ (st2.g _ _ ha)), by rw [ra.length]; exact Nat.le_refl _⟩, hh.nx σ2 G2 H2 R2 e s2 (st1.tr st2) (ie e ik)⟩
      · rintro k σ2 H2 hk ⟨e, G2, R2, s2, st2, ik⟩
        have hx1 : SqT K H2 a xs := SqT.of (s2.ex _ _ (st2.g _ _ ha))
        have hk2 : k < xs.length := by rw [ra.length]; exact hk
        refine ⟨⟨xs, xs[k], hx1, List.getElem?_eq_getElem hk2⟩, ?_⟩
        rintro x H' ⟨e1, y⟩
        subst e1
        obtain ⟨d, hd, rx0⟩ := ra.getV (y xs hx1)
        obtain ⟨R3, s3, u3⟩ := s2.setv (i := j) (rx0.mono st2.g)
        exact lp_body (H2 := H') (G2 := G2) (R2 := R2) hh st1 (st2.tr (Stp.rf.weak fun x z => u3 _ z)) s3 (it k d e hd ik)
theorem wm_lcSq {j : Nat} {vs : List Nat} {Q : Own → Es → Prop} (h : WE tl es fun d e => ∃ ds, (d = .list ds ∨ d = .tuple ds) ∧ LcI tt te j vs ds e Q) : WM (tLc (iSeq K tl) (gName j) tt te vs) es Q := fun σ G H Rs Kf hs kk =>
  h σ G H Rs _ hs fun v d G1 H1 R1 e1 s1 r1 st1 ⟨ds, ed, hj, f, l, I, i0, it, ie⟩ => by
    rcases ed with ed | ed
    · subst ed
      cases r1 with
      | @lst a xs _ ha ra =>
        refine ⟨a, rfl, .inl ⟨⟨xs, SqL.of (s1.ex _ _ ha)⟩, fun D hD => lc_mid hj s1 f hD I i0 l (fun k acc e G' H' Rs' hk ik s st => ?_) it (fun acc e i => ie acc e i D) fun v r G' H' Rs' Rr es' a b c d => kk v r G' H' Rs' Rr es' a b (st1.tr c) d⟩⟩
        have hx : SqL K H' a xs := SqL.of (s.ex _ _ (st.g _ _ ha))
        refine ⟨fun hk => ?_, fun e => ⟨xs, hx, by rw [ra.length]; omega⟩⟩
        have hk2 : k < xs.length := by rw [ra.length]; exact hk
        refine ⟨⟨xs, xs[k], hx, List.getElem?_eq_getElem hk2⟩, fun x H'' ⟨e, y⟩ => ⟨e, ?_⟩⟩
        obtain ⟨d, hd, rd⟩ := ra.getV (y xs hx)
        exact ⟨d, hd, rd.mono st.g⟩
    · subst ed
      cases r1 with
      | @tup a xs _ ha ra =>
        refine ⟨a, rfl, .inr ⟨⟨xs, SqT.of (s1.ex _ _ ha)⟩, fun D hD => lc_mid hj s1 f hD I i0 l (fun k acc e G' H' Rs' hk ik s st => ?_) it (fun acc e i => ie acc e i D) fun v r G' H' Rs' Rr es' a b c d => kk v r G' H' Rs' Rr es' a b (st1.tr c) d⟩⟩
        have hx : SqT K H' a xs := SqT.of (s.ex _ _ (st.g _ _ ha))
        refine ⟨fun hk => ?_, fun e => ⟨xs, hx, by rw [ra.length]; omega⟩⟩
        have hk2 : k < xs.length := by rw [ra.length]; exact hk
        refine ⟨⟨xs, xs[k], hx, List.getElem?_eq_getElem hk2⟩, fun x H'' ⟨e, y⟩ => ⟨e, ?_⟩⟩
        obtain ⟨d, hd, rd⟩ := ra.getV (y xs hx)
        exact ⟨d, hd, rd.mono st.g⟩
/-- texts, in a list or a tuple -/
def Sq (d : PyData) (ws : List Str) : Prop := d = .list (ws.map .str) ∨ d = .tuple (ws.map .str)
theorem lcI_boolsA {α : Type} {j : Nat} {vs : List Nat} {xs : List α} {Q : List Bool → Es → Prop} (dd : α → PyData) (b : α → Bool) (hj : j ∈ vs) (fr : freeB vs es = true) (l : xs.length ≤ 100000)
    (he : ∀ x ∈ xs, WE te (es.set j (some (fz (dd x)))) fun y e2 => y = .bool (b x) ∧ e2 = es.set j (some (fz (dd x)))) (hn : es.set j none = es) (q : Q (xs.map b) es) :
    LcI tYes te j vs (xs.map dd) es fun r e => ∃ d, Frz r d ∧ ∃ bs : List Bool, d = .list (bs.map .bool) ∧ Q bs e :=
  lcI_mapA dd (fun x => .bool (b x)) hj fr l hn he fun p => ⟨_, frz_ml, xs.map b, by rw [List.map_map]; rfl, q⟩
/-- a dict that a def is handed, which stays -/
structure DL (r : Own) (ents : List (Str × PyData)) : Prop where
  dk : Dk r ents
  kp : Kp1 r (some r) r
omit B in
theorem pin_md {p : Addr} {a b : List (Str × PyData)} : Pin (md p a) (md p b) := fun _ _ _ _ _ _ _ _ h h' => h.1.trans h'.1.symm
omit B in
theorem dl_md {p : Addr} {es : List (Str × PyData)} : DL (md p es) es := ⟨dk_md, kp_st pin_md⟩
omit B in
theorem dl_fz {es : List (Str × PyData)} : DL (fz (.dict (es.map kd))) es := ⟨dk_fz, kp_fz⟩
/-- True under each key -/
def kn (ks : List Str) : List (Str × PyData) := ks.map fun w => (w, .bool true)
omit B in
theorem dkeys_kn (ks : List Str) : dkeys (kn ks) = ks := by
  unfold dkeys kn
  rw [List.map_map]
  exact List.map_id ks
omit B in
theorem kn_put (ks : List Str) (w : Str) : dput (kn ks) w (.bool true) = kn (SX.ins ks w) := by
  unfold dput SX.ins
  rw [dkeys_kn]
  split
  · unfold kn
    rw [List.map_map]
    refine List.map_congr_left fun x _ => ?_
    show (if x = w then (w, PyData.bool true) else (x, .bool true)) = (x, .bool true)
    split
    · rename_i h
      rw [h]
    · rfl
  · simp [kn]
omit B in
theorem kn_length (ks : List Str) : (kn ks).length = ks.length := by simp [kn]
end
end DV

namespace DV
open PySem PySem.Spec PyProof.Rows L2
/-! ### data that can be compared -/
/-- of depth n at most -/
structure Sh (n : Nat) (d : PyData) : Prop where
  lay : d.canLay0 = true
  dep : d.depth ≤ n
def LayS (w : Str) : Prop := PyData.canLay0 (.str w) = true
theorem Sh.up {n m : Nat} {d : PyData} (s : Sh n d) (h : n ≤ m) : Sh m d := ⟨s.lay, Nat.le_trans s.dep h⟩
theorem Sh.shaped {n : Nat} {d : PyData} (s : Sh n d) (h : n ≤ 64 := by decide) : SeqAt.shaped d = true := by
  unfold SeqAt.shaped
  rw [Bool.and_eq_true]
  exact ⟨s.lay, decide_eq_true (Nat.le_trans s.dep h)⟩
theorem Sh.refl {n : Nat} {d : PyData} (s : Sh n d) : PyData.eqv d d = true := SeqAt.eqv_refl d s.lay
theorem lay_all : ∀ {xs : List PyData}, (∀ x ∈ xs, PyData.canLay0 x = true) → PyData.canLayAll0 xs = true
  | [], _ => rfl
  | x :: xs, h => by
    show (_ && _) = true
    rw [h x List.mem_cons_self, lay_all fun y hy => h y (List.mem_cons_of_mem _ hy)]
    rfl
theorem dep_all {n : Nat} : ∀ {xs : List PyData}, (∀ x ∈ xs, PyData.depth x ≤ n) → PyData.depthAll xs ≤ n
  | [], _ => by simp [PyData.depthAll]
  | x :: xs, h => by
    have h1 := h x List.mem_cons_self
    have h2 := dep_all (xs := xs) fun y hy => h y (List.mem_cons_of_mem _ hy)
    simp only [PyData.depthAll]
    omega
theorem sh_list {n : Nat} {xs : List PyData} (h : ∀ x ∈ xs, Sh n x) : Sh (n + 1) (.list xs) := ⟨lay_all fun x hx => (h x hx).lay, by
  have := dep_all fun x hx => (h x hx).dep
  simp only [PyData.depth]
  omega⟩
theorem sh_tuple {n : Nat} {xs : List PyData} (h : ∀ x ∈ xs, Sh n x) : Sh (n + 1) (.tuple xs) := ⟨lay_all fun x hx => (h x hx).lay, by
  have := dep_all fun x hx => (h x hx).dep
  simp only [PyData.depth]
  omega⟩
theorem sh_str {w : Str} (h : LayS w) : Sh 0 (.str w) := ⟨h, Nat.le_refl _⟩
theorem sh_int (i : Int) : Sh 0 (.int i) := ⟨rfl, Nat.le_refl _⟩
theorem sh_bool (i : Bool) : Sh 0 (.bool i) := ⟨rfl, Nat.le_refl _⟩
theorem sh_none : Sh 0 .none := ⟨rfl, Nat.le_refl _⟩
def tupD (ws : List Str) : PyData := .tuple (ws.map .str)
def setsD (ls : List (List Str)) : PyData := .list (ls.map tupD)
theorem sh_strs {ws : List Str} (h : ∀ w ∈ ws, LayS w) : Sh 1 (strsD ws) := sh_list fun x hx => by
  obtain ⟨w, hw, rfl⟩ := List.mem_map.mp hx
  exact sh_str (h w hw)
theorem sh_tup {ws : List Str} (h : ∀ w ∈ ws, LayS w) : Sh 1 (tupD ws) := sh_tuple fun x hx => by
  obtain ⟨w, hw, rfl⟩ := List.mem_map.mp hx
  exact sh_str (h w hw)
theorem sh_sets {ls : List (List Str)} (h : ∀ l ∈ ls, ∀ w ∈ l, LayS w) : Sh 2 (setsD ls) := sh_list fun x hx => by
  obtain ⟨w, hw, rfl⟩ := List.mem_map.mp hx
  exact sh_tup (h w hw)
theorem strs_shaped {ws : List Str} (h : ∀ w ∈ ws, LayS w) : SeqAt.shaped (.list (ws.map .str)) = true := (sh_strs h).shaped
theorem layS_of {w : Str} (h : WordOk w) : LayS w := word_lay h
/-! ### == is likeness where no truths are mixed in -/
mutual
def noB : PyData → Bool
  | .bool _ => false
  | .dict _ => false
  | .list xs => noBs xs
  | .tuple xs => noBs xs
  | _ => true
def noBs : List PyData → Bool
  | [] => true
  | x :: xs => noB x && noBs xs
end
mutual
theorem eqv_iff : ∀ d e : PyData, noB d = true → noB e = true → (PyData.eqv d e = true ↔ d = e)
  | .none, e, _, _ => by cases e <;> simp [PyData.eqv]
  | .bool _, _, h, _ => by simp [noB] at h
  | .dict _, _, h, _ => by simp [noB] at h
  | .int i, e, _, h => by cases e <;> simp [PyData.eqv, noB] at h ⊢
  | .str x, e, _, _ => by cases e <;> simp [PyData.eqv]
  | .list xs, e, h1, h2 => by
    cases e with
    | list ys => simp only [PyData.eqv, PyData.list.injEq]; exact eqvAll_iff xs ys (by simpa [noB] using h1) (by simpa [noB] using h2)
    | _ => simp [PyData.eqv]
  | .tuple xs, e, h1, h2 => by
    cases e with
    | tuple ys => simp only [PyData.eqv, PyData.tuple.injEq]; exact eqvAll_iff xs ys (by simpa [noB] using h1) (by simpa [noB] using h2)
    | _ => simp [PyData.eqv]
theorem eqvAll_iff : ∀ xs ys : List PyData, noBs xs = true → noBs ys = true → (PyData.eqvAll xs ys = true ↔ xs = ys)
  | [], [], _, _ => by simp [PyData.eqvAll]
  | [], _ :: _, _, _ => by simp [PyData.eqvAll]
  | _ :: _, [], _, _ => by simp [PyData.eqvAll]
  | x :: xs, y :: ys, h1, h2 => by
    simp only [noBs, Bool.and_eq_true] at h1 h2
    simp only [PyData.eqvAll, Bool.and_eq_true, List.cons.injEq, eqv_iff x y h1.1 h2.1, eqvAll_iff xs ys h1.2 h2.2]
end
theorem noBs_map {α : Type} (f : α → PyData) (h : ∀ x, noB (f x) = true) : ∀ xs : List α, noBs (xs.map f) = true
  | [] => rfl
  | x :: xs => by simp [noBs, h x, noBs_map f h xs]
theorem noB_strs (ws : List Str) : noB (strsD ws) = true := noBs_map _ (fun _ => rfl) ws
theorem noB_tup (ws : List Str) : noB (tupD ws) = true := noBs_map _ (fun _ => rfl) ws
theorem noB_sets (ls : List (List Str)) : noB (setsD ls) = true := noBs_map _ noB_tup ls
theorem map_inj {α : Type} {f : α → PyData} (h : ∀ x y, f x = f y → x = y) : ∀ {a b : List α}, a.map f = b.map f → a = b
  | [], [], _ => rfl
  | [], _ :: _, h => by cases h
  | _ :: _, [], h => by cases h
  | x :: a, y :: b, e => by
    injection e with e1 e2
    rw [h x y e1, map_inj h e2]
theorem strs_inj {a b : List Str} (h : a.map PyData.str = b.map PyData.str) : a = b := map_inj (fun _ _ e => by injection e) h
theorem strsD_inj {a b : List Str} (h : strsD a = strsD b) : a = b := strs_inj (by injection h)
theorem tupD_inj {a b : List Str} (h : tupD a = tupD b) : a = b := strs_inj (by injection h)
theorem setsD_inj {a b : List (List Str)} (h : setsD a = setsD b) : a = b := map_inj (fun _ _ => tupD_inj) (by injection h)
theorem eqv_strs (a b : List Str) : PyData.eqv (strsD a) (strsD b) = decide (a = b) := by
  rw [Bool.eq_iff_iff, eqv_iff _ _ (noB_strs a) (noB_strs b), decide_eq_true_eq]
  exact ⟨strsD_inj, fun e => by rw [e]⟩
theorem eqv_sets (a b : List (List Str)) : PyData.eqv (setsD a) (setsD b) = decide (a = b) := by
  rw [Bool.eq_iff_iff, eqv_iff _ _ (noB_sets a) (noB_sets b), decide_eq_true_eq]
  exact ⟨setsD_inj, fun e => by rw [e]⟩
/-! ### a truth in a list of truths -/
theorem inV_bl (x : Bool) : ∀ ys : List Bool, inV (.bl x) (ys.map V.bl) = decide (x ∈ ys)
  | [] => rfl
  | y :: ys => by
    have ih := inV_bl x ys
    unfold inV at ih ⊢
    rw [List.map_cons, List.any_cons, ih]
    have e : eqV (.bl y) (.bl x) = decide (x = y) := by cases x <;> cases y <;> rfl
    rw [e]
    by_cases q : x = y <;> simp [q]
theorem we_inB [B : Bs] {es : Es} {ta tb : TE} {K : PySem.W.Frag} {neg : Bool} {Q : PyData → Es → Prop} (h : WE ta es fun d e1 => ∃ x, d = .bool x ∧ WE tb e1 fun d2 e2 => ∃ ys : List Bool, (d2 = .list (ys.map .bool) ∨ d2 = .tuple (ys.map .bool)) ∧ Q (.bool (if neg then !decide (x ∈ ys) else decide (x ∈ ys))) e2) :
    WE (tOp (rIn K neg) ta tb) es Q := fun σ G H Rs K hs k =>
  h σ G H Rs _ hs fun v d G1 H1 R1 e1 s1 r1 st1 ⟨x, ed, q⟩ => by
    subst ed
    cases r1
    refine q σ G1 H1 R1 _ s1 fun v d G2 H2 R2 e2 s2 r2 st2 ⟨ys, ed, q⟩ => ?_
    have fl : (ys.map V.bl).all flatV = true := by
      rw [List.all_eq_true]
      intro v h
      obtain ⟨y, _, rfl⟩ := List.mem_map.mp h
      rfl
    rcases ed with ed | ed
    · subst ed
      cases r2 with
      | @lst b ws _ hb rb =>
        have e := rp_bools rb
        subst e
        refine ⟨b, _, rfl, .inl (SqL.of (s2.ex _ _ hb)), rfl, fl, ?_⟩
        rw [inV_bl]
        exact k _ _ G2 H2 R2 e2 s2 (.bl _) (st1.tr st2) q
    · subst ed
      cases r2 with
      | @tup b ws _ hb rb =>
        have e := rp_bools rb
        subst e
        refine ⟨b, _, rfl, .inr (SqT.of (s2.ex _ _ hb)), rfl, fl, ?_⟩
        rw [inV_bl]
        exact k _ _ G2 H2 R2 e2 s2 (.bl _) (st1.tr st2) q
/-! ### a list read as a thing: it is frozen -/
section
variable [B : Bs] {es : Es} {i : Nat} {p : Addr} {Q : PyData → Es → Prop}
theorem we_varF {ds : List PyData} (hi : es[i]? = some (some (ml p ds))) (q : Q (.list ds) (es.set i (some (fz (.list ds))))) : WE (tVar i) es Q :=
  we_frz hi frz_ml (we_var (by rw [List.getElem?_set_self (List.getElem?_eq_some_iff.mp hi).1]) q)
theorem we_varFd {ds : List (Str × PyData)} (hi : es[i]? = some (some (md p ds))) (q : Q (.dict (ds.map kd)) (es.set i (some (fz (.dict (ds.map kd)))))) : WE (tVar i) es Q :=
  we_frz hi frz_md (we_var (by rw [List.getElem?_set_self (List.getElem?_eq_some_iff.mp hi).1]) q)
end
end DV

namespace DV
open PySem PySem.Spec PyProof.Rows
open L2 hiding WE
/-! ### a call that is handed data and lists of ours to read, and answers a scalar: all of ours stays -/
section
variable [B : Bs] {es : Es} {σ : L2.St} {G H : Hp} {Rs : Nat → Addr → Prop}
/-- what the callee sees: our own lists as data -/
def see (es : Es) : List Arg → List Own → Prop
  | [], [] => True
  | .d d :: r, o :: os => o = fz d ∧ see es r os
  | .s i :: r, o :: os => (∃ p ds, es[i]? = some (some (ml p ds)) ∧ o = fz (.list ds)) ∧ see es r os
  | _, _ => False
theorem see_len {es : Es} : ∀ {as : List Arg} {os : List Own}, see es as os → os.length = as.length
  | [], [], _ => rfl
  | .d d :: r, o :: os, h => congrArg (· + 1) (see_len h.2)
  | .s i :: r, o :: os, h => congrArg (· + 1) (see_len h.2)
  | [], _ :: _, h => h.elim
  | .d _ :: _, [], h => h.elim
  | .s _ :: _, [], h => h.elim
theorem see_at (hs : Sat G H σ es Rs) : ∀ {as : List Arg} {os : List Own} {vs : List V} {G1 : Hp}, AVs G1 σ as vs → Ex G G1 → Ex G1 H → see es as os → ∃ G2, Ex G1 G2 ∧ Ex G2 H ∧ ∀ (k : Nat) (r : Own), os[k]? = some r → ∃ v, vs[k]? = some v ∧ ∀ R, r.P G2 H R v
  | [], [], _, G1, .nil, _, e, _ => ⟨G1, ex_rf _, e, fun k r h => by simp at h⟩
  | [], _ :: _, _, _, .nil, _, _, h => h.elim
  | .d d :: as, [], _, _, .cons _ _, _, _, h => h.elim
  | .s i :: as, [], _, _, .cons _ _, _, _, h => h.elim
  | .d d :: as, o :: os, _, G1, .cons (v := v) hv r, e0, e, h => by
    obtain ⟨G2, a, b, c⟩ := see_at hs (G1 := G1) r e0 e h.2
    refine ⟨G2, a, b, fun k q hq => ?_⟩
    cases k with
    | zero =>
      simp at hq
      subst hq
      rw [h.1]
      exact ⟨v, rfl, fun _ => Rp.mono a hv⟩
    | succ k => simpa using c k q (by simpa using hq)
  | .s i :: as, o :: os, _, G1, .cons (v := v) hv r, e0, e, h => by
    obtain ⟨⟨p, ds, hi, ho⟩, h2⟩ := h
    obtain ⟨v', hv', ev, rp, ws, hw, rw'⟩ := hs.at' i _ hi
    have hv : σ[i]? = some (some v) := hv
    rw [hv'] at hv
    cases hv
    subst ev
    have x0 : Ex G1 (upd G1 p (.lst ws)) := fun a u q => by
      by_cases z : a = p
      · subst z
        rw [upd_same]
        have := e _ _ q
        rw [hw] at this
        exact this
      · rw [upd_ne z]
        exact q
    have av : ∀ {as : List Arg} {vs : List V}, AVs G1 σ as vs → AVs (upd G1 p (.lst ws)) σ as vs := fun {as vs} q => by
      induction q with
      | nil => exact .nil
      | cons a b ih => exact .cons (a.mono x0) ih
    obtain ⟨G2, a, b, c⟩ := see_at hs (G1 := upd G1 p (.lst ws)) (av r) (ex_tr e0 x0) (ex_put e hw) h2
    refine ⟨G2, ex_tr x0 a, b, fun k q hq => ?_⟩
    cases k with
    | zero =>
      simp at hq
      subst hq
      rw [ho]
      exact ⟨.ref p, rfl, fun _ => .lst (a _ _ upd_same) (rw'.mono (ex_tr e0 (ex_tr x0 a)))⟩
    | succ k => simpa using c k q (by simpa using hq)
theorem sat_see {as : List Arg} {os : List Own} {vs : List V} (hs : Sat G H σ es Rs) (ha : AVs G σ as vs) (hl : see es as os) : ∃ G2, Sat0 G2 H (vs.map some) (os.map some) (fun _ => noR) := by
  obtain ⟨G2, a, b, c⟩ := see_at hs ha (ex_rf _) hs.ex hl
  refine ⟨G2, b, by rw [List.length_map, List.length_map, ha.length, see_len hl], fun k r h => ?_, fun _ _ _ z => z.elim, fun _ _ z => z.elim, fun _ _ z => z.elim⟩
  have h0 : os[k]? = some r := by simpa [List.getElem?_map] using h
  obtain ⟨v, hv, p⟩ := c k r h0
  exact ⟨v, by rw [List.getElem?_map, hv]; rfl, p _⟩
/-- behind it: only new things have come -/
theorem sat_after {G2 G' H' : Hp} {U' : Addr → Prop} {Rc : Nat → Addr → Prop} (hs : Sat G H σ es Rs) (hn : ∀ a, ¬ Un Rc a) (st : Stp G2 H (Un Rc) G' H' U') : Sat G H' σ es Rs ∧ Stp G H (Un Rs) G H' (Un Rs) := by
  have kp : ∀ a o, H a = some o → H' a = some o := fun a o h => st.h a o h (hn a)
  have s : Stp G H (Un Rs) G H' (Un Rs) := ⟨ex_rf _, fun a o h _ => kp a o h, st.d, fun _ z => .inl z, fun _ z => .inl z⟩
  exact ⟨⟨ex_tr hs.ex kp, hs.len, fun i r h => let ⟨v, a, b⟩ := hs.at' i r h; ⟨v, a, r.fr b (ex_rf _) fun a o _ z => kp a o z⟩, hs.dj, hs.ng, fun i a h => (hs.al2 i a h).ex (kp a), hs.st.tr s⟩, s⟩
theorem rp_scal {G G' : Hp} {v : V} {d : PyData} {x : V} (r : Rp G v d) (h : scalD d = some x) : Rp G' v d := by
  cases r with
  | non => exact .non
  | bl b => exact .bl b
  | int i => exact .int i
  | str x => exact .str x
  | _ => cases h
theorem we_callB {sp : FSp} {EE : XK} {ta : TA} {Q : PyData → Es → Prop} (h : WA ta es fun as e => ∃ os, see e as os ∧ sp os fun r _ => ∃ d x, r = fz d ∧ scalD d = some x ∧ Q d e) : WE (tCall (spF sp) [] EE ta) es Q := fun σ G H Rs K hs k =>
  h σ G H Rs _ hs fun vs as G1 H1 R1 e1 s1 r1 st1 ⟨os, hl, q⟩ => by
    obtain ⟨G2, s0⟩ := sat_see s1 r1 hl
    refine ⟨G2, os, fun _ => noR, by rw [List.append_nil]; exact s0, _, q, fun r os' hl' ⟨d, x, er, hx, q⟩ v G' H' Rc Rr s' t st => ?_⟩
    subst er
    obtain ⟨sa, sb⟩ := sat_after s1 (fun a ⟨_, z⟩ => z) st
    exact k v d G1 H' R1 _ sa (rp_scal t.p hx) (st1.tr sb) q
theorem we_callBX {sp : FXp} {W : WX} {ok : ExD → Es → Prop} {ta : TA} {Q : PyData → Es → Prop} (h : WA ta es fun as e => ∃ os, see e as os ∧ sp os (fun r _ => ∃ d x, r = fz d ∧ scalD d = some x ∧ Q d e) fun _ _ => False) : WE (tCallS (spX sp) (L2.WE W) ta) es Q := fun σ G H Rs K hs k =>
  h σ G H Rs _ hs fun vs as G1 H1 R1 e1 s1 r1 st1 ⟨os, hl, q⟩ => by
    obtain ⟨G2, s0⟩ := sat_see s1 r1 hl
    refine ⟨G2, os, fun _ => noR, s0, _, _, q, fun r os' hl' ⟨d, x, er, hx, q⟩ v G' H' Rc Rr s' t st => ?_, fun x os' hl' z => z.elim⟩
    subst er
    obtain ⟨sa, sb⟩ := sat_after s1 (fun a ⟨_, z⟩ => z) st
    exact k v d G1 H' R1 _ sa (rp_scal t.p hx) (st1.tr sb) q
end
/-! ### reading our own list without freezing it -/
section
variable [B : Bs] {es : Es} {K : PySem.W.Frag}
theorem wm_slM {i : Nat} {tl th : TO} {Q : Own → Es → Prop} (hi : ∃ r, es[i]? = some (some r)) (h : WO tl es fun lo e2 => WO th e2 fun hi e3 => ∃ p ds, e3[i]? = some (some (ml p ds)) ∧ ∀ b, Q (ml b (cutD ds lo hi)) e3) : WM (tSl (rSlL K) (tVar i) tl th) es Q := fun σ G H Rs K hs k => by
  obtain ⟨r, hi⟩ := hi
  obtain ⟨v, hv, _⟩ := hs.at' i r hi
  refine ⟨v, hv, h σ G H Rs _ hs fun lo G2 H2 R2 e2 s2 st2 q => q σ G2 H2 R2 _ s2 fun hi' G3 H3 R3 e3 s3 st3 ⟨p, ds, h3, q⟩ => ?_⟩
  obtain ⟨v', hv', e, rp, vs, hx, rx⟩ := s3.at' i _ h3
  rw [hv] at hv'
  cases hv'
  subst e
  refine ⟨p, vs, rfl, SqL.of hx, fun b hb => ?_⟩
  exact k _ _ G3 _ R3 (isP b) e3 (s3.lay hb) (tmp_ml s3 hb (cut_rp rx)) ((st2.tr st3).tr (stp_lay hb)) (q b)
/-- a slot handed on: the name it had is forgotten -/
theorem ws_move {i j : Nat} {r : Own} {E : SE} (hi : es[i]? = some (some r)) (q : E.nx ((es.set i none).set j (some r))) : WS (tAsg (tVar i) (gName j)) es E := ws_asg (wm_move hi q)
end
/-- our own list is not None -/
theorem we_notNM [B : Bs] {es : Es} {i : Nat} {p : Addr} {ds : List PyData} {Q : PyData → Es → Prop} (hi : es[i]? = some (some (ml p ds))) (q : Q (.bool true) es) : WE (tOp (fun x y H Q => y = .non ∧ Q (.bl (!decide (x = .non))) H) (tVar i) (tC .non)) es Q := fun σ G H Rs K hs k => by
  obtain ⟨v, hv, e, _⟩ := hs.at' i _ hi
  subst e
  exact ⟨_, hv, rfl, k _ _ G H Rs es hs (.bl true) .rf q⟩
theorem we_isNM [B : Bs] {es : Es} {i : Nat} {p : Addr} {ds : List PyData} {Q : PyData → Es → Prop} (hi : es[i]? = some (some (ml p ds))) (q : Q (.bool false) es) : WE (tOp (fun x y H Q => y = .non ∧ Q (.bl (decide (x = .non))) H) (tVar i) (tC .non)) es Q := fun σ G H Rs K hs k => by
  obtain ⟨v, hv, e, _⟩ := hs.at' i _ hi
  subst e
  exact ⟨_, hv, rfl, k _ _ G H Rs es hs (.bl false) .rf q⟩
end DV

namespace DV
open PySem PySem.Spec PyProof.Rows L2
/-! ### drawn words -/
def let1 (i : Nat) : Str := ⟨#[97 + i]⟩
def wordL (l : List Nat) : Str := ⟨(l.map (97 + ·)).toArray⟩
theorem letters_at : ∀ i : Nat, i < 26 → lettersS.cps.toList[i]? = some (97 + i) := by decide +kernel
theorem letters_len : lettersS.length = 26 := by decide +kernel
theorem letters_atI {i : Int} (h0 : 0 ≤ i) (h : i < 26) : atI lettersS.cps.toList i = some (97 + i.toNat) := by
  have e := letters_at i.toNat (by omega)
  have l : lettersS.cps.toList.length = 26 := by decide +kernel
  unfold atI
  rw [l]
  have : ixN 26 i = some i.toNat := by
    unfold ixN
    rw [if_pos h0, if_pos (show i < ((26 : Nat) : Int) by omega)]
  rw [this]
  exact e
theorem letters_mem {i : Nat} (h : i < 26) : 97 + i ∈ lettersS.cps.toList := List.mem_of_getElem? (letters_at i h)
theorem wordL_cps (l : List Nat) : (wordL l).cps.toList = l.map (97 + ·) := by simp [wordL]
theorem wordL_len (l : List Nat) : (wordL l).length = l.length := by simp [wordL, Str.length]
theorem wordL_inj {l k : List Nat} (h : wordL l = wordL k) : l = k := by
  have e := congrArg (fun s => s.cps.toList) h
  simp only [wordL_cps] at e
  exact (List.map_inj_right fun x y h => by omega).mp e
theorem wordL_ok {l : List Nat} (h1 : 1 ≤ l.length) (h6 : l.length ≤ 6) (h : ∀ x ∈ l, x < 26) : WordOk (wordL l) := by
  refine ⟨by rw [wordL_len]; exact h1, by rw [wordL_len]; exact h6, fun c hc => ?_⟩
  rw [wordL_cps] at hc
  obtain ⟨x, hx, rfl⟩ := List.mem_map.mp hc
  exact letters_mem (h x hx)
theorem let1_wordL (i : Nat) : let1 i = wordL [i] := rfl
theorem wordL_app (l k : List Nat) : wordL l ++ wordL k = wordL (l ++ k) := by
  apply str_ext
  rw [cps_app, wordL_cps, wordL_cps, wordL_cps, List.map_append]
theorem empty_len : ("" : Str).length = 0 := by decide +kernel
theorem join_let : ∀ l : List Nat, Txt.join "" (l.map let1) = wordL l := fun l => by
  rw [txt_join]
  induction l with
  | nil => exact str_ext (by simp [Str.join, Str.empty, wordL])
  | cons x r ih =>
    cases r with
    | nil => rfl
    | cons y r =>
      apply str_ext
      rw [List.map_cons, List.map_cons, join_cons2, ← List.map_cons, ih, wordL_cps, wordL_cps]
      have : ("" : Str).cps.toList = [] := by decide +kernel
      rw [this]
      rfl
theorem join_let_sum (l : List Nat) : ((l.map let1).map (·.length)).sum = l.length := by
  induction l with
  | nil => rfl
  | cons x r ih =>
    rw [List.map_cons, List.map_cons, List.sum_cons, ih, List.length_cons]
    have : (let1 x).length = 1 := rfl
    omega
/-- sort 0: one letter of a place -/
def wA (bs : List Nat) (pl sz f st k : Nat) : Str := wordL (bs.take pl ++ [(f + st * k) % 26] ++ (bs.take sz).drop (pl + 1))
/-- sort 1: beginnings of one another -/
def wB (bs : List Nat) (f k : Nat) : Str := wordL ((f + k / 6) % 26 :: (bs.take (1 + k % 6)).drop 1)
/-- sort 2: two letters -/
def bitsL (f : Nat) : Nat → Nat → List Nat
  | 0, _ => []
  | t + 1, n => if n ≤ 1 then [] else bitsL f t (n / 2) ++ [(f + n % 2) % 26]
def wC (f k : Nat) : Str := wordL (bitsL f 5 (k + 2))
def Words (ws : List Str) : Prop := ws.length = 14 ∧ ws.Nodup ∧ ∀ w ∈ ws, WordOk w
theorem nodup_map14 {f : Nat → Str} (h : ∀ i j, i < 14 → j < 14 → f i = f j → i = j) : ((List.range 14).map f).Nodup := by
  unfold List.Nodup
  rw [List.pairwise_map]
  refine List.Pairwise.imp_of_mem ?_ (List.nodup_range (n := 14))
  intro a b ha hb hab e
  exact hab (h a b (List.mem_range.mp ha) (List.mem_range.mp hb) e)
theorem words_A {bs : List Nat} {pl sz f st : Nat} (lb : bs.length = 6) (hb : ∀ x ∈ bs, x < 26) (hp : pl < 6) (h1 : pl + 1 ≤ sz) (h2 : sz ≤ 6) (hs : st = 1 ∨ st = 3 ∨ st = 5 ∨ st = 7) : Words ((List.range 14).map (wA bs pl sz f st)) := by
  refine ⟨by simp, nodup_map14 fun i j hi hj e => ?_, fun w hw => ?_⟩
  · have e := wordL_inj e
    rw [List.append_assoc, List.append_assoc] at e
    have e := List.append_cancel_left e
    have e := List.head_eq_of_cons_eq e
    rcases hs with h | h | h | h <;> subst h <;> omega
  · obtain ⟨k, hk, rfl⟩ := List.mem_map.mp hw
    refine wordL_ok (by simp; omega) (by simp [lb]; omega) fun x hx => ?_
    rcases List.mem_append.mp hx with hx | hx
    · rcases List.mem_append.mp hx with hx | hx
      · exact hb x (List.mem_of_mem_take hx)
      · rw [List.mem_singleton.mp hx]
        exact Nat.mod_lt _ (by decide)
    · exact hb x (List.mem_of_mem_take (List.mem_of_mem_drop hx))
theorem words_B {bs : List Nat} {f : Nat} (lb : bs.length = 6) (hb : ∀ x ∈ bs, x < 26) : Words ((List.range 14).map (wB bs f)) := by
  refine ⟨by simp, nodup_map14 fun i j hi hj e => ?_, fun w hw => ?_⟩
  · have e := wordL_inj e
    have e1 := List.head_eq_of_cons_eq e
    have e2 := congrArg List.length e
    simp [lb] at e2
    omega
  · obtain ⟨k, hk, rfl⟩ := List.mem_map.mp hw
    refine wordL_ok (by simp) (by simp [lb]; omega) fun x hx => ?_
    rcases List.mem_cons.mp hx with hx | hx
    · rw [hx]
      exact Nat.mod_lt _ (by decide)
    · exact hb x (List.mem_of_mem_take (List.mem_of_mem_drop hx))
theorem bits_nd : ∀ f : Nat, f < 26 → ((List.range 14).map fun k => bitsL f 5 (k + 2)).Nodup := by decide +kernel
theorem bits_ok : ∀ f : Nat, f < 26 → ∀ k : Nat, k < 14 → 1 ≤ (bitsL f 5 (k + 2)).length ∧ (bitsL f 5 (k + 2)).length ≤ 6 ∧ ∀ x ∈ bitsL f 5 (k + 2), x < 26 := by decide +kernel
theorem words_C {f : Nat} (hf : f < 26) : Words ((List.range 14).map (wC f)) := by
  refine ⟨by simp, ?_, fun w hw => ?_⟩
  · have e : (List.range 14).map (wC f) = ((List.range 14).map fun k => bitsL f 5 (k + 2)).map wordL := by
      rw [List.map_map]
      rfl
    rw [e]
    unfold List.Nodup
    rw [List.pairwise_map]
    exact (bits_nd f hf).imp fun h e => h (wordL_inj e)
  · obtain ⟨k, hk, rfl⟩ := List.mem_map.mp hw
    obtain ⟨a, b, c⟩ := bits_ok f hf k (List.mem_range.mp hk)
    exact wordL_ok a b c
theorem lets_of : ∀ {acc : List PyData}, (∀ y ∈ acc, ∃ i, i < 26 ∧ y = .str (let1 i)) → ∃ bs : List Nat, acc = (bs.map let1).map .str ∧ ∀ x ∈ bs, x < 26
  | [], _ => ⟨[], rfl, fun w hw => by simp at hw⟩
  | y :: acc, h => by
    obtain ⟨w, pw, rfl⟩ := h y List.mem_cons_self
    obtain ⟨ws, rfl, pws⟩ := lets_of fun z hz => h z (List.mem_cons_of_mem _ hz)
    exact ⟨w :: ws, rfl, fun u hu => (List.mem_cons.mp hu).elim (fun e => by rw [e]; exact pw) (pws u)⟩
theorem upto_map {n : Nat} : upto n = (List.range n).map fun (k : Nat) => PyData.int (k : Int) := rfl
theorem nat_of {r : Int} (h : 0 ≤ r) : ∃ n : Nat, r = (n : Int) := ⟨r.toNat, by omega⟩
theorem letter_goal {z : Int} (n : Nat) (h : z = (n : Int)) {X : Nat → Prop} (x : X (97 + n % 26)) : ∃ i c, PyData.int (z.fmod 26) = .int i ∧ lettersS.length ≤ sizeLine ∧ atI lettersS.cps.toList i = some c ∧ X c := by
  subst h
  have e : Int.fmod (n : Int) 26 = ((n % 26 : Nat) : Int) := by
    rw [Int.fmod_eq_emod_of_nonneg _ (by decide)]
    omega
  refine ⟨_, _, rfl, by rw [letters_len]; decide, by rw [e]; exact letters_atI (by omega) (by omega), ?_⟩
  exact x
theorem strs_take (l : List Nat) (k : Nat) : ((l.map let1).map PyData.str).take k = ((l.take k).map let1).map PyData.str := by rw [List.map_take, List.map_take]
theorem strs_drop (l : List Nat) (k : Nat) : ((l.map let1).map PyData.str).drop k = ((l.drop k).map let1).map PyData.str := by rw [List.map_drop, List.map_drop]
/-- ''.join of single letters -/
theorem join_goal {ds : List PyData} (l : List Nat) (h : ds = (l.map let1).map .str) (hl : l.length ≤ 1000) {X : Str → Prop} (x : X (wordL l)) : ∃ ys : List Str, PyData.list ds = .list (ys.map .str) ∧ (ys.map (·.length)).sum + ys.length * ("" : Str).length ≤ 16777216 ∧ X (Txt.join "" ys) := by
  refine ⟨l.map let1, by rw [h], ?_, by rw [join_let]; exact x⟩
  rw [join_let_sum, empty_len]
  omega
theorem bits_end {f t n : Nat} (h : n ≤ 1) : bitsL f t n = [] := by
  cases t with
  | zero => rfl
  | succ t => exact if_pos h
theorem bits_step {f t n : Nat} (h : 1 < n) : bitsL f (t + 1) n = bitsL f t (n / 2) ++ [(f + n % 2) % 26] := if_neg (by omega)
end DV

/-! What holds: plain Lean, no program in sight. -/
namespace MB
open DV (Row)
open PySem (Str)
/-- what holds on the texts ts by the rows rs -/
inductive Hd (rs : List Row) (ts : List Str) : Str → Prop
  | tk {w : Str} : w ∈ ts → Hd rs ts w
  | ru {w : Str} {b : List Str} : Row.r w b ∈ rs → (∀ x ∈ b, Hd rs ts x) → Hd rs ts w
/-- they clash -/
def Cl (rs : List Row) (ts : List Str) : Prop := ∃ b, Row.c b ∈ rs ∧ ∀ x ∈ b, Hd rs ts x
theorem Hd.mono {rs rs' : List Row} {ts ts' : List Str} (hr : ∀ r ∈ rs, r ∈ rs') (ht : ∀ w ∈ ts, w ∈ ts') {w : Str} (h : Hd rs ts w) : Hd rs' ts' w := by
  induction h with
  | tk h => exact .tk (ht _ h)
  | ru h _ ih => exact .ru (hr _ h) ih
theorem Cl.mono {rs rs' : List Row} {ts ts' : List Str} (hr : ∀ r ∈ rs, r ∈ rs') (ht : ∀ w ∈ ts, w ∈ ts') (h : Cl rs ts) : Cl rs' ts' := by
  obtain ⟨b, hb, h⟩ := h
  exact ⟨b, hr _ hb, fun x hx => (h x hx).mono hr ht⟩
/-- ks is just what holds -/
structure Known (rs : List Row) (ts ks : List Str) : Prop where
  nd : ks.Nodup
  iff : ∀ w, w ∈ ks ↔ Hd rs ts w
/-- on the way -/
structure KI (rs : List Row) (ts ks : List Str) : Prop where
  nd : ks.Nodup
  tk : ∀ w ∈ ts, w ∈ ks
  snd : ∀ w ∈ ks, Hd rs ts w
theorem KI.done {rs : List Row} {ts ks : List Str} (h : KI rs ts ks) (c : ∀ w b, Row.r w b ∈ rs → (∀ x ∈ b, x ∈ ks) → w ∈ ks) : Known rs ts ks :=
  ⟨h.nd, fun w => ⟨h.snd w, fun q => by
    induction q with
    | tk q => exact h.tk _ q
    | ru q _ ih => exact c _ _ q ih⟩⟩
theorem KI.put {rs : List Row} {ts ks : List Str} (h : KI rs ts ks) {w : Str} {b : List Str} (hr : Row.r w b ∈ rs) (hb : ∀ x ∈ b, x ∈ ks) : KI rs ts (SX.ins ks w) :=
  ⟨SX.nd_ins h.nd, fun x hx => SX.mem_ins.mpr (.inl (h.tk x hx)), fun x hx => (SX.mem_ins.mp hx).elim (h.snd x) fun e => e ▸ .ru hr fun y hy => h.snd y (hb y hy)⟩
theorem KI.start (rs : List Row) (ts : List Str) : KI rs ts (SX.insAll [] ts) :=
  ⟨SX.nd_insAll ts [] List.nodup_nil, fun w hw => (SX.mem_insAll ts []).mpr (.inr hw), fun w hw => ((SX.mem_insAll ts []).mp hw).elim (fun z => by simp at z) .tk⟩
theorem insAll_take {ts : List Str} {k : Nat} {x : Str} (h : ts[k]? = some x) : SX.insAll [] (ts.take (k + 1)) = SX.ins (SX.insAll [] (ts.take k)) x := by
  rw [List.take_add_one, h]
  unfold SX.insAll
  rw [List.foldl_append]
  rfl
/-- the rules whose word does not hold yet -/
def lack (ks : List Str) : Row → Bool
  | .r w _ => decide (w ∉ ks)
  | _ => false
def cnt (rs : List Row) (ks : List Str) : Nat := (rs.filter (lack ks)).length
theorem cnt_le (rs : List Row) (ks : List Str) : cnt rs ks ≤ rs.length := List.length_filter_le _ _
theorem cnt_ins_le (rs : List Row) (ks : List Str) (w : Str) : cnt rs (SX.ins ks w) ≤ cnt rs ks := by
  unfold cnt
  rw [← List.countP_eq_length_filter, ← List.countP_eq_length_filter]
  refine List.countP_mono_left fun r _ h => ?_
  cases r with
  | r x b =>
    simp only [lack, decide_eq_true_eq] at h ⊢
    exact fun z => h (SX.mem_ins.mpr (.inl z))
  | g x => exact h
  | c x => exact h
theorem cnt_ins_lt {rs : List Row} {ks : List Str} {w : Str} {b : List Str} (hr : Row.r w b ∈ rs) (hn : w ∉ ks) : cnt rs (SX.ins ks w) < cnt rs ks := by
  induction rs with
  | nil => simp at hr
  | cons r rs ih =>
    have le := cnt_ins_le rs ks w
    unfold cnt at ih le ⊢
    rw [List.filter_cons, List.filter_cons]
    rcases List.mem_cons.mp hr with e | e
    · subst e
      have h1 : lack ks (.r w b) = true := by simp [lack, hn]
      have h2 : lack (SX.ins ks w) (.r w b) = false := by simp [lack, SX.mem_ins]
      rw [h1, h2]
      simp only [if_true, Bool.false_eq_true, if_false, List.length_cons]
      omega
    · have := ih e
      have h3 : lack (SX.ins ks w) r = true → lack ks r = true := fun h => by
        cases r with
        | r x b =>
          simp only [lack, decide_eq_true_eq] at h ⊢
          exact fun z => h (SX.mem_ins.mpr (.inl z))
        | g x => exact h
        | c x => exact h
      by_cases c1 : lack (SX.ins ks w) r = true
      · rw [if_pos c1, if_pos (h3 c1)]
        simp only [List.length_cons]
        omega
      · rw [if_neg c1]
        split
        · simp only [List.length_cons]
          omega
        · exact this
/-- numbers of rules, one behind the other -/
def step (rs : List Row) (ks : List Str) (n : Int) : Option (List Str) := if n < 0 then none else match rs[n.toNat]? with
  | some (.r w b) => if b.all (fun x => decide (x ∈ ks)) then some (SX.ins ks w) else none
  | _ => none
def steps (rs : List Row) : List Str → List Int → Option (List Str)
  | ks, [] => some ks
  | ks, n :: ns => match step rs ks n with
    | some ks' => steps rs ks' ns
    | none => none
theorem steps_append (rs : List Row) : ∀ (ms : List Int) (ks : List Str) (ns : List Int), steps rs ks (ms ++ ns) = (steps rs ks ms).bind fun k => steps rs k ns
  | [], ks, ns => rfl
  | m :: ms, ks, ns => by
    show (match step rs ks m with | some k => steps rs k (ms ++ ns) | none => none) = (match step rs ks m with | some k => steps rs k ms | none => none).bind _
    cases step rs ks m with
    | none => rfl
    | some k => exact steps_append rs ms k ns
theorem step_of {rs : List Row} {ks : List Str} {k : Nat} {w : Str} {b : List Str} (h : rs[k]? = some (.r w b)) (hb : ∀ x ∈ b, x ∈ ks) : step rs ks (k : Int) = some (SX.ins ks w) := by
  unfold step
  rw [if_neg (by omega), Int.toNat_natCast, h]
  simp only
  rw [if_pos (by simpa using hb)]
def isRule : Row → Bool
  | .r _ _ => true
  | _ => false
theorem cnt_rules (rs : List Row) (ks : List Str) : cnt rs ks ≤ (rs.filter isRule).length := by
  unfold cnt
  rw [← List.countP_eq_length_filter, ← List.countP_eq_length_filter]
  refine List.countP_mono_left fun r _ h => ?_
  cases r with
  | r w b => rfl
  | g w => cases h
  | c b => cases h
theorem cnt_zero {rs : List Row} {ks : List Str} (h : cnt rs ks = 0) {w : Str} {b : List Str} (hr : Row.r w b ∈ rs) : w ∈ ks := by
  unfold cnt at h
  have h := List.length_eq_zero_iff.mp h
  by_cases c : w ∈ ks
  · exact c
  · have : Row.r w b ∈ rs.filter (lack ks) := List.mem_filter.mpr ⟨hr, by simp [lack, c]⟩
    rw [h] at this
    simp at this
/-- a rule that may fire -/
def may (ks : List Str) : Row → Bool
  | .r w b => decide (w ∉ ks) && b.all fun x => decide (x ∈ ks)
  | _ => false
def headOf : Row → Str
  | .g w => w
  | .r w _ => w
  | .c _ => Str.empty
theorem KI.ins {rs : List Row} {ts ks : List Str} (h : KI rs ts ks) {w : Str} (hw : Hd rs ts w) : KI rs ts (SX.ins ks w) :=
  ⟨SX.nd_ins h.nd, fun x hx => SX.mem_ins.mpr (.inl (h.tk x hx)), fun x hx => (SX.mem_ins.mp hx).elim (h.snd x) fun e => e ▸ hw⟩
theorem KI.insAll {rs : List Row} {ts : List Str} : ∀ (ws : List Str) {ks : List Str}, KI rs ts ks → (∀ w ∈ ws, Hd rs ts w) → KI rs ts (SX.insAll ks ws)
  | [], _, h, _ => h
  | w :: ws, _, h, hw => KI.insAll ws (h.ins (hw w List.mem_cons_self)) fun x hx => hw x (List.mem_cons_of_mem _ hx)
theorem insAll_snoc (ks ws : List Str) (w : Str) : SX.insAll ks (ws ++ [w]) = SX.ins (SX.insAll ks ws) w := by
  unfold SX.insAll
  rw [List.foldl_append]
  rfl
theorem cnt_insAll_le (rs : List Row) : ∀ (ws ks : List Str), cnt rs (SX.insAll ks ws) ≤ cnt rs ks
  | [], ks => Nat.le_refl _
  | w :: ws, ks => Nat.le_trans (cnt_insAll_le rs ws (SX.ins ks w)) (cnt_ins_le rs ks w)
theorem ins_pot {rs : List Row} {ks : List Str} {w : Str} {b : List Str} (h : Row.r w b ∈ rs) : (SX.ins ks w).length + cnt rs (SX.ins ks w) ≤ ks.length + cnt rs ks := by
  by_cases c : w ∈ ks
  · have : SX.ins ks w = ks := if_pos c
    rw [this]
    exact Nat.le_refl _
  · have h1 := cnt_ins_lt h c
    have h2 := SX.ins_len ks w
    omega
/-- few rows, few words in each -/
structure RB (rs : List Row) : Prop where
  len : rs.length ≤ 1000
  body : ∀ r ∈ rs, (DV.rBody r).length ≤ 1000
  lay : ∀ r ∈ rs, ∀ w ∈ DV.rWords r, DV.LayS w
theorem RB.of {rs : List Row} (hl : rs.length ≤ 1000) (h : ∀ r ∈ rs, DV.RowOk r) : RB rs := ⟨hl, fun r hr => Nat.le_trans (h r hr).2 (by decide), fun r hr w hw => DV.layS_of ((h r hr).1 w hw)⟩
def isClashed (ks : List Str) : Row → Bool
  | .c b => b.all fun w => decide (w ∈ ks)
  | _ => false
def clashB (rs : List Row) (ks : List Str) : Bool := rs.any (isClashed ks)
theorem clash_iff {rs : List Row} {ts ks : List Str} (k : Known rs ts ks) : clashB rs ks = true ↔ Cl rs ts := by
  unfold clashB
  rw [List.any_eq_true]
  constructor
  · rintro ⟨r, hr, h⟩
    cases r with
    | g w => cases h
    | r w b => cases h
    | c b => exact ⟨b, hr, fun x hx => (k.iff x).mp (by simpa using List.all_eq_true.mp h x hx)⟩
  · rintro ⟨b, hb, h⟩
    exact ⟨_, hb, List.all_eq_true.mpr fun x hx => by simpa using (k.iff x).mpr (h x hx)⟩
end MB

/-! Of the laws: words, rows, grounds. Plain Lean. -/
namespace MB
open DV
open PySem (Str PyData)
/-- the first that is no ground -/
def strangeOf (rs : List Row) (ts : List Str) : Option Str := ts.find? fun w => decide (w ∉ gsOf rs)
theorem strange_none {rs : List Row} {ts : List Str} (h : ∀ w ∈ ts, w ∈ gsOf rs) : strangeOf rs ts = none := List.find?_eq_none.mpr fun v hv => by simpa using h v hv
theorem strange_some {rs : List Row} {ts us : List Str} {s : Str} (h : ∀ w ∈ ts, w ∈ gsOf rs) (hs : s ∉ gsOf rs) : strangeOf rs (ts ++ s :: us) = some s := by
  unfold strangeOf
  rw [List.find?_append, List.find?_eq_none.mpr (fun v hv => by simpa using h v hv), List.find?_cons]
  simp [hs]
theorem fault_none {rs : List Row} {r : Row} (hl : rs.length < 60) (hr : RowOk r) (hg : ∀ g, rGround r = some g → g ∈ gsOf rs ∨ (gsOf rs).length < 8) : faultOf rs r = none := by
  have h1 : (rWords r).all isWordB = true := List.all_eq_true.mpr fun w hw => isWordB_iff.mpr (hr.1 w hw)
  unfold faultOf
  rw [if_neg (by omega), if_neg (by rw [h1]; decide), if_neg (by have := hr.2; omega)]
  cases e : rGround r with
  | none => rfl
  | some g =>
    refine if_neg fun ⟨a, b⟩ => ?_
    rcases hg g e with z | z
    · exact a z
    · omega
theorem mem_gsOf {rs : List Row} {w : Str} : w ∈ gsOf rs ↔ Row.g w ∈ rs := by
  unfold gsOf
  rw [mem_srt]
  unfold groundsOf
  rw [List.mem_filterMap]
  constructor
  · rintro ⟨r, hr, e⟩
    cases r with
    | g x =>
      cases e
      exact hr
    | r x b => cases e
    | c b => cases e
  · exact fun h => ⟨_, h, rfl⟩
theorem gs_sub {ws gs : List Str} {rs : List Row} (h : ∀ r ∈ rs, Drawn ws gs r) : ∀ w ∈ gsOf rs, w ∈ gs := fun w hw => (h _ (mem_gsOf.mp hw)).g w rfl
theorem gs_le {ws gs : List Str} {rs : List Row} (h : ∀ r ∈ rs, Drawn ws gs r) : (gsOf rs).length ≤ gs.length := nodup_sub_len (nd_srt _) (gs_sub h)
theorem gs_len {rs : List Row} : (gsOf rs).length ≤ rs.length := by
  unfold gsOf
  rw [(srt_perm _).length_eq]
  have h1 := SX.insAll_len (groundsOf rs) []
  have h2 : (groundsOf rs).length ≤ rs.length := List.length_filterMap_le _ _
  simp at h1
  omega
/-- the word at place k from 8 on is no ground -/
theorem not_ground {ws : List Str} {rs : List Row} (hw : Words ws) (h : ∀ r ∈ rs, Drawn ws (ws.take 8) r) {k : Nat} (h8 : 8 ≤ k) (hk : k < ws.length) : ws[k] ∉ gsOf rs := fun z => by
  have h1 := gs_sub h _ z
  obtain ⟨j, hj, e⟩ := List.mem_iff_getElem.mp h1
  rw [List.getElem_take] at e
  have hj2 : j < 8 := by
    rw [List.length_take] at hj
    omega
  exact (List.pairwise_iff_getElem.mp hw.2.1) j k (by omega) hk (by omega) e
theorem gsOf_append_rule {rs : List Row} {r : Row} (h : rGround r = none) : ∀ w, w ∈ gsOf (rs ++ [r]) ↔ w ∈ gsOf rs := fun w => by
  rw [mem_gsOf, mem_gsOf, List.mem_append, List.mem_singleton]
  refine ⟨fun z => z.elim id fun e => ?_, .inl⟩
  rw [← e] at h
  cases h
theorem Drawn.up {ws gs gs' : List Str} {r : Row} (d : Drawn ws gs r) (h : ∀ w ∈ gs, w ∈ gs') : Drawn ws gs' r := ⟨d.w, d.b, fun g hg => h g (d.g g hg)⟩
end MB
namespace DV
open PySem
theorem cut_succ (xs : List PyData) (k : Nat) : DV.cutD xs (some ((k : Int) + 1)) none = xs.drop (k + 1) := cut_drop xs (k + 1)
end DV

/-! Ways. Plain Lean. -/
namespace MB
open DV (Row)
open PySem (Str)
/-- do these numbers lead to x -/
def walkB (rs : List Row) (ts : List Str) (x : Str) (ns : List Int) : Bool := match steps rs (SX.insAll [] ts) ns with
  | some ks => decide (x ∈ ks)
  | none => false
theorem take_cons {α : Type} {ns : List α} {k : Nat} {n : α} (h : ns[k]? = some n) : ns = ns.take k ++ n :: ns.drop (k + 1) := by
  have h1 := (List.take_append_drop k ns).symm
  have hk2 : k < ns.length := (List.getElem?_eq_some_iff.mp h).1
  rw [List.drop_eq_getElem_cons hk2, (List.getElem?_eq_some_iff.mp h).2] at h1
  exact h1
theorem take_snoc {α : Type} {ns : List α} {k : Nat} {n : α} (h : ns[k]? = some n) : ns.take (k + 1) = ns.take k ++ [n] := by
  rw [List.take_succ, h]
  rfl
theorem walk_stop {rs : List Row} {ts ks : List Str} {x : Str} {ns : List Int} {k : Nat} {n : Int} (h : ns[k]? = some n) (hs : steps rs (SX.insAll [] ts) (ns.take k) = some ks) (hn : step rs ks n = none) : walkB rs ts x ns = false := by
  unfold walkB
  rw [take_cons h, steps_append, hs]
  show (match steps rs ks (n :: ns.drop (k + 1)) with | some ks => decide (x ∈ ks) | none => false) = false
  unfold steps
  rw [hn]
theorem steps_snoc {rs : List Row} {k0 ks ks' : List Str} {ns : List Int} {k : Nat} {n : Int} (h : ns[k]? = some n) (hs : steps rs k0 (ns.take k) = some ks) (hn : step rs ks n = some ks') : steps rs k0 (ns.take (k + 1)) = some ks' := by
  rw [take_snoc h, steps_append, hs]
  show steps rs ks [n] = some ks'
  unfold steps
  rw [hn]
  rfl
/-- more known, no less comes -/
theorem step_mono {rs : List Row} {ks ks' k1 : List Str} {n : Int} (h : ∀ x ∈ ks, x ∈ ks') (e : step rs ks n = some k1) : ∃ k1', step rs ks' n = some k1' ∧ ∀ x ∈ k1, x ∈ k1' := by
  unfold step at e ⊢
  split at e
  · cases e
  · rename_i hn
    rw [if_neg hn]
    split at e
    · rename_i w b hr
      split at e
      · rename_i hb
        cases e
        have hb' : b.all (fun x => decide (x ∈ ks')) = true := List.all_eq_true.mpr fun x hx => by simpa using h x (by simpa using List.all_eq_true.mp hb x hx)
        rw [if_pos hb']
        exact ⟨_, rfl, fun x hx => SX.mem_ins.mpr ((SX.mem_ins.mp hx).imp (h x) id)⟩
      · cases e
    · cases e
theorem steps_mono {rs : List Row} : ∀ (ns : List Int) {ks ks' k1 : List Str}, (∀ x ∈ ks, x ∈ ks') → steps rs ks ns = some k1 → ∃ k1', steps rs ks' ns = some k1' ∧ ∀ x ∈ k1, x ∈ k1'
  | [], ks, ks', k1, h, e => by
    cases e
    exact ⟨ks', rfl, h⟩
  | n :: ns, ks, ks', k1, h, e => by
    unfold steps at e ⊢
    split at e
    · rename_i k2 e2
      obtain ⟨k2', a, b⟩ := step_mono h e2
      rw [a]
      exact steps_mono ns b e
    · cases e
theorem step_grow {rs : List Row} {ks k1 : List Str} {n : Int} (e : step rs ks n = some k1) : ∀ x ∈ ks, x ∈ k1 := fun x hx => by
  unfold step at e
  split at e
  · cases e
  · split at e
    · split at e
      · cases e
        exact SX.mem_ins.mpr (.inl hx)
      · cases e
    · cases e
/-- an applicable number put in takes nothing away -/
theorem walk_put {rs : List Row} {ts : List Str} {x : Str} {P S : List Int} {n : Int} {kp k1 : List Str} (h1 : steps rs (SX.insAll [] ts) P = some kp) (h2 : step rs kp n = some k1) (h : walkB rs ts x (P ++ S) = true) : walkB rs ts x (P ++ n :: S) = true := by
  unfold walkB at h ⊢
  rw [steps_append, h1] at h ⊢
  have h : (match steps rs kp S with | some ks => decide (x ∈ ks) | none => false) = true := h
  show (match steps rs kp (n :: S) with | some ks => decide (x ∈ ks) | none => false) = true
  unfold steps
  rw [h2]
  cases e : steps rs kp S with
  | none =>
    rw [e] at h
    cases h
  | some k2 =>
    rw [e] at h
    obtain ⟨k3, a, b⟩ := steps_mono S (step_grow h2) e
    simp only
    rw [a]
    simpa using b x (by simpa using h)
/-- what is left when numbers are left out from the back: of tail none can be left out -/
structure WI (rs : List Row) (ts : List Str) (x : Str) (fired : List Int) (k : Nat) (left tail : List Int) : Prop where
  eq : left = fired.take k ++ tail
  ok : walkB rs ts x left = true
  no : ∀ j, j < tail.length → walkB rs ts x (fired.take k ++ tail.eraseIdx j) = false
theorem wi_start {rs : List Row} {ts ks : List Str} {x : Str} {fired : List Int} (h : steps rs (SX.insAll [] ts) fired = some ks) (hx : x ∈ ks) : WI rs ts x fired fired.length fired [] :=
  ⟨by simp, by unfold walkB; rw [h]; simpa using hx, fun j hj => by simp at hj⟩
theorem steps_pre {rs : List Row} {k0 ks : List Str} {ns : List Int} (h : steps rs k0 ns = some ks) (k : Nat) : ∃ kp, steps rs k0 (ns.take k) = some kp ∧ steps rs kp (ns.drop k) = some ks := by
  rw [← List.take_append_drop k ns, steps_append] at h
  cases e : steps rs k0 (ns.take k) with
  | none =>
    rw [e] at h
    cases h
  | some kp =>
    rw [e] at h
    exact ⟨kp, rfl, h⟩
/-- a turn at place k: without the number there it still leads to x -/
theorem wi_out {rs : List Row} {ts ks : List Str} {x : Str} {fired left tail : List Int} {k : Nat} (hf : steps rs (SX.insAll [] ts) fired = some ks) (hk : k < fired.length) (w : WI rs ts x fired (k + 1) left tail) (h : walkB rs ts x (fired.take k ++ tail) = true) :
    WI rs ts x fired k (fired.take k ++ tail) tail := by
  obtain ⟨kp, h1, h2⟩ := steps_pre hf k
  rw [List.drop_eq_getElem_cons hk] at h2
  unfold steps at h2
  split at h2
  · rename_i k1 e1
    refine ⟨rfl, h, fun j hj => ?_⟩
    cases e : walkB rs ts x (fired.take k ++ tail.eraseIdx j) with
    | false => rfl
    | true =>
      have := walk_put h1 e1 e
      have q := w.no j hj
      rw [take_snoc (List.getElem?_eq_getElem hk), List.append_assoc] at q
      have q : walkB rs ts x (fired.take k ++ fired[k] :: tail.eraseIdx j) = false := q
      rw [this] at q
      cases q
  · cases h2
/-- .. or not -/
theorem wi_in {rs : List Row} {ts : List Str} {x : Str} {fired left tail : List Int} {k : Nat} (hk : k < fired.length) (w : WI rs ts x fired (k + 1) left tail) (h : walkB rs ts x (fired.take k ++ tail) = false) :
    WI rs ts x fired k left (fired[k] :: tail) := by
  have e := take_snoc (List.getElem?_eq_getElem hk)
  refine ⟨by rw [w.eq, e, List.append_assoc]; rfl, w.ok, fun j hj => ?_⟩
  cases j with
  | zero => exact h
  | succ j =>
    have q := w.no j (by simpa using hj)
    rw [e, List.append_assoc] at q
    exact q
theorem wi_left {rs : List Row} {ts : List Str} {x : Str} {fired left tail : List Int} {k : Nat} (hk : k < fired.length) (w : WI rs ts x fired (k + 1) left tail) : left.take k ++ left.drop (k + 1) = fired.take k ++ tail := by
  have l : (fired.take (k + 1)).length = k + 1 := by simp; omega
  rw [w.eq, List.take_append_of_le_length (by omega), List.take_take, Nat.min_eq_left (by omega)]
  have : (fired.take (k + 1) ++ tail).drop (k + 1) = tail := by rw [List.drop_append, l]; simp
  rw [this]
/-- a way of which none can be left out -/
structure Least (rs : List Row) (ts : List Str) (x : Str) (ns : List Int) : Prop where
  ok : walkB rs ts x ns = true
  no : ∀ j, j < ns.length → walkB rs ts x (ns.eraseIdx j) = false
theorem wi_end {rs : List Row} {ts : List Str} {x : Str} {fired left tail : List Int} (w : WI rs ts x fired 0 left tail) : Least rs ts x left := by
  have e : left = tail := by
    rw [w.eq]
    rfl
  refine ⟨w.ok, fun j hj => ?_⟩
  have := w.no j (by rw [← e]; exact hj)
  rw [← e] at this
  exact this
theorem erase_eq {α : Type} (l : List α) (k : Nat) : l.eraseIdx k = l.take k ++ l.drop (k + 1) := List.eraseIdx_eq_take_drop_succ l k
/-- what is known behind a walk holds -/
theorem steps_sound {rs : List Row} {ts : List Str} : ∀ (ns : List Int) {ks k1 : List Str}, (∀ x ∈ ks, Hd rs ts x) → steps rs ks ns = some k1 → ∀ x ∈ k1, Hd rs ts x
  | [], ks, k1, h, e => by
    cases e
    exact h
  | n :: ns, ks, k1, h, e => by
    unfold steps at e
    split at e
    · rename_i k2 e2
      refine steps_sound ns ?_ e
      unfold step at e2
      split at e2
      · cases e2
      · split at e2
        · rename_i w b hr
          split at e2
          · rename_i hb
            cases e2
            intro x hx
            rcases SX.mem_ins.mp hx with z | z
            · exact h x z
            · rw [z]
              exact .ru (List.mem_of_getElem? hr) fun y hy => h y (by simpa using List.all_eq_true.mp hb y hy)
          · cases e2
        · cases e2
    · cases e
end MB

namespace My
open PySem PySem.Spec PyProof.Rows
open L2 hiding WE
open DV SX

def topS (i : Nat) : Stmt := PySem.Challenge.pw_maybegrounds_k04_ways_looked_at.main.body.getD i (.Pass ⟨0, 0, 0, 0⟩)
abbrev s_body_of : Stmt := topS 20
abbrev N_body_of : List Str := ["row"]
theorem sc_body_of : FnScope ["row"] ["row"] (defScope s_body_of) := ⟨rfl, rfl, rfl, by decide +kernel, rfl, by decide +kernel, by decide +kernel⟩

abbrev s_copied : Stmt := topS 22
abbrev N_copied : List Str := ["row"]
theorem sc_copied : FnScope ["row"] ["row"] (defScope s_copied) := ⟨rfl, rfl, rfl, by decide +kernel, rfl, by decide +kernel, by decide +kernel⟩

abbrev s_is_word : Stmt := topS 19
abbrev N_is_word : List Str := ["text", "sign"]
theorem sc_is_word : FnScope ["text", "sign"] ["text"] (defScope s_is_word) := ⟨rfl, rfl, rfl, by decide +kernel, rfl, by decide +kernel, by decide +kernel⟩

abbrev s_words_of : Stmt := topS 21
abbrev N_words_of : List Str := ["row"]
theorem sc_words_of : FnScope ["row"] ["row"] (defScope s_words_of) := ⟨rfl, rfl, rfl, by decide +kernel, rfl, by decide +kernel, by decide +kernel⟩

abbrev s_Book_all_grounds : Stmt := inClass (topS 23) 4
abbrev N_Book_all_grounds : List Str := ["self", "row"]
theorem sc_Book_all_grounds : FnScope ["self", "row"] ["self"] (defScope s_Book_all_grounds) := ⟨rfl, rfl, rfl, by decide +kernel, rfl, by decide +kernel, by decide +kernel⟩

abbrev s_Book_fault : Stmt := inClass (topS 23) 2
abbrev N_Book_fault : List Str := ["self", "row", "mine", "word"]
theorem sc_Book_fault : FnScope ["self", "row", "mine", "word"] ["self", "row"] (defScope s_Book_fault) := ⟨rfl, rfl, rfl, by decide +kernel, rfl, by decide +kernel, by decide +kernel⟩

abbrev s_Book_tell : Stmt := inClass (topS 23) 1
abbrev N_Book_tell : List Str := ["self", "row", "number", "why"]
theorem sc_Book_tell : FnScope ["self", "row", "number", "why"] ["self", "row"] (defScope s_Book_tell) := ⟨rfl, rfl, rfl, by decide +kernel, rfl, by decide +kernel, by decide +kernel⟩

abbrev s_Book_init : Stmt := inClass (topS 23) 0
abbrev N_Book_init : List Str := ["self", "rows", "row"]
theorem sc_Book_init : FnScope ["self", "rows", "row"] ["self", "rows"] (defScope s_Book_init) := ⟨rfl, rfl, rfl, by decide +kernel, rfl, by decide +kernel, by decide +kernel⟩

abbrev s_NoGround_init : Stmt := inClass (topS 3) 0
abbrev N_NoGround_init : List Str := ["self", "word"]
theorem sc_NoGround_init : FnScope ["self", "word"] ["self", "word"] (defScope s_NoGround_init) := ⟨rfl, rfl, rfl, by decide +kernel, rfl, by decide +kernel, by decide +kernel⟩

abbrev s_must_be_grounds : Stmt := topS 9
abbrev N_must_be_grounds : List Str := ["book", "taken", "mine", "word"]
theorem sc_must_be_grounds : FnScope ["book", "taken", "mine", "word"] ["book", "taken"] (defScope s_must_be_grounds) := ⟨rfl, rfl, rfl, by decide +kernel, rfl, by decide +kernel, by decide +kernel⟩

abbrev s_all_known : Stmt := topS 10
abbrev N_all_known : List Str := ["body", "known", "word"]
theorem sc_all_known : FnScope ["body", "known", "word"] ["body", "known"] (defScope s_all_known) := ⟨rfl, rfl, rfl, by decide +kernel, rfl, by decide +kernel, by decide +kernel⟩

abbrev s_walked : Stmt := topS 12
abbrev N_walked : List Str := ["rows", "thing", "taken", "numbers", "known", "word", "number"]
theorem sc_walked : FnScope ["rows", "thing", "taken", "numbers", "known", "word", "number"] ["rows", "thing", "taken", "numbers"] (defScope s_walked) := ⟨rfl, rfl, rfl, by decide +kernel, rfl, by decide +kernel, by decide +kernel⟩

abbrev s_Book_rows : Stmt := inClass (topS 23) 3
abbrev N_Book_rows : List Str := ["self", "row"]
theorem sc_Book_rows : FnScope ["self", "row"] ["self"] (defScope s_Book_rows) := ⟨rfl, rfl, rfl, by decide +kernel, rfl, by decide +kernel, by decide +kernel⟩

abbrev s_is_way : Stmt := topS 13
abbrev N_is_way : List Str := ["book", "thing", "taken", "numbers"]
theorem sc_is_way : FnScope ["book", "thing", "taken", "numbers"] ["book", "thing", "taken", "numbers"] (defScope s_is_way) := ⟨rfl, rfl, rfl, by decide +kernel, rfl, by decide +kernel, by decide +kernel⟩

abbrev s_law_begun : Stmt := topS 25
abbrev N_law_begun : List Str := ["_law_script", "_law_stirred", "_law_cell"]
theorem sc_law_begun : FnScope ["_law_script", "_law_stirred", "_law_cell"] ["_law_script"] (defScope s_law_begun) := ⟨rfl, rfl, rfl, by decide +kernel, rfl, by decide +kernel, by decide +kernel⟩

abbrev s_law_take : Stmt := topS 26
abbrev N_law_take : List Str := ["_law_box", "_law_many", "_law_number_here"]
theorem sc_law_take : FnScope ["_law_box", "_law_many", "_law_number_here"] ["_law_box", "_law_many"] (defScope s_law_take) := ⟨rfl, rfl, rfl, by decide +kernel, rfl, by decide +kernel, by decide +kernel⟩

abbrev s_law_alike : Stmt := topS 27
abbrev N_law_alike : List Str := ["_law_found", "_law_due", "_law_k"]
theorem sc_law_alike : FnScope ["_law_found", "_law_due", "_law_k"] ["_law_found", "_law_due"] (defScope s_law_alike) := ⟨rfl, rfl, rfl, by decide +kernel, rfl, by decide +kernel, by decide +kernel⟩

abbrev s_law_words : Stmt := topS 28
abbrev N_law_words : List Str := ["_law_box", "_law_letters", "_law_base", "_law_first", "_law_sort", "_law_place", "_law_size", "_law_step", "_law_others", "_law_words_here", "_law_k", "_law_word", "_law_number_here", "_law_letter"]
theorem sc_law_words : FnScope ["_law_box", "_law_letters", "_law_base", "_law_first", "_law_sort", "_law_place", "_law_size", "_law_step", "_law_others", "_law_words_here", "_law_k", "_law_word", "_law_number_here", "_law_letter"] ["_law_box"] (defScope s_law_words) := ⟨rfl, rfl, rfl, by decide +kernel, rfl, by decide +kernel, by decide +kernel⟩

abbrev s_law_body : Stmt := topS 29
abbrev N_law_body : List Str := ["_law_box", "_law_words_here", "_law_sizes", "_law_size", "_law_place"]
theorem sc_law_body : FnScope ["_law_box", "_law_words_here", "_law_sizes", "_law_size", "_law_place"] ["_law_box", "_law_words_here", "_law_sizes"] (defScope s_law_body) := ⟨rfl, rfl, rfl, by decide +kernel, rfl, by decide +kernel, by decide +kernel⟩

abbrev s_law_row : Stmt := topS 30
abbrev N_law_row : List Str := ["_law_box", "_law_words_here", "_law_many", "_law_kind"]
theorem sc_law_row : FnScope ["_law_box", "_law_words_here", "_law_many", "_law_kind"] ["_law_box", "_law_words_here", "_law_many"] (defScope s_law_row) := ⟨rfl, rfl, rfl, by decide +kernel, rfl, by decide +kernel, by decide +kernel⟩

abbrev s_law_rows : Stmt := topS 31
abbrev N_law_rows : List Str := ["_law_box", "_law_words_here", "_law_most", "_law_many", "_law_some", "_law_left", "_law_turn", "_law_rows_here", "_law_word"]
theorem sc_law_rows : FnScope ["_law_box", "_law_words_here", "_law_most", "_law_many", "_law_some", "_law_left", "_law_turn", "_law_rows_here", "_law_word"] ["_law_box", "_law_words_here", "_law_most"] (defScope s_law_rows) := ⟨rfl, rfl, rfl, by decide +kernel, rfl, by decide +kernel, by decide +kernel⟩

abbrev s_law_copied : Stmt := topS 32
abbrev N_law_copied : List Str := ["_law_rows_here", "_law_row_here", "_law_part"]
theorem sc_law_copied : FnScope ["_law_rows_here", "_law_row_here", "_law_part"] ["_law_rows_here"] (defScope s_law_copied) := ⟨rfl, rfl, rfl, by decide +kernel, rfl, by decide +kernel, by decide +kernel⟩

abbrev s_law_grounds : Stmt := topS 33
abbrev N_law_grounds : List Str := ["_law_rows_here", "_law_row_here"]
theorem sc_law_grounds : FnScope ["_law_rows_here", "_law_row_here"] ["_law_rows_here"] (defScope s_law_grounds) := ⟨rfl, rfl, rfl, by decide +kernel, rfl, by decide +kernel, by decide +kernel⟩

abbrev s_law_taken : Stmt := topS 36
abbrev N_law_taken : List Str := ["_law_box", "_law_grounds_here", "_law_turn"]
theorem sc_law_taken : FnScope ["_law_box", "_law_grounds_here", "_law_turn"] ["_law_box", "_law_grounds_here"] (defScope s_law_taken) := ⟨rfl, rfl, rfl, by decide +kernel, rfl, by decide +kernel, by decide +kernel⟩

abbrev s_law_walks : Stmt := topS 37
abbrev N_law_walks : List Str := ["_law_rows_here", "_law_thing", "_law_taken_here", "_law_numbers", "_law_known", "_law_word", "_law_number_here"]
theorem sc_law_walks : FnScope ["_law_rows_here", "_law_thing", "_law_taken_here", "_law_numbers", "_law_known", "_law_word", "_law_number_here"] ["_law_rows_here", "_law_thing", "_law_taken_here", "_law_numbers"] (defScope s_law_walks) := ⟨rfl, rfl, rfl, by decide +kernel, rfl, by decide +kernel, by decide +kernel⟩

abbrev s_law_fired : Stmt := topS 38
abbrev N_law_fired : List Str := ["_law_rows_here", "_law_taken_here", "_law_found", "_law_known", "_law_word", "_law_turn", "_law_number_here", "_law_row_here"]
theorem sc_law_fired : FnScope ["_law_rows_here", "_law_taken_here", "_law_found", "_law_known", "_law_word", "_law_turn", "_law_number_here", "_law_row_here"] ["_law_rows_here", "_law_taken_here"] (defScope s_law_fired) := ⟨rfl, rfl, rfl, by decide +kernel, rfl, by decide +kernel, by decide +kernel⟩

abbrev s_law_number : Stmt := topS 39
abbrev N_law_number : List Str := ["_law_box", "_law_rows_here", "_law_far", "_law_some"]
theorem sc_law_number : FnScope ["_law_box", "_law_rows_here", "_law_far", "_law_some"] ["_law_box", "_law_rows_here"] (defScope s_law_number) := ⟨rfl, rfl, rfl, by decide +kernel, rfl, by decide +kernel, by decide +kernel⟩

abbrev s_law_spoilt : Stmt := topS 40
abbrev N_law_spoilt : List Str := ["_law_box", "_law_rows_here", "_law_numbers", "_law_at", "_law_deed", "_law_left", "_law_to"]
theorem sc_law_spoilt : FnScope ["_law_box", "_law_rows_here", "_law_numbers", "_law_at", "_law_deed", "_law_left", "_law_to"] ["_law_box", "_law_rows_here", "_law_numbers"] (defScope s_law_spoilt) := ⟨rfl, rfl, rfl, by decide +kernel, rfl, by decide +kernel, by decide +kernel⟩

abbrev s_law_stranger : Stmt := topS 41
abbrev N_law_stranger : List Str := ["_law_book", "_law_thing", "_law_taken_here", "_law_numbers", "e", "_law_kinds", "_law_good"]
theorem sc_law_stranger : FnScope ["_law_book", "_law_thing", "_law_taken_here", "_law_numbers", "e", "_law_kinds", "_law_good"] ["_law_book", "_law_thing", "_law_taken_here", "_law_numbers"] (defScope s_law_stranger) := ⟨rfl, rfl, rfl, by decide +kernel, rfl, by decide +kernel, by decide +kernel⟩

abbrev s_law : Stmt := topS 42
abbrev N_law : List Str := ["_law_script", "_law_box", "_law_words_here", "_law_rows_here", "_law_book", "_law_taken_here", "_law_whole", "_law_turn", "_law_numbers", "_law_deed", "_law_handed", "_law_some", "_law_thing", "_law_place"]
theorem sc_law : FnScope ["_law_script", "_law_box", "_law_words_here", "_law_rows_here", "_law_book", "_law_taken_here", "_law_whole", "_law_turn", "_law_numbers", "_law_deed", "_law_handed", "_law_some", "_law_thing", "_law_place"] ["_law_script"] (defScope s_law) := ⟨rfl, rfl, rfl, by decide +kernel, rfl, by decide +kernel, by decide +kernel⟩

structure Txt (K : PySem.W.Frag) (mg : Str → Option Value) where
  b_ValueError : mg "ValueError" = none
  b_all : mg "all" = none
  b_bool : mg "bool" = none
  b_int : mg "int" = none
  b_isinstance : mg "isinstance" = none
  b_len : mg "len" = none
  b_list : mg "list" = none
  b_min : mg "min" = none
  b_range : mg "range" = none
  b_set : mg "set" = none
  b_sorted : mg "sorted" = none
  b_str : mg "str" = none
  b_tuple : mg "tuple" = none
  t_LETTERS : Tok
  c_LETTERS : mg "LETTERS" = some (.str "abcdefghijklmnopqrstuvwxyz" t_LETTERS)
  t_MOST_ROWS : Tok
  c_MOST_ROWS : mg "MOST_ROWS" = some (.int 60 t_MOST_ROWS)
  t_MOST_GROUNDS : Tok
  c_MOST_GROUNDS : mg "MOST_GROUNDS" = some (.int 8 t_MOST_GROUNDS)
  t_MOST_IN_BODY : Tok
  c_MOST_IN_BODY : mg "MOST_IN_BODY" = some (.int 5 t_MOST_IN_BODY)
  C_Book : Addr
  m_Book : mg "Book" = some (.ref C_Book)
  c_Book : Cls K C_Book
  n_told_rows : NoAttr K C_Book "told_rows"
  C_NoGround : Addr
  m_NoGround : mg "NoGround" = some (.ref C_NoGround)
  C_GroundError : Addr
  m_GroundError : mg "GroundError" = some (.ref C_GroundError)
  C_BadText : Addr
  m_BadText : mg "BadText" = some (.ref C_BadText)
  C_Clash : Addr
  m_Clash : mg "Clash" = some (.ref C_Clash)
  C_BadRow : Addr
  m_BadRow : mg "BadRow" = some (.ref C_BadRow)
  C_NoRow : Addr
  m_NoRow : mg "NoRow" = some (.ref C_NoRow)
  C_Nothing : Addr
  m_Nothing : mg "Nothing" = some (.ref C_Nothing)
  g_GroundError : BaseI K C_GroundError
  x_NoGround : XCls K C_NoGround ["word"]
  e_NoGround : ExcC K C_NoGround
  ex_NoGround_GroundError : PySem.W.exmOne K (.ref C_NoGround) (.ref C_GroundError) = some true
  kt_NoGround_BadText : PySem.W.kitOne K (.ref C_NoGround) (.ref C_BadText) = some false
  kt_NoGround_Clash : PySem.W.kitOne K (.ref C_NoGround) (.ref C_Clash) = some false
  kt_NoGround_BadRow : PySem.W.kitOne K (.ref C_NoGround) (.ref C_BadRow) = some false
  kt_NoGround_NoRow : PySem.W.kitOne K (.ref C_NoGround) (.ref C_NoRow) = some false
  kt_NoGround_Nothing : PySem.W.kitOne K (.ref C_NoGround) (.ref C_Nothing) = some false
  kt_NoGround_NoGround : PySem.W.kitOne K (.ref C_NoGround) (.ref C_NoGround) = some true
  kt_NoGround_ValueError : PySem.W.kitOne K (.ref C_NoGround) (.type "ValueError") = some true
  NoGround_init : Mf K C_NoGround "__init__" "NoGround.__init__" s_NoGround_init ["self", "word"]
  ti_NoGround : PySem.W.typeIn K (.ref NoGround_init.a) = some (.type "function")
  body_of : Df K mg "body_of" s_body_of ["row"]
  copied : Df K mg "copied" s_copied ["row"]
  is_word : Df K mg "is_word" s_is_word ["text"]
  words_of : Df K mg "words_of" s_words_of ["row"]
  Book_all_grounds : Mf K C_Book "all_grounds" "Book.all_grounds" s_Book_all_grounds ["self"]
  Book_fault : Mf K C_Book "fault" "Book.fault" s_Book_fault ["self", "row"]
  Book_tell : Mf K C_Book "tell" "Book.tell" s_Book_tell ["self", "row"]
  Book_init : Mf K C_Book "__init__" "Book.__init__" s_Book_init ["self", "rows"]
  must_be_grounds : Df K mg "must_be_grounds" s_must_be_grounds ["book", "taken"]
  all_known : Df K mg "all_known" s_all_known ["body", "known"]
  walked : Df K mg "walked" s_walked ["rows", "thing", "taken", "numbers"]
  Book_rows : Mf K C_Book "rows" "Book.rows" s_Book_rows ["self"]
  is_way : Df K mg "is_way" s_is_way ["book", "thing", "taken", "numbers"]
  law_begun : Df K mg "_law_begun" s_law_begun ["_law_script"]
  law_take : Df K mg "_law_take" s_law_take ["_law_box", "_law_many"]
  law_alike : Df K mg "_law_alike" s_law_alike ["_law_found", "_law_due"]
  law_words : Df K mg "_law_words" s_law_words ["_law_box"]
  law_body : Df K mg "_law_body" s_law_body ["_law_box", "_law_words_here", "_law_sizes"]
  law_row : Df K mg "_law_row" s_law_row ["_law_box", "_law_words_here", "_law_many"]
  law_rows : Df K mg "_law_rows" s_law_rows ["_law_box", "_law_words_here", "_law_most"]
  law_copied : Df K mg "_law_copied" s_law_copied ["_law_rows_here"]
  law_grounds : Df K mg "_law_grounds" s_law_grounds ["_law_rows_here"]
  law_taken : Df K mg "_law_taken" s_law_taken ["_law_box", "_law_grounds_here"]
  law_walks : Df K mg "_law_walks" s_law_walks ["_law_rows_here", "_law_thing", "_law_taken_here", "_law_numbers"]
  law_fired : Df K mg "_law_fired" s_law_fired ["_law_rows_here", "_law_taken_here"]
  law_number : Df K mg "_law_number" s_law_number ["_law_box", "_law_rows_here"]
  law_spoilt : Df K mg "_law_spoilt" s_law_spoilt ["_law_box", "_law_rows_here", "_law_numbers"]
  law_stranger : Df K mg "_law_stranger" s_law_stranger ["_law_book", "_law_thing", "_law_taken_here", "_law_numbers"]
  law : Df K mg "law" s_law ["_law_script"]
  M_Book : Mk K C_Book Book_init.a
end My

namespace My
open PySem PySem.Spec PyProof.Rows
open L2 hiding WE
open DV SX

section
local macro_rules | `(tactic| walk_at "no") => `(tactic| first | (with_reducible exact Bool.false_ne_true) | (with_reducible exact fun z => Bool.false_ne_true z.symm) | (simp only [decide_eq_true_eq, decide_eq_false_iff_not]; omega) | (decide +kernel) | (simp; done) | (simp; omega) | (exact Bool.false_ne_true) | (exact fun z => Bool.false_ne_true z.symm))
local macro_rules | `(tactic| walk_at "side") => `(tactic| first | omega | assumption | (refine Nat.le_trans (m := 100000) ?_ (by decide); first | omega | (simp <;> omega)) | (simp <;> omega))
local macro_rules | `(tactic| walk_at "w1") => `(tactic| first
  | (with_reducible refine ws_seq ?_)
  | (with_reducible refine ws_if ?_)
  | (with_reducible refine ws_nx ?_)
  | (with_reducible refine ws_retN ?_)
  | ((with_reducible show WE (tVar _) _ _); (refine we_var rfl ?_))
  | (with_reducible refine we_int ?_)
  | (with_reducible refine we_str ?_)
  | (with_reducible refine we_bl ?_)
  | (with_reducible refine we_non ?_)
  | (with_reducible refine wt_test ?_)
  | (with_reducible refine wt_B ?_)
  | (with_reducible refine wt_yes ?_)
  | (with_reducible refine wt_and ?_)
  | (with_reducible refine wt_or ?_)
  | (with_reducible refine wt_not ?_)
  | (with_reducible refine we_andV ?_)
  | (with_reducible refine we_orV ?_)
  | (with_reducible refine we_notV ?_)
  | (with_reducible refine we_if ?_)
  | (with_reducible refine we_rB0 ?_)
  | (with_reducible refine we_rI0 ?_)
  | (with_reducible refine we_rI ?_)
  | (with_reducible refine we_eq ?_)
  | (with_reducible refine we_din ?_)
  | (with_reducible refine we_dnotin ?_)
  | (with_reducible refine we_ne ?_)
  | (with_reducible refine we_isN ?_)
  | (with_reducible refine we_notN ?_)
  | (with_reducible refine we_addS ?_)
  | (with_reducible refine we_inC ?_)
  | (with_reducible refine we_inS ?_)
  | (with_reducible refine we_lenS ?_)
  | (with_reducible refine we_all ?_)
  | (with_reducible refine we_any ?_)
  | (with_reducible refine we_join ?_)
  | (with_reducible refine we_tup ?_)
  | (with_reducible refine we_ixL ?_)
  | (with_reducible refine we_ixT ?_)
  | (with_reducible refine we_ixS ?_)
  | (with_reducible refine we_len ?_)
  | (with_reducible refine wa_nil ?_)
  | (with_reducible refine wa_cons ?_)
  | (with_reducible refine wo_none ?_)
  | (with_reducible refine wo_some ?_)
  | (with_reducible refine wm_lst ?_)
  | (with_reducible refine wm_cat ?_)
  | (with_reducible refine wm_slL ?_)
  | (with_reducible refine wm_sortSet ?_)
  | (with_reducible refine we_isi ?_)
  | (with_reducible refine we_int1 ?_)
  | (with_reducible refine we_tupOf ?_)
  | (with_reducible refine we_slT ?_)
  | (with_reducible refine we_min ?_)
  | (with_reducible refine we_eqD ?_)
  | (with_reducible refine we_neD ?_)
  | (with_reducible refine we_ixs ?_)
  | (with_reducible refine we_neg ?_)
  | (with_reducible refine wm_list ?_)
  | (with_reducible refine wm_split ?_)
  | (with_reducible refine wm_dnew ?_)
  | (with_reducible refine take_at rfl ?_)
  | (with_reducible refine wm_call ?_)
  | (with_reducible refine wm_callX (by assumption) ?_)
  | (with_reducible refine wm_callX lets0 ?_)
  | (with_reducible refine wm_make ?_)
  | (with_reducible refine wm_lcL ?_)
  | (with_reducible refine wm_lcSq ?_)
  | (with_reducible refine wm_lcT ?_)
  | (with_reducible refine wm_lcR ?_)
  | (with_reducible refine wm_lcS ?_)
  | (with_reducible refine we_wm (te := tLst _) ?_)
  | (with_reducible refine we_wm (te := tLc _ _ _ _ _) ?_)
  | (refine take_at rfl ?_)
  | (with_reducible refine known_at ?_)
  | (with_reducible refine we_wm (te := tCall _ _ _ _) ?_)
  | (with_reducible refine we_wm (te := tCallS _ _ _) ?_)
  | (with_reducible refine we_wm (te := tSl _ _ _ _) ?_)
  | (with_reducible refine we_wm (te := tOp rCat _ _) ?_)
  | (with_reducible refine we_wm (te := tCB _ _) ?_)
  | (with_reducible refine we_wm (te := tM1 _ _ _) ?_)
  | (with_reducible refine ws_ret (te := tLst _) ?_)
  | (with_reducible refine ws_ret (te := tLc _ _ _ _ _) ?_)
  | (refine ws_retE (take_at rfl ?_))
  | (with_reducible refine ws_ret (te := tCall _ _ _ _) ?_)
  | (with_reducible refine ws_ret (te := tMake _ _ _ _ _) ?_)
  | (with_reducible refine ws_ret (te := tMeth _ _ _ _ _ _ _) ?_)
  | (with_reducible refine ws_ret (te := tSl _ _ _ _) ?_)
  | (with_reducible refine ws_ret (te := tOp rCat _ _) ?_)
  | (with_reducible refine ws_ret (wm_list ?_))
  | (with_reducible refine ws_retE ?_)
  | (with_reducible refine ws_asg (te := tLst _) ?_)
  | (with_reducible refine ws_asg (te := tLc _ _ _ _ _) ?_)
  | (refine ws_asgE (take_at rfl ?_))
  | (with_reducible refine ws_asg (te := tCall _ _ _ _) ?_)
  | (with_reducible refine ws_asg (te := tMake _ _ _ _ _) ?_)
  | (with_reducible refine ws_asg (te := tSl _ _ _ _) ?_)
  | (with_reducible refine ws_asg (te := tOp rCat _ _) ?_)
  | (with_reducible refine ws_asg (te := tDNewK) ?_)
  | (with_reducible refine ws_asg (wm_list ?_))
  | (with_reducible refine ws_asgE ?_)
  | ((with_reducible show _ ≤ _ ∧ _); (refine ⟨(by walk_at "side"), ?_⟩))
  | ((with_reducible show _ < _ ∧ _); (refine ⟨(by walk_at "side"), ?_⟩))
  | ((with_reducible show (_ → _) ∧ (_ → _)); first | (refine ⟨fun hb => absurd hb (by walk_at "no"), fun _ => ?_⟩) | (refine ⟨fun _ => ?_, fun hb => absurd hb (by walk_at "no")⟩))
  | ((with_reducible show ∀ p : Addr, ∃ d, Frz (ml p _) d ∧ _); (intro p))
  | ((with_reducible show (slots _).Nodup ∧ _); (refine ⟨by simp [slots], ?_⟩))
  | (refine ⟨_, frz_ml, ?_⟩)
  | (refine ⟨_, frz_fz, ?_⟩)
  | (refine ⟨_, rfl, ?_⟩)
  | (with_reducible refine ⟨_, _, rfl, atI_0, ?_⟩)
  | (with_reducible refine ⟨_, _, rfl, atI_1, ?_⟩)
  | (refine ⟨_, _, rfl, rfl, ?_⟩)
  | (refine ⟨rfl, ?_⟩)
  | (refine Or.inl ⟨_, rfl, ?_⟩)
  | (refine Or.inr ⟨_, rfl, ?_⟩)
  | (refine ⟨_, Or.inl rfl, ?_⟩)
  | (refine ⟨_, Or.inr rfl, ?_⟩)
  | (dsimp only [List.set_cons_zero, List.set_cons_succ]))
local macro_rules | `(tactic| walk_at "w") => `(tactic| (repeat (walk_at "w1"; try dsimp only)))
local macro_rules | `(tactic| walk_at "z1") => `(tactic| first
  | (with_reducible refine ws_seq ?_)
  | (with_reducible refine ws_if ?_)
  | (with_reducible refine ws_nx ?_)
  | ((with_reducible show WE (tCall _ _ _ _) _ _); first | (with_reducible refine walked_at ?_) | (refine take_at rfl ?_) | (with_reducible refine known_at ?_) | (refine words_at rfl ?_) | (refine row_at rfl ?_) | (refine number_at rfl ?_) | (with_reducible refine is_way_at ?_) | (with_reducible refine law_walks_at ?_) | (refine right_at rfl ?_) | (with_reducible refine we_wm (copied_at ?_)) | (with_reducible refine we_wm (grounds_at ?_)) | (refine we_wm (taken_at rfl ?_)) | (refine we_wm (rows_at rfl ?_)))
  | ((with_reducible show WM (tCall _ _ _ _) _ _); first | (refine wm_we (take_at rfl ?_)) | (refine wm_we (words_at rfl ?_)) | (refine wm_we (row_at rfl ?_)) | (refine wm_we (number_at rfl ?_)) | (with_reducible refine fired_at ?_) | (refine spoilt_at rfl ?_) | (refine wm_we (right_at rfl ?_)) | (refine begun_at rfl (by assumption) ?_) | (refine rows_at rfl ?_) | (with_reducible refine copied_at ?_) | (with_reducible refine grounds_at ?_) | (refine taken_at rfl ?_))
  | ((with_reducible show WM (tCallS _ _ _) _ _); first | (refine way_at rfl ?_))
  | ((with_reducible show WM (tMake _ _ _ _ _) _ _); first | (with_reducible refine book_at ?_))
  | ((with_reducible show WM (tMeth _ _ _ _ _ _ _) _ _); first | (refine tell_at rfl ?_))
  | (with_reducible refine ws_retN ?_)
  | ((with_reducible show WE (tVar _) _ _); first | (refine we_var rfl ?_) | (refine we_varF rfl ?_) | (refine we_varFd rfl ?_))
  | (with_reducible refine we_int ?_)
  | (with_reducible refine we_str ?_)
  | (with_reducible refine we_bl ?_)
  | (with_reducible refine we_non ?_)
  | (with_reducible refine wt_test ?_)
  | (with_reducible refine wt_B ?_)
  | (with_reducible refine wt_yes ?_)
  | (with_reducible refine wt_and ?_)
  | (with_reducible refine wt_or ?_)
  | (with_reducible refine wt_not ?_)
  | (with_reducible refine we_andV ?_)
  | (with_reducible refine we_orV ?_)
  | (with_reducible refine we_notV ?_)
  | (with_reducible refine we_if ?_)
  | (with_reducible refine we_rB0 ?_)
  | (with_reducible refine we_rI0 ?_)
  | (with_reducible refine we_rI ?_)
  | (with_reducible refine we_eq ?_)
  | (with_reducible refine we_din ?_)
  | (with_reducible refine we_dnotin ?_)
  | (with_reducible refine we_ne ?_)
  | ((with_reducible show WE (tOp _ (tVar _) (tC .non)) _ _); first | (refine we_isNM rfl ?_) | (refine we_notNM rfl ?_))
  | (with_reducible refine we_isN ?_)
  | (with_reducible refine we_notN ?_)
  | (with_reducible refine we_addS ?_)
  | (with_reducible refine we_inC ?_)
  | (with_reducible refine we_inS ?_)
  | (with_reducible refine we_lenS ?_)
  | (with_reducible refine we_all ?_)
  | (with_reducible refine we_any ?_)
  | (with_reducible refine we_join ?_)
  | (with_reducible refine we_tup ?_)
  | (with_reducible refine we_ixL ?_)
  | (with_reducible refine we_ixT ?_)
  | (with_reducible refine we_ixS ?_)
  | (with_reducible refine we_len ?_)
  | (with_reducible refine wa_nil ?_)
  | ((with_reducible show WA (tCons (tVar _) _) _ _); first | (refine wa_cons (we_var rfl ?_)) | (refine wa_slot (r := bk _ _ _ _) rfl ?_) | (refine wa_slot (r := bx _) rfl ?_) | (refine wa_slot (r := md _ _) rfl ?_) | (refine wa_cons (we_varF rfl ?_)))
  | (with_reducible refine wa_cons ?_)
  | (with_reducible refine wo_none ?_)
  | (with_reducible refine wo_some ?_)
  | (with_reducible refine wm_lst ?_)
  | (with_reducible refine wm_cat ?_)
  | (with_reducible refine wm_slL ?_)
  | (with_reducible refine wm_sortSet ?_)
  | (with_reducible refine we_isi ?_)
  | (with_reducible refine we_int1 ?_)
  | (with_reducible refine we_tupOf ?_)
  | (with_reducible refine we_slT ?_)
  | (with_reducible refine we_min ?_)
  | (with_reducible refine we_eqD ?_)
  | (with_reducible refine we_neD ?_)
  | (with_reducible refine we_ixs ?_)
  | (with_reducible refine we_neg ?_)
  | (with_reducible refine wm_list ?_)
  | (with_reducible refine wm_split ?_)
  | (with_reducible refine wm_dnew ?_)
  | (with_reducible refine take_at rfl ?_)
  | (with_reducible refine wm_call ?_)
  | (with_reducible refine wm_callX (by assumption) ?_)
  | (with_reducible refine wm_callX lets0 ?_)
  | (with_reducible refine wm_make ?_)
  | (with_reducible refine wm_lcL ?_)
  | (with_reducible refine wm_lcSq ?_)
  | (with_reducible refine wm_lcT ?_)
  | (with_reducible refine wm_lcR ?_)
  | (with_reducible refine wm_lcS ?_)
  | (with_reducible refine we_wm (te := tLst _) ?_)
  | (with_reducible refine we_wm (te := tLc _ _ _ _ _) ?_)
  | (refine take_at rfl ?_)
  | (with_reducible refine known_at ?_)
  | (with_reducible refine we_wm (te := tCall _ _ _ _) ?_)
  | (with_reducible refine we_wm (te := tCallS _ _ _) ?_)
  | (with_reducible refine ws_asg (te := tCallS _ _ _) ?_)
  | (with_reducible refine ws_asg (te := tMeth _ _ _ _ _ _ _) ?_)
  | (with_reducible refine ws_drop (te := tMeth _ _ _ _ _ _ _) ?_)
  | (with_reducible refine ws_drop (te := tCallS _ _ _) ?_)
  | (with_reducible refine we_wm (te := tSl _ _ _ _) ?_)
  | (with_reducible refine we_wm (te := tOp rCat _ _) ?_)
  | (with_reducible refine we_wm (te := tCB _ _) ?_)
  | (with_reducible refine we_wm (te := tM1 _ _ _) ?_)
  | (with_reducible refine ws_ret (te := tLst _) ?_)
  | (with_reducible refine ws_ret (te := tLc _ _ _ _ _) ?_)
  | (refine ws_retE (take_at rfl ?_))
  | (with_reducible refine ws_ret (te := tCall _ _ _ _) ?_)
  | (with_reducible refine ws_ret (te := tMake _ _ _ _ _) ?_)
  | (with_reducible refine ws_ret (te := tMeth _ _ _ _ _ _ _) ?_)
  | (with_reducible refine ws_ret (te := tSl _ _ _ _) ?_)
  | (with_reducible refine ws_ret (te := tOp rCat _ _) ?_)
  | (with_reducible refine ws_ret (wm_list ?_))
  | (with_reducible refine ws_retE ?_)
  | (with_reducible refine ws_asg (te := tLst _) ?_)
  | (with_reducible refine ws_asg (te := tLc _ _ _ _ _) ?_)
  | (refine ws_asgE (take_at rfl ?_))
  | (with_reducible refine ws_asg (te := tCall _ _ _ _) ?_)
  | (with_reducible refine ws_asg (te := tMake _ _ _ _ _) ?_)
  | (with_reducible refine ws_asg (te := tSl _ _ _ _) ?_)
  | (with_reducible refine ws_asg (te := tOp rCat _ _) ?_)
  | (with_reducible refine ws_asg (te := tDNewK) ?_)
  | (with_reducible refine ws_asg (wm_list ?_))
  | (with_reducible refine ws_asgE ?_)
  | ((with_reducible show (_ : Int) ≠ 0 ∧ _); (refine ⟨by decide, ?_⟩))
  | ((with_reducible show _ ≤ _ ∧ _); (refine ⟨(by walk_at "side"), ?_⟩))
  | ((with_reducible show _ < _ ∧ _); (refine ⟨(by walk_at "side"), ?_⟩))
  | ((with_reducible show (_ → _) ∧ (_ → _)); first | (refine ⟨fun hb => absurd hb (by walk_at "no"), fun _ => ?_⟩) | (refine ⟨fun _ => ?_, fun hb => absurd hb (by walk_at "no")⟩))
  | ((with_reducible show ∀ p : Addr, ∃ d, Frz (ml p _) d ∧ _); (intro p))
  | ((with_reducible show (slots _).Nodup ∧ _); (refine ⟨by simp [slots], ?_⟩))
  | (refine ⟨_, frz_ml, ?_⟩)
  | (refine ⟨_, frz_fz, ?_⟩)
  | (refine ⟨_, rfl, ?_⟩)
  | (with_reducible refine ⟨_, _, rfl, (by assumption), ?_⟩)
  | (with_reducible refine ⟨_, _, rfl, atI_0, ?_⟩)
  | (with_reducible refine ⟨_, _, rfl, atI_1, ?_⟩)
  | (refine ⟨_, _, rfl, rfl, ?_⟩)
  | (refine ⟨rfl, ?_⟩)
  | (refine Or.inl ⟨_, rfl, ?_⟩)
  | (refine Or.inr ⟨_, rfl, ?_⟩)
  | (refine ⟨_, Or.inl rfl, ?_⟩)
  | (refine ⟨_, Or.inr rfl, ?_⟩)
  | (dsimp only [List.set_cons_zero, List.set_cons_succ]))
local macro_rules | `(tactic| walk_at "z") => `(tactic| (repeat (walk_at "z1"; try dsimp only)))
section
variable {P : Program} {w : World} {K : PySem.W.Frag} {mg : Str → Option Value} {base : Heap}
def sp_body_of : FSp := fun args Q => ∃ r, args = [fz (rowD r)] ∧ (rBody r).length ≤ 1000 ∧ ∀ p, Q (ml p ((rBody r).map .str)) args
theorem ok_body_of (T : Txt K mg) : FnOk P w K mg base CX0 1 T.body_of.a T.body_of.fd ["row"] (spF sp_body_of) := by
  refine fok T.body_of.F sc_body_of (fun args Q h => ?_) (fun cdv A outer s H E hr args Q h => ?_)
  · obtain ⟨r, rfl, _⟩ := h
    rfl
  · obtain ⟨r, rfl, hl, q⟩ := h
    refine ⟨_, (pss_cons (ps_if (pt_cmpR op_eq (pe_ix ix_tup (pv 0) pe_int (fun _ _ => rfl)) pe_str (nomark _)) (pss_one (ps_ret (pe_callTy (T := "list") call_list_of (by rfl) T.b_list (by decide +kernel) (pa_cons (pe_ix ix_tup (pv 0) pe_int (fun _ _ => rfl)) pa_nil)))) pss_nil)
      (pss_cons (ps_if (pt_cmpR op_eq (pe_ix ix_tup (pv 0) pe_int (fun _ _ => rfl)) pe_str (nomark _)) (pss_one (ps_ret (pe_callTy (T := "list") call_list_of (by rfl) T.b_list (by decide +kernel) (pa_cons (pe_ix ix_tup (pv 0) pe_int (fun _ _ => rfl)) pa_nil)))) pss_nil)
      (pss_one (ps_ret (pe_lst pa_nil))))), ?_⟩
    show WS _ [some (fz _)] _
    cases r with
    | g w =>
      walk_at "w"
      intro p
      exact fin1 (q p)
    | r w b =>
      walk_at "w"
      intro p
      exact fin1 (q p)
    | c b =>
      walk_at "w"
      intro p
      exact fin1 (q p)

end
end

section
local macro_rules | `(tactic| walk_at "no") => `(tactic| first | (with_reducible exact Bool.false_ne_true) | (with_reducible exact fun z => Bool.false_ne_true z.symm) | (simp only [decide_eq_true_eq, decide_eq_false_iff_not]; omega) | (decide +kernel) | (simp; done) | (simp; omega) | (exact Bool.false_ne_true) | (exact fun z => Bool.false_ne_true z.symm))
local macro_rules | `(tactic| walk_at "side") => `(tactic| first | omega | assumption | (refine Nat.le_trans (m := 100000) ?_ (by decide); first | omega | (simp <;> omega)) | (simp <;> omega))
local macro_rules | `(tactic| walk_at "w1") => `(tactic| first
  | (with_reducible refine ws_seq ?_)
  | (with_reducible refine ws_if ?_)
  | (with_reducible refine ws_nx ?_)
  | (with_reducible refine ws_retN ?_)
  | ((with_reducible show WE (tVar _) _ _); (refine we_var rfl ?_))
  | (with_reducible refine we_int ?_)
  | (with_reducible refine we_str ?_)
  | (with_reducible refine we_bl ?_)
  | (with_reducible refine we_non ?_)
  | (with_reducible refine wt_test ?_)
  | (with_reducible refine wt_B ?_)
  | (with_reducible refine wt_yes ?_)
  | (with_reducible refine wt_and ?_)
  | (with_reducible refine wt_or ?_)
  | (with_reducible refine wt_not ?_)
  | (with_reducible refine we_andV ?_)
  | (with_reducible refine we_orV ?_)
  | (with_reducible refine we_notV ?_)
  | (with_reducible refine we_if ?_)
  | (with_reducible refine we_rB0 ?_)
  | (with_reducible refine we_rI0 ?_)
  | (with_reducible refine we_rI ?_)
  | (with_reducible refine we_eq ?_)
  | (with_reducible refine we_din ?_)
  | (with_reducible refine we_dnotin ?_)
  | (with_reducible refine we_ne ?_)
  | (with_reducible refine we_isN ?_)
  | (with_reducible refine we_notN ?_)
  | (with_reducible refine we_addS ?_)
  | (with_reducible refine we_inC ?_)
  | (with_reducible refine we_inS ?_)
  | (with_reducible refine we_lenS ?_)
  | (with_reducible refine we_all ?_)
  | (with_reducible refine we_any ?_)
  | (with_reducible refine we_join ?_)
  | (with_reducible refine we_tup ?_)
  | (with_reducible refine we_ixL ?_)
  | (with_reducible refine we_ixT ?_)
  | (with_reducible refine we_ixS ?_)
  | (with_reducible refine we_len ?_)
  | (with_reducible refine wa_nil ?_)
  | (with_reducible refine wa_cons ?_)
  | (with_reducible refine wo_none ?_)
  | (with_reducible refine wo_some ?_)
  | (with_reducible refine wm_lst ?_)
  | (with_reducible refine wm_cat ?_)
  | (with_reducible refine wm_slL ?_)
  | (with_reducible refine wm_sortSet ?_)
  | (with_reducible refine we_isi ?_)
  | (with_reducible refine we_int1 ?_)
  | (with_reducible refine we_tupOf ?_)
  | (with_reducible refine we_slT ?_)
  | (with_reducible refine we_min ?_)
  | (with_reducible refine we_eqD ?_)
  | (with_reducible refine we_neD ?_)
  | (with_reducible refine we_ixs ?_)
  | (with_reducible refine we_neg ?_)
  | (with_reducible refine wm_list ?_)
  | (with_reducible refine wm_split ?_)
  | (with_reducible refine wm_dnew ?_)
  | (with_reducible refine take_at rfl ?_)
  | (with_reducible refine wm_call ?_)
  | (with_reducible refine wm_callX (by assumption) ?_)
  | (with_reducible refine wm_callX lets0 ?_)
  | (with_reducible refine wm_make ?_)
  | (with_reducible refine wm_lcL ?_)
  | (with_reducible refine wm_lcSq ?_)
  | (with_reducible refine wm_lcT ?_)
  | (with_reducible refine wm_lcR ?_)
  | (with_reducible refine wm_lcS ?_)
  | (with_reducible refine we_wm (te := tLst _) ?_)
  | (with_reducible refine we_wm (te := tLc _ _ _ _ _) ?_)
  | (refine take_at rfl ?_)
  | (with_reducible refine known_at ?_)
  | (with_reducible refine we_wm (te := tCall _ _ _ _) ?_)
  | (with_reducible refine we_wm (te := tCallS _ _ _) ?_)
  | (with_reducible refine we_wm (te := tSl _ _ _ _) ?_)
  | (with_reducible refine we_wm (te := tOp rCat _ _) ?_)
  | (with_reducible refine we_wm (te := tCB _ _) ?_)
  | (with_reducible refine we_wm (te := tM1 _ _ _) ?_)
  | (with_reducible refine ws_ret (te := tLst _) ?_)
  | (with_reducible refine ws_ret (te := tLc _ _ _ _ _) ?_)
  | (refine ws_retE (take_at rfl ?_))
  | (with_reducible refine ws_ret (te := tCall _ _ _ _) ?_)
  | (with_reducible refine ws_ret (te := tMake _ _ _ _ _) ?_)
  | (with_reducible refine ws_ret (te := tMeth _ _ _ _ _ _ _) ?_)
  | (with_reducible refine ws_ret (te := tSl _ _ _ _) ?_)
  | (with_reducible refine ws_ret (te := tOp rCat _ _) ?_)
  | (with_reducible refine ws_ret (wm_list ?_))
  | (with_reducible refine ws_retE ?_)
  | (with_reducible refine ws_asg (te := tLst _) ?_)
  | (with_reducible refine ws_asg (te := tLc _ _ _ _ _) ?_)
  | (refine ws_asgE (take_at rfl ?_))
  | (with_reducible refine ws_asg (te := tCall _ _ _ _) ?_)
  | (with_reducible refine ws_asg (te := tMake _ _ _ _ _) ?_)
  | (with_reducible refine ws_asg (te := tSl _ _ _ _) ?_)
  | (with_reducible refine ws_asg (te := tOp rCat _ _) ?_)
  | (with_reducible refine ws_asg (te := tDNewK) ?_)
  | (with_reducible refine ws_asg (wm_list ?_))
  | (with_reducible refine ws_asgE ?_)
  | ((with_reducible show _ ≤ _ ∧ _); (refine ⟨(by walk_at "side"), ?_⟩))
  | ((with_reducible show _ < _ ∧ _); (refine ⟨(by walk_at "side"), ?_⟩))
  | ((with_reducible show (_ → _) ∧ (_ → _)); first | (refine ⟨fun hb => absurd hb (by walk_at "no"), fun _ => ?_⟩) | (refine ⟨fun _ => ?_, fun hb => absurd hb (by walk_at "no")⟩))
  | ((with_reducible show ∀ p : Addr, ∃ d, Frz (ml p _) d ∧ _); (intro p))
  | ((with_reducible show (slots _).Nodup ∧ _); (refine ⟨by simp [slots], ?_⟩))
  | (refine ⟨_, frz_ml, ?_⟩)
  | (refine ⟨_, frz_fz, ?_⟩)
  | (refine ⟨_, rfl, ?_⟩)
  | (with_reducible refine ⟨_, _, rfl, atI_0, ?_⟩)
  | (with_reducible refine ⟨_, _, rfl, atI_1, ?_⟩)
  | (refine ⟨_, _, rfl, rfl, ?_⟩)
  | (refine ⟨rfl, ?_⟩)
  | (refine Or.inl ⟨_, rfl, ?_⟩)
  | (refine Or.inr ⟨_, rfl, ?_⟩)
  | (refine ⟨_, Or.inl rfl, ?_⟩)
  | (refine ⟨_, Or.inr rfl, ?_⟩)
  | (dsimp only [List.set_cons_zero, List.set_cons_succ]))
local macro_rules | `(tactic| walk_at "w") => `(tactic| (repeat (walk_at "w1"; try dsimp only)))
local macro_rules | `(tactic| walk_at "z1") => `(tactic| first
  | (with_reducible refine ws_seq ?_)
  | (with_reducible refine ws_if ?_)
  | (with_reducible refine ws_nx ?_)
  | ((with_reducible show WE (tCall _ _ _ _) _ _); first | (with_reducible refine walked_at ?_) | (refine take_at rfl ?_) | (with_reducible refine known_at ?_) | (refine words_at rfl ?_) | (refine row_at rfl ?_) | (refine number_at rfl ?_) | (with_reducible refine is_way_at ?_) | (with_reducible refine law_walks_at ?_) | (refine right_at rfl ?_) | (with_reducible refine we_wm (copied_at ?_)) | (with_reducible refine we_wm (grounds_at ?_)) | (refine we_wm (taken_at rfl ?_)) | (refine we_wm (rows_at rfl ?_)))
  | ((with_reducible show WM (tCall _ _ _ _) _ _); first | (refine wm_we (take_at rfl ?_)) | (refine wm_we (words_at rfl ?_)) | (refine wm_we (row_at rfl ?_)) | (refine wm_we (number_at rfl ?_)) | (with_reducible refine fired_at ?_) | (refine spoilt_at rfl ?_) | (refine wm_we (right_at rfl ?_)) | (refine begun_at rfl (by assumption) ?_) | (refine rows_at rfl ?_) | (with_reducible refine copied_at ?_) | (with_reducible refine grounds_at ?_) | (refine taken_at rfl ?_))
  | ((with_reducible show WM (tCallS _ _ _) _ _); first | (refine way_at rfl ?_))
  | ((with_reducible show WM (tMake _ _ _ _ _) _ _); first | (with_reducible refine book_at ?_))
  | ((with_reducible show WM (tMeth _ _ _ _ _ _ _) _ _); first | (refine tell_at rfl ?_))
  | (with_reducible refine ws_retN ?_)
  | ((with_reducible show WE (tVar _) _ _); first | (refine we_var rfl ?_) | (refine we_varF rfl ?_) | (refine we_varFd rfl ?_))
  | (with_reducible refine we_int ?_)
  | (with_reducible refine we_str ?_)
  | (with_reducible refine we_bl ?_)
  | (with_reducible refine we_non ?_)
  | (with_reducible refine wt_test ?_)
  | (with_reducible refine wt_B ?_)
  | (with_reducible refine wt_yes ?_)
  | (with_reducible refine wt_and ?_)
  | (with_reducible refine wt_or ?_)
  | (with_reducible refine wt_not ?_)
  | (with_reducible refine we_andV ?_)
  | (with_reducible refine we_orV ?_)
  | (with_reducible refine we_notV ?_)
  | (with_reducible refine we_if ?_)
  | (with_reducible refine we_rB0 ?_)
  | (with_reducible refine we_rI0 ?_)
  | (with_reducible refine we_rI ?_)
  | (with_reducible refine we_eq ?_)
  | (with_reducible refine we_din ?_)
  | (with_reducible refine we_dnotin ?_)
  | (with_reducible refine we_ne ?_)
  | ((with_reducible show WE (tOp _ (tVar _) (tC .non)) _ _); first | (refine we_isNM rfl ?_) | (refine we_notNM rfl ?_))
  | (with_reducible refine we_isN ?_)
  | (with_reducible refine we_notN ?_)
  | (with_reducible refine we_addS ?_)
  | (with_reducible refine we_inC ?_)
  | (with_reducible refine we_inS ?_)
  | (with_reducible refine we_lenS ?_)
  | (with_reducible refine we_all ?_)
  | (with_reducible refine we_any ?_)
  | (with_reducible refine we_join ?_)
  | (with_reducible refine we_tup ?_)
  | (with_reducible refine we_ixL ?_)
  | (with_reducible refine we_ixT ?_)
  | (with_reducible refine we_ixS ?_)
  | (with_reducible refine we_len ?_)
  | (with_reducible refine wa_nil ?_)
  | ((with_reducible show WA (tCons (tVar _) _) _ _); first | (refine wa_cons (we_var rfl ?_)) | (refine wa_slot (r := bk _ _ _ _) rfl ?_) | (refine wa_slot (r := bx _) rfl ?_) | (refine wa_slot (r := md _ _) rfl ?_) | (refine wa_cons (we_varF rfl ?_)))
  | (with_reducible refine wa_cons ?_)
  | (with_reducible refine wo_none ?_)
  | (with_reducible refine wo_some ?_)
  | (with_reducible refine wm_lst ?_)
  | (with_reducible refine wm_cat ?_)
  | (with_reducible refine wm_slL ?_)
  | (with_reducible refine wm_sortSet ?_)
  | (with_reducible refine we_isi ?_)
  | (with_reducible refine we_int1 ?_)
  | (with_reducible refine we_tupOf ?_)
  | (with_reducible refine we_slT ?_)
  | (with_reducible refine we_min ?_)
  | (with_reducible refine we_eqD ?_)
  | (with_reducible refine we_neD ?_)
  | (with_reducible refine we_ixs ?_)
  | (with_reducible refine we_neg ?_)
  | (with_reducible refine wm_list ?_)
  | (with_reducible refine wm_split ?_)
  | (with_reducible refine wm_dnew ?_)
  | (with_reducible refine take_at rfl ?_)
  | (with_reducible refine wm_call ?_)
  | (with_reducible refine wm_callX (by assumption) ?_)
  | (with_reducible refine wm_callX lets0 ?_)
  | (with_reducible refine wm_make ?_)
  | (with_reducible refine wm_lcL ?_)
  | (with_reducible refine wm_lcSq ?_)
  | (with_reducible refine wm_lcT ?_)
  | (with_reducible refine wm_lcR ?_)
  | (with_reducible refine wm_lcS ?_)
  | (with_reducible refine we_wm (te := tLst _) ?_)
  | (with_reducible refine we_wm (te := tLc _ _ _ _ _) ?_)
  | (refine take_at rfl ?_)
  | (with_reducible refine known_at ?_)
  | (with_reducible refine we_wm (te := tCall _ _ _ _) ?_)
  | (with_reducible refine we_wm (te := tCallS _ _ _) ?_)
  | (with_reducible refine ws_asg (te := tCallS _ _ _) ?_)
  | (with_reducible refine ws_asg (te := tMeth _ _ _ _ _ _ _) ?_)
  | (with_reducible refine ws_drop (te := tMeth _ _ _ _ _ _ _) ?_)
  | (with_reducible refine ws_drop (te := tCallS _ _ _) ?_)
  | (with_reducible refine we_wm (te := tSl _ _ _ _) ?_)
  | (with_reducible refine we_wm (te := tOp rCat _ _) ?_)
  | (with_reducible refine we_wm (te := tCB _ _) ?_)
  | (with_reducible refine we_wm (te := tM1 _ _ _) ?_)
  | (with_reducible refine ws_ret (te := tLst _) ?_)
  | (with_reducible refine ws_ret (te := tLc _ _ _ _ _) ?_)
  | (refine ws_retE (take_at rfl ?_))
  | (with_reducible refine ws_ret (te := tCall _ _ _ _) ?_)
  | (with_reducible refine ws_ret (te := tMake _ _ _ _ _) ?_)
  | (with_reducible refine ws_ret (te := tMeth _ _ _ _ _ _ _) ?_)
  | (with_reducible refine ws_ret (te := tSl _ _ _ _) ?_)
  | (with_reducible refine ws_ret (te := tOp rCat _ _) ?_)
  | (with_reducible refine ws_ret (wm_list ?_))
  | (with_reducible refine ws_retE ?_)
  | (with_reducible refine ws_asg (te := tLst _) ?_)
  | (with_reducible refine ws_asg (te := tLc _ _ _ _ _) ?_)
  | (refine ws_asgE (take_at rfl ?_))
  | (with_reducible refine ws_asg (te := tCall _ _ _ _) ?_)
  | (with_reducible refine ws_asg (te := tMake _ _ _ _ _) ?_)
  | (with_reducible refine ws_asg (te := tSl _ _ _ _) ?_)
  | (with_reducible refine ws_asg (te := tOp rCat _ _) ?_)
  | (with_reducible refine ws_asg (te := tDNewK) ?_)
  | (with_reducible refine ws_asg (wm_list ?_))
  | (with_reducible refine ws_asgE ?_)
  | ((with_reducible show (_ : Int) ≠ 0 ∧ _); (refine ⟨by decide, ?_⟩))
  | ((with_reducible show _ ≤ _ ∧ _); (refine ⟨(by walk_at "side"), ?_⟩))
  | ((with_reducible show _ < _ ∧ _); (refine ⟨(by walk_at "side"), ?_⟩))
  | ((with_reducible show (_ → _) ∧ (_ → _)); first | (refine ⟨fun hb => absurd hb (by walk_at "no"), fun _ => ?_⟩) | (refine ⟨fun _ => ?_, fun hb => absurd hb (by walk_at "no")⟩))
  | ((with_reducible show ∀ p : Addr, ∃ d, Frz (ml p _) d ∧ _); (intro p))
  | ((with_reducible show (slots _).Nodup ∧ _); (refine ⟨by simp [slots], ?_⟩))
  | (refine ⟨_, frz_ml, ?_⟩)
  | (refine ⟨_, frz_fz, ?_⟩)
  | (refine ⟨_, rfl, ?_⟩)
  | (with_reducible refine ⟨_, _, rfl, (by assumption), ?_⟩)
  | (with_reducible refine ⟨_, _, rfl, atI_0, ?_⟩)
  | (with_reducible refine ⟨_, _, rfl, atI_1, ?_⟩)
  | (refine ⟨_, _, rfl, rfl, ?_⟩)
  | (refine ⟨rfl, ?_⟩)
  | (refine Or.inl ⟨_, rfl, ?_⟩)
  | (refine Or.inr ⟨_, rfl, ?_⟩)
  | (refine ⟨_, Or.inl rfl, ?_⟩)
  | (refine ⟨_, Or.inr rfl, ?_⟩)
  | (dsimp only [List.set_cons_zero, List.set_cons_succ]))
local macro_rules | `(tactic| walk_at "z") => `(tactic| (repeat (walk_at "z1"; try dsimp only)))
section
variable {P : Program} {w : World} {K : PySem.W.Frag} {mg : Str → Option Value} {base : Heap}
def sp_copied : FSp := fun args Q => ∃ r, args = [fz (rowD r)] ∧ (rBody r).length ≤ 1000 ∧ Q (fz (rowD r)) args
theorem ok_copied (T : Txt K mg) : FnOk P w K mg base CX0 2 T.copied.a T.copied.fd ["row"] (spF sp_copied) := by
  refine fok T.copied.F sc_copied (fun args Q h => ?_) (fun cdv A outer s H E hr args Q h => ?_)
  · obtain ⟨r, rfl, _⟩ := h
    rfl
  · obtain ⟨r, rfl, hl, q⟩ := h
    refine ⟨_, (pss_cons (ps_if (pt_cmpR op_eq (pe_ix ix_tup (pv 0) pe_int (fun _ _ => rfl)) pe_str (nomark _)) (pss_one (ps_ret (pe_tup (pa_cons pe_str (pa_cons (pe_ix ix_tup (pv 0) pe_int (fun _ _ => rfl)) pa_nil))))) pss_nil)
      (pss_cons (ps_if (pt_cmpR op_eq (pe_ix ix_tup (pv 0) pe_int (fun _ _ => rfl)) pe_str (nomark _)) (pss_one (ps_ret (pe_tup (pa_cons pe_str (pa_cons (pe_ix ix_tup (pv 0) pe_int (fun _ _ => rfl)) (pa_cons (pe_call (ok_body_of T) (hr.mono (by decide)) rfl T.body_of.m T.body_of.F.kp T.body_of.b .nil pass0 (pa_cons (pv 0) pa_nil)) pa_nil)))))) pss_nil)
      (pss_one (ps_ret (pe_tup (pa_cons pe_str (pa_cons (pe_call (ok_body_of T) (hr.mono (by decide)) rfl T.body_of.m T.body_of.F.kp T.body_of.b .nil pass0 (pa_cons (pv 0) pa_nil)) pa_nil))))))), ?_⟩
    show WS _ [some (fz _)] _
    cases r with
    | g w =>
      walk_at "w"
      exact fin1 q
    | r w b =>
      walk_at "w"
      exact fin1 q
    | c b =>
      walk_at "w"
      exact fin1 q

end
end

section
local macro_rules | `(tactic| walk_at "no") => `(tactic| first | (with_reducible exact Bool.false_ne_true) | (with_reducible exact fun z => Bool.false_ne_true z.symm) | (simp only [decide_eq_true_eq, decide_eq_false_iff_not]; omega) | (decide +kernel) | (simp; done) | (simp; omega) | (exact Bool.false_ne_true) | (exact fun z => Bool.false_ne_true z.symm))
local macro_rules | `(tactic| walk_at "side") => `(tactic| first | omega | assumption | (refine Nat.le_trans (m := 100000) ?_ (by decide); first | omega | (simp <;> omega)) | (simp <;> omega))
local macro_rules | `(tactic| walk_at "w1") => `(tactic| first
  | (with_reducible refine ws_seq ?_)
  | (with_reducible refine ws_if ?_)
  | (with_reducible refine ws_nx ?_)
  | (with_reducible refine ws_retN ?_)
  | ((with_reducible show WE (tVar _) _ _); (refine we_var rfl ?_))
  | (with_reducible refine we_int ?_)
  | (with_reducible refine we_str ?_)
  | (with_reducible refine we_bl ?_)
  | (with_reducible refine we_non ?_)
  | (with_reducible refine wt_test ?_)
  | (with_reducible refine wt_B ?_)
  | (with_reducible refine wt_yes ?_)
  | (with_reducible refine wt_and ?_)
  | (with_reducible refine wt_or ?_)
  | (with_reducible refine wt_not ?_)
  | (with_reducible refine we_andV ?_)
  | (with_reducible refine we_orV ?_)
  | (with_reducible refine we_notV ?_)
  | (with_reducible refine we_if ?_)
  | (with_reducible refine we_rB0 ?_)
  | (with_reducible refine we_rI0 ?_)
  | (with_reducible refine we_rI ?_)
  | (with_reducible refine we_eq ?_)
  | (with_reducible refine we_din ?_)
  | (with_reducible refine we_dnotin ?_)
  | (with_reducible refine we_ne ?_)
  | (with_reducible refine we_isN ?_)
  | (with_reducible refine we_notN ?_)
  | (with_reducible refine we_addS ?_)
  | (with_reducible refine we_inC ?_)
  | (with_reducible refine we_inS ?_)
  | (with_reducible refine we_lenS ?_)
  | (with_reducible refine we_all ?_)
  | (with_reducible refine we_any ?_)
  | (with_reducible refine we_join ?_)
  | (with_reducible refine we_tup ?_)
  | (with_reducible refine we_ixL ?_)
  | (with_reducible refine we_ixT ?_)
  | (with_reducible refine we_ixS ?_)
  | (with_reducible refine we_len ?_)
  | (with_reducible refine wa_nil ?_)
  | (with_reducible refine wa_cons ?_)
  | (with_reducible refine wo_none ?_)
  | (with_reducible refine wo_some ?_)
  | (with_reducible refine wm_lst ?_)
  | (with_reducible refine wm_cat ?_)
  | (with_reducible refine wm_slL ?_)
  | (with_reducible refine wm_sortSet ?_)
  | (with_reducible refine we_isi ?_)
  | (with_reducible refine we_int1 ?_)
  | (with_reducible refine we_tupOf ?_)
  | (with_reducible refine we_slT ?_)
  | (with_reducible refine we_min ?_)
  | (with_reducible refine we_eqD ?_)
  | (with_reducible refine we_neD ?_)
  | (with_reducible refine we_ixs ?_)
  | (with_reducible refine we_neg ?_)
  | (with_reducible refine wm_list ?_)
  | (with_reducible refine wm_split ?_)
  | (with_reducible refine wm_dnew ?_)
  | (with_reducible refine take_at rfl ?_)
  | (with_reducible refine wm_call ?_)
  | (with_reducible refine wm_callX (by assumption) ?_)
  | (with_reducible refine wm_callX lets0 ?_)
  | (with_reducible refine wm_make ?_)
  | (with_reducible refine wm_lcL ?_)
  | (with_reducible refine wm_lcSq ?_)
  | (with_reducible refine wm_lcT ?_)
  | (with_reducible refine wm_lcR ?_)
  | (with_reducible refine wm_lcS ?_)
  | (with_reducible refine we_wm (te := tLst _) ?_)
  | (with_reducible refine we_wm (te := tLc _ _ _ _ _) ?_)
  | (refine take_at rfl ?_)
  | (with_reducible refine known_at ?_)
  | (with_reducible refine we_wm (te := tCall _ _ _ _) ?_)
  | (with_reducible refine we_wm (te := tCallS _ _ _) ?_)
  | (with_reducible refine we_wm (te := tSl _ _ _ _) ?_)
  | (with_reducible refine we_wm (te := tOp rCat _ _) ?_)
  | (with_reducible refine we_wm (te := tCB _ _) ?_)
  | (with_reducible refine we_wm (te := tM1 _ _ _) ?_)
  | (with_reducible refine ws_ret (te := tLst _) ?_)
  | (with_reducible refine ws_ret (te := tLc _ _ _ _ _) ?_)
  | (refine ws_retE (take_at rfl ?_))
  | (with_reducible refine ws_ret (te := tCall _ _ _ _) ?_)
  | (with_reducible refine ws_ret (te := tMake _ _ _ _ _) ?_)
  | (with_reducible refine ws_ret (te := tMeth _ _ _ _ _ _ _) ?_)
  | (with_reducible refine ws_ret (te := tSl _ _ _ _) ?_)
  | (with_reducible refine ws_ret (te := tOp rCat _ _) ?_)
  | (with_reducible refine ws_ret (wm_list ?_))
  | (with_reducible refine ws_retE ?_)
  | (with_reducible refine ws_asg (te := tLst _) ?_)
  | (with_reducible refine ws_asg (te := tLc _ _ _ _ _) ?_)
  | (refine ws_asgE (take_at rfl ?_))
  | (with_reducible refine ws_asg (te := tCall _ _ _ _) ?_)
  | (with_reducible refine ws_asg (te := tMake _ _ _ _ _) ?_)
  | (with_reducible refine ws_asg (te := tSl _ _ _ _) ?_)
  | (with_reducible refine ws_asg (te := tOp rCat _ _) ?_)
  | (with_reducible refine ws_asg (te := tDNewK) ?_)
  | (with_reducible refine ws_asg (wm_list ?_))
  | (with_reducible refine ws_asgE ?_)
  | ((with_reducible show _ ≤ _ ∧ _); (refine ⟨(by walk_at "side"), ?_⟩))
  | ((with_reducible show _ < _ ∧ _); (refine ⟨(by walk_at "side"), ?_⟩))
  | ((with_reducible show (_ → _) ∧ (_ → _)); first | (refine ⟨fun hb => absurd hb (by walk_at "no"), fun _ => ?_⟩) | (refine ⟨fun _ => ?_, fun hb => absurd hb (by walk_at "no")⟩))
  | ((with_reducible show ∀ p : Addr, ∃ d, Frz (ml p _) d ∧ _); (intro p))
  | ((with_reducible show (slots _).Nodup ∧ _); (refine ⟨by simp [slots], ?_⟩))
  | (refine ⟨_, frz_ml, ?_⟩)
  | (refine ⟨_, frz_fz, ?_⟩)
  | (refine ⟨_, rfl, ?_⟩)
  | (with_reducible refine ⟨_, _, rfl, atI_0, ?_⟩)
  | (with_reducible refine ⟨_, _, rfl, atI_1, ?_⟩)
  | (refine ⟨_, _, rfl, rfl, ?_⟩)
  | (refine ⟨rfl, ?_⟩)
  | (refine Or.inl ⟨_, rfl, ?_⟩)
  | (refine Or.inr ⟨_, rfl, ?_⟩)
  | (refine ⟨_, Or.inl rfl, ?_⟩)
  | (refine ⟨_, Or.inr rfl, ?_⟩)
  | (dsimp only [List.set_cons_zero, List.set_cons_succ]))
local macro_rules | `(tactic| walk_at "w") => `(tactic| (repeat (walk_at "w1"; try dsimp only)))
local macro_rules | `(tactic| walk_at "z1") => `(tactic| first
  | (with_reducible refine ws_seq ?_)
  | (with_reducible refine ws_if ?_)
  | (with_reducible refine ws_nx ?_)
  | ((with_reducible show WE (tCall _ _ _ _) _ _); first | (with_reducible refine walked_at ?_) | (refine take_at rfl ?_) | (with_reducible refine known_at ?_) | (refine words_at rfl ?_) | (refine row_at rfl ?_) | (refine number_at rfl ?_) | (with_reducible refine is_way_at ?_) | (with_reducible refine law_walks_at ?_) | (refine right_at rfl ?_) | (with_reducible refine we_wm (copied_at ?_)) | (with_reducible refine we_wm (grounds_at ?_)) | (refine we_wm (taken_at rfl ?_)) | (refine we_wm (rows_at rfl ?_)))
  | ((with_reducible show WM (tCall _ _ _ _) _ _); first | (refine wm_we (take_at rfl ?_)) | (refine wm_we (words_at rfl ?_)) | (refine wm_we (row_at rfl ?_)) | (refine wm_we (number_at rfl ?_)) | (with_reducible refine fired_at ?_) | (refine spoilt_at rfl ?_) | (refine wm_we (right_at rfl ?_)) | (refine begun_at rfl (by assumption) ?_) | (refine rows_at rfl ?_) | (with_reducible refine copied_at ?_) | (with_reducible refine grounds_at ?_) | (refine taken_at rfl ?_))
  | ((with_reducible show WM (tCallS _ _ _) _ _); first | (refine way_at rfl ?_))
  | ((with_reducible show WM (tMake _ _ _ _ _) _ _); first | (with_reducible refine book_at ?_))
  | ((with_reducible show WM (tMeth _ _ _ _ _ _ _) _ _); first | (refine tell_at rfl ?_))
  | (with_reducible refine ws_retN ?_)
  | ((with_reducible show WE (tVar _) _ _); first | (refine we_var rfl ?_) | (refine we_varF rfl ?_) | (refine we_varFd rfl ?_))
  | (with_reducible refine we_int ?_)
  | (with_reducible refine we_str ?_)
  | (with_reducible refine we_bl ?_)
  | (with_reducible refine we_non ?_)
  | (with_reducible refine wt_test ?_)
  | (with_reducible refine wt_B ?_)
  | (with_reducible refine wt_yes ?_)
  | (with_reducible refine wt_and ?_)
  | (with_reducible refine wt_or ?_)
  | (with_reducible refine wt_not ?_)
  | (with_reducible refine we_andV ?_)
  | (with_reducible refine we_orV ?_)
  | (with_reducible refine we_notV ?_)
  | (with_reducible refine we_if ?_)
  | (with_reducible refine we_rB0 ?_)
  | (with_reducible refine we_rI0 ?_)
  | (with_reducible refine we_rI ?_)
  | (with_reducible refine we_eq ?_)
  | (with_reducible refine we_din ?_)
  | (with_reducible refine we_dnotin ?_)
  | (with_reducible refine we_ne ?_)
  | ((with_reducible show WE (tOp _ (tVar _) (tC .non)) _ _); first | (refine we_isNM rfl ?_) | (refine we_notNM rfl ?_))
  | (with_reducible refine we_isN ?_)
  | (with_reducible refine we_notN ?_)
  | (with_reducible refine we_addS ?_)
  | (with_reducible refine we_inC ?_)
  | (with_reducible refine we_inS ?_)
  | (with_reducible refine we_lenS ?_)
  | (with_reducible refine we_all ?_)
  | (with_reducible refine we_any ?_)
  | (with_reducible refine we_join ?_)
  | (with_reducible refine we_tup ?_)
  | (with_reducible refine we_ixL ?_)
  | (with_reducible refine we_ixT ?_)
  | (with_reducible refine we_ixS ?_)
  | (with_reducible refine we_len ?_)
  | (with_reducible refine wa_nil ?_)
  | ((with_reducible show WA (tCons (tVar _) _) _ _); first | (refine wa_cons (we_var rfl ?_)) | (refine wa_slot (r := bk _ _ _ _) rfl ?_) | (refine wa_slot (r := bx _) rfl ?_) | (refine wa_slot (r := md _ _) rfl ?_) | (refine wa_cons (we_varF rfl ?_)))
  | (with_reducible refine wa_cons ?_)
  | (with_reducible refine wo_none ?_)
  | (with_reducible refine wo_some ?_)
  | (with_reducible refine wm_lst ?_)
  | (with_reducible refine wm_cat ?_)
  | (with_reducible refine wm_slL ?_)
  | (with_reducible refine wm_sortSet ?_)
  | (with_reducible refine we_isi ?_)
  | (with_reducible refine we_int1 ?_)
  | (with_reducible refine we_tupOf ?_)
  | (with_reducible refine we_slT ?_)
  | (with_reducible refine we_min ?_)
  | (with_reducible refine we_eqD ?_)
  | (with_reducible refine we_neD ?_)
  | (with_reducible refine we_ixs ?_)
  | (with_reducible refine we_neg ?_)
  | (with_reducible refine wm_list ?_)
  | (with_reducible refine wm_split ?_)
  | (with_reducible refine wm_dnew ?_)
  | (with_reducible refine take_at rfl ?_)
  | (with_reducible refine wm_call ?_)
  | (with_reducible refine wm_callX (by assumption) ?_)
  | (with_reducible refine wm_callX lets0 ?_)
  | (with_reducible refine wm_make ?_)
  | (with_reducible refine wm_lcL ?_)
  | (with_reducible refine wm_lcSq ?_)
  | (with_reducible refine wm_lcT ?_)
  | (with_reducible refine wm_lcR ?_)
  | (with_reducible refine wm_lcS ?_)
  | (with_reducible refine we_wm (te := tLst _) ?_)
  | (with_reducible refine we_wm (te := tLc _ _ _ _ _) ?_)
  | (refine take_at rfl ?_)
  | (with_reducible refine known_at ?_)
  | (with_reducible refine we_wm (te := tCall _ _ _ _) ?_)
  | (with_reducible refine we_wm (te := tCallS _ _ _) ?_)
  | (with_reducible refine ws_asg (te := tCallS _ _ _) ?_)
  | (with_reducible refine ws_asg (te := tMeth _ _ _ _ _ _ _) ?_)
  | (with_reducible refine ws_drop (te := tMeth _ _ _ _ _ _ _) ?_)
  | (with_reducible refine ws_drop (te := tCallS _ _ _) ?_)
  | (with_reducible refine we_wm (te := tSl _ _ _ _) ?_)
  | (with_reducible refine we_wm (te := tOp rCat _ _) ?_)
  | (with_reducible refine we_wm (te := tCB _ _) ?_)
  | (with_reducible refine we_wm (te := tM1 _ _ _) ?_)
  | (with_reducible refine ws_ret (te := tLst _) ?_)
  | (with_reducible refine ws_ret (te := tLc _ _ _ _ _) ?_)
  | (refine ws_retE (take_at rfl ?_))
  | (with_reducible refine ws_ret (te := tCall _ _ _ _) ?_)
  | (with_reducible refine ws_ret (te := tMake _ _ _ _ _) ?_)
  | (with_reducible refine ws_ret (te := tMeth _ _ _ _ _ _ _) ?_)
  | (with_reducible refine ws_ret (te := tSl _ _ _ _) ?_)
  | (with_reducible refine ws_ret (te := tOp rCat _ _) ?_)
  | (with_reducible refine ws_ret (wm_list ?_))
  | (with_reducible refine ws_retE ?_)
  | (with_reducible refine ws_asg (te := tLst _) ?_)
  | (with_reducible refine ws_asg (te := tLc _ _ _ _ _) ?_)
  | (refine ws_asgE (take_at rfl ?_))
  | (with_reducible refine ws_asg (te := tCall _ _ _ _) ?_)
  | (with_reducible refine ws_asg (te := tMake _ _ _ _ _) ?_)
  | (with_reducible refine ws_asg (te := tSl _ _ _ _) ?_)
  | (with_reducible refine ws_asg (te := tOp rCat _ _) ?_)
  | (with_reducible refine ws_asg (te := tDNewK) ?_)
  | (with_reducible refine ws_asg (wm_list ?_))
  | (with_reducible refine ws_asgE ?_)
  | ((with_reducible show (_ : Int) ≠ 0 ∧ _); (refine ⟨by decide, ?_⟩))
  | ((with_reducible show _ ≤ _ ∧ _); (refine ⟨(by walk_at "side"), ?_⟩))
  | ((with_reducible show _ < _ ∧ _); (refine ⟨(by walk_at "side"), ?_⟩))
  | ((with_reducible show (_ → _) ∧ (_ → _)); first | (refine ⟨fun hb => absurd hb (by walk_at "no"), fun _ => ?_⟩) | (refine ⟨fun _ => ?_, fun hb => absurd hb (by walk_at "no")⟩))
  | ((with_reducible show ∀ p : Addr, ∃ d, Frz (ml p _) d ∧ _); (intro p))
  | ((with_reducible show (slots _).Nodup ∧ _); (refine ⟨by simp [slots], ?_⟩))
  | (refine ⟨_, frz_ml, ?_⟩)
  | (refine ⟨_, frz_fz, ?_⟩)
  | (refine ⟨_, rfl, ?_⟩)
  | (with_reducible refine ⟨_, _, rfl, (by assumption), ?_⟩)
  | (with_reducible refine ⟨_, _, rfl, atI_0, ?_⟩)
  | (with_reducible refine ⟨_, _, rfl, atI_1, ?_⟩)
  | (refine ⟨_, _, rfl, rfl, ?_⟩)
  | (refine ⟨rfl, ?_⟩)
  | (refine Or.inl ⟨_, rfl, ?_⟩)
  | (refine Or.inr ⟨_, rfl, ?_⟩)
  | (refine ⟨_, Or.inl rfl, ?_⟩)
  | (refine ⟨_, Or.inr rfl, ?_⟩)
  | (dsimp only [List.set_cons_zero, List.set_cons_succ]))
local macro_rules | `(tactic| walk_at "z") => `(tactic| (repeat (walk_at "z1"; try dsimp only)))
section
variable {P : Program} {w : World} {K : PySem.W.Frag} {mg : Str → Option Value} {base : Heap}
def sp_is_word : FSp := fun args Q => ∃ x : Str, args = [fz (.str x)] ∧ x.length ≤ 10000 ∧ Q (fz (.bool (isWordB x))) args
theorem ok_is_word (T : Txt K mg) : FnOk P w K mg base CX0 1 T.is_word.a T.is_word.fd ["text"] (spF sp_is_word) := by
  refine fok T.is_word.F sc_is_word (fun args Q h => ?_) (fun cdv A outer s H E hr args Q h => ?_)
  · obtain ⟨x, rfl, _⟩ := h
    rfl
  · obtain ⟨x, rfl, hx, q⟩ := h
    refine ⟨_, (pss_cons (ps_if (PW.pt (pw_or (pt_cmpR op_lt (pe_callB call_len_str (by rfl) T.b_len (by decide +kernel) (pa_cons (pv 0) pa_nil)) pe_int (nomark _)) (pw_or1 (pt_cmpR op_gt (pe_callB call_len_str (by rfl) T.b_len (by decide +kernel) (pa_cons (pv 0) pa_nil)) pe_int (nomark _))))) (pss_one (ps_ret pe_bl)) pss_nil)
      (pss_one (ps_ret (pe_callB (cr_all rfl) (by rfl) T.b_all (by decide +kernel) (pa_cons (pe_lc (own := [("sign", 1)]) (g := gName 1) (tt := tYes) rfl sc_is_word.nd (pi_str (pv 0)) (blkOk_by (own := [("sign", 1)]) (N := N_is_word) (sc := defScope s_is_word) (by decide +kernel)) (fun _ _ _ _ _ => pg_name (i := 1) sc_is_word.nd rfl (Or.inl rfl)) (fun _ _ _ _ _ => pts_nil) (fun _ _ _ _ _ => (pe_cmpR op_in_sign (pv 1) (pe_glob (v := .str "abcdefghijklmnopqrstuvwxyz") rfl T.c_LETTERS ⟨_, rfl⟩) (by rfl)))) pa_nil))))), ?_⟩
    show WS _ [some (fz _), none] _
    have one : ∀ b : Bool, isWordB x = b → Fin [fz (.str x)] Q (fz (.bool b)) [some (fz (.str x)), none] := fun b e => by
      subst e
      exact fin1 q
    refine ws_seq (ws_if ?_)
    walk_at "w"
    by_cases h1 : x.length < 1
    · refine ⟨fun _ => ?_, fun hb => absurd hb (by simp; omega)⟩
      walk_at "w"
      exact one false (by unfold isWordB; rw [decide_eq_false (by omega)]; rfl)
    · refine ⟨fun hb => absurd (of_decide_eq_true hb) (by omega), fun _ => ?_⟩
      walk_at "w"
      by_cases h6 : 6 < x.length
      · refine ⟨fun _ => ?_, fun hb => absurd (of_decide_eq_false hb) (by omega)⟩
        walk_at "w"
        exact one false (by unfold isWordB; rw [decide_eq_false (show ¬ x.length ≤ 6 by omega), Bool.and_false]; rfl)
      · refine ⟨fun hb => absurd (of_decide_eq_true hb) (by omega), fun _ => ?_⟩
        walk_at "w"
        refine lcI_bools (fun d => match d with | .str y => y.cps.toList.all fun c => decide (c ∈ lettersS.cps.toList) | _ => false) (by decide) rfl (by rw [DV.signs_length]; omega) (fun d hd => ?_) rfl ?_
        · obtain ⟨c, hc, rfl⟩ := mem_signs hd
          walk_at "w"
          exact ⟨by simp [lettersS], rfl⟩
        · have e : ((DV.signs x).map fun d => match d with | .str y => y.cps.toList.all fun c => decide (c ∈ lettersS.cps.toList) | _ => false).all id = isWordB x := by
            unfold isWordB
            rw [decide_eq_true (show 1 ≤ x.length by omega), decide_eq_true (show x.length ≤ 6 by omega)]
            simp [DV.signs, Function.comp_def]
          exact one _ e.symm

end
end

section
local macro_rules | `(tactic| walk_at "no") => `(tactic| first | (with_reducible exact Bool.false_ne_true) | (with_reducible exact fun z => Bool.false_ne_true z.symm) | (simp only [decide_eq_true_eq, decide_eq_false_iff_not]; omega) | (decide +kernel) | (simp; done) | (simp; omega) | (exact Bool.false_ne_true) | (exact fun z => Bool.false_ne_true z.symm))
local macro_rules | `(tactic| walk_at "side") => `(tactic| first | omega | assumption | (refine Nat.le_trans (m := 100000) ?_ (by decide); first | omega | (simp <;> omega)) | (simp <;> omega))
local macro_rules | `(tactic| walk_at "w1") => `(tactic| first
  | (with_reducible refine ws_seq ?_)
  | (with_reducible refine ws_if ?_)
  | (with_reducible refine ws_nx ?_)
  | (with_reducible refine ws_retN ?_)
  | ((with_reducible show WE (tVar _) _ _); (refine we_var rfl ?_))
  | (with_reducible refine we_int ?_)
  | (with_reducible refine we_str ?_)
  | (with_reducible refine we_bl ?_)
  | (with_reducible refine we_non ?_)
  | (with_reducible refine wt_test ?_)
  | (with_reducible refine wt_B ?_)
  | (with_reducible refine wt_yes ?_)
  | (with_reducible refine wt_and ?_)
  | (with_reducible refine wt_or ?_)
  | (with_reducible refine wt_not ?_)
  | (with_reducible refine we_andV ?_)
  | (with_reducible refine we_orV ?_)
  | (with_reducible refine we_notV ?_)
  | (with_reducible refine we_if ?_)
  | (with_reducible refine we_rB0 ?_)
  | (with_reducible refine we_rI0 ?_)
  | (with_reducible refine we_rI ?_)
  | (with_reducible refine we_eq ?_)
  | (with_reducible refine we_din ?_)
  | (with_reducible refine we_dnotin ?_)
  | (with_reducible refine we_ne ?_)
  | (with_reducible refine we_isN ?_)
  | (with_reducible refine we_notN ?_)
  | (with_reducible refine we_addS ?_)
  | (with_reducible refine we_inC ?_)
  | (with_reducible refine we_inS ?_)
  | (with_reducible refine we_lenS ?_)
  | (with_reducible refine we_all ?_)
  | (with_reducible refine we_any ?_)
  | (with_reducible refine we_join ?_)
  | (with_reducible refine we_tup ?_)
  | (with_reducible refine we_ixL ?_)
  | (with_reducible refine we_ixT ?_)
  | (with_reducible refine we_ixS ?_)
  | (with_reducible refine we_len ?_)
  | (with_reducible refine wa_nil ?_)
  | (with_reducible refine wa_cons ?_)
  | (with_reducible refine wo_none ?_)
  | (with_reducible refine wo_some ?_)
  | (with_reducible refine wm_lst ?_)
  | (with_reducible refine wm_cat ?_)
  | (with_reducible refine wm_slL ?_)
  | (with_reducible refine wm_sortSet ?_)
  | (with_reducible refine we_isi ?_)
  | (with_reducible refine we_int1 ?_)
  | (with_reducible refine we_tupOf ?_)
  | (with_reducible refine we_slT ?_)
  | (with_reducible refine we_min ?_)
  | (with_reducible refine we_eqD ?_)
  | (with_reducible refine we_neD ?_)
  | (with_reducible refine we_ixs ?_)
  | (with_reducible refine we_neg ?_)
  | (with_reducible refine wm_list ?_)
  | (with_reducible refine wm_split ?_)
  | (with_reducible refine wm_dnew ?_)
  | (with_reducible refine take_at rfl ?_)
  | (with_reducible refine wm_call ?_)
  | (with_reducible refine wm_callX (by assumption) ?_)
  | (with_reducible refine wm_callX lets0 ?_)
  | (with_reducible refine wm_make ?_)
  | (with_reducible refine wm_lcL ?_)
  | (with_reducible refine wm_lcSq ?_)
  | (with_reducible refine wm_lcT ?_)
  | (with_reducible refine wm_lcR ?_)
  | (with_reducible refine wm_lcS ?_)
  | (with_reducible refine we_wm (te := tLst _) ?_)
  | (with_reducible refine we_wm (te := tLc _ _ _ _ _) ?_)
  | (refine take_at rfl ?_)
  | (with_reducible refine known_at ?_)
  | (with_reducible refine we_wm (te := tCall _ _ _ _) ?_)
  | (with_reducible refine we_wm (te := tCallS _ _ _) ?_)
  | (with_reducible refine we_wm (te := tSl _ _ _ _) ?_)
  | (with_reducible refine we_wm (te := tOp rCat _ _) ?_)
  | (with_reducible refine we_wm (te := tCB _ _) ?_)
  | (with_reducible refine we_wm (te := tM1 _ _ _) ?_)
  | (with_reducible refine ws_ret (te := tLst _) ?_)
  | (with_reducible refine ws_ret (te := tLc _ _ _ _ _) ?_)
  | (refine ws_retE (take_at rfl ?_))
  | (with_reducible refine ws_ret (te := tCall _ _ _ _) ?_)
  | (with_reducible refine ws_ret (te := tMake _ _ _ _ _) ?_)
  | (with_reducible refine ws_ret (te := tMeth _ _ _ _ _ _ _) ?_)
  | (with_reducible refine ws_ret (te := tSl _ _ _ _) ?_)
  | (with_reducible refine ws_ret (te := tOp rCat _ _) ?_)
  | (with_reducible refine ws_ret (wm_list ?_))
  | (with_reducible refine ws_retE ?_)
  | (with_reducible refine ws_asg (te := tLst _) ?_)
  | (with_reducible refine ws_asg (te := tLc _ _ _ _ _) ?_)
  | (refine ws_asgE (take_at rfl ?_))
  | (with_reducible refine ws_asg (te := tCall _ _ _ _) ?_)
  | (with_reducible refine ws_asg (te := tMake _ _ _ _ _) ?_)
  | (with_reducible refine ws_asg (te := tSl _ _ _ _) ?_)
  | (with_reducible refine ws_asg (te := tOp rCat _ _) ?_)
  | (with_reducible refine ws_asg (te := tDNewK) ?_)
  | (with_reducible refine ws_asg (wm_list ?_))
  | (with_reducible refine ws_asgE ?_)
  | ((with_reducible show _ ≤ _ ∧ _); (refine ⟨(by walk_at "side"), ?_⟩))
  | ((with_reducible show _ < _ ∧ _); (refine ⟨(by walk_at "side"), ?_⟩))
  | ((with_reducible show (_ → _) ∧ (_ → _)); first | (refine ⟨fun hb => absurd hb (by walk_at "no"), fun _ => ?_⟩) | (refine ⟨fun _ => ?_, fun hb => absurd hb (by walk_at "no")⟩))
  | ((with_reducible show ∀ p : Addr, ∃ d, Frz (ml p _) d ∧ _); (intro p))
  | ((with_reducible show (slots _).Nodup ∧ _); (refine ⟨by simp [slots], ?_⟩))
  | (refine ⟨_, frz_ml, ?_⟩)
  | (refine ⟨_, frz_fz, ?_⟩)
  | (refine ⟨_, rfl, ?_⟩)
  | (with_reducible refine ⟨_, _, rfl, atI_0, ?_⟩)
  | (with_reducible refine ⟨_, _, rfl, atI_1, ?_⟩)
  | (refine ⟨_, _, rfl, rfl, ?_⟩)
  | (refine ⟨rfl, ?_⟩)
  | (refine Or.inl ⟨_, rfl, ?_⟩)
  | (refine Or.inr ⟨_, rfl, ?_⟩)
  | (refine ⟨_, Or.inl rfl, ?_⟩)
  | (refine ⟨_, Or.inr rfl, ?_⟩)
  | (dsimp only [List.set_cons_zero, List.set_cons_succ]))
local macro_rules | `(tactic| walk_at "w") => `(tactic| (repeat (walk_at "w1"; try dsimp only)))
local macro_rules | `(tactic| walk_at "z1") => `(tactic| first
  | (with_reducible refine ws_seq ?_)
  | (with_reducible refine ws_if ?_)
  | (with_reducible refine ws_nx ?_)
  | ((with_reducible show WE (tCall _ _ _ _) _ _); first | (with_reducible refine walked_at ?_) | (refine take_at rfl ?_) | (with_reducible refine known_at ?_) | (refine words_at rfl ?_) | (refine row_at rfl ?_) | (refine number_at rfl ?_) | (with_reducible refine is_way_at ?_) | (with_reducible refine law_walks_at ?_) | (refine right_at rfl ?_) | (with_reducible refine we_wm (copied_at ?_)) | (with_reducible refine we_wm (grounds_at ?_)) | (refine we_wm (taken_at rfl ?_)) | (refine we_wm (rows_at rfl ?_)))
  | ((with_reducible show WM (tCall _ _ _ _) _ _); first | (refine wm_we (take_at rfl ?_)) | (refine wm_we (words_at rfl ?_)) | (refine wm_we (row_at rfl ?_)) | (refine wm_we (number_at rfl ?_)) | (with_reducible refine fired_at ?_) | (refine spoilt_at rfl ?_) | (refine wm_we (right_at rfl ?_)) | (refine begun_at rfl (by assumption) ?_) | (refine rows_at rfl ?_) | (with_reducible refine copied_at ?_) | (with_reducible refine grounds_at ?_) | (refine taken_at rfl ?_))
  | ((with_reducible show WM (tCallS _ _ _) _ _); first | (refine way_at rfl ?_))
  | ((with_reducible show WM (tMake _ _ _ _ _) _ _); first | (with_reducible refine book_at ?_))
  | ((with_reducible show WM (tMeth _ _ _ _ _ _ _) _ _); first | (refine tell_at rfl ?_))
  | (with_reducible refine ws_retN ?_)
  | ((with_reducible show WE (tVar _) _ _); first | (refine we_var rfl ?_) | (refine we_varF rfl ?_) | (refine we_varFd rfl ?_))
  | (with_reducible refine we_int ?_)
  | (with_reducible refine we_str ?_)
  | (with_reducible refine we_bl ?_)
  | (with_reducible refine we_non ?_)
  | (with_reducible refine wt_test ?_)
  | (with_reducible refine wt_B ?_)
  | (with_reducible refine wt_yes ?_)
  | (with_reducible refine wt_and ?_)
  | (with_reducible refine wt_or ?_)
  | (with_reducible refine wt_not ?_)
  | (with_reducible refine we_andV ?_)
  | (with_reducible refine we_orV ?_)
  | (with_reducible refine we_notV ?_)
  | (with_reducible refine we_if ?_)
  | (with_reducible refine we_rB0 ?_)
  | (with_reducible refine we_rI0 ?_)
  | (with_reducible refine we_rI ?_)
  | (with_reducible refine we_eq ?_)
  | (with_reducible refine we_din ?_)
  | (with_reducible refine we_dnotin ?_)
  | (with_reducible refine we_ne ?_)
  | ((with_reducible show WE (tOp _ (tVar _) (tC .non)) _ _); first | (refine we_isNM rfl ?_) | (refine we_notNM rfl ?_))
  | (with_reducible refine we_isN ?_)
  | (with_reducible refine we_notN ?_)
  | (with_reducible refine we_addS ?_)
  | (with_reducible refine we_inC ?_)
  | (with_reducible refine we_inS ?_)
  | (with_reducible refine we_lenS ?_)
  | (with_reducible refine we_all ?_)
  | (with_reducible refine we_any ?_)
  | (with_reducible refine we_join ?_)
  | (with_reducible refine we_tup ?_)
  | (with_reducible refine we_ixL ?_)
  | (with_reducible refine we_ixT ?_)
  | (with_reducible refine we_ixS ?_)
  | (with_reducible refine we_len ?_)
  | (with_reducible refine wa_nil ?_)
  | ((with_reducible show WA (tCons (tVar _) _) _ _); first | (refine wa_cons (we_var rfl ?_)) | (refine wa_slot (r := bk _ _ _ _) rfl ?_) | (refine wa_slot (r := bx _) rfl ?_) | (refine wa_slot (r := md _ _) rfl ?_) | (refine wa_cons (we_varF rfl ?_)))
  | (with_reducible refine wa_cons ?_)
  | (with_reducible refine wo_none ?_)
  | (with_reducible refine wo_some ?_)
  | (with_reducible refine wm_lst ?_)
  | (with_reducible refine wm_cat ?_)
  | (with_reducible refine wm_slL ?_)
  | (with_reducible refine wm_sortSet ?_)
  | (with_reducible refine we_isi ?_)
  | (with_reducible refine we_int1 ?_)
  | (with_reducible refine we_tupOf ?_)
  | (with_reducible refine we_slT ?_)
  | (with_reducible refine we_min ?_)
  | (with_reducible refine we_eqD ?_)
  | (with_reducible refine we_neD ?_)
  | (with_reducible refine we_ixs ?_)
  | (with_reducible refine we_neg ?_)
  | (with_reducible refine wm_list ?_)
  | (with_reducible refine wm_split ?_)
  | (with_reducible refine wm_dnew ?_)
  | (with_reducible refine take_at rfl ?_)
  | (with_reducible refine wm_call ?_)
  | (with_reducible refine wm_callX (by assumption) ?_)
  | (with_reducible refine wm_callX lets0 ?_)
  | (with_reducible refine wm_make ?_)
  | (with_reducible refine wm_lcL ?_)
  | (with_reducible refine wm_lcSq ?_)
  | (with_reducible refine wm_lcT ?_)
  | (with_reducible refine wm_lcR ?_)
  | (with_reducible refine wm_lcS ?_)
  | (with_reducible refine we_wm (te := tLst _) ?_)
  | (with_reducible refine we_wm (te := tLc _ _ _ _ _) ?_)
  | (refine take_at rfl ?_)
  | (with_reducible refine known_at ?_)
  | (with_reducible refine we_wm (te := tCall _ _ _ _) ?_)
  | (with_reducible refine we_wm (te := tCallS _ _ _) ?_)
  | (with_reducible refine ws_asg (te := tCallS _ _ _) ?_)
  | (with_reducible refine ws_asg (te := tMeth _ _ _ _ _ _ _) ?_)
  | (with_reducible refine ws_drop (te := tMeth _ _ _ _ _ _ _) ?_)
  | (with_reducible refine ws_drop (te := tCallS _ _ _) ?_)
  | (with_reducible refine we_wm (te := tSl _ _ _ _) ?_)
  | (with_reducible refine we_wm (te := tOp rCat _ _) ?_)
  | (with_reducible refine we_wm (te := tCB _ _) ?_)
  | (with_reducible refine we_wm (te := tM1 _ _ _) ?_)
  | (with_reducible refine ws_ret (te := tLst _) ?_)
  | (with_reducible refine ws_ret (te := tLc _ _ _ _ _) ?_)
  | (refine ws_retE (take_at rfl ?_))
  | (with_reducible refine ws_ret (te := tCall _ _ _ _) ?_)
  | (with_reducible refine ws_ret (te := tMake _ _ _ _ _) ?_)
  | (with_reducible refine ws_ret (te := tMeth _ _ _ _ _ _ _) ?_)
  | (with_reducible refine ws_ret (te := tSl _ _ _ _) ?_)
  | (with_reducible refine ws_ret (te := tOp rCat _ _) ?_)
  | (with_reducible refine ws_ret (wm_list ?_))
  | (with_reducible refine ws_retE ?_)
  | (with_reducible refine ws_asg (te := tLst _) ?_)
  | (with_reducible refine ws_asg (te := tLc _ _ _ _ _) ?_)
  | (refine ws_asgE (take_at rfl ?_))
  | (with_reducible refine ws_asg (te := tCall _ _ _ _) ?_)
  | (with_reducible refine ws_asg (te := tMake _ _ _ _ _) ?_)
  | (with_reducible refine ws_asg (te := tSl _ _ _ _) ?_)
  | (with_reducible refine ws_asg (te := tOp rCat _ _) ?_)
  | (with_reducible refine ws_asg (te := tDNewK) ?_)
  | (with_reducible refine ws_asg (wm_list ?_))
  | (with_reducible refine ws_asgE ?_)
  | ((with_reducible show (_ : Int) ≠ 0 ∧ _); (refine ⟨by decide, ?_⟩))
  | ((with_reducible show _ ≤ _ ∧ _); (refine ⟨(by walk_at "side"), ?_⟩))
  | ((with_reducible show _ < _ ∧ _); (refine ⟨(by walk_at "side"), ?_⟩))
  | ((with_reducible show (_ → _) ∧ (_ → _)); first | (refine ⟨fun hb => absurd hb (by walk_at "no"), fun _ => ?_⟩) | (refine ⟨fun _ => ?_, fun hb => absurd hb (by walk_at "no")⟩))
  | ((with_reducible show ∀ p : Addr, ∃ d, Frz (ml p _) d ∧ _); (intro p))
  | ((with_reducible show (slots _).Nodup ∧ _); (refine ⟨by simp [slots], ?_⟩))
  | (refine ⟨_, frz_ml, ?_⟩)
  | (refine ⟨_, frz_fz, ?_⟩)
  | (refine ⟨_, rfl, ?_⟩)
  | (with_reducible refine ⟨_, _, rfl, (by assumption), ?_⟩)
  | (with_reducible refine ⟨_, _, rfl, atI_0, ?_⟩)
  | (with_reducible refine ⟨_, _, rfl, atI_1, ?_⟩)
  | (refine ⟨_, _, rfl, rfl, ?_⟩)
  | (refine ⟨rfl, ?_⟩)
  | (refine Or.inl ⟨_, rfl, ?_⟩)
  | (refine Or.inr ⟨_, rfl, ?_⟩)
  | (refine ⟨_, Or.inl rfl, ?_⟩)
  | (refine ⟨_, Or.inr rfl, ?_⟩)
  | (dsimp only [List.set_cons_zero, List.set_cons_succ]))
local macro_rules | `(tactic| walk_at "z") => `(tactic| (repeat (walk_at "z1"; try dsimp only)))
section
variable {P : Program} {w : World} {K : PySem.W.Frag} {mg : Str → Option Value} {base : Heap}
def sp_words_of : FSp := fun args Q => ∃ r, args = [fz (rowD r)] ∧ (rBody r).length ≤ 1000 ∧ ∀ p, Q (ml p ((rWords r).map .str)) args
theorem ok_words_of (T : Txt K mg) : FnOk P w K mg base CX0 2 T.words_of.a T.words_of.fd ["row"] (spF sp_words_of) := by
  refine fok T.words_of.F sc_words_of (fun args Q h => ?_) (fun cdv A outer s H E hr args Q h => ?_)
  · obtain ⟨r, rfl, _⟩ := h
    rfl
  · obtain ⟨r, rfl, hl, q⟩ := h
    refine ⟨_, (pss_cons (ps_if (pt_cmpR op_eq (pe_ix ix_tup (pv 0) pe_int (fun _ _ => rfl)) pe_str (nomark _)) (pss_one (ps_ret (pe_call (ok_body_of T) (hr.mono (by decide)) rfl T.body_of.m T.body_of.F.kp T.body_of.b .nil pass0 (pa_cons (pv 0) pa_nil)))) pss_nil)
      (pss_one (ps_ret (pe_op op_cat (pe_lst (pa_cons (pe_ix ix_tup (pv 0) pe_int (fun _ _ => rfl)) pa_nil)) (pe_call (ok_body_of T) (hr.mono (by decide)) rfl T.body_of.m T.body_of.F.kp T.body_of.b .nil pass0 (pa_cons (pv 0) pa_nil)))))), ?_⟩
    show WS _ [some (fz _)] _
    cases r with
    | g w =>
      walk_at "w"
      exact fun p => fin1 (q p)
    | r w b =>
      have hb : b.length ≤ 1000 := hl
      walk_at "w"
      exact fun p => fin1 (by simpa [rWords, rBody] using q p)
    | c b =>
      walk_at "w"
      exact fun p => fin1 (q p)

end
end

section
local macro_rules | `(tactic| walk_at "no") => `(tactic| first | (with_reducible exact Bool.false_ne_true) | (with_reducible exact fun z => Bool.false_ne_true z.symm) | (simp only [decide_eq_true_eq, decide_eq_false_iff_not]; omega) | (decide +kernel) | (simp; done) | (simp; omega) | (exact Bool.false_ne_true) | (exact fun z => Bool.false_ne_true z.symm))
local macro_rules | `(tactic| walk_at "side") => `(tactic| first | omega | assumption | (refine Nat.le_trans (m := 100000) ?_ (by decide); first | omega | (simp <;> omega)) | (simp <;> omega))
local macro_rules | `(tactic| walk_at "w1") => `(tactic| first
  | (with_reducible refine ws_seq ?_)
  | (with_reducible refine ws_if ?_)
  | (with_reducible refine ws_nx ?_)
  | (with_reducible refine ws_retN ?_)
  | ((with_reducible show WE (tVar _) _ _); (refine we_var rfl ?_))
  | (with_reducible refine we_int ?_)
  | (with_reducible refine we_str ?_)
  | (with_reducible refine we_bl ?_)
  | (with_reducible refine we_non ?_)
  | (with_reducible refine wt_test ?_)
  | (with_reducible refine wt_B ?_)
  | (with_reducible refine wt_yes ?_)
  | (with_reducible refine wt_and ?_)
  | (with_reducible refine wt_or ?_)
  | (with_reducible refine wt_not ?_)
  | (with_reducible refine we_andV ?_)
  | (with_reducible refine we_orV ?_)
  | (with_reducible refine we_notV ?_)
  | (with_reducible refine we_if ?_)
  | (with_reducible refine we_rB0 ?_)
  | (with_reducible refine we_rI0 ?_)
  | (with_reducible refine we_rI ?_)
  | (with_reducible refine we_eq ?_)
  | (with_reducible refine we_din ?_)
  | (with_reducible refine we_dnotin ?_)
  | (with_reducible refine we_ne ?_)
  | (with_reducible refine we_isN ?_)
  | (with_reducible refine we_notN ?_)
  | (with_reducible refine we_addS ?_)
  | (with_reducible refine we_inC ?_)
  | (with_reducible refine we_inS ?_)
  | (with_reducible refine we_lenS ?_)
  | (with_reducible refine we_all ?_)
  | (with_reducible refine we_any ?_)
  | (with_reducible refine we_join ?_)
  | (with_reducible refine we_tup ?_)
  | (with_reducible refine we_ixL ?_)
  | (with_reducible refine we_ixT ?_)
  | (with_reducible refine we_ixS ?_)
  | (with_reducible refine we_len ?_)
  | (with_reducible refine wa_nil ?_)
  | (with_reducible refine wa_cons ?_)
  | (with_reducible refine wo_none ?_)
  | (with_reducible refine wo_some ?_)
  | (with_reducible refine wm_lst ?_)
  | (with_reducible refine wm_cat ?_)
  | (with_reducible refine wm_slL ?_)
  | (with_reducible refine wm_sortSet ?_)
  | (with_reducible refine we_isi ?_)
  | (with_reducible refine we_int1 ?_)
  | (with_reducible refine we_tupOf ?_)
  | (with_reducible refine we_slT ?_)
  | (with_reducible refine we_min ?_)
  | (with_reducible refine we_eqD ?_)
  | (with_reducible refine we_neD ?_)
  | (with_reducible refine we_ixs ?_)
  | (with_reducible refine we_neg ?_)
  | (with_reducible refine wm_list ?_)
  | (with_reducible refine wm_split ?_)
  | (with_reducible refine wm_dnew ?_)
  | (with_reducible refine take_at rfl ?_)
  | (with_reducible refine wm_call ?_)
  | (with_reducible refine wm_callX (by assumption) ?_)
  | (with_reducible refine wm_callX lets0 ?_)
  | (with_reducible refine wm_make ?_)
  | (with_reducible refine wm_lcL ?_)
  | (with_reducible refine wm_lcSq ?_)
  | (with_reducible refine wm_lcT ?_)
  | (with_reducible refine wm_lcR ?_)
  | (with_reducible refine wm_lcS ?_)
  | (with_reducible refine we_wm (te := tLst _) ?_)
  | (with_reducible refine we_wm (te := tLc _ _ _ _ _) ?_)
  | (refine take_at rfl ?_)
  | (with_reducible refine known_at ?_)
  | (with_reducible refine we_wm (te := tCall _ _ _ _) ?_)
  | (with_reducible refine we_wm (te := tCallS _ _ _) ?_)
  | (with_reducible refine we_wm (te := tSl _ _ _ _) ?_)
  | (with_reducible refine we_wm (te := tOp rCat _ _) ?_)
  | (with_reducible refine we_wm (te := tCB _ _) ?_)
  | (with_reducible refine we_wm (te := tM1 _ _ _) ?_)
  | (with_reducible refine ws_ret (te := tLst _) ?_)
  | (with_reducible refine ws_ret (te := tLc _ _ _ _ _) ?_)
  | (refine ws_retE (take_at rfl ?_))
  | (with_reducible refine ws_ret (te := tCall _ _ _ _) ?_)
  | (with_reducible refine ws_ret (te := tMake _ _ _ _ _) ?_)
  | (with_reducible refine ws_ret (te := tMeth _ _ _ _ _ _ _) ?_)
  | (with_reducible refine ws_ret (te := tSl _ _ _ _) ?_)
  | (with_reducible refine ws_ret (te := tOp rCat _ _) ?_)
  | (with_reducible refine ws_ret (wm_list ?_))
  | (with_reducible refine ws_retE ?_)
  | (with_reducible refine ws_asg (te := tLst _) ?_)
  | (with_reducible refine ws_asg (te := tLc _ _ _ _ _) ?_)
  | (refine ws_asgE (take_at rfl ?_))
  | (with_reducible refine ws_asg (te := tCall _ _ _ _) ?_)
  | (with_reducible refine ws_asg (te := tMake _ _ _ _ _) ?_)
  | (with_reducible refine ws_asg (te := tSl _ _ _ _) ?_)
  | (with_reducible refine ws_asg (te := tOp rCat _ _) ?_)
  | (with_reducible refine ws_asg (te := tDNewK) ?_)
  | (with_reducible refine ws_asg (wm_list ?_))
  | (with_reducible refine ws_asgE ?_)
  | ((with_reducible show _ ≤ _ ∧ _); (refine ⟨(by walk_at "side"), ?_⟩))
  | ((with_reducible show _ < _ ∧ _); (refine ⟨(by walk_at "side"), ?_⟩))
  | ((with_reducible show (_ → _) ∧ (_ → _)); first | (refine ⟨fun hb => absurd hb (by walk_at "no"), fun _ => ?_⟩) | (refine ⟨fun _ => ?_, fun hb => absurd hb (by walk_at "no")⟩))
  | ((with_reducible show ∀ p : Addr, ∃ d, Frz (ml p _) d ∧ _); (intro p))
  | ((with_reducible show (slots _).Nodup ∧ _); (refine ⟨by simp [slots], ?_⟩))
  | (refine ⟨_, frz_ml, ?_⟩)
  | (refine ⟨_, frz_fz, ?_⟩)
  | (refine ⟨_, rfl, ?_⟩)
  | (with_reducible refine ⟨_, _, rfl, atI_0, ?_⟩)
  | (with_reducible refine ⟨_, _, rfl, atI_1, ?_⟩)
  | (refine ⟨_, _, rfl, rfl, ?_⟩)
  | (refine ⟨rfl, ?_⟩)
  | (refine Or.inl ⟨_, rfl, ?_⟩)
  | (refine Or.inr ⟨_, rfl, ?_⟩)
  | (refine ⟨_, Or.inl rfl, ?_⟩)
  | (refine ⟨_, Or.inr rfl, ?_⟩)
  | (dsimp only [List.set_cons_zero, List.set_cons_succ]))
local macro_rules | `(tactic| walk_at "w") => `(tactic| (repeat (walk_at "w1"; try dsimp only)))
local macro_rules | `(tactic| walk_at "z1") => `(tactic| first
  | (with_reducible refine ws_seq ?_)
  | (with_reducible refine ws_if ?_)
  | (with_reducible refine ws_nx ?_)
  | ((with_reducible show WE (tCall _ _ _ _) _ _); first | (with_reducible refine walked_at ?_) | (refine take_at rfl ?_) | (with_reducible refine known_at ?_) | (refine words_at rfl ?_) | (refine row_at rfl ?_) | (refine number_at rfl ?_) | (with_reducible refine is_way_at ?_) | (with_reducible refine law_walks_at ?_) | (refine right_at rfl ?_) | (with_reducible refine we_wm (copied_at ?_)) | (with_reducible refine we_wm (grounds_at ?_)) | (refine we_wm (taken_at rfl ?_)) | (refine we_wm (rows_at rfl ?_)))
  | ((with_reducible show WM (tCall _ _ _ _) _ _); first | (refine wm_we (take_at rfl ?_)) | (refine wm_we (words_at rfl ?_)) | (refine wm_we (row_at rfl ?_)) | (refine wm_we (number_at rfl ?_)) | (with_reducible refine fired_at ?_) | (refine spoilt_at rfl ?_) | (refine wm_we (right_at rfl ?_)) | (refine begun_at rfl (by assumption) ?_) | (refine rows_at rfl ?_) | (with_reducible refine copied_at ?_) | (with_reducible refine grounds_at ?_) | (refine taken_at rfl ?_))
  | ((with_reducible show WM (tCallS _ _ _) _ _); first | (refine way_at rfl ?_))
  | ((with_reducible show WM (tMake _ _ _ _ _) _ _); first | (with_reducible refine book_at ?_))
  | ((with_reducible show WM (tMeth _ _ _ _ _ _ _) _ _); first | (refine tell_at rfl ?_))
  | (with_reducible refine ws_retN ?_)
  | ((with_reducible show WE (tVar _) _ _); first | (refine we_var rfl ?_) | (refine we_varF rfl ?_) | (refine we_varFd rfl ?_))
  | (with_reducible refine we_int ?_)
  | (with_reducible refine we_str ?_)
  | (with_reducible refine we_bl ?_)
  | (with_reducible refine we_non ?_)
  | (with_reducible refine wt_test ?_)
  | (with_reducible refine wt_B ?_)
  | (with_reducible refine wt_yes ?_)
  | (with_reducible refine wt_and ?_)
  | (with_reducible refine wt_or ?_)
  | (with_reducible refine wt_not ?_)
  | (with_reducible refine we_andV ?_)
  | (with_reducible refine we_orV ?_)
  | (with_reducible refine we_notV ?_)
  | (with_reducible refine we_if ?_)
  | (with_reducible refine we_rB0 ?_)
  | (with_reducible refine we_rI0 ?_)
  | (with_reducible refine we_rI ?_)
  | (with_reducible refine we_eq ?_)
  | (with_reducible refine we_din ?_)
  | (with_reducible refine we_dnotin ?_)
  | (with_reducible refine we_ne ?_)
  | ((with_reducible show WE (tOp _ (tVar _) (tC .non)) _ _); first | (refine we_isNM rfl ?_) | (refine we_notNM rfl ?_))
  | (with_reducible refine we_isN ?_)
  | (with_reducible refine we_notN ?_)
  | (with_reducible refine we_addS ?_)
  | (with_reducible refine we_inC ?_)
  | (with_reducible refine we_inS ?_)
  | (with_reducible refine we_lenS ?_)
  | (with_reducible refine we_all ?_)
  | (with_reducible refine we_any ?_)
  | (with_reducible refine we_join ?_)
  | (with_reducible refine we_tup ?_)
  | (with_reducible refine we_ixL ?_)
  | (with_reducible refine we_ixT ?_)
  | (with_reducible refine we_ixS ?_)
  | (with_reducible refine we_len ?_)
  | (with_reducible refine wa_nil ?_)
  | ((with_reducible show WA (tCons (tVar _) _) _ _); first | (refine wa_cons (we_var rfl ?_)) | (refine wa_slot (r := bk _ _ _ _) rfl ?_) | (refine wa_slot (r := bx _) rfl ?_) | (refine wa_slot (r := md _ _) rfl ?_) | (refine wa_cons (we_varF rfl ?_)))
  | (with_reducible refine wa_cons ?_)
  | (with_reducible refine wo_none ?_)
  | (with_reducible refine wo_some ?_)
  | (with_reducible refine wm_lst ?_)
  | (with_reducible refine wm_cat ?_)
  | (with_reducible refine wm_slL ?_)
  | (with_reducible refine wm_sortSet ?_)
  | (with_reducible refine we_isi ?_)
  | (with_reducible refine we_int1 ?_)
  | (with_reducible refine we_tupOf ?_)
  | (with_reducible refine we_slT ?_)
  | (with_reducible refine we_min ?_)
  | (with_reducible refine we_eqD ?_)
  | (with_reducible refine we_neD ?_)
  | (with_reducible refine we_ixs ?_)
  | (with_reducible refine we_neg ?_)
  | (with_reducible refine wm_list ?_)
  | (with_reducible refine wm_split ?_)
  | (with_reducible refine wm_dnew ?_)
  | (with_reducible refine take_at rfl ?_)
  | (with_reducible refine wm_call ?_)
  | (with_reducible refine wm_callX (by assumption) ?_)
  | (with_reducible refine wm_callX lets0 ?_)
  | (with_reducible refine wm_make ?_)
  | (with_reducible refine wm_lcL ?_)
  | (with_reducible refine wm_lcSq ?_)
  | (with_reducible refine wm_lcT ?_)
  | (with_reducible refine wm_lcR ?_)
  | (with_reducible refine wm_lcS ?_)
  | (with_reducible refine we_wm (te := tLst _) ?_)
  | (with_reducible refine we_wm (te := tLc _ _ _ _ _) ?_)
  | (refine take_at rfl ?_)
  | (with_reducible refine known_at ?_)
  | (with_reducible refine we_wm (te := tCall _ _ _ _) ?_)
  | (with_reducible refine we_wm (te := tCallS _ _ _) ?_)
  | (with_reducible refine ws_asg (te := tCallS _ _ _) ?_)
  | (with_reducible refine ws_asg (te := tMeth _ _ _ _ _ _ _) ?_)
  | (with_reducible refine ws_drop (te := tMeth _ _ _ _ _ _ _) ?_)
  | (with_reducible refine ws_drop (te := tCallS _ _ _) ?_)
  | (with_reducible refine we_wm (te := tSl _ _ _ _) ?_)
  | (with_reducible refine we_wm (te := tOp rCat _ _) ?_)
  | (with_reducible refine we_wm (te := tCB _ _) ?_)
  | (with_reducible refine we_wm (te := tM1 _ _ _) ?_)
  | (with_reducible refine ws_ret (te := tLst _) ?_)
  | (with_reducible refine ws_ret (te := tLc _ _ _ _ _) ?_)
  | (refine ws_retE (take_at rfl ?_))
  | (with_reducible refine ws_ret (te := tCall _ _ _ _) ?_)
  | (with_reducible refine ws_ret (te := tMake _ _ _ _ _) ?_)
  | (with_reducible refine ws_ret (te := tMeth _ _ _ _ _ _ _) ?_)
  | (with_reducible refine ws_ret (te := tSl _ _ _ _) ?_)
  | (with_reducible refine ws_ret (te := tOp rCat _ _) ?_)
  | (with_reducible refine ws_ret (wm_list ?_))
  | (with_reducible refine ws_retE ?_)
  | (with_reducible refine ws_asg (te := tLst _) ?_)
  | (with_reducible refine ws_asg (te := tLc _ _ _ _ _) ?_)
  | (refine ws_asgE (take_at rfl ?_))
  | (with_reducible refine ws_asg (te := tCall _ _ _ _) ?_)
  | (with_reducible refine ws_asg (te := tMake _ _ _ _ _) ?_)
  | (with_reducible refine ws_asg (te := tSl _ _ _ _) ?_)
  | (with_reducible refine ws_asg (te := tOp rCat _ _) ?_)
  | (with_reducible refine ws_asg (te := tDNewK) ?_)
  | (with_reducible refine ws_asg (wm_list ?_))
  | (with_reducible refine ws_asgE ?_)
  | ((with_reducible show (_ : Int) ≠ 0 ∧ _); (refine ⟨by decide, ?_⟩))
  | ((with_reducible show _ ≤ _ ∧ _); (refine ⟨(by walk_at "side"), ?_⟩))
  | ((with_reducible show _ < _ ∧ _); (refine ⟨(by walk_at "side"), ?_⟩))
  | ((with_reducible show (_ → _) ∧ (_ → _)); first | (refine ⟨fun hb => absurd hb (by walk_at "no"), fun _ => ?_⟩) | (refine ⟨fun _ => ?_, fun hb => absurd hb (by walk_at "no")⟩))
  | ((with_reducible show ∀ p : Addr, ∃ d, Frz (ml p _) d ∧ _); (intro p))
  | ((with_reducible show (slots _).Nodup ∧ _); (refine ⟨by simp [slots], ?_⟩))
  | (refine ⟨_, frz_ml, ?_⟩)
  | (refine ⟨_, frz_fz, ?_⟩)
  | (refine ⟨_, rfl, ?_⟩)
  | (with_reducible refine ⟨_, _, rfl, (by assumption), ?_⟩)
  | (with_reducible refine ⟨_, _, rfl, atI_0, ?_⟩)
  | (with_reducible refine ⟨_, _, rfl, atI_1, ?_⟩)
  | (refine ⟨_, _, rfl, rfl, ?_⟩)
  | (refine ⟨rfl, ?_⟩)
  | (refine Or.inl ⟨_, rfl, ?_⟩)
  | (refine Or.inr ⟨_, rfl, ?_⟩)
  | (refine ⟨_, Or.inl rfl, ?_⟩)
  | (refine ⟨_, Or.inr rfl, ?_⟩)
  | (dsimp only [List.set_cons_zero, List.set_cons_succ]))
local macro_rules | `(tactic| walk_at "z") => `(tactic| (repeat (walk_at "z1"; try dsimp only)))
section
variable {P : Program} {w : World} {K : PySem.W.Frag} {mg : Str → Option Value} {base : Heap}
def sp_Book_all_grounds (C : Addr) : FSp := fun args Q => ∃ a l rs, args = [bk C a l rs] ∧ rs.length ≤ 1000 ∧ ∀ p, Q (ml p ((gsOf rs).map .str)) args
theorem ok_Book_all_grounds (T : Txt K mg) : FnOk P w K mg base CX0 1 T.Book_all_grounds.a T.Book_all_grounds.fd ["self"] (spF (sp_Book_all_grounds T.C_Book)) := by
  refine fok T.Book_all_grounds.F sc_Book_all_grounds (fun args Q h => ?_) (fun cdv A outer s H E hr args Q h => ?_)
  · obtain ⟨a, l, rs, rfl, _⟩ := h
    rfl
  · obtain ⟨a, l, rs, rfl, hl, q⟩ := h
    refine ⟨_, (pss_one (ps_ret (pe_callB (cr_sortedSS rfl) (by rfl) T.b_sorted (by decide +kernel) (pa_cons (pe_callTy (T := "set") (cr_setS rfl) (by rfl) T.b_set (by decide +kernel) (pa_cons (pe_lc (own := [("row", 1)]) (g := gName 1) rfl sc_Book_all_grounds.nd (pi_list (pe_fld (pv 0) rfl)) (blkOk_by (own := [("row", 1)]) (N := N_Book_all_grounds) (sc := defScope s_Book_all_grounds) (by decide +kernel)) (fun _ _ _ _ _ => pg_name (i := 1) sc_Book_all_grounds.nd rfl (Or.inl rfl)) (fun _ _ _ _ _ => pts_one (pt_cmpR op_eq (pe_ix (show IxR _ (rIxT K) from ix_tup) (pv 1) pe_int (fun _ _ => rfl)) pe_str (nomark _))) (fun _ _ _ _ _ => (pe_ix (show IxR _ (rIxT K) from ix_tup) (pv 1) pe_int (fun _ _ => rfl)))) pa_nil)) pa_nil)))), ?_⟩
    show WS _ [some (bk _ _ _ _), none] _
    refine ws_ret (wm_sortSet (we_wm (wm_lcBf (fun r => (rGround r).isSome) (fun r => .str ((rGround r).getD Str.empty)) T.c_Book T.n_told_rows rfl (by decide) rfl (by omega) rfl (fun r hr => ?_) (fun r hr hg => ?_) fun p => ?_)))
    · cases r <;> walk_at "w"
    · cases r with
      | g w => walk_at "w"
      | r w b => cases hg
      | c b => cases hg
    · exact ⟨_, frz_ml, groundsOf rs, by rw [grounds_map], Nat.le_trans (List.length_filterMap_le _ _) hl, fun p => finS pin_bk (q p)⟩

end
end

section
local macro_rules | `(tactic| walk_at "no") => `(tactic| first | (with_reducible exact Bool.false_ne_true) | (with_reducible exact fun z => Bool.false_ne_true z.symm) | (simp only [decide_eq_true_eq, decide_eq_false_iff_not]; omega) | (decide +kernel) | (simp; done) | (simp; omega) | (exact Bool.false_ne_true) | (exact fun z => Bool.false_ne_true z.symm))
local macro_rules | `(tactic| walk_at "side") => `(tactic| first | omega | assumption | (refine Nat.le_trans (m := 100000) ?_ (by decide); first | omega | (simp <;> omega)) | (simp <;> omega))
local macro_rules | `(tactic| walk_at "w1") => `(tactic| first
  | (with_reducible refine ws_seq ?_)
  | (with_reducible refine ws_if ?_)
  | (with_reducible refine ws_nx ?_)
  | (with_reducible refine ws_retN ?_)
  | ((with_reducible show WE (tVar _) _ _); (refine we_var rfl ?_))
  | (with_reducible refine we_int ?_)
  | (with_reducible refine we_str ?_)
  | (with_reducible refine we_bl ?_)
  | (with_reducible refine we_non ?_)
  | (with_reducible refine wt_test ?_)
  | (with_reducible refine wt_B ?_)
  | (with_reducible refine wt_yes ?_)
  | (with_reducible refine wt_and ?_)
  | (with_reducible refine wt_or ?_)
  | (with_reducible refine wt_not ?_)
  | (with_reducible refine we_andV ?_)
  | (with_reducible refine we_orV ?_)
  | (with_reducible refine we_notV ?_)
  | (with_reducible refine we_if ?_)
  | (with_reducible refine we_rB0 ?_)
  | (with_reducible refine we_rI0 ?_)
  | (with_reducible refine we_rI ?_)
  | (with_reducible refine we_eq ?_)
  | (with_reducible refine we_din ?_)
  | (with_reducible refine we_dnotin ?_)
  | (with_reducible refine we_ne ?_)
  | (with_reducible refine we_isN ?_)
  | (with_reducible refine we_notN ?_)
  | (with_reducible refine we_addS ?_)
  | (with_reducible refine we_inC ?_)
  | (with_reducible refine we_inS ?_)
  | (with_reducible refine we_lenS ?_)
  | (with_reducible refine we_all ?_)
  | (with_reducible refine we_any ?_)
  | (with_reducible refine we_join ?_)
  | (with_reducible refine we_tup ?_)
  | (with_reducible refine we_ixL ?_)
  | (with_reducible refine we_ixT ?_)
  | (with_reducible refine we_ixS ?_)
  | (with_reducible refine we_len ?_)
  | (with_reducible refine wa_nil ?_)
  | (with_reducible refine wa_cons ?_)
  | (with_reducible refine wo_none ?_)
  | (with_reducible refine wo_some ?_)
  | (with_reducible refine wm_lst ?_)
  | (with_reducible refine wm_cat ?_)
  | (with_reducible refine wm_slL ?_)
  | (with_reducible refine wm_sortSet ?_)
  | (with_reducible refine we_isi ?_)
  | (with_reducible refine we_int1 ?_)
  | (with_reducible refine we_tupOf ?_)
  | (with_reducible refine we_slT ?_)
  | (with_reducible refine we_min ?_)
  | (with_reducible refine we_eqD ?_)
  | (with_reducible refine we_neD ?_)
  | (with_reducible refine we_ixs ?_)
  | (with_reducible refine we_neg ?_)
  | (with_reducible refine wm_list ?_)
  | (with_reducible refine wm_split ?_)
  | (with_reducible refine wm_dnew ?_)
  | (with_reducible refine take_at rfl ?_)
  | (with_reducible refine wm_call ?_)
  | (with_reducible refine wm_callX (by assumption) ?_)
  | (with_reducible refine wm_callX lets0 ?_)
  | (with_reducible refine wm_make ?_)
  | (with_reducible refine wm_lcL ?_)
  | (with_reducible refine wm_lcSq ?_)
  | (with_reducible refine wm_lcT ?_)
  | (with_reducible refine wm_lcR ?_)
  | (with_reducible refine wm_lcS ?_)
  | (with_reducible refine we_wm (te := tLst _) ?_)
  | (with_reducible refine we_wm (te := tLc _ _ _ _ _) ?_)
  | (refine take_at rfl ?_)
  | (with_reducible refine known_at ?_)
  | (with_reducible refine we_wm (te := tCall _ _ _ _) ?_)
  | (with_reducible refine we_wm (te := tCallS _ _ _) ?_)
  | (with_reducible refine we_wm (te := tSl _ _ _ _) ?_)
  | (with_reducible refine we_wm (te := tOp rCat _ _) ?_)
  | (with_reducible refine we_wm (te := tCB _ _) ?_)
  | (with_reducible refine we_wm (te := tM1 _ _ _) ?_)
  | (with_reducible refine ws_ret (te := tLst _) ?_)
  | (with_reducible refine ws_ret (te := tLc _ _ _ _ _) ?_)
  | (refine ws_retE (take_at rfl ?_))
  | (with_reducible refine ws_ret (te := tCall _ _ _ _) ?_)
  | (with_reducible refine ws_ret (te := tMake _ _ _ _ _) ?_)
  | (with_reducible refine ws_ret (te := tMeth _ _ _ _ _ _ _) ?_)
  | (with_reducible refine ws_ret (te := tSl _ _ _ _) ?_)
  | (with_reducible refine ws_ret (te := tOp rCat _ _) ?_)
  | (with_reducible refine ws_ret (wm_list ?_))
  | (with_reducible refine ws_retE ?_)
  | (with_reducible refine ws_asg (te := tLst _) ?_)
  | (with_reducible refine ws_asg (te := tLc _ _ _ _ _) ?_)
  | (refine ws_asgE (take_at rfl ?_))
  | (with_reducible refine ws_asg (te := tCall _ _ _ _) ?_)
  | (with_reducible refine ws_asg (te := tMake _ _ _ _ _) ?_)
  | (with_reducible refine ws_asg (te := tSl _ _ _ _) ?_)
  | (with_reducible refine ws_asg (te := tOp rCat _ _) ?_)
  | (with_reducible refine ws_asg (te := tDNewK) ?_)
  | (with_reducible refine ws_asg (wm_list ?_))
  | (with_reducible refine ws_asgE ?_)
  | ((with_reducible show _ ≤ _ ∧ _); (refine ⟨(by walk_at "side"), ?_⟩))
  | ((with_reducible show _ < _ ∧ _); (refine ⟨(by walk_at "side"), ?_⟩))
  | ((with_reducible show (_ → _) ∧ (_ → _)); first | (refine ⟨fun hb => absurd hb (by walk_at "no"), fun _ => ?_⟩) | (refine ⟨fun _ => ?_, fun hb => absurd hb (by walk_at "no")⟩))
  | ((with_reducible show ∀ p : Addr, ∃ d, Frz (ml p _) d ∧ _); (intro p))
  | ((with_reducible show (slots _).Nodup ∧ _); (refine ⟨by simp [slots], ?_⟩))
  | (refine ⟨_, frz_ml, ?_⟩)
  | (refine ⟨_, frz_fz, ?_⟩)
  | (refine ⟨_, rfl, ?_⟩)
  | (with_reducible refine ⟨_, _, rfl, atI_0, ?_⟩)
  | (with_reducible refine ⟨_, _, rfl, atI_1, ?_⟩)
  | (refine ⟨_, _, rfl, rfl, ?_⟩)
  | (refine ⟨rfl, ?_⟩)
  | (refine Or.inl ⟨_, rfl, ?_⟩)
  | (refine Or.inr ⟨_, rfl, ?_⟩)
  | (refine ⟨_, Or.inl rfl, ?_⟩)
  | (refine ⟨_, Or.inr rfl, ?_⟩)
  | (dsimp only [List.set_cons_zero, List.set_cons_succ]))
local macro_rules | `(tactic| walk_at "w") => `(tactic| (repeat (walk_at "w1"; try dsimp only)))
local macro_rules | `(tactic| walk_at "z1") => `(tactic| first
  | (with_reducible refine ws_seq ?_)
  | (with_reducible refine ws_if ?_)
  | (with_reducible refine ws_nx ?_)
  | ((with_reducible show WE (tCall _ _ _ _) _ _); first | (with_reducible refine walked_at ?_) | (refine take_at rfl ?_) | (with_reducible refine known_at ?_) | (refine words_at rfl ?_) | (refine row_at rfl ?_) | (refine number_at rfl ?_) | (with_reducible refine is_way_at ?_) | (with_reducible refine law_walks_at ?_) | (refine right_at rfl ?_) | (with_reducible refine we_wm (copied_at ?_)) | (with_reducible refine we_wm (grounds_at ?_)) | (refine we_wm (taken_at rfl ?_)) | (refine we_wm (rows_at rfl ?_)))
  | ((with_reducible show WM (tCall _ _ _ _) _ _); first | (refine wm_we (take_at rfl ?_)) | (refine wm_we (words_at rfl ?_)) | (refine wm_we (row_at rfl ?_)) | (refine wm_we (number_at rfl ?_)) | (with_reducible refine fired_at ?_) | (refine spoilt_at rfl ?_) | (refine wm_we (right_at rfl ?_)) | (refine begun_at rfl (by assumption) ?_) | (refine rows_at rfl ?_) | (with_reducible refine copied_at ?_) | (with_reducible refine grounds_at ?_) | (refine taken_at rfl ?_))
  | ((with_reducible show WM (tCallS _ _ _) _ _); first | (refine way_at rfl ?_))
  | ((with_reducible show WM (tMake _ _ _ _ _) _ _); first | (with_reducible refine book_at ?_))
  | ((with_reducible show WM (tMeth _ _ _ _ _ _ _) _ _); first | (refine tell_at rfl ?_))
  | (with_reducible refine ws_retN ?_)
  | ((with_reducible show WE (tVar _) _ _); first | (refine we_var rfl ?_) | (refine we_varF rfl ?_) | (refine we_varFd rfl ?_))
  | (with_reducible refine we_int ?_)
  | (with_reducible refine we_str ?_)
  | (with_reducible refine we_bl ?_)
  | (with_reducible refine we_non ?_)
  | (with_reducible refine wt_test ?_)
  | (with_reducible refine wt_B ?_)
  | (with_reducible refine wt_yes ?_)
  | (with_reducible refine wt_and ?_)
  | (with_reducible refine wt_or ?_)
  | (with_reducible refine wt_not ?_)
  | (with_reducible refine we_andV ?_)
  | (with_reducible refine we_orV ?_)
  | (with_reducible refine we_notV ?_)
  | (with_reducible refine we_if ?_)
  | (with_reducible refine we_rB0 ?_)
  | (with_reducible refine we_rI0 ?_)
  | (with_reducible refine we_rI ?_)
  | (with_reducible refine we_eq ?_)
  | (with_reducible refine we_din ?_)
  | (with_reducible refine we_dnotin ?_)
  | (with_reducible refine we_ne ?_)
  | ((with_reducible show WE (tOp _ (tVar _) (tC .non)) _ _); first | (refine we_isNM rfl ?_) | (refine we_notNM rfl ?_))
  | (with_reducible refine we_isN ?_)
  | (with_reducible refine we_notN ?_)
  | (with_reducible refine we_addS ?_)
  | (with_reducible refine we_inC ?_)
  | (with_reducible refine we_inS ?_)
  | (with_reducible refine we_lenS ?_)
  | (with_reducible refine we_all ?_)
  | (with_reducible refine we_any ?_)
  | (with_reducible refine we_join ?_)
  | (with_reducible refine we_tup ?_)
  | (with_reducible refine we_ixL ?_)
  | (with_reducible refine we_ixT ?_)
  | (with_reducible refine we_ixS ?_)
  | (with_reducible refine we_len ?_)
  | (with_reducible refine wa_nil ?_)
  | ((with_reducible show WA (tCons (tVar _) _) _ _); first | (refine wa_cons (we_var rfl ?_)) | (refine wa_slot (r := bk _ _ _ _) rfl ?_) | (refine wa_slot (r := bx _) rfl ?_) | (refine wa_slot (r := md _ _) rfl ?_) | (refine wa_cons (we_varF rfl ?_)))
  | (with_reducible refine wa_cons ?_)
  | (with_reducible refine wo_none ?_)
  | (with_reducible refine wo_some ?_)
  | (with_reducible refine wm_lst ?_)
  | (with_reducible refine wm_cat ?_)
  | (with_reducible refine wm_slL ?_)
  | (with_reducible refine wm_sortSet ?_)
  | (with_reducible refine we_isi ?_)
  | (with_reducible refine we_int1 ?_)
  | (with_reducible refine we_tupOf ?_)
  | (with_reducible refine we_slT ?_)
  | (with_reducible refine we_min ?_)
  | (with_reducible refine we_eqD ?_)
  | (with_reducible refine we_neD ?_)
  | (with_reducible refine we_ixs ?_)
  | (with_reducible refine we_neg ?_)
  | (with_reducible refine wm_list ?_)
  | (with_reducible refine wm_split ?_)
  | (with_reducible refine wm_dnew ?_)
  | (with_reducible refine take_at rfl ?_)
  | (with_reducible refine wm_call ?_)
  | (with_reducible refine wm_callX (by assumption) ?_)
  | (with_reducible refine wm_callX lets0 ?_)
  | (with_reducible refine wm_make ?_)
  | (with_reducible refine wm_lcL ?_)
  | (with_reducible refine wm_lcSq ?_)
  | (with_reducible refine wm_lcT ?_)
  | (with_reducible refine wm_lcR ?_)
  | (with_reducible refine wm_lcS ?_)
  | (with_reducible refine we_wm (te := tLst _) ?_)
  | (with_reducible refine we_wm (te := tLc _ _ _ _ _) ?_)
  | (refine take_at rfl ?_)
  | (with_reducible refine known_at ?_)
  | (with_reducible refine we_wm (te := tCall _ _ _ _) ?_)
  | (with_reducible refine we_wm (te := tCallS _ _ _) ?_)
  | (with_reducible refine ws_asg (te := tCallS _ _ _) ?_)
  | (with_reducible refine ws_asg (te := tMeth _ _ _ _ _ _ _) ?_)
  | (with_reducible refine ws_drop (te := tMeth _ _ _ _ _ _ _) ?_)
  | (with_reducible refine ws_drop (te := tCallS _ _ _) ?_)
  | (with_reducible refine we_wm (te := tSl _ _ _ _) ?_)
  | (with_reducible refine we_wm (te := tOp rCat _ _) ?_)
  | (with_reducible refine we_wm (te := tCB _ _) ?_)
  | (with_reducible refine we_wm (te := tM1 _ _ _) ?_)
  | (with_reducible refine ws_ret (te := tLst _) ?_)
  | (with_reducible refine ws_ret (te := tLc _ _ _ _ _) ?_)
  | (refine ws_retE (take_at rfl ?_))
  | (with_reducible refine ws_ret (te := tCall _ _ _ _) ?_)
  | (with_reducible refine ws_ret (te := tMake _ _ _ _ _) ?_)
  | (with_reducible refine ws_ret (te := tMeth _ _ _ _ _ _ _) ?_)
  | (with_reducible refine ws_ret (te := tSl _ _ _ _) ?_)
  | (with_reducible refine ws_ret (te := tOp rCat _ _) ?_)
  | (with_reducible refine ws_ret (wm_list ?_))
  | (with_reducible refine ws_retE ?_)
  | (with_reducible refine ws_asg (te := tLst _) ?_)
  | (with_reducible refine ws_asg (te := tLc _ _ _ _ _) ?_)
  | (refine ws_asgE (take_at rfl ?_))
  | (with_reducible refine ws_asg (te := tCall _ _ _ _) ?_)
  | (with_reducible refine ws_asg (te := tMake _ _ _ _ _) ?_)
  | (with_reducible refine ws_asg (te := tSl _ _ _ _) ?_)
  | (with_reducible refine ws_asg (te := tOp rCat _ _) ?_)
  | (with_reducible refine ws_asg (te := tDNewK) ?_)
  | (with_reducible refine ws_asg (wm_list ?_))
  | (with_reducible refine ws_asgE ?_)
  | ((with_reducible show (_ : Int) ≠ 0 ∧ _); (refine ⟨by decide, ?_⟩))
  | ((with_reducible show _ ≤ _ ∧ _); (refine ⟨(by walk_at "side"), ?_⟩))
  | ((with_reducible show _ < _ ∧ _); (refine ⟨(by walk_at "side"), ?_⟩))
  | ((with_reducible show (_ → _) ∧ (_ → _)); first | (refine ⟨fun hb => absurd hb (by walk_at "no"), fun _ => ?_⟩) | (refine ⟨fun _ => ?_, fun hb => absurd hb (by walk_at "no")⟩))
  | ((with_reducible show ∀ p : Addr, ∃ d, Frz (ml p _) d ∧ _); (intro p))
  | ((with_reducible show (slots _).Nodup ∧ _); (refine ⟨by simp [slots], ?_⟩))
  | (refine ⟨_, frz_ml, ?_⟩)
  | (refine ⟨_, frz_fz, ?_⟩)
  | (refine ⟨_, rfl, ?_⟩)
  | (with_reducible refine ⟨_, _, rfl, (by assumption), ?_⟩)
  | (with_reducible refine ⟨_, _, rfl, atI_0, ?_⟩)
  | (with_reducible refine ⟨_, _, rfl, atI_1, ?_⟩)
  | (refine ⟨_, _, rfl, rfl, ?_⟩)
  | (refine ⟨rfl, ?_⟩)
  | (refine Or.inl ⟨_, rfl, ?_⟩)
  | (refine Or.inr ⟨_, rfl, ?_⟩)
  | (refine ⟨_, Or.inl rfl, ?_⟩)
  | (refine ⟨_, Or.inr rfl, ?_⟩)
  | (dsimp only [List.set_cons_zero, List.set_cons_succ]))
local macro_rules | `(tactic| walk_at "z") => `(tactic| (repeat (walk_at "z1"; try dsimp only)))
section
variable {P : Program} {w : World} {K : PySem.W.Frag} {mg : Str → Option Value} {base : Heap}
def sp_Book_fault (C : Addr) : FSp := fun args Q => ∃ a l rs r, args = [bk C a l rs, fz (rowD r)] ∧ rs.length ≤ 1000 ∧ (rBody r).length ≤ 1000 ∧ (∀ w ∈ rWords r, w.length ≤ 10000) ∧ Q (fz (optD (faultOf rs r))) args
theorem ok_Book_fault (T : Txt K mg) : FnOk P w K mg base CX0 3 T.Book_fault.a T.Book_fault.fd ["self", "row"] (spF (sp_Book_fault T.C_Book)) := by
  refine fok T.Book_fault.F sc_Book_fault (fun args Q h => ?_) (fun cdv A outer s H E hr args Q h => ?_)
  · obtain ⟨a, l, rs, r, rfl, _⟩ := h
    rfl
  · obtain ⟨a, l, rs, r, rfl, hl, hb, hw, q⟩ := h
    refine ⟨_, (pss_cons (ps_if (pt_cmpR op_ge (pe_callB call_len_seq (by rfl) T.b_len (by decide +kernel) (pa_cons (pe_fld (pv 0) rfl) pa_nil)) (pe_glob (v := .int 60) rfl T.c_MOST_ROWS ⟨_, rfl⟩) (nomark _)) (pss_one (ps_ret pe_str)) pss_nil)
      (pss_cons (ps_if (pt_not (pt_val (pe_callB (cr_all rfl) (by rfl) T.b_all (by decide +kernel) (pa_cons (pe_lc (own := [("word", 3)]) (g := gName 3) (tt := tYes) rfl sc_Book_fault.nd (pi_list (pe_call (ok_words_of T) (hr.mono (by decide)) rfl T.words_of.m T.words_of.F.kp T.words_of.b .nil pass0 (pa_cons (pv 1) pa_nil))) (blkOk_by (own := [("word", 3)]) (N := N_Book_fault) (sc := defScope s_Book_fault) (by decide +kernel)) (fun _ _ _ _ _ => pg_name (i := 3) sc_Book_fault.nd rfl (Or.inl rfl)) (fun _ _ _ _ _ => pts_nil) (fun _ _ _ _ _ => (pe_call (ok_is_word T) (hr.mono (by decide)) rfl T.is_word.m T.is_word.F.kp T.is_word.b .nil pass0 (pa_cons (pv 3) pa_nil)))) pa_nil)))) (pss_one (ps_ret pe_str)) pss_nil)
      (pss_cons (ps_if (pt_cmpR op_gt (pe_callB call_len_seq (by rfl) T.b_len (by decide +kernel) (pa_cons (pe_call (ok_body_of T) (hr.mono (by decide)) rfl T.body_of.m T.body_of.F.kp T.body_of.b .nil pass0 (pa_cons (pv 1) pa_nil)) pa_nil)) (pe_glob (v := .int 5) rfl T.c_MOST_IN_BODY ⟨_, rfl⟩) (nomark _)) (pss_one (ps_ret pe_str)) pss_nil)
      (pss_cons (ps_set (i := 2) sc_Book_fault.nd rfl (by first | exact Or.inl rfl | exact Or.inr rfl) (pe_meth0 (pv 0) T.c_Book T.Book_all_grounds.me (ok_Book_all_grounds T) (hr.mono (by decide)) T.Book_all_grounds.b .nil pass0))
      (pss_cons (ps_if (PW.pt (pw_and (pt_cmpR op_eq (pe_ix ix_tup (pv 1) pe_int (fun _ _ => rfl)) pe_str (nomark _)) (pw_and (pt_cmpR op_notIn_seq (pe_ix ix_tup (pv 1) pe_int (fun _ _ => rfl)) (pv 2) (by first | rfl | exact nomark _)) (pw_and1 (pt_cmpR op_ge (pe_callB call_len_seq (by rfl) T.b_len (by decide +kernel) (pa_cons (pv 2) pa_nil)) (pe_glob (v := .int 8) rfl T.c_MOST_GROUNDS ⟨_, rfl⟩) (nomark _)))))) (pss_one (ps_ret pe_str)) pss_nil)
      (pss_one (ps_ret pe_non))))))), ?_⟩
    show WS _ [some (bk _ _ _ _), some (fz _), none, none] _
    have one : ∀ o x, faultOf rs r = o → Fin [bk T.C_Book a l rs, fz (rowD r)] Q (fz (optD o)) [some (bk T.C_Book a l rs), some (fz (rowD r)), x, none] := fun o x e => by
      subst e
      exact finS1 pin_bk q
    refine ws_seq (ws_if (wt_B (we_rB0 (we_lenB T.c_Book T.n_told_rows rfl ?_))))
    walk_at "w"
    by_cases h1 : 60 ≤ rs.length
    · refine ⟨fun _ => ?_, fun hb => absurd (of_decide_eq_false hb) (by omega)⟩
      walk_at "w"
      exact one (some "rows") _ (by unfold faultOf; rw [if_pos h1])
    refine ⟨fun hb => absurd (of_decide_eq_true hb) (by omega), fun _ => ?_⟩
    walk_at "w"
    have hwl : (rWords r).length ≤ 1001 := by cases r <;> simp [rWords, rBody] at hb ⊢ <;> omega
    refine lcI_bools (fun d => match d with | .str x => isWordB x | _ => false) (by decide) rfl (by rw [List.length_map]; omega) (fun d hd => ?_) rfl ?_
    · obtain ⟨x, hx, rfl⟩ := List.mem_map.mp hd
      walk_at "w"
      exact ⟨hw x hx, _, frz_fz, rfl, rfl⟩
    have ea : (((rWords r).map PyData.str).map fun d => match d with | .str x => isWordB x | _ => false).all id = (rWords r).all isWordB := by
      rw [List.map_map, List.all_map]
      rfl
    rw [ea]
    by_cases h2 : (rWords r).all isWordB = true
    case neg =>
      have h2' : (rWords r).all isWordB = false := by simpa using h2
      rw [h2']
      walk_at "w"
      exact one (some "word") _ (by unfold faultOf; rw [if_neg h1, if_pos h2'])
    rw [h2]
    walk_at "w"
    by_cases h3 : 5 < (rBody r).length
    · refine ⟨fun _ => ?_, fun hb => absurd (of_decide_eq_false hb) (by simp; omega)⟩
      walk_at "w"
      exact one (some "body") _ (by unfold faultOf; rw [if_neg h1, if_neg (by rw [h2]; decide), if_pos h3])
    refine ⟨fun hb => absurd (of_decide_eq_true hb) (by simp; omega), fun _ => ?_⟩
    walk_at "w"
    refine we_wm (wm_meth rfl (ins_bk (by decide)) (wa_nil ⟨_, rfl, by simp [slots], a, l, rs, rfl, by omega, fun p => ⟨_, frz_ml, ?_⟩⟩))
    show WS _ [some (bk _ _ _ _), some (fz _), some (fz _), none] _
    have e0 : ∀ g, rGround r = some g → faultOf rs r = (if g ∉ gsOf rs ∧ 8 ≤ (gsOf rs).length then some ("grounds" : Str) else none : Option Str) := fun g hg => by
      unfold faultOf
      rw [if_neg h1, if_neg (by rw [h2]; decide), if_neg h3, hg]
    have e1 : rGround r = none → faultOf rs r = none := fun hg => by
      unfold faultOf
      rw [if_neg h1, if_neg (by rw [h2]; decide), if_neg h3, hg]
    cases r with
    | g x =>
      walk_at "w"
      by_cases h4 : x ∈ gsOf rs
      · refine ⟨fun hb => absurd hb (by simp [h4]), fun _ => ⟨fun hb => absurd hb (by decide), fun _ => ?_⟩⟩
        walk_at "w"
        exact one none _ ((e0 x rfl).trans (if_neg fun z => z.1 h4))
      refine ⟨fun _ => ?_, fun hb => absurd hb (by simp [h4])⟩
      walk_at "w"
      by_cases h5 : 8 ≤ (gsOf rs).length
      · refine ⟨fun _ => ?_, fun hb => absurd (of_decide_eq_false hb) (by simp; omega)⟩
        walk_at "w"
        exact one (some "grounds") _ ((e0 x rfl).trans (if_pos ⟨h4, h5⟩))
      · refine ⟨fun hb => absurd (of_decide_eq_true hb) (by simp; omega), fun _ => ?_⟩
        walk_at "w"
        exact one none _ ((e0 x rfl).trans (if_neg fun z => h5 z.2))
    | r x b =>
      walk_at "w"
      exact one none _ (e1 rfl)
    | c b =>
      walk_at "w"
      exact one none _ (e1 rfl)

end
end

section
local macro_rules | `(tactic| walk_at "no") => `(tactic| first | (with_reducible exact Bool.false_ne_true) | (with_reducible exact fun z => Bool.false_ne_true z.symm) | (simp only [decide_eq_true_eq, decide_eq_false_iff_not]; omega) | (decide +kernel) | (simp; done) | (simp; omega) | (exact Bool.false_ne_true) | (exact fun z => Bool.false_ne_true z.symm))
local macro_rules | `(tactic| walk_at "side") => `(tactic| first | omega | assumption | (refine Nat.le_trans (m := 100000) ?_ (by decide); first | omega | (simp <;> omega)) | (simp <;> omega))
local macro_rules | `(tactic| walk_at "w1") => `(tactic| first
  | (with_reducible refine ws_seq ?_)
  | (with_reducible refine ws_if ?_)
  | (with_reducible refine ws_nx ?_)
  | (with_reducible refine ws_retN ?_)
  | ((with_reducible show WE (tVar _) _ _); (refine we_var rfl ?_))
  | (with_reducible refine we_int ?_)
  | (with_reducible refine we_str ?_)
  | (with_reducible refine we_bl ?_)
  | (with_reducible refine we_non ?_)
  | (with_reducible refine wt_test ?_)
  | (with_reducible refine wt_B ?_)
  | (with_reducible refine wt_yes ?_)
  | (with_reducible refine wt_and ?_)
  | (with_reducible refine wt_or ?_)
  | (with_reducible refine wt_not ?_)
  | (with_reducible refine we_andV ?_)
  | (with_reducible refine we_orV ?_)
  | (with_reducible refine we_notV ?_)
  | (with_reducible refine we_if ?_)
  | (with_reducible refine we_rB0 ?_)
  | (with_reducible refine we_rI0 ?_)
  | (with_reducible refine we_rI ?_)
  | (with_reducible refine we_eq ?_)
  | (with_reducible refine we_din ?_)
  | (with_reducible refine we_dnotin ?_)
  | (with_reducible refine we_ne ?_)
  | (with_reducible refine we_isN ?_)
  | (with_reducible refine we_notN ?_)
  | (with_reducible refine we_addS ?_)
  | (with_reducible refine we_inC ?_)
  | (with_reducible refine we_inS ?_)
  | (with_reducible refine we_lenS ?_)
  | (with_reducible refine we_all ?_)
  | (with_reducible refine we_any ?_)
  | (with_reducible refine we_join ?_)
  | (with_reducible refine we_tup ?_)
  | (with_reducible refine we_ixL ?_)
  | (with_reducible refine we_ixT ?_)
  | (with_reducible refine we_ixS ?_)
  | (with_reducible refine we_len ?_)
  | (with_reducible refine wa_nil ?_)
  | (with_reducible refine wa_cons ?_)
  | (with_reducible refine wo_none ?_)
  | (with_reducible refine wo_some ?_)
  | (with_reducible refine wm_lst ?_)
  | (with_reducible refine wm_cat ?_)
  | (with_reducible refine wm_slL ?_)
  | (with_reducible refine wm_sortSet ?_)
  | (with_reducible refine we_isi ?_)
  | (with_reducible refine we_int1 ?_)
  | (with_reducible refine we_tupOf ?_)
  | (with_reducible refine we_slT ?_)
  | (with_reducible refine we_min ?_)
  | (with_reducible refine we_eqD ?_)
  | (with_reducible refine we_neD ?_)
  | (with_reducible refine we_ixs ?_)
  | (with_reducible refine we_neg ?_)
  | (with_reducible refine wm_list ?_)
  | (with_reducible refine wm_split ?_)
  | (with_reducible refine wm_dnew ?_)
  | (with_reducible refine take_at rfl ?_)
  | (with_reducible refine wm_call ?_)
  | (with_reducible refine wm_callX (by assumption) ?_)
  | (with_reducible refine wm_callX lets0 ?_)
  | (with_reducible refine wm_make ?_)
  | (with_reducible refine wm_lcL ?_)
  | (with_reducible refine wm_lcSq ?_)
  | (with_reducible refine wm_lcT ?_)
  | (with_reducible refine wm_lcR ?_)
  | (with_reducible refine wm_lcS ?_)
  | (with_reducible refine we_wm (te := tLst _) ?_)
  | (with_reducible refine we_wm (te := tLc _ _ _ _ _) ?_)
  | (refine take_at rfl ?_)
  | (with_reducible refine known_at ?_)
  | (with_reducible refine we_wm (te := tCall _ _ _ _) ?_)
  | (with_reducible refine we_wm (te := tCallS _ _ _) ?_)
  | (with_reducible refine we_wm (te := tSl _ _ _ _) ?_)
  | (with_reducible refine we_wm (te := tOp rCat _ _) ?_)
  | (with_reducible refine we_wm (te := tCB _ _) ?_)
  | (with_reducible refine we_wm (te := tM1 _ _ _) ?_)
  | (with_reducible refine ws_ret (te := tLst _) ?_)
  | (with_reducible refine ws_ret (te := tLc _ _ _ _ _) ?_)
  | (refine ws_retE (take_at rfl ?_))
  | (with_reducible refine ws_ret (te := tCall _ _ _ _) ?_)
  | (with_reducible refine ws_ret (te := tMake _ _ _ _ _) ?_)
  | (with_reducible refine ws_ret (te := tMeth _ _ _ _ _ _ _) ?_)
  | (with_reducible refine ws_ret (te := tSl _ _ _ _) ?_)
  | (with_reducible refine ws_ret (te := tOp rCat _ _) ?_)
  | (with_reducible refine ws_ret (wm_list ?_))
  | (with_reducible refine ws_retE ?_)
  | (with_reducible refine ws_asg (te := tLst _) ?_)
  | (with_reducible refine ws_asg (te := tLc _ _ _ _ _) ?_)
  | (refine ws_asgE (take_at rfl ?_))
  | (with_reducible refine ws_asg (te := tCall _ _ _ _) ?_)
  | (with_reducible refine ws_asg (te := tMake _ _ _ _ _) ?_)
  | (with_reducible refine ws_asg (te := tSl _ _ _ _) ?_)
  | (with_reducible refine ws_asg (te := tOp rCat _ _) ?_)
  | (with_reducible refine ws_asg (te := tDNewK) ?_)
  | (with_reducible refine ws_asg (wm_list ?_))
  | (with_reducible refine ws_asgE ?_)
  | ((with_reducible show _ ≤ _ ∧ _); (refine ⟨(by walk_at "side"), ?_⟩))
  | ((with_reducible show _ < _ ∧ _); (refine ⟨(by walk_at "side"), ?_⟩))
  | ((with_reducible show (_ → _) ∧ (_ → _)); first | (refine ⟨fun hb => absurd hb (by walk_at "no"), fun _ => ?_⟩) | (refine ⟨fun _ => ?_, fun hb => absurd hb (by walk_at "no")⟩))
  | ((with_reducible show ∀ p : Addr, ∃ d, Frz (ml p _) d ∧ _); (intro p))
  | ((with_reducible show (slots _).Nodup ∧ _); (refine ⟨by simp [slots], ?_⟩))
  | (refine ⟨_, frz_ml, ?_⟩)
  | (refine ⟨_, frz_fz, ?_⟩)
  | (refine ⟨_, rfl, ?_⟩)
  | (with_reducible refine ⟨_, _, rfl, atI_0, ?_⟩)
  | (with_reducible refine ⟨_, _, rfl, atI_1, ?_⟩)
  | (refine ⟨_, _, rfl, rfl, ?_⟩)
  | (refine ⟨rfl, ?_⟩)
  | (refine Or.inl ⟨_, rfl, ?_⟩)
  | (refine Or.inr ⟨_, rfl, ?_⟩)
  | (refine ⟨_, Or.inl rfl, ?_⟩)
  | (refine ⟨_, Or.inr rfl, ?_⟩)
  | (dsimp only [List.set_cons_zero, List.set_cons_succ]))
local macro_rules | `(tactic| walk_at "w") => `(tactic| (repeat (walk_at "w1"; try dsimp only)))
local macro_rules | `(tactic| walk_at "z1") => `(tactic| first
  | (with_reducible refine ws_seq ?_)
  | (with_reducible refine ws_if ?_)
  | (with_reducible refine ws_nx ?_)
  | ((with_reducible show WE (tCall _ _ _ _) _ _); first | (with_reducible refine walked_at ?_) | (refine take_at rfl ?_) | (with_reducible refine known_at ?_) | (refine words_at rfl ?_) | (refine row_at rfl ?_) | (refine number_at rfl ?_) | (with_reducible refine is_way_at ?_) | (with_reducible refine law_walks_at ?_) | (refine right_at rfl ?_) | (with_reducible refine we_wm (copied_at ?_)) | (with_reducible refine we_wm (grounds_at ?_)) | (refine we_wm (taken_at rfl ?_)) | (refine we_wm (rows_at rfl ?_)))
  | ((with_reducible show WM (tCall _ _ _ _) _ _); first | (refine wm_we (take_at rfl ?_)) | (refine wm_we (words_at rfl ?_)) | (refine wm_we (row_at rfl ?_)) | (refine wm_we (number_at rfl ?_)) | (with_reducible refine fired_at ?_) | (refine spoilt_at rfl ?_) | (refine wm_we (right_at rfl ?_)) | (refine begun_at rfl (by assumption) ?_) | (refine rows_at rfl ?_) | (with_reducible refine copied_at ?_) | (with_reducible refine grounds_at ?_) | (refine taken_at rfl ?_))
  | ((with_reducible show WM (tCallS _ _ _) _ _); first | (refine way_at rfl ?_))
  | ((with_reducible show WM (tMake _ _ _ _ _) _ _); first | (with_reducible refine book_at ?_))
  | ((with_reducible show WM (tMeth _ _ _ _ _ _ _) _ _); first | (refine tell_at rfl ?_))
  | (with_reducible refine ws_retN ?_)
  | ((with_reducible show WE (tVar _) _ _); first | (refine we_var rfl ?_) | (refine we_varF rfl ?_) | (refine we_varFd rfl ?_))
  | (with_reducible refine we_int ?_)
  | (with_reducible refine we_str ?_)
  | (with_reducible refine we_bl ?_)
  | (with_reducible refine we_non ?_)
  | (with_reducible refine wt_test ?_)
  | (with_reducible refine wt_B ?_)
  | (with_reducible refine wt_yes ?_)
  | (with_reducible refine wt_and ?_)
  | (with_reducible refine wt_or ?_)
  | (with_reducible refine wt_not ?_)
  | (with_reducible refine we_andV ?_)
  | (with_reducible refine we_orV ?_)
  | (with_reducible refine we_notV ?_)
  | (with_reducible refine we_if ?_)
  | (with_reducible refine we_rB0 ?_)
  | (with_reducible refine we_rI0 ?_)
  | (with_reducible refine we_rI ?_)
  | (with_reducible refine we_eq ?_)
  | (with_reducible refine we_din ?_)
  | (with_reducible refine we_dnotin ?_)
  | (with_reducible refine we_ne ?_)
  | ((with_reducible show WE (tOp _ (tVar _) (tC .non)) _ _); first | (refine we_isNM rfl ?_) | (refine we_notNM rfl ?_))
  | (with_reducible refine we_isN ?_)
  | (with_reducible refine we_notN ?_)
  | (with_reducible refine we_addS ?_)
  | (with_reducible refine we_inC ?_)
  | (with_reducible refine we_inS ?_)
  | (with_reducible refine we_lenS ?_)
  | (with_reducible refine we_all ?_)
  | (with_reducible refine we_any ?_)
  | (with_reducible refine we_join ?_)
  | (with_reducible refine we_tup ?_)
  | (with_reducible refine we_ixL ?_)
  | (with_reducible refine we_ixT ?_)
  | (with_reducible refine we_ixS ?_)
  | (with_reducible refine we_len ?_)
  | (with_reducible refine wa_nil ?_)
  | ((with_reducible show WA (tCons (tVar _) _) _ _); first | (refine wa_cons (we_var rfl ?_)) | (refine wa_slot (r := bk _ _ _ _) rfl ?_) | (refine wa_slot (r := bx _) rfl ?_) | (refine wa_slot (r := md _ _) rfl ?_) | (refine wa_cons (we_varF rfl ?_)))
  | (with_reducible refine wa_cons ?_)
  | (with_reducible refine wo_none ?_)
  | (with_reducible refine wo_some ?_)
  | (with_reducible refine wm_lst ?_)
  | (with_reducible refine wm_cat ?_)
  | (with_reducible refine wm_slL ?_)
  | (with_reducible refine wm_sortSet ?_)
  | (with_reducible refine we_isi ?_)
  | (with_reducible refine we_int1 ?_)
  | (with_reducible refine we_tupOf ?_)
  | (with_reducible refine we_slT ?_)
  | (with_reducible refine we_min ?_)
  | (with_reducible refine we_eqD ?_)
  | (with_reducible refine we_neD ?_)
  | (with_reducible refine we_ixs ?_)
  | (with_reducible refine we_neg ?_)
  | (with_reducible refine wm_list ?_)
  | (with_reducible refine wm_split ?_)
  | (with_reducible refine wm_dnew ?_)
  | (with_reducible refine take_at rfl ?_)
  | (with_reducible refine wm_call ?_)
  | (with_reducible refine wm_callX (by assumption) ?_)
  | (with_reducible refine wm_callX lets0 ?_)
  | (with_reducible refine wm_make ?_)
  | (with_reducible refine wm_lcL ?_)
  | (with_reducible refine wm_lcSq ?_)
  | (with_reducible refine wm_lcT ?_)
  | (with_reducible refine wm_lcR ?_)
  | (with_reducible refine wm_lcS ?_)
  | (with_reducible refine we_wm (te := tLst _) ?_)
  | (with_reducible refine we_wm (te := tLc _ _ _ _ _) ?_)
  | (refine take_at rfl ?_)
  | (with_reducible refine known_at ?_)
  | (with_reducible refine we_wm (te := tCall _ _ _ _) ?_)
  | (with_reducible refine we_wm (te := tCallS _ _ _) ?_)
  | (with_reducible refine ws_asg (te := tCallS _ _ _) ?_)
  | (with_reducible refine ws_asg (te := tMeth _ _ _ _ _ _ _) ?_)
  | (with_reducible refine ws_drop (te := tMeth _ _ _ _ _ _ _) ?_)
  | (with_reducible refine ws_drop (te := tCallS _ _ _) ?_)
  | (with_reducible refine we_wm (te := tSl _ _ _ _) ?_)
  | (with_reducible refine we_wm (te := tOp rCat _ _) ?_)
  | (with_reducible refine we_wm (te := tCB _ _) ?_)
  | (with_reducible refine we_wm (te := tM1 _ _ _) ?_)
  | (with_reducible refine ws_ret (te := tLst _) ?_)
  | (with_reducible refine ws_ret (te := tLc _ _ _ _ _) ?_)
  | (refine ws_retE (take_at rfl ?_))
  | (with_reducible refine ws_ret (te := tCall _ _ _ _) ?_)
  | (with_reducible refine ws_ret (te := tMake _ _ _ _ _) ?_)
  | (with_reducible refine ws_ret (te := tMeth _ _ _ _ _ _ _) ?_)
  | (with_reducible refine ws_ret (te := tSl _ _ _ _) ?_)
  | (with_reducible refine ws_ret (te := tOp rCat _ _) ?_)
  | (with_reducible refine ws_ret (wm_list ?_))
  | (with_reducible refine ws_retE ?_)
  | (with_reducible refine ws_asg (te := tLst _) ?_)
  | (with_reducible refine ws_asg (te := tLc _ _ _ _ _) ?_)
  | (refine ws_asgE (take_at rfl ?_))
  | (with_reducible refine ws_asg (te := tCall _ _ _ _) ?_)
  | (with_reducible refine ws_asg (te := tMake _ _ _ _ _) ?_)
  | (with_reducible refine ws_asg (te := tSl _ _ _ _) ?_)
  | (with_reducible refine ws_asg (te := tOp rCat _ _) ?_)
  | (with_reducible refine ws_asg (te := tDNewK) ?_)
  | (with_reducible refine ws_asg (wm_list ?_))
  | (with_reducible refine ws_asgE ?_)
  | ((with_reducible show (_ : Int) ≠ 0 ∧ _); (refine ⟨by decide, ?_⟩))
  | ((with_reducible show _ ≤ _ ∧ _); (refine ⟨(by walk_at "side"), ?_⟩))
  | ((with_reducible show _ < _ ∧ _); (refine ⟨(by walk_at "side"), ?_⟩))
  | ((with_reducible show (_ → _) ∧ (_ → _)); first | (refine ⟨fun hb => absurd hb (by walk_at "no"), fun _ => ?_⟩) | (refine ⟨fun _ => ?_, fun hb => absurd hb (by walk_at "no")⟩))
  | ((with_reducible show ∀ p : Addr, ∃ d, Frz (ml p _) d ∧ _); (intro p))
  | ((with_reducible show (slots _).Nodup ∧ _); (refine ⟨by simp [slots], ?_⟩))
  | (refine ⟨_, frz_ml, ?_⟩)
  | (refine ⟨_, frz_fz, ?_⟩)
  | (refine ⟨_, rfl, ?_⟩)
  | (with_reducible refine ⟨_, _, rfl, (by assumption), ?_⟩)
  | (with_reducible refine ⟨_, _, rfl, atI_0, ?_⟩)
  | (with_reducible refine ⟨_, _, rfl, atI_1, ?_⟩)
  | (refine ⟨_, _, rfl, rfl, ?_⟩)
  | (refine ⟨rfl, ?_⟩)
  | (refine Or.inl ⟨_, rfl, ?_⟩)
  | (refine Or.inr ⟨_, rfl, ?_⟩)
  | (refine ⟨_, Or.inl rfl, ?_⟩)
  | (refine ⟨_, Or.inr rfl, ?_⟩)
  | (dsimp only [List.set_cons_zero, List.set_cons_succ]))
local macro_rules | `(tactic| walk_at "z") => `(tactic| (repeat (walk_at "z1"; try dsimp only)))
section
variable {P : Program} {w : World} {K : PySem.W.Frag} {mg : Str → Option Value} {base : Heap}
def sp_Book_tell (C : Addr) : FSp := fun args Q => ∃ a l rs r, args = [bk C a l rs, fz (rowD r)] ∧ faultOf rs r = none ∧ Q (fz (.int rs.length)) [bk C a l (rs ++ [r]), fz (rowD r)]
theorem ok_Book_tell (T : Txt K mg) : FnOk P w K mg base CX0 4 T.Book_tell.a T.Book_tell.fd ["self", "row"] (spF (sp_Book_tell T.C_Book)) := by
  refine fok T.Book_tell.F sc_Book_tell (fun args Q h => ?_) (fun cdv A outer s H E hr args Q h => ?_)
  · obtain ⟨a, l, rs, r, rfl, _⟩ := h
    rfl
  · obtain ⟨a, l, rs, r, rfl, hf, q⟩ := h
    obtain ⟨h1, h2, h3⟩ := fault_ok hf
    have hw : ∀ w ∈ rWords r, w.length ≤ 10000 := fun w hw => by
      have := (h2 w hw).2.1
      omega
    refine ⟨_, (pss_cons (ps_set (i := 2) sc_Book_tell.nd rfl (by first | exact Or.inl rfl | exact Or.inr rfl) (pe_callB call_len_seq (by rfl) T.b_len (by decide +kernel) (pa_cons (pe_fld (pv 0) rfl) pa_nil)))
      (pss_cons (ps_set (i := 3) sc_Book_tell.nd rfl (by first | exact Or.inl rfl | exact Or.inr rfl) (pe_meth (pv 0) T.c_Book T.Book_fault.me (ok_Book_fault T) (hr.mono (by decide)) T.Book_fault.b .nil pass0 (pa_cons (pv 1) pa_nil)))
      (pss_cons (ps_if (pt_cmpR op_notN (pv 3) pe_non (nomark _)) (pss_one ps_never) pss_nil)
      (pss_cons (ps_expr (pe_bm PySem.F.plainAttrs_list PySem.F.slot_list_append PySem.F.type_list_append mt_append (pe_fld (pv 0) rfl) (pa_cons (pe_call (ok_copied T) (hr.mono (by decide)) rfl T.copied.m T.copied.F.kp T.copied.b .nil pass0 (pa_cons (pv 1) pa_nil)) pa_nil)))
      (pss_one (ps_ret (pv 2))))))), ?_⟩
    show WS _ [some (bk _ _ _ _), some (fz _), none, none] _
    refine ws_seq (ws_asgE (we_lenB T.c_Book T.n_told_rows rfl ?_))
    walk_at "w"
    refine we_wm (wm_meth rfl (ins_bk (by decide)) ?_)
    walk_at "w"
    refine ⟨a, l, rs, r, rfl, by omega, by omega, hw, _, frz_fz, ?_⟩
    rw [hf]
    walk_at "w"
    refine ws_appB T.c_Book T.n_told_rows rfl ?_
    walk_at "w"
    exact finS1 pin_bk q
theorem tell_at [B : Bs] {C a l : Addr} {rs : List DV.Row} {i : Nat} {es : Es} {te : TE} {EE : XK} {Q : Own → Es → Prop} (hi : es[i]? = some (some (bk C a l rs))) (h : WE te es fun d e => ∃ r rs', d = rowD r ∧ e[i]? = some (some (bk C a l rs')) ∧ faultOf rs' r = none ∧ Q (fz (.int rs'.length)) (e.set i (some (bk C a l (rs' ++ [r]))))) :
    WM (tMeth C "tell" (spF (sp_Book_tell C)) [] EE (tVar i) (tCons te tNil)) es Q := by
  refine wm_meth hi (ins_bk (by decide)) (wa_cons (we_mono h fun d e ⟨r, rs', ed, hi', hf, q⟩ => wa_nil ⟨[bk C a l rs', fz d], by simp [lend, hi'], by simp [slots], a, l, rs', r, by rw [ed], hf, ?_⟩))
  subst ed
  exact q

end
end

section
local macro_rules | `(tactic| walk_at "no") => `(tactic| first | (with_reducible exact Bool.false_ne_true) | (with_reducible exact fun z => Bool.false_ne_true z.symm) | (simp only [decide_eq_true_eq, decide_eq_false_iff_not]; omega) | (decide +kernel) | (simp; done) | (simp; omega) | (exact Bool.false_ne_true) | (exact fun z => Bool.false_ne_true z.symm))
local macro_rules | `(tactic| walk_at "side") => `(tactic| first | omega | assumption | (refine Nat.le_trans (m := 100000) ?_ (by decide); first | omega | (simp <;> omega)) | (simp <;> omega))
local macro_rules | `(tactic| walk_at "w1") => `(tactic| first
  | (with_reducible refine ws_seq ?_)
  | (with_reducible refine ws_if ?_)
  | (with_reducible refine ws_nx ?_)
  | (with_reducible refine ws_retN ?_)
  | ((with_reducible show WE (tVar _) _ _); (refine we_var rfl ?_))
  | (with_reducible refine we_int ?_)
  | (with_reducible refine we_str ?_)
  | (with_reducible refine we_bl ?_)
  | (with_reducible refine we_non ?_)
  | (with_reducible refine wt_test ?_)
  | (with_reducible refine wt_B ?_)
  | (with_reducible refine wt_yes ?_)
  | (with_reducible refine wt_and ?_)
  | (with_reducible refine wt_or ?_)
  | (with_reducible refine wt_not ?_)
  | (with_reducible refine we_andV ?_)
  | (with_reducible refine we_orV ?_)
  | (with_reducible refine we_notV ?_)
  | (with_reducible refine we_if ?_)
  | (with_reducible refine we_rB0 ?_)
  | (with_reducible refine we_rI0 ?_)
  | (with_reducible refine we_rI ?_)
  | (with_reducible refine we_eq ?_)
  | (with_reducible refine we_din ?_)
  | (with_reducible refine we_dnotin ?_)
  | (with_reducible refine we_ne ?_)
  | (with_reducible refine we_isN ?_)
  | (with_reducible refine we_notN ?_)
  | (with_reducible refine we_addS ?_)
  | (with_reducible refine we_inC ?_)
  | (with_reducible refine we_inS ?_)
  | (with_reducible refine we_lenS ?_)
  | (with_reducible refine we_all ?_)
  | (with_reducible refine we_any ?_)
  | (with_reducible refine we_join ?_)
  | (with_reducible refine we_tup ?_)
  | (with_reducible refine we_ixL ?_)
  | (with_reducible refine we_ixT ?_)
  | (with_reducible refine we_ixS ?_)
  | (with_reducible refine we_len ?_)
  | (with_reducible refine wa_nil ?_)
  | (with_reducible refine wa_cons ?_)
  | (with_reducible refine wo_none ?_)
  | (with_reducible refine wo_some ?_)
  | (with_reducible refine wm_lst ?_)
  | (with_reducible refine wm_cat ?_)
  | (with_reducible refine wm_slL ?_)
  | (with_reducible refine wm_sortSet ?_)
  | (with_reducible refine we_isi ?_)
  | (with_reducible refine we_int1 ?_)
  | (with_reducible refine we_tupOf ?_)
  | (with_reducible refine we_slT ?_)
  | (with_reducible refine we_min ?_)
  | (with_reducible refine we_eqD ?_)
  | (with_reducible refine we_neD ?_)
  | (with_reducible refine we_ixs ?_)
  | (with_reducible refine we_neg ?_)
  | (with_reducible refine wm_list ?_)
  | (with_reducible refine wm_split ?_)
  | (with_reducible refine wm_dnew ?_)
  | (with_reducible refine take_at rfl ?_)
  | (with_reducible refine wm_call ?_)
  | (with_reducible refine wm_callX (by assumption) ?_)
  | (with_reducible refine wm_callX lets0 ?_)
  | (with_reducible refine wm_make ?_)
  | (with_reducible refine wm_lcL ?_)
  | (with_reducible refine wm_lcSq ?_)
  | (with_reducible refine wm_lcT ?_)
  | (with_reducible refine wm_lcR ?_)
  | (with_reducible refine wm_lcS ?_)
  | (with_reducible refine we_wm (te := tLst _) ?_)
  | (with_reducible refine we_wm (te := tLc _ _ _ _ _) ?_)
  | (refine take_at rfl ?_)
  | (with_reducible refine known_at ?_)
  | (with_reducible refine we_wm (te := tCall _ _ _ _) ?_)
  | (with_reducible refine we_wm (te := tCallS _ _ _) ?_)
  | (with_reducible refine we_wm (te := tSl _ _ _ _) ?_)
  | (with_reducible refine we_wm (te := tOp rCat _ _) ?_)
  | (with_reducible refine we_wm (te := tCB _ _) ?_)
  | (with_reducible refine we_wm (te := tM1 _ _ _) ?_)
  | (with_reducible refine ws_ret (te := tLst _) ?_)
  | (with_reducible refine ws_ret (te := tLc _ _ _ _ _) ?_)
  | (refine ws_retE (take_at rfl ?_))
  | (with_reducible refine ws_ret (te := tCall _ _ _ _) ?_)
  | (with_reducible refine ws_ret (te := tMake _ _ _ _ _) ?_)
  | (with_reducible refine ws_ret (te := tMeth _ _ _ _ _ _ _) ?_)
  | (with_reducible refine ws_ret (te := tSl _ _ _ _) ?_)
  | (with_reducible refine ws_ret (te := tOp rCat _ _) ?_)
  | (with_reducible refine ws_ret (wm_list ?_))
  | (with_reducible refine ws_retE ?_)
  | (with_reducible refine ws_asg (te := tLst _) ?_)
  | (with_reducible refine ws_asg (te := tLc _ _ _ _ _) ?_)
  | (refine ws_asgE (take_at rfl ?_))
  | (with_reducible refine ws_asg (te := tCall _ _ _ _) ?_)
  | (with_reducible refine ws_asg (te := tMake _ _ _ _ _) ?_)
  | (with_reducible refine ws_asg (te := tSl _ _ _ _) ?_)
  | (with_reducible refine ws_asg (te := tOp rCat _ _) ?_)
  | (with_reducible refine ws_asg (te := tDNewK) ?_)
  | (with_reducible refine ws_asg (wm_list ?_))
  | (with_reducible refine ws_asgE ?_)
  | ((with_reducible show _ ≤ _ ∧ _); (refine ⟨(by walk_at "side"), ?_⟩))
  | ((with_reducible show _ < _ ∧ _); (refine ⟨(by walk_at "side"), ?_⟩))
  | ((with_reducible show (_ → _) ∧ (_ → _)); first | (refine ⟨fun hb => absurd hb (by walk_at "no"), fun _ => ?_⟩) | (refine ⟨fun _ => ?_, fun hb => absurd hb (by walk_at "no")⟩))
  | ((with_reducible show ∀ p : Addr, ∃ d, Frz (ml p _) d ∧ _); (intro p))
  | ((with_reducible show (slots _).Nodup ∧ _); (refine ⟨by simp [slots], ?_⟩))
  | (refine ⟨_, frz_ml, ?_⟩)
  | (refine ⟨_, frz_fz, ?_⟩)
  | (refine ⟨_, rfl, ?_⟩)
  | (with_reducible refine ⟨_, _, rfl, atI_0, ?_⟩)
  | (with_reducible refine ⟨_, _, rfl, atI_1, ?_⟩)
  | (refine ⟨_, _, rfl, rfl, ?_⟩)
  | (refine ⟨rfl, ?_⟩)
  | (refine Or.inl ⟨_, rfl, ?_⟩)
  | (refine Or.inr ⟨_, rfl, ?_⟩)
  | (refine ⟨_, Or.inl rfl, ?_⟩)
  | (refine ⟨_, Or.inr rfl, ?_⟩)
  | (dsimp only [List.set_cons_zero, List.set_cons_succ]))
local macro_rules | `(tactic| walk_at "w") => `(tactic| (repeat (walk_at "w1"; try dsimp only)))
local macro_rules | `(tactic| walk_at "z1") => `(tactic| first
  | (with_reducible refine ws_seq ?_)
  | (with_reducible refine ws_if ?_)
  | (with_reducible refine ws_nx ?_)
  | ((with_reducible show WE (tCall _ _ _ _) _ _); first | (with_reducible refine walked_at ?_) | (refine take_at rfl ?_) | (with_reducible refine known_at ?_) | (refine words_at rfl ?_) | (refine row_at rfl ?_) | (refine number_at rfl ?_) | (with_reducible refine is_way_at ?_) | (with_reducible refine law_walks_at ?_) | (refine right_at rfl ?_) | (with_reducible refine we_wm (copied_at ?_)) | (with_reducible refine we_wm (grounds_at ?_)) | (refine we_wm (taken_at rfl ?_)) | (refine we_wm (rows_at rfl ?_)))
  | ((with_reducible show WM (tCall _ _ _ _) _ _); first | (refine wm_we (take_at rfl ?_)) | (refine wm_we (words_at rfl ?_)) | (refine wm_we (row_at rfl ?_)) | (refine wm_we (number_at rfl ?_)) | (with_reducible refine fired_at ?_) | (refine spoilt_at rfl ?_) | (refine wm_we (right_at rfl ?_)) | (refine begun_at rfl (by assumption) ?_) | (refine rows_at rfl ?_) | (with_reducible refine copied_at ?_) | (with_reducible refine grounds_at ?_) | (refine taken_at rfl ?_))
  | ((with_reducible show WM (tCallS _ _ _) _ _); first | (refine way_at rfl ?_))
  | ((with_reducible show WM (tMake _ _ _ _ _) _ _); first | (with_reducible refine book_at ?_))
  | ((with_reducible show WM (tMeth _ _ _ _ _ _ _) _ _); first | (refine tell_at rfl ?_))
  | (with_reducible refine ws_retN ?_)
  | ((with_reducible show WE (tVar _) _ _); first | (refine we_var rfl ?_) | (refine we_varF rfl ?_) | (refine we_varFd rfl ?_))
  | (with_reducible refine we_int ?_)
  | (with_reducible refine we_str ?_)
  | (with_reducible refine we_bl ?_)
  | (with_reducible refine we_non ?_)
  | (with_reducible refine wt_test ?_)
  | (with_reducible refine wt_B ?_)
  | (with_reducible refine wt_yes ?_)
  | (with_reducible refine wt_and ?_)
  | (with_reducible refine wt_or ?_)
  | (with_reducible refine wt_not ?_)
  | (with_reducible refine we_andV ?_)
  | (with_reducible refine we_orV ?_)
  | (with_reducible refine we_notV ?_)
  | (with_reducible refine we_if ?_)
  | (with_reducible refine we_rB0 ?_)
  | (with_reducible refine we_rI0 ?_)
  | (with_reducible refine we_rI ?_)
  | (with_reducible refine we_eq ?_)
  | (with_reducible refine we_din ?_)
  | (with_reducible refine we_dnotin ?_)
  | (with_reducible refine we_ne ?_)
  | ((with_reducible show WE (tOp _ (tVar _) (tC .non)) _ _); first | (refine we_isNM rfl ?_) | (refine we_notNM rfl ?_))
  | (with_reducible refine we_isN ?_)
  | (with_reducible refine we_notN ?_)
  | (with_reducible refine we_addS ?_)
  | (with_reducible refine we_inC ?_)
  | (with_reducible refine we_inS ?_)
  | (with_reducible refine we_lenS ?_)
  | (with_reducible refine we_all ?_)
  | (with_reducible refine we_any ?_)
  | (with_reducible refine we_join ?_)
  | (with_reducible refine we_tup ?_)
  | (with_reducible refine we_ixL ?_)
  | (with_reducible refine we_ixT ?_)
  | (with_reducible refine we_ixS ?_)
  | (with_reducible refine we_len ?_)
  | (with_reducible refine wa_nil ?_)
  | ((with_reducible show WA (tCons (tVar _) _) _ _); first | (refine wa_cons (we_var rfl ?_)) | (refine wa_slot (r := bk _ _ _ _) rfl ?_) | (refine wa_slot (r := bx _) rfl ?_) | (refine wa_slot (r := md _ _) rfl ?_) | (refine wa_cons (we_varF rfl ?_)))
  | (with_reducible refine wa_cons ?_)
  | (with_reducible refine wo_none ?_)
  | (with_reducible refine wo_some ?_)
  | (with_reducible refine wm_lst ?_)
  | (with_reducible refine wm_cat ?_)
  | (with_reducible refine wm_slL ?_)
  | (with_reducible refine wm_sortSet ?_)
  | (with_reducible refine we_isi ?_)
  | (with_reducible refine we_int1 ?_)
  | (with_reducible refine we_tupOf ?_)
  | (with_reducible refine we_slT ?_)
  | (with_reducible refine we_min ?_)
  | (with_reducible refine we_eqD ?_)
  | (with_reducible refine we_neD ?_)
  | (with_reducible refine we_ixs ?_)
  | (with_reducible refine we_neg ?_)
  | (with_reducible refine wm_list ?_)
  | (with_reducible refine wm_split ?_)
  | (with_reducible refine wm_dnew ?_)
  | (with_reducible refine take_at rfl ?_)
  | (with_reducible refine wm_call ?_)
  | (with_reducible refine wm_callX (by assumption) ?_)
  | (with_reducible refine wm_callX lets0 ?_)
  | (with_reducible refine wm_make ?_)
  | (with_reducible refine wm_lcL ?_)
  | (with_reducible refine wm_lcSq ?_)
  | (with_reducible refine wm_lcT ?_)
  | (with_reducible refine wm_lcR ?_)
  | (with_reducible refine wm_lcS ?_)
  | (with_reducible refine we_wm (te := tLst _) ?_)
  | (with_reducible refine we_wm (te := tLc _ _ _ _ _) ?_)
  | (refine take_at rfl ?_)
  | (with_reducible refine known_at ?_)
  | (with_reducible refine we_wm (te := tCall _ _ _ _) ?_)
  | (with_reducible refine we_wm (te := tCallS _ _ _) ?_)
  | (with_reducible refine ws_asg (te := tCallS _ _ _) ?_)
  | (with_reducible refine ws_asg (te := tMeth _ _ _ _ _ _ _) ?_)
  | (with_reducible refine ws_drop (te := tMeth _ _ _ _ _ _ _) ?_)
  | (with_reducible refine ws_drop (te := tCallS _ _ _) ?_)
  | (with_reducible refine we_wm (te := tSl _ _ _ _) ?_)
  | (with_reducible refine we_wm (te := tOp rCat _ _) ?_)
  | (with_reducible refine we_wm (te := tCB _ _) ?_)
  | (with_reducible refine we_wm (te := tM1 _ _ _) ?_)
  | (with_reducible refine ws_ret (te := tLst _) ?_)
  | (with_reducible refine ws_ret (te := tLc _ _ _ _ _) ?_)
  | (refine ws_retE (take_at rfl ?_))
  | (with_reducible refine ws_ret (te := tCall _ _ _ _) ?_)
  | (with_reducible refine ws_ret (te := tMake _ _ _ _ _) ?_)
  | (with_reducible refine ws_ret (te := tMeth _ _ _ _ _ _ _) ?_)
  | (with_reducible refine ws_ret (te := tSl _ _ _ _) ?_)
  | (with_reducible refine ws_ret (te := tOp rCat _ _) ?_)
  | (with_reducible refine ws_ret (wm_list ?_))
  | (with_reducible refine ws_retE ?_)
  | (with_reducible refine ws_asg (te := tLst _) ?_)
  | (with_reducible refine ws_asg (te := tLc _ _ _ _ _) ?_)
  | (refine ws_asgE (take_at rfl ?_))
  | (with_reducible refine ws_asg (te := tCall _ _ _ _) ?_)
  | (with_reducible refine ws_asg (te := tMake _ _ _ _ _) ?_)
  | (with_reducible refine ws_asg (te := tSl _ _ _ _) ?_)
  | (with_reducible refine ws_asg (te := tOp rCat _ _) ?_)
  | (with_reducible refine ws_asg (te := tDNewK) ?_)
  | (with_reducible refine ws_asg (wm_list ?_))
  | (with_reducible refine ws_asgE ?_)
  | ((with_reducible show (_ : Int) ≠ 0 ∧ _); (refine ⟨by decide, ?_⟩))
  | ((with_reducible show _ ≤ _ ∧ _); (refine ⟨(by walk_at "side"), ?_⟩))
  | ((with_reducible show _ < _ ∧ _); (refine ⟨(by walk_at "side"), ?_⟩))
  | ((with_reducible show (_ → _) ∧ (_ → _)); first | (refine ⟨fun hb => absurd hb (by walk_at "no"), fun _ => ?_⟩) | (refine ⟨fun _ => ?_, fun hb => absurd hb (by walk_at "no")⟩))
  | ((with_reducible show ∀ p : Addr, ∃ d, Frz (ml p _) d ∧ _); (intro p))
  | ((with_reducible show (slots _).Nodup ∧ _); (refine ⟨by simp [slots], ?_⟩))
  | (refine ⟨_, frz_ml, ?_⟩)
  | (refine ⟨_, frz_fz, ?_⟩)
  | (refine ⟨_, rfl, ?_⟩)
  | (with_reducible refine ⟨_, _, rfl, (by assumption), ?_⟩)
  | (with_reducible refine ⟨_, _, rfl, atI_0, ?_⟩)
  | (with_reducible refine ⟨_, _, rfl, atI_1, ?_⟩)
  | (refine ⟨_, _, rfl, rfl, ?_⟩)
  | (refine ⟨rfl, ?_⟩)
  | (refine Or.inl ⟨_, rfl, ?_⟩)
  | (refine Or.inr ⟨_, rfl, ?_⟩)
  | (refine ⟨_, Or.inl rfl, ?_⟩)
  | (refine ⟨_, Or.inr rfl, ?_⟩)
  | (dsimp only [List.set_cons_zero, List.set_cons_succ]))
local macro_rules | `(tactic| walk_at "z") => `(tactic| (repeat (walk_at "z1"; try dsimp only)))
section
variable {P : Program} {w : World} {K : PySem.W.Frag} {mg : Str → Option Value} {base : Heap}
/-- all of rs can be told in turn -/
def sp_Book_init (C : Addr) : FSp := fun args Q => ∃ a rs, args = [rawI C a, fz (rowsD rs)] ∧ (∀ k (h : k < rs.length), faultOf (rs.take k) rs[k] = none) ∧ ∀ l, Q (fz .none) [bk C a l rs, fz (rowsD rs)]
theorem ok_Book_init (T : Txt K mg) : FnOk P w K mg base CX0 5 T.Book_init.a T.Book_init.fd ["self", "rows"] (spF (sp_Book_init T.C_Book)) := by
  refine fok T.Book_init.F sc_Book_init (fun args Q h => ?_) (fun cdv A outer s H E hr args Q h => ?_)
  · obtain ⟨a, rs, rfl, _⟩ := h
    rfl
  · obtain ⟨a, rs, rfl, hf, q⟩ := h
    refine ⟨_, (pss_cons (ps_fld (pv 0) (pe_lst pa_nil) rfl)
      (pss_one (ps_for PassesOwn.never rfl (pi_list (pv 1)) (pg_name (i := 2) sc_Book_init.nd rfl (by first | exact Or.inl rfl | exact Or.inr rfl))
      (pss_one (ps_expr (pe_meth (pv 0) T.c_Book T.Book_tell.me (ok_Book_tell T) (hr.mono (by decide)) T.Book_tell.b .nil pass0 (pa_cons (pv 2) pa_nil))))))), ?_⟩
    show WS _ [some (rawI _ _), some (fz _), none] _
    refine ws_seq (ws_initB T.c_Book T.n_told_rows rfl fun l => ?_)
    refine ws_forL (we_var rfl ⟨rs.map rowD, rfl, fun k e => ∃ x, e = [some (bk T.C_Book a l (rs.take k)), some (fz (rowsD rs)), x], ⟨none, rfl⟩, fun k x e hx ⟨y, ee⟩ => ?_, fun e ⟨y, ee⟩ => ?_⟩)
    · subst ee
      rw [List.getElem?_map, Option.map_eq_some_iff] at hx
      obtain ⟨r, hr2, rfl⟩ := hx
      have hk : k < rs.length := (List.getElem?_eq_some_iff.mp hr2).1
      have er : rs[k] = r := (List.getElem?_eq_some_iff.mp hr2).2
      have hfk := hf k hk
      rw [er] at hfk
      refine ws_drop (wm_meth rfl (ins_bk (by decide)) ?_)
      walk_at "w"
      refine ⟨a, l, rs.take k, r, rfl, hfk, some (fz (rowD r)), ?_⟩
      rw [List.take_succ, hr2]
      rfl
    · subst ee
      rw [List.length_map, List.take_length]
      exact finS1 (by exact pin_raw) (q l)
theorem book_at [B : Bs] {C : Addr} {es : Es} {te : TE} {EE : XK} {Q : Own → Es → Prop} (h : WE te es fun d e => ∃ rs, d = rowsD rs ∧ (∀ k (h : k < rs.length), faultOf (rs.take k) rs[k] = none) ∧ ∀ a l, Q (bk C a l rs) e) : WM (tMake C (spF (sp_Book_init C)) [] EE (tCons te tNil)) es Q :=
  wm_make (wa_cons (we_mono h fun d e ⟨rs, ed, l1, q⟩ => wa_nil ⟨[fz d], rfl, by simp [slots], fun a => ⟨a, rs, by rw [ed], l1, fun l => ⟨_, _, rfl, rfl, ref_bk, by rw [ed]; exact q a l⟩⟩⟩))

end
end

section
local macro_rules | `(tactic| walk_at "no") => `(tactic| first | (with_reducible exact Bool.false_ne_true) | (with_reducible exact fun z => Bool.false_ne_true z.symm) | (simp only [decide_eq_true_eq, decide_eq_false_iff_not]; omega) | (decide +kernel) | (simp; done) | (simp; omega) | (exact Bool.false_ne_true) | (exact fun z => Bool.false_ne_true z.symm))
local macro_rules | `(tactic| walk_at "side") => `(tactic| first | omega | assumption | (refine Nat.le_trans (m := 100000) ?_ (by decide); first | omega | (simp <;> omega)) | (simp <;> omega))
local macro_rules | `(tactic| walk_at "w1") => `(tactic| first
  | (with_reducible refine ws_seq ?_)
  | (with_reducible refine ws_if ?_)
  | (with_reducible refine ws_nx ?_)
  | (with_reducible refine ws_retN ?_)
  | ((with_reducible show WE (tVar _) _ _); (refine we_var rfl ?_))
  | (with_reducible refine we_int ?_)
  | (with_reducible refine we_str ?_)
  | (with_reducible refine we_bl ?_)
  | (with_reducible refine we_non ?_)
  | (with_reducible refine wt_test ?_)
  | (with_reducible refine wt_B ?_)
  | (with_reducible refine wt_yes ?_)
  | (with_reducible refine wt_and ?_)
  | (with_reducible refine wt_or ?_)
  | (with_reducible refine wt_not ?_)
  | (with_reducible refine we_andV ?_)
  | (with_reducible refine we_orV ?_)
  | (with_reducible refine we_notV ?_)
  | (with_reducible refine we_if ?_)
  | (with_reducible refine we_rB0 ?_)
  | (with_reducible refine we_rI0 ?_)
  | (with_reducible refine we_rI ?_)
  | (with_reducible refine we_eq ?_)
  | (with_reducible refine we_din ?_)
  | (with_reducible refine we_dnotin ?_)
  | (with_reducible refine we_ne ?_)
  | (with_reducible refine we_isN ?_)
  | (with_reducible refine we_notN ?_)
  | (with_reducible refine we_addS ?_)
  | (with_reducible refine we_inC ?_)
  | (with_reducible refine we_inS ?_)
  | (with_reducible refine we_lenS ?_)
  | (with_reducible refine we_all ?_)
  | (with_reducible refine we_any ?_)
  | (with_reducible refine we_join ?_)
  | (with_reducible refine we_tup ?_)
  | (with_reducible refine we_ixL ?_)
  | (with_reducible refine we_ixT ?_)
  | (with_reducible refine we_ixS ?_)
  | (with_reducible refine we_len ?_)
  | (with_reducible refine wa_nil ?_)
  | (with_reducible refine wa_cons ?_)
  | (with_reducible refine wo_none ?_)
  | (with_reducible refine wo_some ?_)
  | (with_reducible refine wm_lst ?_)
  | (with_reducible refine wm_cat ?_)
  | (with_reducible refine wm_slL ?_)
  | (with_reducible refine wm_sortSet ?_)
  | (with_reducible refine we_isi ?_)
  | (with_reducible refine we_int1 ?_)
  | (with_reducible refine we_tupOf ?_)
  | (with_reducible refine we_slT ?_)
  | (with_reducible refine we_min ?_)
  | (with_reducible refine we_eqD ?_)
  | (with_reducible refine we_neD ?_)
  | (with_reducible refine we_ixs ?_)
  | (with_reducible refine we_neg ?_)
  | (with_reducible refine wm_list ?_)
  | (with_reducible refine wm_split ?_)
  | (with_reducible refine wm_dnew ?_)
  | (with_reducible refine take_at rfl ?_)
  | (with_reducible refine wm_call ?_)
  | (with_reducible refine wm_callX (by assumption) ?_)
  | (with_reducible refine wm_callX lets0 ?_)
  | (with_reducible refine wm_make ?_)
  | (with_reducible refine wm_lcL ?_)
  | (with_reducible refine wm_lcSq ?_)
  | (with_reducible refine wm_lcT ?_)
  | (with_reducible refine wm_lcR ?_)
  | (with_reducible refine wm_lcS ?_)
  | (with_reducible refine we_wm (te := tLst _) ?_)
  | (with_reducible refine we_wm (te := tLc _ _ _ _ _) ?_)
  | (refine take_at rfl ?_)
  | (with_reducible refine known_at ?_)
  | (with_reducible refine we_wm (te := tCall _ _ _ _) ?_)
  | (with_reducible refine we_wm (te := tCallS _ _ _) ?_)
  | (with_reducible refine we_wm (te := tSl _ _ _ _) ?_)
  | (with_reducible refine we_wm (te := tOp rCat _ _) ?_)
  | (with_reducible refine we_wm (te := tCB _ _) ?_)
  | (with_reducible refine we_wm (te := tM1 _ _ _) ?_)
  | (with_reducible refine ws_ret (te := tLst _) ?_)
  | (with_reducible refine ws_ret (te := tLc _ _ _ _ _) ?_)
  | (refine ws_retE (take_at rfl ?_))
  | (with_reducible refine ws_ret (te := tCall _ _ _ _) ?_)
  | (with_reducible refine ws_ret (te := tMake _ _ _ _ _) ?_)
  | (with_reducible refine ws_ret (te := tMeth _ _ _ _ _ _ _) ?_)
  | (with_reducible refine ws_ret (te := tSl _ _ _ _) ?_)
  | (with_reducible refine ws_ret (te := tOp rCat _ _) ?_)
  | (with_reducible refine ws_ret (wm_list ?_))
  | (with_reducible refine ws_retE ?_)
  | (with_reducible refine ws_asg (te := tLst _) ?_)
  | (with_reducible refine ws_asg (te := tLc _ _ _ _ _) ?_)
  | (refine ws_asgE (take_at rfl ?_))
  | (with_reducible refine ws_asg (te := tCall _ _ _ _) ?_)
  | (with_reducible refine ws_asg (te := tMake _ _ _ _ _) ?_)
  | (with_reducible refine ws_asg (te := tSl _ _ _ _) ?_)
  | (with_reducible refine ws_asg (te := tOp rCat _ _) ?_)
  | (with_reducible refine ws_asg (te := tDNewK) ?_)
  | (with_reducible refine ws_asg (wm_list ?_))
  | (with_reducible refine ws_asgE ?_)
  | ((with_reducible show _ ≤ _ ∧ _); (refine ⟨(by walk_at "side"), ?_⟩))
  | ((with_reducible show _ < _ ∧ _); (refine ⟨(by walk_at "side"), ?_⟩))
  | ((with_reducible show (_ → _) ∧ (_ → _)); first | (refine ⟨fun hb => absurd hb (by walk_at "no"), fun _ => ?_⟩) | (refine ⟨fun _ => ?_, fun hb => absurd hb (by walk_at "no")⟩))
  | ((with_reducible show ∀ p : Addr, ∃ d, Frz (ml p _) d ∧ _); (intro p))
  | ((with_reducible show (slots _).Nodup ∧ _); (refine ⟨by simp [slots], ?_⟩))
  | (refine ⟨_, frz_ml, ?_⟩)
  | (refine ⟨_, frz_fz, ?_⟩)
  | (refine ⟨_, rfl, ?_⟩)
  | (with_reducible refine ⟨_, _, rfl, atI_0, ?_⟩)
  | (with_reducible refine ⟨_, _, rfl, atI_1, ?_⟩)
  | (refine ⟨_, _, rfl, rfl, ?_⟩)
  | (refine ⟨rfl, ?_⟩)
  | (refine Or.inl ⟨_, rfl, ?_⟩)
  | (refine Or.inr ⟨_, rfl, ?_⟩)
  | (refine ⟨_, Or.inl rfl, ?_⟩)
  | (refine ⟨_, Or.inr rfl, ?_⟩)
  | (dsimp only [List.set_cons_zero, List.set_cons_succ]))
local macro_rules | `(tactic| walk_at "w") => `(tactic| (repeat (walk_at "w1"; try dsimp only)))
local macro_rules | `(tactic| walk_at "z1") => `(tactic| first
  | (with_reducible refine ws_seq ?_)
  | (with_reducible refine ws_if ?_)
  | (with_reducible refine ws_nx ?_)
  | ((with_reducible show WE (tCall _ _ _ _) _ _); first | (with_reducible refine walked_at ?_) | (refine take_at rfl ?_) | (with_reducible refine known_at ?_) | (refine words_at rfl ?_) | (refine row_at rfl ?_) | (refine number_at rfl ?_) | (with_reducible refine is_way_at ?_) | (with_reducible refine law_walks_at ?_) | (refine right_at rfl ?_) | (with_reducible refine we_wm (copied_at ?_)) | (with_reducible refine we_wm (grounds_at ?_)) | (refine we_wm (taken_at rfl ?_)) | (refine we_wm (rows_at rfl ?_)))
  | ((with_reducible show WM (tCall _ _ _ _) _ _); first | (refine wm_we (take_at rfl ?_)) | (refine wm_we (words_at rfl ?_)) | (refine wm_we (row_at rfl ?_)) | (refine wm_we (number_at rfl ?_)) | (with_reducible refine fired_at ?_) | (refine spoilt_at rfl ?_) | (refine wm_we (right_at rfl ?_)) | (refine begun_at rfl (by assumption) ?_) | (refine rows_at rfl ?_) | (with_reducible refine copied_at ?_) | (with_reducible refine grounds_at ?_) | (refine taken_at rfl ?_))
  | ((with_reducible show WM (tCallS _ _ _) _ _); first | (refine way_at rfl ?_))
  | ((with_reducible show WM (tMake _ _ _ _ _) _ _); first | (with_reducible refine book_at ?_))
  | ((with_reducible show WM (tMeth _ _ _ _ _ _ _) _ _); first | (refine tell_at rfl ?_))
  | (with_reducible refine ws_retN ?_)
  | ((with_reducible show WE (tVar _) _ _); first | (refine we_var rfl ?_) | (refine we_varF rfl ?_) | (refine we_varFd rfl ?_))
  | (with_reducible refine we_int ?_)
  | (with_reducible refine we_str ?_)
  | (with_reducible refine we_bl ?_)
  | (with_reducible refine we_non ?_)
  | (with_reducible refine wt_test ?_)
  | (with_reducible refine wt_B ?_)
  | (with_reducible refine wt_yes ?_)
  | (with_reducible refine wt_and ?_)
  | (with_reducible refine wt_or ?_)
  | (with_reducible refine wt_not ?_)
  | (with_reducible refine we_andV ?_)
  | (with_reducible refine we_orV ?_)
  | (with_reducible refine we_notV ?_)
  | (with_reducible refine we_if ?_)
  | (with_reducible refine we_rB0 ?_)
  | (with_reducible refine we_rI0 ?_)
  | (with_reducible refine we_rI ?_)
  | (with_reducible refine we_eq ?_)
  | (with_reducible refine we_din ?_)
  | (with_reducible refine we_dnotin ?_)
  | (with_reducible refine we_ne ?_)
  | ((with_reducible show WE (tOp _ (tVar _) (tC .non)) _ _); first | (refine we_isNM rfl ?_) | (refine we_notNM rfl ?_))
  | (with_reducible refine we_isN ?_)
  | (with_reducible refine we_notN ?_)
  | (with_reducible refine we_addS ?_)
  | (with_reducible refine we_inC ?_)
  | (with_reducible refine we_inS ?_)
  | (with_reducible refine we_lenS ?_)
  | (with_reducible refine we_all ?_)
  | (with_reducible refine we_any ?_)
  | (with_reducible refine we_join ?_)
  | (with_reducible refine we_tup ?_)
  | (with_reducible refine we_ixL ?_)
  | (with_reducible refine we_ixT ?_)
  | (with_reducible refine we_ixS ?_)
  | (with_reducible refine we_len ?_)
  | (with_reducible refine wa_nil ?_)
  | ((with_reducible show WA (tCons (tVar _) _) _ _); first | (refine wa_cons (we_var rfl ?_)) | (refine wa_slot (r := bk _ _ _ _) rfl ?_) | (refine wa_slot (r := bx _) rfl ?_) | (refine wa_slot (r := md _ _) rfl ?_) | (refine wa_cons (we_varF rfl ?_)))
  | (with_reducible refine wa_cons ?_)
  | (with_reducible refine wo_none ?_)
  | (with_reducible refine wo_some ?_)
  | (with_reducible refine wm_lst ?_)
  | (with_reducible refine wm_cat ?_)
  | (with_reducible refine wm_slL ?_)
  | (with_reducible refine wm_sortSet ?_)
  | (with_reducible refine we_isi ?_)
  | (with_reducible refine we_int1 ?_)
  | (with_reducible refine we_tupOf ?_)
  | (with_reducible refine we_slT ?_)
  | (with_reducible refine we_min ?_)
  | (with_reducible refine we_eqD ?_)
  | (with_reducible refine we_neD ?_)
  | (with_reducible refine we_ixs ?_)
  | (with_reducible refine we_neg ?_)
  | (with_reducible refine wm_list ?_)
  | (with_reducible refine wm_split ?_)
  | (with_reducible refine wm_dnew ?_)
  | (with_reducible refine take_at rfl ?_)
  | (with_reducible refine wm_call ?_)
  | (with_reducible refine wm_callX (by assumption) ?_)
  | (with_reducible refine wm_callX lets0 ?_)
  | (with_reducible refine wm_make ?_)
  | (with_reducible refine wm_lcL ?_)
  | (with_reducible refine wm_lcSq ?_)
  | (with_reducible refine wm_lcT ?_)
  | (with_reducible refine wm_lcR ?_)
  | (with_reducible refine wm_lcS ?_)
  | (with_reducible refine we_wm (te := tLst _) ?_)
  | (with_reducible refine we_wm (te := tLc _ _ _ _ _) ?_)
  | (refine take_at rfl ?_)
  | (with_reducible refine known_at ?_)
  | (with_reducible refine we_wm (te := tCall _ _ _ _) ?_)
  | (with_reducible refine we_wm (te := tCallS _ _ _) ?_)
  | (with_reducible refine ws_asg (te := tCallS _ _ _) ?_)
  | (with_reducible refine ws_asg (te := tMeth _ _ _ _ _ _ _) ?_)
  | (with_reducible refine ws_drop (te := tMeth _ _ _ _ _ _ _) ?_)
  | (with_reducible refine ws_drop (te := tCallS _ _ _) ?_)
  | (with_reducible refine we_wm (te := tSl _ _ _ _) ?_)
  | (with_reducible refine we_wm (te := tOp rCat _ _) ?_)
  | (with_reducible refine we_wm (te := tCB _ _) ?_)
  | (with_reducible refine we_wm (te := tM1 _ _ _) ?_)
  | (with_reducible refine ws_ret (te := tLst _) ?_)
  | (with_reducible refine ws_ret (te := tLc _ _ _ _ _) ?_)
  | (refine ws_retE (take_at rfl ?_))
  | (with_reducible refine ws_ret (te := tCall _ _ _ _) ?_)
  | (with_reducible refine ws_ret (te := tMake _ _ _ _ _) ?_)
  | (with_reducible refine ws_ret (te := tMeth _ _ _ _ _ _ _) ?_)
  | (with_reducible refine ws_ret (te := tSl _ _ _ _) ?_)
  | (with_reducible refine ws_ret (te := tOp rCat _ _) ?_)
  | (with_reducible refine ws_ret (wm_list ?_))
  | (with_reducible refine ws_retE ?_)
  | (with_reducible refine ws_asg (te := tLst _) ?_)
  | (with_reducible refine ws_asg (te := tLc _ _ _ _ _) ?_)
  | (refine ws_asgE (take_at rfl ?_))
  | (with_reducible refine ws_asg (te := tCall _ _ _ _) ?_)
  | (with_reducible refine ws_asg (te := tMake _ _ _ _ _) ?_)
  | (with_reducible refine ws_asg (te := tSl _ _ _ _) ?_)
  | (with_reducible refine ws_asg (te := tOp rCat _ _) ?_)
  | (with_reducible refine ws_asg (te := tDNewK) ?_)
  | (with_reducible refine ws_asg (wm_list ?_))
  | (with_reducible refine ws_asgE ?_)
  | ((with_reducible show (_ : Int) ≠ 0 ∧ _); (refine ⟨by decide, ?_⟩))
  | ((with_reducible show _ ≤ _ ∧ _); (refine ⟨(by walk_at "side"), ?_⟩))
  | ((with_reducible show _ < _ ∧ _); (refine ⟨(by walk_at "side"), ?_⟩))
  | ((with_reducible show (_ → _) ∧ (_ → _)); first | (refine ⟨fun hb => absurd hb (by walk_at "no"), fun _ => ?_⟩) | (refine ⟨fun _ => ?_, fun hb => absurd hb (by walk_at "no")⟩))
  | ((with_reducible show ∀ p : Addr, ∃ d, Frz (ml p _) d ∧ _); (intro p))
  | ((with_reducible show (slots _).Nodup ∧ _); (refine ⟨by simp [slots], ?_⟩))
  | (refine ⟨_, frz_ml, ?_⟩)
  | (refine ⟨_, frz_fz, ?_⟩)
  | (refine ⟨_, rfl, ?_⟩)
  | (with_reducible refine ⟨_, _, rfl, (by assumption), ?_⟩)
  | (with_reducible refine ⟨_, _, rfl, atI_0, ?_⟩)
  | (with_reducible refine ⟨_, _, rfl, atI_1, ?_⟩)
  | (refine ⟨_, _, rfl, rfl, ?_⟩)
  | (refine ⟨rfl, ?_⟩)
  | (refine Or.inl ⟨_, rfl, ?_⟩)
  | (refine Or.inr ⟨_, rfl, ?_⟩)
  | (refine ⟨_, Or.inl rfl, ?_⟩)
  | (refine ⟨_, Or.inr rfl, ?_⟩)
  | (dsimp only [List.set_cons_zero, List.set_cons_succ]))
local macro_rules | `(tactic| walk_at "z") => `(tactic| (repeat (walk_at "z1"; try dsimp only)))
section
variable {P : Program} {w : World} {K : PySem.W.Frag} {mg : Str → Option Value} {base : Heap}
theorem ok_NoGround_init (T : Txt K mg) : FnOk P w K mg base CX0 1 T.NoGround_init.a T.NoGround_init.fd ["self", "word"] (spI1 T.C_NoGround "word") := by
  refine T.NoGround_init.F.ok sc_NoGround_init (fun vs H Q E h => ?_) (fun cdv A outer s H vs Q E hr h => ?_)
  · obtain ⟨a, v, rfl, _⟩ := h
    rfl
  · obtain ⟨a, v, rfl, ha, q⟩ := h
    refine ⟨_, (pss_cons (ps_expr (pe_geinit rfl T.m_GroundError T.g_GroundError (pa_cons (pv 0) (pa_cons pe_str pa_nil)))) (pss_one (ps_ost (pv 0) (pv 1)))), ?_⟩
    exact run_I1 (te := tC .non) T.x_NoGround rfl rfl ha (fun σ H Q h0 h1 q => ⟨_, h0, q _⟩) q

end
end

section
local macro_rules | `(tactic| walk_at "no") => `(tactic| first | (with_reducible exact Bool.false_ne_true) | (with_reducible exact fun z => Bool.false_ne_true z.symm) | (simp only [decide_eq_true_eq, decide_eq_false_iff_not]; omega) | (decide +kernel) | (simp; done) | (simp; omega) | (exact Bool.false_ne_true) | (exact fun z => Bool.false_ne_true z.symm))
local macro_rules | `(tactic| walk_at "side") => `(tactic| first | omega | assumption | (refine Nat.le_trans (m := 100000) ?_ (by decide); first | omega | (simp <;> omega)) | (simp <;> omega))
local macro_rules | `(tactic| walk_at "w1") => `(tactic| first
  | (with_reducible refine ws_seq ?_)
  | (with_reducible refine ws_if ?_)
  | (with_reducible refine ws_nx ?_)
  | (with_reducible refine ws_retN ?_)
  | ((with_reducible show WE (tVar _) _ _); (refine we_var rfl ?_))
  | (with_reducible refine we_int ?_)
  | (with_reducible refine we_str ?_)
  | (with_reducible refine we_bl ?_)
  | (with_reducible refine we_non ?_)
  | (with_reducible refine wt_test ?_)
  | (with_reducible refine wt_B ?_)
  | (with_reducible refine wt_yes ?_)
  | (with_reducible refine wt_and ?_)
  | (with_reducible refine wt_or ?_)
  | (with_reducible refine wt_not ?_)
  | (with_reducible refine we_andV ?_)
  | (with_reducible refine we_orV ?_)
  | (with_reducible refine we_notV ?_)
  | (with_reducible refine we_if ?_)
  | (with_reducible refine we_rB0 ?_)
  | (with_reducible refine we_rI0 ?_)
  | (with_reducible refine we_rI ?_)
  | (with_reducible refine we_eq ?_)
  | (with_reducible refine we_din ?_)
  | (with_reducible refine we_dnotin ?_)
  | (with_reducible refine we_ne ?_)
  | (with_reducible refine we_isN ?_)
  | (with_reducible refine we_notN ?_)
  | (with_reducible refine we_addS ?_)
  | (with_reducible refine we_inC ?_)
  | (with_reducible refine we_inS ?_)
  | (with_reducible refine we_lenS ?_)
  | (with_reducible refine we_all ?_)
  | (with_reducible refine we_any ?_)
  | (with_reducible refine we_join ?_)
  | (with_reducible refine we_tup ?_)
  | (with_reducible refine we_ixL ?_)
  | (with_reducible refine we_ixT ?_)
  | (with_reducible refine we_ixS ?_)
  | (with_reducible refine we_len ?_)
  | (with_reducible refine wa_nil ?_)
  | (with_reducible refine wa_cons ?_)
  | (with_reducible refine wo_none ?_)
  | (with_reducible refine wo_some ?_)
  | (with_reducible refine wm_lst ?_)
  | (with_reducible refine wm_cat ?_)
  | (with_reducible refine wm_slL ?_)
  | (with_reducible refine wm_sortSet ?_)
  | (with_reducible refine we_isi ?_)
  | (with_reducible refine we_int1 ?_)
  | (with_reducible refine we_tupOf ?_)
  | (with_reducible refine we_slT ?_)
  | (with_reducible refine we_min ?_)
  | (with_reducible refine we_eqD ?_)
  | (with_reducible refine we_neD ?_)
  | (with_reducible refine we_ixs ?_)
  | (with_reducible refine we_neg ?_)
  | (with_reducible refine wm_list ?_)
  | (with_reducible refine wm_split ?_)
  | (with_reducible refine wm_dnew ?_)
  | (with_reducible refine take_at rfl ?_)
  | (with_reducible refine wm_call ?_)
  | (with_reducible refine wm_callX (by assumption) ?_)
  | (with_reducible refine wm_callX lets0 ?_)
  | (with_reducible refine wm_make ?_)
  | (with_reducible refine wm_lcL ?_)
  | (with_reducible refine wm_lcSq ?_)
  | (with_reducible refine wm_lcT ?_)
  | (with_reducible refine wm_lcR ?_)
  | (with_reducible refine wm_lcS ?_)
  | (with_reducible refine we_wm (te := tLst _) ?_)
  | (with_reducible refine we_wm (te := tLc _ _ _ _ _) ?_)
  | (refine take_at rfl ?_)
  | (with_reducible refine known_at ?_)
  | (with_reducible refine we_wm (te := tCall _ _ _ _) ?_)
  | (with_reducible refine we_wm (te := tCallS _ _ _) ?_)
  | (with_reducible refine we_wm (te := tSl _ _ _ _) ?_)
  | (with_reducible refine we_wm (te := tOp rCat _ _) ?_)
  | (with_reducible refine we_wm (te := tCB _ _) ?_)
  | (with_reducible refine we_wm (te := tM1 _ _ _) ?_)
  | (with_reducible refine ws_ret (te := tLst _) ?_)
  | (with_reducible refine ws_ret (te := tLc _ _ _ _ _) ?_)
  | (refine ws_retE (take_at rfl ?_))
  | (with_reducible refine ws_ret (te := tCall _ _ _ _) ?_)
  | (with_reducible refine ws_ret (te := tMake _ _ _ _ _) ?_)
  | (with_reducible refine ws_ret (te := tMeth _ _ _ _ _ _ _) ?_)
  | (with_reducible refine ws_ret (te := tSl _ _ _ _) ?_)
  | (with_reducible refine ws_ret (te := tOp rCat _ _) ?_)
  | (with_reducible refine ws_ret (wm_list ?_))
  | (with_reducible refine ws_retE ?_)
  | (with_reducible refine ws_asg (te := tLst _) ?_)
  | (with_reducible refine ws_asg (te := tLc _ _ _ _ _) ?_)
  | (refine ws_asgE (take_at rfl ?_))
  | (with_reducible refine ws_asg (te := tCall _ _ _ _) ?_)
  | (with_reducible refine ws_asg (te := tMake _ _ _ _ _) ?_)
  | (with_reducible refine ws_asg (te := tSl _ _ _ _) ?_)
  | (with_reducible refine ws_asg (te := tOp rCat _ _) ?_)
  | (with_reducible refine ws_asg (te := tDNewK) ?_)
  | (with_reducible refine ws_asg (wm_list ?_))
  | (with_reducible refine ws_asgE ?_)
  | ((with_reducible show _ ≤ _ ∧ _); (refine ⟨(by walk_at "side"), ?_⟩))
  | ((with_reducible show _ < _ ∧ _); (refine ⟨(by walk_at "side"), ?_⟩))
  | ((with_reducible show (_ → _) ∧ (_ → _)); first | (refine ⟨fun hb => absurd hb (by walk_at "no"), fun _ => ?_⟩) | (refine ⟨fun _ => ?_, fun hb => absurd hb (by walk_at "no")⟩))
  | ((with_reducible show ∀ p : Addr, ∃ d, Frz (ml p _) d ∧ _); (intro p))
  | ((with_reducible show (slots _).Nodup ∧ _); (refine ⟨by simp [slots], ?_⟩))
  | (refine ⟨_, frz_ml, ?_⟩)
  | (refine ⟨_, frz_fz, ?_⟩)
  | (refine ⟨_, rfl, ?_⟩)
  | (with_reducible refine ⟨_, _, rfl, atI_0, ?_⟩)
  | (with_reducible refine ⟨_, _, rfl, atI_1, ?_⟩)
  | (refine ⟨_, _, rfl, rfl, ?_⟩)
  | (refine ⟨rfl, ?_⟩)
  | (refine Or.inl ⟨_, rfl, ?_⟩)
  | (refine Or.inr ⟨_, rfl, ?_⟩)
  | (refine ⟨_, Or.inl rfl, ?_⟩)
  | (refine ⟨_, Or.inr rfl, ?_⟩)
  | (dsimp only [List.set_cons_zero, List.set_cons_succ]))
local macro_rules | `(tactic| walk_at "w") => `(tactic| (repeat (walk_at "w1"; try dsimp only)))
local macro_rules | `(tactic| walk_at "z1") => `(tactic| first
  | (with_reducible refine ws_seq ?_)
  | (with_reducible refine ws_if ?_)
  | (with_reducible refine ws_nx ?_)
  | ((with_reducible show WE (tCall _ _ _ _) _ _); first | (with_reducible refine walked_at ?_) | (refine take_at rfl ?_) | (with_reducible refine known_at ?_) | (refine words_at rfl ?_) | (refine row_at rfl ?_) | (refine number_at rfl ?_) | (with_reducible refine is_way_at ?_) | (with_reducible refine law_walks_at ?_) | (refine right_at rfl ?_) | (with_reducible refine we_wm (copied_at ?_)) | (with_reducible refine we_wm (grounds_at ?_)) | (refine we_wm (taken_at rfl ?_)) | (refine we_wm (rows_at rfl ?_)))
  | ((with_reducible show WM (tCall _ _ _ _) _ _); first | (refine wm_we (take_at rfl ?_)) | (refine wm_we (words_at rfl ?_)) | (refine wm_we (row_at rfl ?_)) | (refine wm_we (number_at rfl ?_)) | (with_reducible refine fired_at ?_) | (refine spoilt_at rfl ?_) | (refine wm_we (right_at rfl ?_)) | (refine begun_at rfl (by assumption) ?_) | (refine rows_at rfl ?_) | (with_reducible refine copied_at ?_) | (with_reducible refine grounds_at ?_) | (refine taken_at rfl ?_))
  | ((with_reducible show WM (tCallS _ _ _) _ _); first | (refine way_at rfl ?_))
  | ((with_reducible show WM (tMake _ _ _ _ _) _ _); first | (with_reducible refine book_at ?_))
  | ((with_reducible show WM (tMeth _ _ _ _ _ _ _) _ _); first | (refine tell_at rfl ?_))
  | (with_reducible refine ws_retN ?_)
  | ((with_reducible show WE (tVar _) _ _); first | (refine we_var rfl ?_) | (refine we_varF rfl ?_) | (refine we_varFd rfl ?_))
  | (with_reducible refine we_int ?_)
  | (with_reducible refine we_str ?_)
  | (with_reducible refine we_bl ?_)
  | (with_reducible refine we_non ?_)
  | (with_reducible refine wt_test ?_)
  | (with_reducible refine wt_B ?_)
  | (with_reducible refine wt_yes ?_)
  | (with_reducible refine wt_and ?_)
  | (with_reducible refine wt_or ?_)
  | (with_reducible refine wt_not ?_)
  | (with_reducible refine we_andV ?_)
  | (with_reducible refine we_orV ?_)
  | (with_reducible refine we_notV ?_)
  | (with_reducible refine we_if ?_)
  | (with_reducible refine we_rB0 ?_)
  | (with_reducible refine we_rI0 ?_)
  | (with_reducible refine we_rI ?_)
  | (with_reducible refine we_eq ?_)
  | (with_reducible refine we_din ?_)
  | (with_reducible refine we_dnotin ?_)
  | (with_reducible refine we_ne ?_)
  | ((with_reducible show WE (tOp _ (tVar _) (tC .non)) _ _); first | (refine we_isNM rfl ?_) | (refine we_notNM rfl ?_))
  | (with_reducible refine we_isN ?_)
  | (with_reducible refine we_notN ?_)
  | (with_reducible refine we_addS ?_)
  | (with_reducible refine we_inC ?_)
  | (with_reducible refine we_inS ?_)
  | (with_reducible refine we_lenS ?_)
  | (with_reducible refine we_all ?_)
  | (with_reducible refine we_any ?_)
  | (with_reducible refine we_join ?_)
  | (with_reducible refine we_tup ?_)
  | (with_reducible refine we_ixL ?_)
  | (with_reducible refine we_ixT ?_)
  | (with_reducible refine we_ixS ?_)
  | (with_reducible refine we_len ?_)
  | (with_reducible refine wa_nil ?_)
  | ((with_reducible show WA (tCons (tVar _) _) _ _); first | (refine wa_cons (we_var rfl ?_)) | (refine wa_slot (r := bk _ _ _ _) rfl ?_) | (refine wa_slot (r := bx _) rfl ?_) | (refine wa_slot (r := md _ _) rfl ?_) | (refine wa_cons (we_varF rfl ?_)))
  | (with_reducible refine wa_cons ?_)
  | (with_reducible refine wo_none ?_)
  | (with_reducible refine wo_some ?_)
  | (with_reducible refine wm_lst ?_)
  | (with_reducible refine wm_cat ?_)
  | (with_reducible refine wm_slL ?_)
  | (with_reducible refine wm_sortSet ?_)
  | (with_reducible refine we_isi ?_)
  | (with_reducible refine we_int1 ?_)
  | (with_reducible refine we_tupOf ?_)
  | (with_reducible refine we_slT ?_)
  | (with_reducible refine we_min ?_)
  | (with_reducible refine we_eqD ?_)
  | (with_reducible refine we_neD ?_)
  | (with_reducible refine we_ixs ?_)
  | (with_reducible refine we_neg ?_)
  | (with_reducible refine wm_list ?_)
  | (with_reducible refine wm_split ?_)
  | (with_reducible refine wm_dnew ?_)
  | (with_reducible refine take_at rfl ?_)
  | (with_reducible refine wm_call ?_)
  | (with_reducible refine wm_callX (by assumption) ?_)
  | (with_reducible refine wm_callX lets0 ?_)
  | (with_reducible refine wm_make ?_)
  | (with_reducible refine wm_lcL ?_)
  | (with_reducible refine wm_lcSq ?_)
  | (with_reducible refine wm_lcT ?_)
  | (with_reducible refine wm_lcR ?_)
  | (with_reducible refine wm_lcS ?_)
  | (with_reducible refine we_wm (te := tLst _) ?_)
  | (with_reducible refine we_wm (te := tLc _ _ _ _ _) ?_)
  | (refine take_at rfl ?_)
  | (with_reducible refine known_at ?_)
  | (with_reducible refine we_wm (te := tCall _ _ _ _) ?_)
  | (with_reducible refine we_wm (te := tCallS _ _ _) ?_)
  | (with_reducible refine ws_asg (te := tCallS _ _ _) ?_)
  | (with_reducible refine ws_asg (te := tMeth _ _ _ _ _ _ _) ?_)
  | (with_reducible refine ws_drop (te := tMeth _ _ _ _ _ _ _) ?_)
  | (with_reducible refine ws_drop (te := tCallS _ _ _) ?_)
  | (with_reducible refine we_wm (te := tSl _ _ _ _) ?_)
  | (with_reducible refine we_wm (te := tOp rCat _ _) ?_)
  | (with_reducible refine we_wm (te := tCB _ _) ?_)
  | (with_reducible refine we_wm (te := tM1 _ _ _) ?_)
  | (with_reducible refine ws_ret (te := tLst _) ?_)
  | (with_reducible refine ws_ret (te := tLc _ _ _ _ _) ?_)
  | (refine ws_retE (take_at rfl ?_))
  | (with_reducible refine ws_ret (te := tCall _ _ _ _) ?_)
  | (with_reducible refine ws_ret (te := tMake _ _ _ _ _) ?_)
  | (with_reducible refine ws_ret (te := tMeth _ _ _ _ _ _ _) ?_)
  | (with_reducible refine ws_ret (te := tSl _ _ _ _) ?_)
  | (with_reducible refine ws_ret (te := tOp rCat _ _) ?_)
  | (with_reducible refine ws_ret (wm_list ?_))
  | (with_reducible refine ws_retE ?_)
  | (with_reducible refine ws_asg (te := tLst _) ?_)
  | (with_reducible refine ws_asg (te := tLc _ _ _ _ _) ?_)
  | (refine ws_asgE (take_at rfl ?_))
  | (with_reducible refine ws_asg (te := tCall _ _ _ _) ?_)
  | (with_reducible refine ws_asg (te := tMake _ _ _ _ _) ?_)
  | (with_reducible refine ws_asg (te := tSl _ _ _ _) ?_)
  | (with_reducible refine ws_asg (te := tOp rCat _ _) ?_)
  | (with_reducible refine ws_asg (te := tDNewK) ?_)
  | (with_reducible refine ws_asg (wm_list ?_))
  | (with_reducible refine ws_asgE ?_)
  | ((with_reducible show (_ : Int) ≠ 0 ∧ _); (refine ⟨by decide, ?_⟩))
  | ((with_reducible show _ ≤ _ ∧ _); (refine ⟨(by walk_at "side"), ?_⟩))
  | ((with_reducible show _ < _ ∧ _); (refine ⟨(by walk_at "side"), ?_⟩))
  | ((with_reducible show (_ → _) ∧ (_ → _)); first | (refine ⟨fun hb => absurd hb (by walk_at "no"), fun _ => ?_⟩) | (refine ⟨fun _ => ?_, fun hb => absurd hb (by walk_at "no")⟩))
  | ((with_reducible show ∀ p : Addr, ∃ d, Frz (ml p _) d ∧ _); (intro p))
  | ((with_reducible show (slots _).Nodup ∧ _); (refine ⟨by simp [slots], ?_⟩))
  | (refine ⟨_, frz_ml, ?_⟩)
  | (refine ⟨_, frz_fz, ?_⟩)
  | (refine ⟨_, rfl, ?_⟩)
  | (with_reducible refine ⟨_, _, rfl, (by assumption), ?_⟩)
  | (with_reducible refine ⟨_, _, rfl, atI_0, ?_⟩)
  | (with_reducible refine ⟨_, _, rfl, atI_1, ?_⟩)
  | (refine ⟨_, _, rfl, rfl, ?_⟩)
  | (refine ⟨rfl, ?_⟩)
  | (refine Or.inl ⟨_, rfl, ?_⟩)
  | (refine Or.inr ⟨_, rfl, ?_⟩)
  | (refine ⟨_, Or.inl rfl, ?_⟩)
  | (refine ⟨_, Or.inr rfl, ?_⟩)
  | (dsimp only [List.set_cons_zero, List.set_cons_succ]))
local macro_rules | `(tactic| walk_at "z") => `(tactic| (repeat (walk_at "z1"; try dsimp only)))
section
variable {P : Program} {w : World} {K : PySem.W.Frag} {mg : Str → Option Value} {base : Heap}
def sp_must_be_grounds (T : Txt K mg) : FXp := fun args Q QX => ∃ a l rs ts d, args = [bk T.C_Book a l rs, fz d] ∧ Sq d ts ∧ rs.length ≤ 1000 ∧ (MB.strangeOf rs ts = none → Q (fz .none) args) ∧ ∀ w, MB.strangeOf rs ts = some w → QX ⟨T.C_NoGround, [("word", .str w)]⟩ args
theorem ok_must_be_grounds (T : Txt K mg) : FnOk P w K mg base (L2.CX P w) 3 T.must_be_grounds.a T.must_be_grounds.fd ["book", "taken"] (spX (sp_must_be_grounds T)) := by
  refine fokX T.must_be_grounds.F sc_must_be_grounds (fun args Q QX h => ?_) (fun cdv A outer s H E hr args Q QX h L => ?_)
  · obtain ⟨a, l, rs, ts, d, rfl, _⟩ := h
    rfl
  · obtain ⟨a, l, rs, ts, d, rfl, hd, hl, q, qx⟩ := h
    refine ⟨_, (pss_cons (ps_set (i := 2) sc_must_be_grounds.nd rfl (by first | exact Or.inl rfl | exact Or.inr rfl) (pe_meth0 (pv 0) T.c_Book T.Book_all_grounds.me (ok_Book_all_grounds T) (hr.mono (by decide)) T.Book_all_grounds.b .nil pass0))
      (pss_one (ps_for (passes_of rfl) rfl (pi_seq (pv 1)) (pg_name (i := 3) sc_must_be_grounds.nd rfl (by first | exact Or.inl rfl | exact Or.inr rfl))
      (pss_one (ps_if (pt_cmpR op_notIn_seq (pv 3) (pv 2) (by first | rfl | exact nomark _)) (pss_one (ps_raise rfl (takes_of rfl rfl rfl rfl) (pmk_oex T.x_NoGround.oex T.NoGround_init.me.at_ T.ti_NoGround (ok_NoGround_init T) (hr.mono (by decide)) T.NoGround_init.b .nil pass0 rfl T.m_NoGround (pa_cons (pv 3) pa_nil)))) pss_nil))))), ?_⟩
    show WS _ [some (bk _ _ _ _), some (fz _), none, none] _
    refine ws_seq (ws_asg (wm_meth (i := 0) rfl (ins_bk (by decide)) (wa_nil ⟨_, rfl, by simp [slots], a, l, rs, rfl, by omega, fun p => ws_frz (i := 2) rfl frz_ml ?_⟩)))
    show WS _ [some (bk _ _ _ _), some (fz _), some (fz (.list ((gsOf rs).map .str))), none] _
    refine ws_forSq (we_var (i := 1) rfl ⟨ts.map .str, hd, fun k e => (∃ x, e = [some (bk T.C_Book a l rs), some (fz d), some (fz (.list ((gsOf rs).map .str))), x]) ∧ ∀ w ∈ ts.take k, w ∈ gsOf rs, ⟨⟨_, rfl⟩, by simp⟩, fun k x e hx ⟨⟨y, ee⟩, hk⟩ => ?_, fun e ⟨⟨y, ee⟩, hk⟩ => ?_⟩)
    · subst ee
      rw [List.getElem?_map, Option.map_eq_some_iff] at hx
      obtain ⟨w, hw, rfl⟩ := hx
      have tk : ts.take (k + 1) = ts.take k ++ [w] := by rw [List.take_succ, hw]; rfl
      walk_at "w"
      by_cases c : w ∈ gsOf rs
      · refine ⟨fun z => absurd z (by simp [c]), fun _ => ws_nx ⟨⟨_, rfl⟩, fun v hv => ?_⟩⟩
        rw [tk] at hv
        rcases List.mem_append.mp hv with z | z
        · exact hk v z
        · rw [List.mem_singleton.mp z]
          exact c
      · refine ⟨fun _ => ?_, fun z => absurd z (by simp [c])⟩
        refine ws_raise1 L (wa_cons (we_var (i := 3) rfl (wa_nil ⟨_, rfl, ?_⟩)))
        refine finX_of (args' := [bk T.C_Book a l rs, fz d]) ⟨kp_st pin_bk, kp_fz, trivial⟩ (qx w ?_)
        have e : ts = ts.take k ++ w :: ts.drop (k + 1) := by
          have h1 := (List.take_append_drop k ts).symm
          have hk2 : k < ts.length := (List.getElem?_eq_some_iff.mp hw).1
          rw [List.drop_eq_getElem_cons hk2, (List.getElem?_eq_some_iff.mp hw).2] at h1
          exact h1
        unfold MB.strangeOf
        rw [e, List.find?_append, List.find?_eq_none.mpr (fun v hv => by simpa using hk v hv), List.find?_cons]
        simp [c]
    · subst ee
      refine finS1 pin_bk (q ?_)
      rw [List.length_map, List.take_length] at hk
      exact List.find?_eq_none.mpr (fun v hv => by simpa using hk v hv)

end
end

section
local macro_rules | `(tactic| walk_at "no") => `(tactic| first | (with_reducible exact Bool.false_ne_true) | (with_reducible exact fun z => Bool.false_ne_true z.symm) | (simp only [decide_eq_true_eq, decide_eq_false_iff_not]; omega) | (decide +kernel) | (simp; done) | (simp; omega) | (exact Bool.false_ne_true) | (exact fun z => Bool.false_ne_true z.symm))
local macro_rules | `(tactic| walk_at "side") => `(tactic| first | omega | assumption | (refine Nat.le_trans (m := 100000) ?_ (by decide); first | omega | (simp <;> omega)) | (simp <;> omega))
local macro_rules | `(tactic| walk_at "w1") => `(tactic| first
  | (with_reducible refine ws_seq ?_)
  | (with_reducible refine ws_if ?_)
  | (with_reducible refine ws_nx ?_)
  | (with_reducible refine ws_retN ?_)
  | ((with_reducible show WE (tVar _) _ _); (refine we_var rfl ?_))
  | (with_reducible refine we_int ?_)
  | (with_reducible refine we_str ?_)
  | (with_reducible refine we_bl ?_)
  | (with_reducible refine we_non ?_)
  | (with_reducible refine wt_test ?_)
  | (with_reducible refine wt_B ?_)
  | (with_reducible refine wt_yes ?_)
  | (with_reducible refine wt_and ?_)
  | (with_reducible refine wt_or ?_)
  | (with_reducible refine wt_not ?_)
  | (with_reducible refine we_andV ?_)
  | (with_reducible refine we_orV ?_)
  | (with_reducible refine we_notV ?_)
  | (with_reducible refine we_if ?_)
  | (with_reducible refine we_rB0 ?_)
  | (with_reducible refine we_rI0 ?_)
  | (with_reducible refine we_rI ?_)
  | (with_reducible refine we_eq ?_)
  | (with_reducible refine we_din ?_)
  | (with_reducible refine we_dnotin ?_)
  | (with_reducible refine we_ne ?_)
  | (with_reducible refine we_isN ?_)
  | (with_reducible refine we_notN ?_)
  | (with_reducible refine we_addS ?_)
  | (with_reducible refine we_inC ?_)
  | (with_reducible refine we_inS ?_)
  | (with_reducible refine we_lenS ?_)
  | (with_reducible refine we_all ?_)
  | (with_reducible refine we_any ?_)
  | (with_reducible refine we_join ?_)
  | (with_reducible refine we_tup ?_)
  | (with_reducible refine we_ixL ?_)
  | (with_reducible refine we_ixT ?_)
  | (with_reducible refine we_ixS ?_)
  | (with_reducible refine we_len ?_)
  | (with_reducible refine wa_nil ?_)
  | (with_reducible refine wa_cons ?_)
  | (with_reducible refine wo_none ?_)
  | (with_reducible refine wo_some ?_)
  | (with_reducible refine wm_lst ?_)
  | (with_reducible refine wm_cat ?_)
  | (with_reducible refine wm_slL ?_)
  | (with_reducible refine wm_sortSet ?_)
  | (with_reducible refine we_isi ?_)
  | (with_reducible refine we_int1 ?_)
  | (with_reducible refine we_tupOf ?_)
  | (with_reducible refine we_slT ?_)
  | (with_reducible refine we_min ?_)
  | (with_reducible refine we_eqD ?_)
  | (with_reducible refine we_neD ?_)
  | (with_reducible refine we_ixs ?_)
  | (with_reducible refine we_neg ?_)
  | (with_reducible refine wm_list ?_)
  | (with_reducible refine wm_split ?_)
  | (with_reducible refine wm_dnew ?_)
  | (with_reducible refine take_at rfl ?_)
  | (with_reducible refine wm_call ?_)
  | (with_reducible refine wm_callX (by assumption) ?_)
  | (with_reducible refine wm_callX lets0 ?_)
  | (with_reducible refine wm_make ?_)
  | (with_reducible refine wm_lcL ?_)
  | (with_reducible refine wm_lcSq ?_)
  | (with_reducible refine wm_lcT ?_)
  | (with_reducible refine wm_lcR ?_)
  | (with_reducible refine wm_lcS ?_)
  | (with_reducible refine we_wm (te := tLst _) ?_)
  | (with_reducible refine we_wm (te := tLc _ _ _ _ _) ?_)
  | (refine take_at rfl ?_)
  | (with_reducible refine known_at ?_)
  | (with_reducible refine we_wm (te := tCall _ _ _ _) ?_)
  | (with_reducible refine we_wm (te := tCallS _ _ _) ?_)
  | (with_reducible refine we_wm (te := tSl _ _ _ _) ?_)
  | (with_reducible refine we_wm (te := tOp rCat _ _) ?_)
  | (with_reducible refine we_wm (te := tCB _ _) ?_)
  | (with_reducible refine we_wm (te := tM1 _ _ _) ?_)
  | (with_reducible refine ws_ret (te := tLst _) ?_)
  | (with_reducible refine ws_ret (te := tLc _ _ _ _ _) ?_)
  | (refine ws_retE (take_at rfl ?_))
  | (with_reducible refine ws_ret (te := tCall _ _ _ _) ?_)
  | (with_reducible refine ws_ret (te := tMake _ _ _ _ _) ?_)
  | (with_reducible refine ws_ret (te := tMeth _ _ _ _ _ _ _) ?_)
  | (with_reducible refine ws_ret (te := tSl _ _ _ _) ?_)
  | (with_reducible refine ws_ret (te := tOp rCat _ _) ?_)
  | (with_reducible refine ws_ret (wm_list ?_))
  | (with_reducible refine ws_retE ?_)
  | (with_reducible refine ws_asg (te := tLst _) ?_)
  | (with_reducible refine ws_asg (te := tLc _ _ _ _ _) ?_)
  | (refine ws_asgE (take_at rfl ?_))
  | (with_reducible refine ws_asg (te := tCall _ _ _ _) ?_)
  | (with_reducible refine ws_asg (te := tMake _ _ _ _ _) ?_)
  | (with_reducible refine ws_asg (te := tSl _ _ _ _) ?_)
  | (with_reducible refine ws_asg (te := tOp rCat _ _) ?_)
  | (with_reducible refine ws_asg (te := tDNewK) ?_)
  | (with_reducible refine ws_asg (wm_list ?_))
  | (with_reducible refine ws_asgE ?_)
  | ((with_reducible show _ ≤ _ ∧ _); (refine ⟨(by walk_at "side"), ?_⟩))
  | ((with_reducible show _ < _ ∧ _); (refine ⟨(by walk_at "side"), ?_⟩))
  | ((with_reducible show (_ → _) ∧ (_ → _)); first | (refine ⟨fun hb => absurd hb (by walk_at "no"), fun _ => ?_⟩) | (refine ⟨fun _ => ?_, fun hb => absurd hb (by walk_at "no")⟩))
  | ((with_reducible show ∀ p : Addr, ∃ d, Frz (ml p _) d ∧ _); (intro p))
  | ((with_reducible show (slots _).Nodup ∧ _); (refine ⟨by simp [slots], ?_⟩))
  | (refine ⟨_, frz_ml, ?_⟩)
  | (refine ⟨_, frz_fz, ?_⟩)
  | (refine ⟨_, rfl, ?_⟩)
  | (with_reducible refine ⟨_, _, rfl, atI_0, ?_⟩)
  | (with_reducible refine ⟨_, _, rfl, atI_1, ?_⟩)
  | (refine ⟨_, _, rfl, rfl, ?_⟩)
  | (refine ⟨rfl, ?_⟩)
  | (refine Or.inl ⟨_, rfl, ?_⟩)
  | (refine Or.inr ⟨_, rfl, ?_⟩)
  | (refine ⟨_, Or.inl rfl, ?_⟩)
  | (refine ⟨_, Or.inr rfl, ?_⟩)
  | (dsimp only [List.set_cons_zero, List.set_cons_succ]))
local macro_rules | `(tactic| walk_at "w") => `(tactic| (repeat (walk_at "w1"; try dsimp only)))
local macro_rules | `(tactic| walk_at "z1") => `(tactic| first
  | (with_reducible refine ws_seq ?_)
  | (with_reducible refine ws_if ?_)
  | (with_reducible refine ws_nx ?_)
  | ((with_reducible show WE (tCall _ _ _ _) _ _); first | (with_reducible refine walked_at ?_) | (refine take_at rfl ?_) | (with_reducible refine known_at ?_) | (refine words_at rfl ?_) | (refine row_at rfl ?_) | (refine number_at rfl ?_) | (with_reducible refine is_way_at ?_) | (with_reducible refine law_walks_at ?_) | (refine right_at rfl ?_) | (with_reducible refine we_wm (copied_at ?_)) | (with_reducible refine we_wm (grounds_at ?_)) | (refine we_wm (taken_at rfl ?_)) | (refine we_wm (rows_at rfl ?_)))
  | ((with_reducible show WM (tCall _ _ _ _) _ _); first | (refine wm_we (take_at rfl ?_)) | (refine wm_we (words_at rfl ?_)) | (refine wm_we (row_at rfl ?_)) | (refine wm_we (number_at rfl ?_)) | (with_reducible refine fired_at ?_) | (refine spoilt_at rfl ?_) | (refine wm_we (right_at rfl ?_)) | (refine begun_at rfl (by assumption) ?_) | (refine rows_at rfl ?_) | (with_reducible refine copied_at ?_) | (with_reducible refine grounds_at ?_) | (refine taken_at rfl ?_))
  | ((with_reducible show WM (tCallS _ _ _) _ _); first | (refine way_at rfl ?_))
  | ((with_reducible show WM (tMake _ _ _ _ _) _ _); first | (with_reducible refine book_at ?_))
  | ((with_reducible show WM (tMeth _ _ _ _ _ _ _) _ _); first | (refine tell_at rfl ?_))
  | (with_reducible refine ws_retN ?_)
  | ((with_reducible show WE (tVar _) _ _); first | (refine we_var rfl ?_) | (refine we_varF rfl ?_) | (refine we_varFd rfl ?_))
  | (with_reducible refine we_int ?_)
  | (with_reducible refine we_str ?_)
  | (with_reducible refine we_bl ?_)
  | (with_reducible refine we_non ?_)
  | (with_reducible refine wt_test ?_)
  | (with_reducible refine wt_B ?_)
  | (with_reducible refine wt_yes ?_)
  | (with_reducible refine wt_and ?_)
  | (with_reducible refine wt_or ?_)
  | (with_reducible refine wt_not ?_)
  | (with_reducible refine we_andV ?_)
  | (with_reducible refine we_orV ?_)
  | (with_reducible refine we_notV ?_)
  | (with_reducible refine we_if ?_)
  | (with_reducible refine we_rB0 ?_)
  | (with_reducible refine we_rI0 ?_)
  | (with_reducible refine we_rI ?_)
  | (with_reducible refine we_eq ?_)
  | (with_reducible refine we_din ?_)
  | (with_reducible refine we_dnotin ?_)
  | (with_reducible refine we_ne ?_)
  | ((with_reducible show WE (tOp _ (tVar _) (tC .non)) _ _); first | (refine we_isNM rfl ?_) | (refine we_notNM rfl ?_))
  | (with_reducible refine we_isN ?_)
  | (with_reducible refine we_notN ?_)
  | (with_reducible refine we_addS ?_)
  | (with_reducible refine we_inC ?_)
  | (with_reducible refine we_inS ?_)
  | (with_reducible refine we_lenS ?_)
  | (with_reducible refine we_all ?_)
  | (with_reducible refine we_any ?_)
  | (with_reducible refine we_join ?_)
  | (with_reducible refine we_tup ?_)
  | (with_reducible refine we_ixL ?_)
  | (with_reducible refine we_ixT ?_)
  | (with_reducible refine we_ixS ?_)
  | (with_reducible refine we_len ?_)
  | (with_reducible refine wa_nil ?_)
  | ((with_reducible show WA (tCons (tVar _) _) _ _); first | (refine wa_cons (we_var rfl ?_)) | (refine wa_slot (r := bk _ _ _ _) rfl ?_) | (refine wa_slot (r := bx _) rfl ?_) | (refine wa_slot (r := md _ _) rfl ?_) | (refine wa_cons (we_varF rfl ?_)))
  | (with_reducible refine wa_cons ?_)
  | (with_reducible refine wo_none ?_)
  | (with_reducible refine wo_some ?_)
  | (with_reducible refine wm_lst ?_)
  | (with_reducible refine wm_cat ?_)
  | (with_reducible refine wm_slL ?_)
  | (with_reducible refine wm_sortSet ?_)
  | (with_reducible refine we_isi ?_)
  | (with_reducible refine we_int1 ?_)
  | (with_reducible refine we_tupOf ?_)
  | (with_reducible refine we_slT ?_)
  | (with_reducible refine we_min ?_)
  | (with_reducible refine we_eqD ?_)
  | (with_reducible refine we_neD ?_)
  | (with_reducible refine we_ixs ?_)
  | (with_reducible refine we_neg ?_)
  | (with_reducible refine wm_list ?_)
  | (with_reducible refine wm_split ?_)
  | (with_reducible refine wm_dnew ?_)
  | (with_reducible refine take_at rfl ?_)
  | (with_reducible refine wm_call ?_)
  | (with_reducible refine wm_callX (by assumption) ?_)
  | (with_reducible refine wm_callX lets0 ?_)
  | (with_reducible refine wm_make ?_)
  | (with_reducible refine wm_lcL ?_)
  | (with_reducible refine wm_lcSq ?_)
  | (with_reducible refine wm_lcT ?_)
  | (with_reducible refine wm_lcR ?_)
  | (with_reducible refine wm_lcS ?_)
  | (with_reducible refine we_wm (te := tLst _) ?_)
  | (with_reducible refine we_wm (te := tLc _ _ _ _ _) ?_)
  | (refine take_at rfl ?_)
  | (with_reducible refine known_at ?_)
  | (with_reducible refine we_wm (te := tCall _ _ _ _) ?_)
  | (with_reducible refine we_wm (te := tCallS _ _ _) ?_)
  | (with_reducible refine ws_asg (te := tCallS _ _ _) ?_)
  | (with_reducible refine ws_asg (te := tMeth _ _ _ _ _ _ _) ?_)
  | (with_reducible refine ws_drop (te := tMeth _ _ _ _ _ _ _) ?_)
  | (with_reducible refine ws_drop (te := tCallS _ _ _) ?_)
  | (with_reducible refine we_wm (te := tSl _ _ _ _) ?_)
  | (with_reducible refine we_wm (te := tOp rCat _ _) ?_)
  | (with_reducible refine we_wm (te := tCB _ _) ?_)
  | (with_reducible refine we_wm (te := tM1 _ _ _) ?_)
  | (with_reducible refine ws_ret (te := tLst _) ?_)
  | (with_reducible refine ws_ret (te := tLc _ _ _ _ _) ?_)
  | (refine ws_retE (take_at rfl ?_))
  | (with_reducible refine ws_ret (te := tCall _ _ _ _) ?_)
  | (with_reducible refine ws_ret (te := tMake _ _ _ _ _) ?_)
  | (with_reducible refine ws_ret (te := tMeth _ _ _ _ _ _ _) ?_)
  | (with_reducible refine ws_ret (te := tSl _ _ _ _) ?_)
  | (with_reducible refine ws_ret (te := tOp rCat _ _) ?_)
  | (with_reducible refine ws_ret (wm_list ?_))
  | (with_reducible refine ws_retE ?_)
  | (with_reducible refine ws_asg (te := tLst _) ?_)
  | (with_reducible refine ws_asg (te := tLc _ _ _ _ _) ?_)
  | (refine ws_asgE (take_at rfl ?_))
  | (with_reducible refine ws_asg (te := tCall _ _ _ _) ?_)
  | (with_reducible refine ws_asg (te := tMake _ _ _ _ _) ?_)
  | (with_reducible refine ws_asg (te := tSl _ _ _ _) ?_)
  | (with_reducible refine ws_asg (te := tOp rCat _ _) ?_)
  | (with_reducible refine ws_asg (te := tDNewK) ?_)
  | (with_reducible refine ws_asg (wm_list ?_))
  | (with_reducible refine ws_asgE ?_)
  | ((with_reducible show (_ : Int) ≠ 0 ∧ _); (refine ⟨by decide, ?_⟩))
  | ((with_reducible show _ ≤ _ ∧ _); (refine ⟨(by walk_at "side"), ?_⟩))
  | ((with_reducible show _ < _ ∧ _); (refine ⟨(by walk_at "side"), ?_⟩))
  | ((with_reducible show (_ → _) ∧ (_ → _)); first | (refine ⟨fun hb => absurd hb (by walk_at "no"), fun _ => ?_⟩) | (refine ⟨fun _ => ?_, fun hb => absurd hb (by walk_at "no")⟩))
  | ((with_reducible show ∀ p : Addr, ∃ d, Frz (ml p _) d ∧ _); (intro p))
  | ((with_reducible show (slots _).Nodup ∧ _); (refine ⟨by simp [slots], ?_⟩))
  | (refine ⟨_, frz_ml, ?_⟩)
  | (refine ⟨_, frz_fz, ?_⟩)
  | (refine ⟨_, rfl, ?_⟩)
  | (with_reducible refine ⟨_, _, rfl, (by assumption), ?_⟩)
  | (with_reducible refine ⟨_, _, rfl, atI_0, ?_⟩)
  | (with_reducible refine ⟨_, _, rfl, atI_1, ?_⟩)
  | (refine ⟨_, _, rfl, rfl, ?_⟩)
  | (refine ⟨rfl, ?_⟩)
  | (refine Or.inl ⟨_, rfl, ?_⟩)
  | (refine Or.inr ⟨_, rfl, ?_⟩)
  | (refine ⟨_, Or.inl rfl, ?_⟩)
  | (refine ⟨_, Or.inr rfl, ?_⟩)
  | (dsimp only [List.set_cons_zero, List.set_cons_succ]))
local macro_rules | `(tactic| walk_at "z") => `(tactic| (repeat (walk_at "z1"; try dsimp only)))
section
variable {P : Program} {w : World} {K : PySem.W.Frag} {mg : Str → Option Value} {base : Heap}
def sp_all_known : FSp := fun args Q => ∃ kr ents ws, args = [fz (strsD ws), kr] ∧ DL kr ents ∧ ws.length ≤ 10000 ∧ Q (fz (.bool (ws.all fun w => decide (w ∈ dkeys ents)))) args
theorem ok_all_known (T : Txt K mg) : FnOk P w K mg base CX0 1 T.all_known.a T.all_known.fd ["body", "known"] (spF sp_all_known) := by
  refine fok T.all_known.F sc_all_known (fun args Q h => ?_) (fun cdv A outer s H E hr args Q h => ?_)
  · obtain ⟨kr, ents, ws, rfl, _⟩ := h
    rfl
  · obtain ⟨kr, ents, ws, rfl, hd, hw, q⟩ := h
    refine ⟨_, (pss_one (ps_ret (pe_callB (cr_all rfl) (by rfl) T.b_all (by decide +kernel) (pa_cons (pe_lc (own := [("word", 2)]) (g := gName 2) (tt := tYes) rfl sc_all_known.nd (pi_list (pv 0)) (blkOk_by (own := [("word", 2)]) (N := N_all_known) (sc := defScope s_all_known) (by decide +kernel)) (fun _ _ _ _ _ => pg_name (i := 2) sc_all_known.nd rfl (Or.inl rfl)) (fun _ _ _ _ _ => pts_nil) (fun _ _ _ _ _ => (pe_cmp (pc_din (hu_of hr) (pv 2) (pv 1))))) pa_nil)))), ?_⟩
    show WS _ [some (fz _), some kr, none] _
    walk_at "w"
    refine lcI_boolsA .str (fun w => decide (w ∈ dkeys ents)) (by decide) rfl (by omega) (fun x hx => ?_) rfl ?_
    · walk_at "w"
      exact ⟨_, _, _, rfl, rfl, hd.dk, rfl, rfl⟩
    · have e : (ws.map fun w => decide (w ∈ dkeys ents)).all id = ws.all fun w => decide (w ∈ dkeys ents) := by
        rw [List.all_map]
        rfl
      rw [e]
      exact fin_of (args' := [fz _, kr]) ⟨kp_fz, hd.kp, trivial⟩ q
/-- all_known at a call, the dict in slot i -/
theorem known_at [B : Bs] {i : Nat} {es : Es} {te : TE} {EE : XK} {Q : PyData → Es → Prop} (h : WE te es fun d e => ∃ ws kr ents, d = strsD ws ∧ e[i]? = some (some kr) ∧ DL kr ents ∧ ws.length ≤ 10000 ∧ Q (.bool (ws.all fun w => decide (w ∈ dkeys ents))) e) :
    WE (tCall (spF sp_all_known) [] EE (tCons te (tCons (tVar i) tNil))) es Q := by
  refine we_call (wa_cons (we_mono h fun d e ⟨ws, kr, ents, ed, hi, hd, hl, q⟩ => ?_))
  subst ed
  refine wa_slot hi (wa_nil ⟨[fz (strsD ws), kr], by simp [lend, hi], by simp [slots], kr, ents, ws, rfl, hd, hl, _, frz_fz, ?_⟩)
  have : back e [.d (strsD ws), .s i] [fz (strsD ws), kr] = e := set_self hi
  rw [this]
  exact q

end
end

section
local macro_rules | `(tactic| walk_at "no") => `(tactic| first | (with_reducible exact Bool.false_ne_true) | (with_reducible exact fun z => Bool.false_ne_true z.symm) | (simp only [decide_eq_true_eq, decide_eq_false_iff_not]; omega) | (decide +kernel) | (simp; done) | (simp; omega) | (exact Bool.false_ne_true) | (exact fun z => Bool.false_ne_true z.symm))
local macro_rules | `(tactic| walk_at "side") => `(tactic| first | omega | assumption | (refine Nat.le_trans (m := 100000) ?_ (by decide); first | omega | (simp <;> omega)) | (simp <;> omega))
local macro_rules | `(tactic| walk_at "w1") => `(tactic| first
  | (with_reducible refine ws_seq ?_)
  | (with_reducible refine ws_if ?_)
  | (with_reducible refine ws_nx ?_)
  | (with_reducible refine ws_retN ?_)
  | ((with_reducible show WE (tVar _) _ _); (refine we_var rfl ?_))
  | (with_reducible refine we_int ?_)
  | (with_reducible refine we_str ?_)
  | (with_reducible refine we_bl ?_)
  | (with_reducible refine we_non ?_)
  | (with_reducible refine wt_test ?_)
  | (with_reducible refine wt_B ?_)
  | (with_reducible refine wt_yes ?_)
  | (with_reducible refine wt_and ?_)
  | (with_reducible refine wt_or ?_)
  | (with_reducible refine wt_not ?_)
  | (with_reducible refine we_andV ?_)
  | (with_reducible refine we_orV ?_)
  | (with_reducible refine we_notV ?_)
  | (with_reducible refine we_if ?_)
  | (with_reducible refine we_rB0 ?_)
  | (with_reducible refine we_rI0 ?_)
  | (with_reducible refine we_rI ?_)
  | (with_reducible refine we_eq ?_)
  | (with_reducible refine we_din ?_)
  | (with_reducible refine we_dnotin ?_)
  | (with_reducible refine we_ne ?_)
  | (with_reducible refine we_isN ?_)
  | (with_reducible refine we_notN ?_)
  | (with_reducible refine we_addS ?_)
  | (with_reducible refine we_inC ?_)
  | (with_reducible refine we_inS ?_)
  | (with_reducible refine we_lenS ?_)
  | (with_reducible refine we_all ?_)
  | (with_reducible refine we_any ?_)
  | (with_reducible refine we_join ?_)
  | (with_reducible refine we_tup ?_)
  | (with_reducible refine we_ixL ?_)
  | (with_reducible refine we_ixT ?_)
  | (with_reducible refine we_ixS ?_)
  | (with_reducible refine we_len ?_)
  | (with_reducible refine wa_nil ?_)
  | (with_reducible refine wa_cons ?_)
  | (with_reducible refine wo_none ?_)
  | (with_reducible refine wo_some ?_)
  | (with_reducible refine wm_lst ?_)
  | (with_reducible refine wm_cat ?_)
  | (with_reducible refine wm_slL ?_)
  | (with_reducible refine wm_sortSet ?_)
  | (with_reducible refine we_isi ?_)
  | (with_reducible refine we_int1 ?_)
  | (with_reducible refine we_tupOf ?_)
  | (with_reducible refine we_slT ?_)
  | (with_reducible refine we_min ?_)
  | (with_reducible refine we_eqD ?_)
  | (with_reducible refine we_neD ?_)
  | (with_reducible refine we_ixs ?_)
  | (with_reducible refine we_neg ?_)
  | (with_reducible refine wm_list ?_)
  | (with_reducible refine wm_split ?_)
  | (with_reducible refine wm_dnew ?_)
  | (with_reducible refine take_at rfl ?_)
  | (with_reducible refine wm_call ?_)
  | (with_reducible refine wm_callX (by assumption) ?_)
  | (with_reducible refine wm_callX lets0 ?_)
  | (with_reducible refine wm_make ?_)
  | (with_reducible refine wm_lcL ?_)
  | (with_reducible refine wm_lcSq ?_)
  | (with_reducible refine wm_lcT ?_)
  | (with_reducible refine wm_lcR ?_)
  | (with_reducible refine wm_lcS ?_)
  | (with_reducible refine we_wm (te := tLst _) ?_)
  | (with_reducible refine we_wm (te := tLc _ _ _ _ _) ?_)
  | (refine take_at rfl ?_)
  | (with_reducible refine known_at ?_)
  | (with_reducible refine we_wm (te := tCall _ _ _ _) ?_)
  | (with_reducible refine we_wm (te := tCallS _ _ _) ?_)
  | (with_reducible refine we_wm (te := tSl _ _ _ _) ?_)
  | (with_reducible refine we_wm (te := tOp rCat _ _) ?_)
  | (with_reducible refine we_wm (te := tCB _ _) ?_)
  | (with_reducible refine we_wm (te := tM1 _ _ _) ?_)
  | (with_reducible refine ws_ret (te := tLst _) ?_)
  | (with_reducible refine ws_ret (te := tLc _ _ _ _ _) ?_)
  | (refine ws_retE (take_at rfl ?_))
  | (with_reducible refine ws_ret (te := tCall _ _ _ _) ?_)
  | (with_reducible refine ws_ret (te := tMake _ _ _ _ _) ?_)
  | (with_reducible refine ws_ret (te := tMeth _ _ _ _ _ _ _) ?_)
  | (with_reducible refine ws_ret (te := tSl _ _ _ _) ?_)
  | (with_reducible refine ws_ret (te := tOp rCat _ _) ?_)
  | (with_reducible refine ws_ret (wm_list ?_))
  | (with_reducible refine ws_retE ?_)
  | (with_reducible refine ws_asg (te := tLst _) ?_)
  | (with_reducible refine ws_asg (te := tLc _ _ _ _ _) ?_)
  | (refine ws_asgE (take_at rfl ?_))
  | (with_reducible refine ws_asg (te := tCall _ _ _ _) ?_)
  | (with_reducible refine ws_asg (te := tMake _ _ _ _ _) ?_)
  | (with_reducible refine ws_asg (te := tSl _ _ _ _) ?_)
  | (with_reducible refine ws_asg (te := tOp rCat _ _) ?_)
  | (with_reducible refine ws_asg (te := tDNewK) ?_)
  | (with_reducible refine ws_asg (wm_list ?_))
  | (with_reducible refine ws_asgE ?_)
  | ((with_reducible show _ ≤ _ ∧ _); (refine ⟨(by walk_at "side"), ?_⟩))
  | ((with_reducible show _ < _ ∧ _); (refine ⟨(by walk_at "side"), ?_⟩))
  | ((with_reducible show (_ → _) ∧ (_ → _)); first | (refine ⟨fun hb => absurd hb (by walk_at "no"), fun _ => ?_⟩) | (refine ⟨fun _ => ?_, fun hb => absurd hb (by walk_at "no")⟩))
  | ((with_reducible show ∀ p : Addr, ∃ d, Frz (ml p _) d ∧ _); (intro p))
  | ((with_reducible show (slots _).Nodup ∧ _); (refine ⟨by simp [slots], ?_⟩))
  | (refine ⟨_, frz_ml, ?_⟩)
  | (refine ⟨_, frz_fz, ?_⟩)
  | (refine ⟨_, rfl, ?_⟩)
  | (with_reducible refine ⟨_, _, rfl, atI_0, ?_⟩)
  | (with_reducible refine ⟨_, _, rfl, atI_1, ?_⟩)
  | (refine ⟨_, _, rfl, rfl, ?_⟩)
  | (refine ⟨rfl, ?_⟩)
  | (refine Or.inl ⟨_, rfl, ?_⟩)
  | (refine Or.inr ⟨_, rfl, ?_⟩)
  | (refine ⟨_, Or.inl rfl, ?_⟩)
  | (refine ⟨_, Or.inr rfl, ?_⟩)
  | (dsimp only [List.set_cons_zero, List.set_cons_succ]))
local macro_rules | `(tactic| walk_at "w") => `(tactic| (repeat (walk_at "w1"; try dsimp only)))
local macro_rules | `(tactic| walk_at "z1") => `(tactic| first
  | (with_reducible refine ws_seq ?_)
  | (with_reducible refine ws_if ?_)
  | (with_reducible refine ws_nx ?_)
  | ((with_reducible show WE (tCall _ _ _ _) _ _); first | (with_reducible refine walked_at ?_) | (refine take_at rfl ?_) | (with_reducible refine known_at ?_) | (refine words_at rfl ?_) | (refine row_at rfl ?_) | (refine number_at rfl ?_) | (with_reducible refine is_way_at ?_) | (with_reducible refine law_walks_at ?_) | (refine right_at rfl ?_) | (with_reducible refine we_wm (copied_at ?_)) | (with_reducible refine we_wm (grounds_at ?_)) | (refine we_wm (taken_at rfl ?_)) | (refine we_wm (rows_at rfl ?_)))
  | ((with_reducible show WM (tCall _ _ _ _) _ _); first | (refine wm_we (take_at rfl ?_)) | (refine wm_we (words_at rfl ?_)) | (refine wm_we (row_at rfl ?_)) | (refine wm_we (number_at rfl ?_)) | (with_reducible refine fired_at ?_) | (refine spoilt_at rfl ?_) | (refine wm_we (right_at rfl ?_)) | (refine begun_at rfl (by assumption) ?_) | (refine rows_at rfl ?_) | (with_reducible refine copied_at ?_) | (with_reducible refine grounds_at ?_) | (refine taken_at rfl ?_))
  | ((with_reducible show WM (tCallS _ _ _) _ _); first | (refine way_at rfl ?_))
  | ((with_reducible show WM (tMake _ _ _ _ _) _ _); first | (with_reducible refine book_at ?_))
  | ((with_reducible show WM (tMeth _ _ _ _ _ _ _) _ _); first | (refine tell_at rfl ?_))
  | (with_reducible refine ws_retN ?_)
  | ((with_reducible show WE (tVar _) _ _); first | (refine we_var rfl ?_) | (refine we_varF rfl ?_) | (refine we_varFd rfl ?_))
  | (with_reducible refine we_int ?_)
  | (with_reducible refine we_str ?_)
  | (with_reducible refine we_bl ?_)
  | (with_reducible refine we_non ?_)
  | (with_reducible refine wt_test ?_)
  | (with_reducible refine wt_B ?_)
  | (with_reducible refine wt_yes ?_)
  | (with_reducible refine wt_and ?_)
  | (with_reducible refine wt_or ?_)
  | (with_reducible refine wt_not ?_)
  | (with_reducible refine we_andV ?_)
  | (with_reducible refine we_orV ?_)
  | (with_reducible refine we_notV ?_)
  | (with_reducible refine we_if ?_)
  | (with_reducible refine we_rB0 ?_)
  | (with_reducible refine we_rI0 ?_)
  | (with_reducible refine we_rI ?_)
  | (with_reducible refine we_eq ?_)
  | (with_reducible refine we_din ?_)
  | (with_reducible refine we_dnotin ?_)
  | (with_reducible refine we_ne ?_)
  | ((with_reducible show WE (tOp _ (tVar _) (tC .non)) _ _); first | (refine we_isNM rfl ?_) | (refine we_notNM rfl ?_))
  | (with_reducible refine we_isN ?_)
  | (with_reducible refine we_notN ?_)
  | (with_reducible refine we_addS ?_)
  | (with_reducible refine we_inC ?_)
  | (with_reducible refine we_inS ?_)
  | (with_reducible refine we_lenS ?_)
  | (with_reducible refine we_all ?_)
  | (with_reducible refine we_any ?_)
  | (with_reducible refine we_join ?_)
  | (with_reducible refine we_tup ?_)
  | (with_reducible refine we_ixL ?_)
  | (with_reducible refine we_ixT ?_)
  | (with_reducible refine we_ixS ?_)
  | (with_reducible refine we_len ?_)
  | (with_reducible refine wa_nil ?_)
  | ((with_reducible show WA (tCons (tVar _) _) _ _); first | (refine wa_cons (we_var rfl ?_)) | (refine wa_slot (r := bk _ _ _ _) rfl ?_) | (refine wa_slot (r := bx _) rfl ?_) | (refine wa_slot (r := md _ _) rfl ?_) | (refine wa_cons (we_varF rfl ?_)))
  | (with_reducible refine wa_cons ?_)
  | (with_reducible refine wo_none ?_)
  | (with_reducible refine wo_some ?_)
  | (with_reducible refine wm_lst ?_)
  | (with_reducible refine wm_cat ?_)
  | (with_reducible refine wm_slL ?_)
  | (with_reducible refine wm_sortSet ?_)
  | (with_reducible refine we_isi ?_)
  | (with_reducible refine we_int1 ?_)
  | (with_reducible refine we_tupOf ?_)
  | (with_reducible refine we_slT ?_)
  | (with_reducible refine we_min ?_)
  | (with_reducible refine we_eqD ?_)
  | (with_reducible refine we_neD ?_)
  | (with_reducible refine we_ixs ?_)
  | (with_reducible refine we_neg ?_)
  | (with_reducible refine wm_list ?_)
  | (with_reducible refine wm_split ?_)
  | (with_reducible refine wm_dnew ?_)
  | (with_reducible refine take_at rfl ?_)
  | (with_reducible refine wm_call ?_)
  | (with_reducible refine wm_callX (by assumption) ?_)
  | (with_reducible refine wm_callX lets0 ?_)
  | (with_reducible refine wm_make ?_)
  | (with_reducible refine wm_lcL ?_)
  | (with_reducible refine wm_lcSq ?_)
  | (with_reducible refine wm_lcT ?_)
  | (with_reducible refine wm_lcR ?_)
  | (with_reducible refine wm_lcS ?_)
  | (with_reducible refine we_wm (te := tLst _) ?_)
  | (with_reducible refine we_wm (te := tLc _ _ _ _ _) ?_)
  | (refine take_at rfl ?_)
  | (with_reducible refine known_at ?_)
  | (with_reducible refine we_wm (te := tCall _ _ _ _) ?_)
  | (with_reducible refine we_wm (te := tCallS _ _ _) ?_)
  | (with_reducible refine ws_asg (te := tCallS _ _ _) ?_)
  | (with_reducible refine ws_asg (te := tMeth _ _ _ _ _ _ _) ?_)
  | (with_reducible refine ws_drop (te := tMeth _ _ _ _ _ _ _) ?_)
  | (with_reducible refine ws_drop (te := tCallS _ _ _) ?_)
  | (with_reducible refine we_wm (te := tSl _ _ _ _) ?_)
  | (with_reducible refine we_wm (te := tOp rCat _ _) ?_)
  | (with_reducible refine we_wm (te := tCB _ _) ?_)
  | (with_reducible refine we_wm (te := tM1 _ _ _) ?_)
  | (with_reducible refine ws_ret (te := tLst _) ?_)
  | (with_reducible refine ws_ret (te := tLc _ _ _ _ _) ?_)
  | (refine ws_retE (take_at rfl ?_))
  | (with_reducible refine ws_ret (te := tCall _ _ _ _) ?_)
  | (with_reducible refine ws_ret (te := tMake _ _ _ _ _) ?_)
  | (with_reducible refine ws_ret (te := tMeth _ _ _ _ _ _ _) ?_)
  | (with_reducible refine ws_ret (te := tSl _ _ _ _) ?_)
  | (with_reducible refine ws_ret (te := tOp rCat _ _) ?_)
  | (with_reducible refine ws_ret (wm_list ?_))
  | (with_reducible refine ws_retE ?_)
  | (with_reducible refine ws_asg (te := tLst _) ?_)
  | (with_reducible refine ws_asg (te := tLc _ _ _ _ _) ?_)
  | (refine ws_asgE (take_at rfl ?_))
  | (with_reducible refine ws_asg (te := tCall _ _ _ _) ?_)
  | (with_reducible refine ws_asg (te := tMake _ _ _ _ _) ?_)
  | (with_reducible refine ws_asg (te := tSl _ _ _ _) ?_)
  | (with_reducible refine ws_asg (te := tOp rCat _ _) ?_)
  | (with_reducible refine ws_asg (te := tDNewK) ?_)
  | (with_reducible refine ws_asg (wm_list ?_))
  | (with_reducible refine ws_asgE ?_)
  | ((with_reducible show (_ : Int) ≠ 0 ∧ _); (refine ⟨by decide, ?_⟩))
  | ((with_reducible show _ ≤ _ ∧ _); (refine ⟨(by walk_at "side"), ?_⟩))
  | ((with_reducible show _ < _ ∧ _); (refine ⟨(by walk_at "side"), ?_⟩))
  | ((with_reducible show (_ → _) ∧ (_ → _)); first | (refine ⟨fun hb => absurd hb (by walk_at "no"), fun _ => ?_⟩) | (refine ⟨fun _ => ?_, fun hb => absurd hb (by walk_at "no")⟩))
  | ((with_reducible show ∀ p : Addr, ∃ d, Frz (ml p _) d ∧ _); (intro p))
  | ((with_reducible show (slots _).Nodup ∧ _); (refine ⟨by simp [slots], ?_⟩))
  | (refine ⟨_, frz_ml, ?_⟩)
  | (refine ⟨_, frz_fz, ?_⟩)
  | (refine ⟨_, rfl, ?_⟩)
  | (with_reducible refine ⟨_, _, rfl, (by assumption), ?_⟩)
  | (with_reducible refine ⟨_, _, rfl, atI_0, ?_⟩)
  | (with_reducible refine ⟨_, _, rfl, atI_1, ?_⟩)
  | (refine ⟨_, _, rfl, rfl, ?_⟩)
  | (refine ⟨rfl, ?_⟩)
  | (refine Or.inl ⟨_, rfl, ?_⟩)
  | (refine Or.inr ⟨_, rfl, ?_⟩)
  | (refine ⟨_, Or.inl rfl, ?_⟩)
  | (refine ⟨_, Or.inr rfl, ?_⟩)
  | (dsimp only [List.set_cons_zero, List.set_cons_succ]))
local macro_rules | `(tactic| walk_at "z") => `(tactic| (repeat (walk_at "z1"; try dsimp only)))
section
variable {P : Program} {w : World} {K : PySem.W.Frag} {mg : Str → Option Value} {base : Heap}
def sp_walked : FSp := fun args Q => ∃ rs ts d x ns, args = [fz (rowsD rs), fz (.str x), fz d, fz (.list (ns.map .int))] ∧ Sq d ts ∧ MB.RB rs ∧ ts.length ≤ 1000 ∧ ns.length ≤ 10000 ∧ Q (fz (.bool (MB.walkB rs ts x ns))) args
theorem ok_walked (T : Txt K mg) : FnOk P w K mg base CX0 2 T.walked.a T.walked.fd ["rows", "thing", "taken", "numbers"] (spF sp_walked) := by
  refine fok T.walked.F sc_walked (fun args Q h => ?_) (fun cdv A outer s H E hr args Q h => ?_)
  · obtain ⟨rs, ts, d, x, ns, rfl, _⟩ := h
    rfl
  · obtain ⟨rs, ts, d, x, ns, rfl, hd, rb, ht, hn, q⟩ := h
    refine ⟨_, (pss_cons (ps_set (i := 4) sc_walked.nd rfl (by first | exact Or.inl rfl | exact Or.inr rfl) pe_dnewK)
      (pss_cons (ps_for PassesOwn.never rfl (pi_seq (pv 2)) (pg_name (i := 5) sc_walked.nd rfl (by first | exact Or.inl rfl | exact Or.inr rfl))
      (pss_one (ps_dput (hu_of hr) (pv 4) (pv 5) pe_bl rfl)))
      (pss_cons (ps_for PassesOwn.never rfl (pi_list (pv 3)) (pg_name (i := 6) sc_walked.nd rfl (by first | exact Or.inl rfl | exact Or.inr rfl))
      (pss_cons (ps_if (PW.pt (pw_or (pt_cmpR op_lt (pv 6) pe_int (nomark _)) (pw_or (pt_cmpR op_ge (pv 6) (pe_callB call_len_seq (by rfl) T.b_len (by decide +kernel) (pa_cons (pv 0) pa_nil)) (nomark _)) (pw_or1 (pt_cmpR op_ne (pe_ix ix_tup (pe_ix ix_list (pv 0) (pv 6) (fun _ _ => rfl)) pe_int (fun _ _ => rfl)) pe_str (nomark _)))))) (pss_one (ps_ret pe_bl)) pss_nil)
      (pss_cons (ps_if (pt_not (pt_val (pe_call (ok_all_known T) (hr.mono (by decide)) rfl T.all_known.m T.all_known.F.kp T.all_known.b .nil pass0 (pa_cons (pe_ix ix_tup (pe_ix ix_list (pv 0) (pv 6) (fun _ _ => rfl)) pe_int (fun _ _ => rfl)) (pa_cons (pv 4) pa_nil))))) (pss_one (ps_ret pe_bl)) pss_nil)
      (pss_one (ps_dput (hu_of hr) (pv 4) (pe_ix ix_tup (pe_ix ix_list (pv 0) (pv 6) (fun _ _ => rfl)) pe_int (fun _ _ => rfl)) pe_bl rfl)))))
      (pss_one (ps_ret (pe_cmp (pc_din (hu_of hr) (pv 1) (pv 4)))))))), ?_⟩
    have r1 := rb.len
    show WS _ [some (fz _), some (fz _), some (fz _), some (fz _), none, none, none] _
    refine ws_seq (ws_asg (wm_dnew fun p4 => ?_))
    refine ws_seq (ws_forSq (we_var (i := 2) rfl ⟨ts.map .str, hd, fun k e => ∃ y, e = [some (fz (rowsD rs)), some (fz (.str x)), some (fz d), some (fz (.list (ns.map .int))), some (md p4 (kn (SX.insAll [] (ts.take k)))), y, none], ⟨_, rfl⟩, fun k x e hx ⟨y, ee⟩ => ?_, fun e ⟨y5, ee⟩ => ?_⟩))
    · subst ee
      rw [List.getElem?_map, Option.map_eq_some_iff] at hx
      obtain ⟨w, hw, rfl⟩ := hx
      refine ws_dput (we_bl ⟨⟨_, rfl⟩, we_var (i := 5) rfl ⟨_, p4, _, rfl, rfl, ?_, some (fz (.str w)), ?_⟩⟩)
      · rw [kn_length]
        have := SX.insAll_len (ts.take k) []
        rw [List.length_take] at this
        simp at this
        omega
      · rw [kn_put, ← MB.insAll_take hw]
        rfl
    · subst ee
      rw [List.length_map, List.take_length]
      have kl0 : (SX.insAll [] ts).length ≤ ts.length := by
        have := SX.insAll_len ts []
        simpa using this
      refine ws_seq (ws_forL (we_var (i := 3) rfl ⟨_, rfl, fun k e => ∃ ks y6, e = [some (fz (rowsD rs)), some (fz (.str x)), some (fz d), some (fz (.list (ns.map .int))), some (md p4 (kn ks)), y5, y6] ∧ MB.steps rs (SX.insAll [] ts) (ns.take k) = some ks ∧ ks.length ≤ ts.length + k, ⟨_, none, rfl, rfl, by omega⟩, fun k n e hx ⟨ks, y6, ee, st, kl⟩ => ?_, fun e ⟨ks, y6, ee, st, kl⟩ => ?_⟩))
      · subst ee
        rw [List.getElem?_map, Option.map_eq_some_iff] at hx
        obtain ⟨n, hx, rfl⟩ := hx
        have hk : k < ns.length := (List.getElem?_eq_some_iff.mp hx).1
        have no : MB.step rs ks n = none → MB.walkB rs ts x ns = false := MB.walk_stop hx st
        have stop : MB.step rs ks n = none → ∀ z4 z6, DV.Fin [fz (rowsD rs), fz (.str x), fz d, fz (.list (ns.map .int))] Q (fz (.bool false)) [some (fz (rowsD rs)), some (fz (.str x)), some (fz d), some (fz (.list (ns.map .int))), z4, y5, z6] := fun h z4 z6 => by
          rw [no h] at q
          exact fin4 q
        walk_at "z"
        by_cases h0 : n < 0
        · refine ⟨fun _ => ?_, fun z => absurd h0 (by simpa using z)⟩
          walk_at "z"
          exact stop (by unfold MB.step; rw [if_pos h0]) _ _
        refine ⟨fun z => absurd (by simpa using z) h0, fun _ => ?_⟩
        obtain ⟨m, rfl⟩ := Int.eq_ofNat_of_zero_le (show 0 ≤ n by omega)
        walk_at "z"
        by_cases h1 : rs.length ≤ m
        · refine ⟨fun _ => ?_, fun z => absurd z (by simp; omega)⟩
          walk_at "z"
          exact stop (by unfold MB.step; rw [if_neg h0, Int.toNat_natCast, List.getElem?_eq_none h1]) _ _
        refine ⟨fun z => absurd z (by simp; omega), fun _ => ?_⟩
        have hm : m < rs.length := by omega
        have hat : atI (rs.map rowD) (m : Int) = some (rowD rs[m]) := DV.atI_nat (by simp [hm])
        have hrm : rs[m]? = some rs[m] := List.getElem?_eq_getElem hm
        have hmm := List.getElem_mem hm
        generalize rs[m] = r at hat hrm hmm
        cases r with
        | g w =>
          walk_at "z"
          exact stop (by unfold MB.step; rw [if_neg h0, Int.toNat_natCast, hrm]) _ _
        | c b =>
          walk_at "z"
          exact stop (by unfold MB.step; rw [if_neg h0, Int.toNat_natCast, hrm]) _ _
        | r w b =>
          walk_at "z"
          refine ⟨b, _, _, rfl, rfl, dl_md, Nat.le_trans (rb.body _ hmm) (by decide), ?_⟩
          rw [dkeys_kn]
          walk_at "z"
          refine ⟨fun z => ?_, fun z => ?_⟩
          · walk_at "z"
            exact stop (by unfold MB.step; rw [if_neg h0, Int.toNat_natCast, hrm]; exact if_neg (by simpa using z)) _ _
          · walk_at "z"
            have hb : ∀ y ∈ b, y ∈ ks := by simpa using z
            refine ws_dput (we_bl ⟨⟨_, rfl⟩, we_ixT (we_ixL (we_var (i := 0) rfl ⟨_, rfl, we_var (i := 6) rfl ⟨_, _, rfl, hat, _, rfl, we_int ⟨_, _, rfl, atI_1, w, p4, _, rfl, rfl, by rw [kn_length]; omega, ?_⟩⟩⟩))⟩)
            rw [kn_put]
            have := SX.ins_len ks w
            exact ⟨_, _, rfl, MB.steps_snoc hx st (MB.step_of hrm hb), by omega⟩
      · subst ee
        rw [List.length_map, List.take_length] at st
        refine ws_retE (we_din (we_var (i := 1) rfl ⟨_, _, _, rfl, rfl, dk_md, ?_⟩))
        rw [dkeys_kn]
        have e : MB.walkB rs ts x ns = decide (x ∈ ks) := by
          unfold MB.walkB
          rw [st]
        rw [e] at q
        exact fin4 q
/-- a call that is handed a list of ours to read -/
theorem walked_at [B : Bs] {es : Es} {ta : TA} {EE : XK} {Q : PyData → Es → Prop} (h : WA ta es fun as e => ∃ rs ts d x ns, see e as [fz (rowsD rs), fz (.str x), fz d, fz (.list (ns.map .int))] ∧ Sq d ts ∧ MB.RB rs ∧ ts.length ≤ 1000 ∧ ns.length ≤ 10000 ∧ Q (.bool (MB.walkB rs ts x ns)) e) : WE (tCall (spF sp_walked) [] EE ta) es Q :=
  we_callB fun σ G H Rs K hs k => h σ G H Rs K hs fun vs as G' H' Rs' es' s r st ⟨rs, ts, d, x, ns, se, q⟩ => k vs as G' H' Rs' es' s r st ⟨_, se, rs, ts, d, x, ns, rfl, q.1, q.2.1, q.2.2.1, q.2.2.2.1, _, _, rfl, rfl, q.2.2.2.2⟩

end
end

section
local macro_rules | `(tactic| walk_at "no") => `(tactic| first | (with_reducible exact Bool.false_ne_true) | (with_reducible exact fun z => Bool.false_ne_true z.symm) | (simp only [decide_eq_true_eq, decide_eq_false_iff_not]; omega) | (decide +kernel) | (simp; done) | (simp; omega) | (exact Bool.false_ne_true) | (exact fun z => Bool.false_ne_true z.symm))
local macro_rules | `(tactic| walk_at "side") => `(tactic| first | omega | assumption | (refine Nat.le_trans (m := 100000) ?_ (by decide); first | omega | (simp <;> omega)) | (simp <;> omega))
local macro_rules | `(tactic| walk_at "w1") => `(tactic| first
  | (with_reducible refine ws_seq ?_)
  | (with_reducible refine ws_if ?_)
  | (with_reducible refine ws_nx ?_)
  | (with_reducible refine ws_retN ?_)
  | ((with_reducible show WE (tVar _) _ _); (refine we_var rfl ?_))
  | (with_reducible refine we_int ?_)
  | (with_reducible refine we_str ?_)
  | (with_reducible refine we_bl ?_)
  | (with_reducible refine we_non ?_)
  | (with_reducible refine wt_test ?_)
  | (with_reducible refine wt_B ?_)
  | (with_reducible refine wt_yes ?_)
  | (with_reducible refine wt_and ?_)
  | (with_reducible refine wt_or ?_)
  | (with_reducible refine wt_not ?_)
  | (with_reducible refine we_andV ?_)
  | (with_reducible refine we_orV ?_)
  | (with_reducible refine we_notV ?_)
  | (with_reducible refine we_if ?_)
  | (with_reducible refine we_rB0 ?_)
  | (with_reducible refine we_rI0 ?_)
  | (with_reducible refine we_rI ?_)
  | (with_reducible refine we_eq ?_)
  | (with_reducible refine we_din ?_)
  | (with_reducible refine we_dnotin ?_)
  | (with_reducible refine we_ne ?_)
  | (with_reducible refine we_isN ?_)
  | (with_reducible refine we_notN ?_)
  | (with_reducible refine we_addS ?_)
  | (with_reducible refine we_inC ?_)
  | (with_reducible refine we_inS ?_)
  | (with_reducible refine we_lenS ?_)
  | (with_reducible refine we_all ?_)
  | (with_reducible refine we_any ?_)
  | (with_reducible refine we_join ?_)
  | (with_reducible refine we_tup ?_)
  | (with_reducible refine we_ixL ?_)
  | (with_reducible refine we_ixT ?_)
  | (with_reducible refine we_ixS ?_)
  | (with_reducible refine we_len ?_)
  | (with_reducible refine wa_nil ?_)
  | (with_reducible refine wa_cons ?_)
  | (with_reducible refine wo_none ?_)
  | (with_reducible refine wo_some ?_)
  | (with_reducible refine wm_lst ?_)
  | (with_reducible refine wm_cat ?_)
  | (with_reducible refine wm_slL ?_)
  | (with_reducible refine wm_sortSet ?_)
  | (with_reducible refine we_isi ?_)
  | (with_reducible refine we_int1 ?_)
  | (with_reducible refine we_tupOf ?_)
  | (with_reducible refine we_slT ?_)
  | (with_reducible refine we_min ?_)
  | (with_reducible refine we_eqD ?_)
  | (with_reducible refine we_neD ?_)
  | (with_reducible refine we_ixs ?_)
  | (with_reducible refine we_neg ?_)
  | (with_reducible refine wm_list ?_)
  | (with_reducible refine wm_split ?_)
  | (with_reducible refine wm_dnew ?_)
  | (with_reducible refine take_at rfl ?_)
  | (with_reducible refine wm_call ?_)
  | (with_reducible refine wm_callX (by assumption) ?_)
  | (with_reducible refine wm_callX lets0 ?_)
  | (with_reducible refine wm_make ?_)
  | (with_reducible refine wm_lcL ?_)
  | (with_reducible refine wm_lcSq ?_)
  | (with_reducible refine wm_lcT ?_)
  | (with_reducible refine wm_lcR ?_)
  | (with_reducible refine wm_lcS ?_)
  | (with_reducible refine we_wm (te := tLst _) ?_)
  | (with_reducible refine we_wm (te := tLc _ _ _ _ _) ?_)
  | (refine take_at rfl ?_)
  | (with_reducible refine known_at ?_)
  | (with_reducible refine we_wm (te := tCall _ _ _ _) ?_)
  | (with_reducible refine we_wm (te := tCallS _ _ _) ?_)
  | (with_reducible refine we_wm (te := tSl _ _ _ _) ?_)
  | (with_reducible refine we_wm (te := tOp rCat _ _) ?_)
  | (with_reducible refine we_wm (te := tCB _ _) ?_)
  | (with_reducible refine we_wm (te := tM1 _ _ _) ?_)
  | (with_reducible refine ws_ret (te := tLst _) ?_)
  | (with_reducible refine ws_ret (te := tLc _ _ _ _ _) ?_)
  | (refine ws_retE (take_at rfl ?_))
  | (with_reducible refine ws_ret (te := tCall _ _ _ _) ?_)
  | (with_reducible refine ws_ret (te := tMake _ _ _ _ _) ?_)
  | (with_reducible refine ws_ret (te := tMeth _ _ _ _ _ _ _) ?_)
  | (with_reducible refine ws_ret (te := tSl _ _ _ _) ?_)
  | (with_reducible refine ws_ret (te := tOp rCat _ _) ?_)
  | (with_reducible refine ws_ret (wm_list ?_))
  | (with_reducible refine ws_retE ?_)
  | (with_reducible refine ws_asg (te := tLst _) ?_)
  | (with_reducible refine ws_asg (te := tLc _ _ _ _ _) ?_)
  | (refine ws_asgE (take_at rfl ?_))
  | (with_reducible refine ws_asg (te := tCall _ _ _ _) ?_)
  | (with_reducible refine ws_asg (te := tMake _ _ _ _ _) ?_)
  | (with_reducible refine ws_asg (te := tSl _ _ _ _) ?_)
  | (with_reducible refine ws_asg (te := tOp rCat _ _) ?_)
  | (with_reducible refine ws_asg (te := tDNewK) ?_)
  | (with_reducible refine ws_asg (wm_list ?_))
  | (with_reducible refine ws_asgE ?_)
  | ((with_reducible show _ ≤ _ ∧ _); (refine ⟨(by walk_at "side"), ?_⟩))
  | ((with_reducible show _ < _ ∧ _); (refine ⟨(by walk_at "side"), ?_⟩))
  | ((with_reducible show (_ → _) ∧ (_ → _)); first | (refine ⟨fun hb => absurd hb (by walk_at "no"), fun _ => ?_⟩) | (refine ⟨fun _ => ?_, fun hb => absurd hb (by walk_at "no")⟩))
  | ((with_reducible show ∀ p : Addr, ∃ d, Frz (ml p _) d ∧ _); (intro p))
  | ((with_reducible show (slots _).Nodup ∧ _); (refine ⟨by simp [slots], ?_⟩))
  | (refine ⟨_, frz_ml, ?_⟩)
  | (refine ⟨_, frz_fz, ?_⟩)
  | (refine ⟨_, rfl, ?_⟩)
  | (with_reducible refine ⟨_, _, rfl, atI_0, ?_⟩)
  | (with_reducible refine ⟨_, _, rfl, atI_1, ?_⟩)
  | (refine ⟨_, _, rfl, rfl, ?_⟩)
  | (refine ⟨rfl, ?_⟩)
  | (refine Or.inl ⟨_, rfl, ?_⟩)
  | (refine Or.inr ⟨_, rfl, ?_⟩)
  | (refine ⟨_, Or.inl rfl, ?_⟩)
  | (refine ⟨_, Or.inr rfl, ?_⟩)
  | (dsimp only [List.set_cons_zero, List.set_cons_succ]))
local macro_rules | `(tactic| walk_at "w") => `(tactic| (repeat (walk_at "w1"; try dsimp only)))
local macro_rules | `(tactic| walk_at "z1") => `(tactic| first
  | (with_reducible refine ws_seq ?_)
  | (with_reducible refine ws_if ?_)
  | (with_reducible refine ws_nx ?_)
  | ((with_reducible show WE (tCall _ _ _ _) _ _); first | (with_reducible refine walked_at ?_) | (refine take_at rfl ?_) | (with_reducible refine known_at ?_) | (refine words_at rfl ?_) | (refine row_at rfl ?_) | (refine number_at rfl ?_) | (with_reducible refine is_way_at ?_) | (with_reducible refine law_walks_at ?_) | (refine right_at rfl ?_) | (with_reducible refine we_wm (copied_at ?_)) | (with_reducible refine we_wm (grounds_at ?_)) | (refine we_wm (taken_at rfl ?_)) | (refine we_wm (rows_at rfl ?_)))
  | ((with_reducible show WM (tCall _ _ _ _) _ _); first | (refine wm_we (take_at rfl ?_)) | (refine wm_we (words_at rfl ?_)) | (refine wm_we (row_at rfl ?_)) | (refine wm_we (number_at rfl ?_)) | (with_reducible refine fired_at ?_) | (refine spoilt_at rfl ?_) | (refine wm_we (right_at rfl ?_)) | (refine begun_at rfl (by assumption) ?_) | (refine rows_at rfl ?_) | (with_reducible refine copied_at ?_) | (with_reducible refine grounds_at ?_) | (refine taken_at rfl ?_))
  | ((with_reducible show WM (tCallS _ _ _) _ _); first | (refine way_at rfl ?_))
  | ((with_reducible show WM (tMake _ _ _ _ _) _ _); first | (with_reducible refine book_at ?_))
  | ((with_reducible show WM (tMeth _ _ _ _ _ _ _) _ _); first | (refine tell_at rfl ?_))
  | (with_reducible refine ws_retN ?_)
  | ((with_reducible show WE (tVar _) _ _); first | (refine we_var rfl ?_) | (refine we_varF rfl ?_) | (refine we_varFd rfl ?_))
  | (with_reducible refine we_int ?_)
  | (with_reducible refine we_str ?_)
  | (with_reducible refine we_bl ?_)
  | (with_reducible refine we_non ?_)
  | (with_reducible refine wt_test ?_)
  | (with_reducible refine wt_B ?_)
  | (with_reducible refine wt_yes ?_)
  | (with_reducible refine wt_and ?_)
  | (with_reducible refine wt_or ?_)
  | (with_reducible refine wt_not ?_)
  | (with_reducible refine we_andV ?_)
  | (with_reducible refine we_orV ?_)
  | (with_reducible refine we_notV ?_)
  | (with_reducible refine we_if ?_)
  | (with_reducible refine we_rB0 ?_)
  | (with_reducible refine we_rI0 ?_)
  | (with_reducible refine we_rI ?_)
  | (with_reducible refine we_eq ?_)
  | (with_reducible refine we_din ?_)
  | (with_reducible refine we_dnotin ?_)
  | (with_reducible refine we_ne ?_)
  | ((with_reducible show WE (tOp _ (tVar _) (tC .non)) _ _); first | (refine we_isNM rfl ?_) | (refine we_notNM rfl ?_))
  | (with_reducible refine we_isN ?_)
  | (with_reducible refine we_notN ?_)
  | (with_reducible refine we_addS ?_)
  | (with_reducible refine we_inC ?_)
  | (with_reducible refine we_inS ?_)
  | (with_reducible refine we_lenS ?_)
  | (with_reducible refine we_all ?_)
  | (with_reducible refine we_any ?_)
  | (with_reducible refine we_join ?_)
  | (with_reducible refine we_tup ?_)
  | (with_reducible refine we_ixL ?_)
  | (with_reducible refine we_ixT ?_)
  | (with_reducible refine we_ixS ?_)
  | (with_reducible refine we_len ?_)
  | (with_reducible refine wa_nil ?_)
  | ((with_reducible show WA (tCons (tVar _) _) _ _); first | (refine wa_cons (we_var rfl ?_)) | (refine wa_slot (r := bk _ _ _ _) rfl ?_) | (refine wa_slot (r := bx _) rfl ?_) | (refine wa_slot (r := md _ _) rfl ?_) | (refine wa_cons (we_varF rfl ?_)))
  | (with_reducible refine wa_cons ?_)
  | (with_reducible refine wo_none ?_)
  | (with_reducible refine wo_some ?_)
  | (with_reducible refine wm_lst ?_)
  | (with_reducible refine wm_cat ?_)
  | (with_reducible refine wm_slL ?_)
  | (with_reducible refine wm_sortSet ?_)
  | (with_reducible refine we_isi ?_)
  | (with_reducible refine we_int1 ?_)
  | (with_reducible refine we_tupOf ?_)
  | (with_reducible refine we_slT ?_)
  | (with_reducible refine we_min ?_)
  | (with_reducible refine we_eqD ?_)
  | (with_reducible refine we_neD ?_)
  | (with_reducible refine we_ixs ?_)
  | (with_reducible refine we_neg ?_)
  | (with_reducible refine wm_list ?_)
  | (with_reducible refine wm_split ?_)
  | (with_reducible refine wm_dnew ?_)
  | (with_reducible refine take_at rfl ?_)
  | (with_reducible refine wm_call ?_)
  | (with_reducible refine wm_callX (by assumption) ?_)
  | (with_reducible refine wm_callX lets0 ?_)
  | (with_reducible refine wm_make ?_)
  | (with_reducible refine wm_lcL ?_)
  | (with_reducible refine wm_lcSq ?_)
  | (with_reducible refine wm_lcT ?_)
  | (with_reducible refine wm_lcR ?_)
  | (with_reducible refine wm_lcS ?_)
  | (with_reducible refine we_wm (te := tLst _) ?_)
  | (with_reducible refine we_wm (te := tLc _ _ _ _ _) ?_)
  | (refine take_at rfl ?_)
  | (with_reducible refine known_at ?_)
  | (with_reducible refine we_wm (te := tCall _ _ _ _) ?_)
  | (with_reducible refine we_wm (te := tCallS _ _ _) ?_)
  | (with_reducible refine ws_asg (te := tCallS _ _ _) ?_)
  | (with_reducible refine ws_asg (te := tMeth _ _ _ _ _ _ _) ?_)
  | (with_reducible refine ws_drop (te := tMeth _ _ _ _ _ _ _) ?_)
  | (with_reducible refine ws_drop (te := tCallS _ _ _) ?_)
  | (with_reducible refine we_wm (te := tSl _ _ _ _) ?_)
  | (with_reducible refine we_wm (te := tOp rCat _ _) ?_)
  | (with_reducible refine we_wm (te := tCB _ _) ?_)
  | (with_reducible refine we_wm (te := tM1 _ _ _) ?_)
  | (with_reducible refine ws_ret (te := tLst _) ?_)
  | (with_reducible refine ws_ret (te := tLc _ _ _ _ _) ?_)
  | (refine ws_retE (take_at rfl ?_))
  | (with_reducible refine ws_ret (te := tCall _ _ _ _) ?_)
  | (with_reducible refine ws_ret (te := tMake _ _ _ _ _) ?_)
  | (with_reducible refine ws_ret (te := tMeth _ _ _ _ _ _ _) ?_)
  | (with_reducible refine ws_ret (te := tSl _ _ _ _) ?_)
  | (with_reducible refine ws_ret (te := tOp rCat _ _) ?_)
  | (with_reducible refine ws_ret (wm_list ?_))
  | (with_reducible refine ws_retE ?_)
  | (with_reducible refine ws_asg (te := tLst _) ?_)
  | (with_reducible refine ws_asg (te := tLc _ _ _ _ _) ?_)
  | (refine ws_asgE (take_at rfl ?_))
  | (with_reducible refine ws_asg (te := tCall _ _ _ _) ?_)
  | (with_reducible refine ws_asg (te := tMake _ _ _ _ _) ?_)
  | (with_reducible refine ws_asg (te := tSl _ _ _ _) ?_)
  | (with_reducible refine ws_asg (te := tOp rCat _ _) ?_)
  | (with_reducible refine ws_asg (te := tDNewK) ?_)
  | (with_reducible refine ws_asg (wm_list ?_))
  | (with_reducible refine ws_asgE ?_)
  | ((with_reducible show (_ : Int) ≠ 0 ∧ _); (refine ⟨by decide, ?_⟩))
  | ((with_reducible show _ ≤ _ ∧ _); (refine ⟨(by walk_at "side"), ?_⟩))
  | ((with_reducible show _ < _ ∧ _); (refine ⟨(by walk_at "side"), ?_⟩))
  | ((with_reducible show (_ → _) ∧ (_ → _)); first | (refine ⟨fun hb => absurd hb (by walk_at "no"), fun _ => ?_⟩) | (refine ⟨fun _ => ?_, fun hb => absurd hb (by walk_at "no")⟩))
  | ((with_reducible show ∀ p : Addr, ∃ d, Frz (ml p _) d ∧ _); (intro p))
  | ((with_reducible show (slots _).Nodup ∧ _); (refine ⟨by simp [slots], ?_⟩))
  | (refine ⟨_, frz_ml, ?_⟩)
  | (refine ⟨_, frz_fz, ?_⟩)
  | (refine ⟨_, rfl, ?_⟩)
  | (with_reducible refine ⟨_, _, rfl, (by assumption), ?_⟩)
  | (with_reducible refine ⟨_, _, rfl, atI_0, ?_⟩)
  | (with_reducible refine ⟨_, _, rfl, atI_1, ?_⟩)
  | (refine ⟨_, _, rfl, rfl, ?_⟩)
  | (refine ⟨rfl, ?_⟩)
  | (refine Or.inl ⟨_, rfl, ?_⟩)
  | (refine Or.inr ⟨_, rfl, ?_⟩)
  | (refine ⟨_, Or.inl rfl, ?_⟩)
  | (refine ⟨_, Or.inr rfl, ?_⟩)
  | (dsimp only [List.set_cons_zero, List.set_cons_succ]))
local macro_rules | `(tactic| walk_at "z") => `(tactic| (repeat (walk_at "z1"; try dsimp only)))
section
variable {P : Program} {w : World} {K : PySem.W.Frag} {mg : Str → Option Value} {base : Heap}
def sp_Book_rows (C : Addr) : FSp := fun args Q => ∃ a l rs, args = [bk C a l rs] ∧ rs.length ≤ 1000 ∧ (∀ r ∈ rs, (rBody r).length ≤ 1000) ∧ ∀ p, Q (ml p (rs.map rowD)) args
theorem ok_Book_rows (T : Txt K mg) : FnOk P w K mg base CX0 3 T.Book_rows.a T.Book_rows.fd ["self"] (spF (sp_Book_rows T.C_Book)) := by
  refine fok T.Book_rows.F sc_Book_rows (fun args Q h => ?_) (fun cdv A outer s H E hr args Q h => ?_)
  · obtain ⟨a, l, rs, rfl, _⟩ := h
    rfl
  · obtain ⟨a, l, rs, rfl, hl, hb, q⟩ := h
    refine ⟨_, (pss_one (ps_ret (pe_lc (own := [("row", 1)]) (g := gName 1) (tt := tYes) rfl sc_Book_rows.nd (pi_list (pe_fld (pv 0) rfl)) (blkOk_by (own := [("row", 1)]) (N := N_Book_rows) (sc := defScope s_Book_rows) (by decide +kernel)) (fun _ _ _ _ _ => pg_name (i := 1) sc_Book_rows.nd rfl (Or.inl rfl)) (fun _ _ _ _ _ => pts_nil) (fun _ _ _ _ _ => (pe_call (ok_copied T) (hr.mono (by decide)) rfl T.copied.m T.copied.F.kp T.copied.b .nil pass0 (pa_cons (pv 1) pa_nil)))))), ?_⟩
    show WS _ [some (bk _ _ _ _), none] _
    refine ws_ret (wm_lcBf (fun _ => true) rowD T.c_Book T.n_told_rows rfl (by decide) rfl (by omega) rfl (fun r hr => wt_yes ⟨rfl, rfl⟩) (fun r hr hg => ?_) fun p => ?_)
    · walk_at "w"
      exact ⟨hb r hr, _, frz_fz, rfl, rfl⟩
    · rw [List.filter_eq_self.mpr (fun _ _ => rfl)]
      exact finS pin_bk (q p)

end
end

section
local macro_rules | `(tactic| walk_at "no") => `(tactic| first | (with_reducible exact Bool.false_ne_true) | (with_reducible exact fun z => Bool.false_ne_true z.symm) | (simp only [decide_eq_true_eq, decide_eq_false_iff_not]; omega) | (decide +kernel) | (simp; done) | (simp; omega) | (exact Bool.false_ne_true) | (exact fun z => Bool.false_ne_true z.symm))
local macro_rules | `(tactic| walk_at "side") => `(tactic| first | omega | assumption | (refine Nat.le_trans (m := 100000) ?_ (by decide); first | omega | (simp <;> omega)) | (simp <;> omega))
local macro_rules | `(tactic| walk_at "w1") => `(tactic| first
  | (with_reducible refine ws_seq ?_)
  | (with_reducible refine ws_if ?_)
  | (with_reducible refine ws_nx ?_)
  | (with_reducible refine ws_retN ?_)
  | ((with_reducible show WE (tVar _) _ _); (refine we_var rfl ?_))
  | (with_reducible refine we_int ?_)
  | (with_reducible refine we_str ?_)
  | (with_reducible refine we_bl ?_)
  | (with_reducible refine we_non ?_)
  | (with_reducible refine wt_test ?_)
  | (with_reducible refine wt_B ?_)
  | (with_reducible refine wt_yes ?_)
  | (with_reducible refine wt_and ?_)
  | (with_reducible refine wt_or ?_)
  | (with_reducible refine wt_not ?_)
  | (with_reducible refine we_andV ?_)
  | (with_reducible refine we_orV ?_)
  | (with_reducible refine we_notV ?_)
  | (with_reducible refine we_if ?_)
  | (with_reducible refine we_rB0 ?_)
  | (with_reducible refine we_rI0 ?_)
  | (with_reducible refine we_rI ?_)
  | (with_reducible refine we_eq ?_)
  | (with_reducible refine we_din ?_)
  | (with_reducible refine we_dnotin ?_)
  | (with_reducible refine we_ne ?_)
  | (with_reducible refine we_isN ?_)
  | (with_reducible refine we_notN ?_)
  | (with_reducible refine we_addS ?_)
  | (with_reducible refine we_inC ?_)
  | (with_reducible refine we_inS ?_)
  | (with_reducible refine we_lenS ?_)
  | (with_reducible refine we_all ?_)
  | (with_reducible refine we_any ?_)
  | (with_reducible refine we_join ?_)
  | (with_reducible refine we_tup ?_)
  | (with_reducible refine we_ixL ?_)
  | (with_reducible refine we_ixT ?_)
  | (with_reducible refine we_ixS ?_)
  | (with_reducible refine we_len ?_)
  | (with_reducible refine wa_nil ?_)
  | (with_reducible refine wa_cons ?_)
  | (with_reducible refine wo_none ?_)
  | (with_reducible refine wo_some ?_)
  | (with_reducible refine wm_lst ?_)
  | (with_reducible refine wm_cat ?_)
  | (with_reducible refine wm_slL ?_)
  | (with_reducible refine wm_sortSet ?_)
  | (with_reducible refine we_isi ?_)
  | (with_reducible refine we_int1 ?_)
  | (with_reducible refine we_tupOf ?_)
  | (with_reducible refine we_slT ?_)
  | (with_reducible refine we_min ?_)
  | (with_reducible refine we_eqD ?_)
  | (with_reducible refine we_neD ?_)
  | (with_reducible refine we_ixs ?_)
  | (with_reducible refine we_neg ?_)
  | (with_reducible refine wm_list ?_)
  | (with_reducible refine wm_split ?_)
  | (with_reducible refine wm_dnew ?_)
  | (with_reducible refine take_at rfl ?_)
  | (with_reducible refine wm_call ?_)
  | (with_reducible refine wm_callX (by assumption) ?_)
  | (with_reducible refine wm_callX lets0 ?_)
  | (with_reducible refine wm_make ?_)
  | (with_reducible refine wm_lcL ?_)
  | (with_reducible refine wm_lcSq ?_)
  | (with_reducible refine wm_lcT ?_)
  | (with_reducible refine wm_lcR ?_)
  | (with_reducible refine wm_lcS ?_)
  | (with_reducible refine we_wm (te := tLst _) ?_)
  | (with_reducible refine we_wm (te := tLc _ _ _ _ _) ?_)
  | (refine take_at rfl ?_)
  | (with_reducible refine known_at ?_)
  | (with_reducible refine we_wm (te := tCall _ _ _ _) ?_)
  | (with_reducible refine we_wm (te := tCallS _ _ _) ?_)
  | (with_reducible refine we_wm (te := tSl _ _ _ _) ?_)
  | (with_reducible refine we_wm (te := tOp rCat _ _) ?_)
  | (with_reducible refine we_wm (te := tCB _ _) ?_)
  | (with_reducible refine we_wm (te := tM1 _ _ _) ?_)
  | (with_reducible refine ws_ret (te := tLst _) ?_)
  | (with_reducible refine ws_ret (te := tLc _ _ _ _ _) ?_)
  | (refine ws_retE (take_at rfl ?_))
  | (with_reducible refine ws_ret (te := tCall _ _ _ _) ?_)
  | (with_reducible refine ws_ret (te := tMake _ _ _ _ _) ?_)
  | (with_reducible refine ws_ret (te := tMeth _ _ _ _ _ _ _) ?_)
  | (with_reducible refine ws_ret (te := tSl _ _ _ _) ?_)
  | (with_reducible refine ws_ret (te := tOp rCat _ _) ?_)
  | (with_reducible refine ws_ret (wm_list ?_))
  | (with_reducible refine ws_retE ?_)
  | (with_reducible refine ws_asg (te := tLst _) ?_)
  | (with_reducible refine ws_asg (te := tLc _ _ _ _ _) ?_)
  | (refine ws_asgE (take_at rfl ?_))
  | (with_reducible refine ws_asg (te := tCall _ _ _ _) ?_)
  | (with_reducible refine ws_asg (te := tMake _ _ _ _ _) ?_)
  | (with_reducible refine ws_asg (te := tSl _ _ _ _) ?_)
  | (with_reducible refine ws_asg (te := tOp rCat _ _) ?_)
  | (with_reducible refine ws_asg (te := tDNewK) ?_)
  | (with_reducible refine ws_asg (wm_list ?_))
  | (with_reducible refine ws_asgE ?_)
  | ((with_reducible show _ ≤ _ ∧ _); (refine ⟨(by walk_at "side"), ?_⟩))
  | ((with_reducible show _ < _ ∧ _); (refine ⟨(by walk_at "side"), ?_⟩))
  | ((with_reducible show (_ → _) ∧ (_ → _)); first | (refine ⟨fun hb => absurd hb (by walk_at "no"), fun _ => ?_⟩) | (refine ⟨fun _ => ?_, fun hb => absurd hb (by walk_at "no")⟩))
  | ((with_reducible show ∀ p : Addr, ∃ d, Frz (ml p _) d ∧ _); (intro p))
  | ((with_reducible show (slots _).Nodup ∧ _); (refine ⟨by simp [slots], ?_⟩))
  | (refine ⟨_, frz_ml, ?_⟩)
  | (refine ⟨_, frz_fz, ?_⟩)
  | (refine ⟨_, rfl, ?_⟩)
  | (with_reducible refine ⟨_, _, rfl, atI_0, ?_⟩)
  | (with_reducible refine ⟨_, _, rfl, atI_1, ?_⟩)
  | (refine ⟨_, _, rfl, rfl, ?_⟩)
  | (refine ⟨rfl, ?_⟩)
  | (refine Or.inl ⟨_, rfl, ?_⟩)
  | (refine Or.inr ⟨_, rfl, ?_⟩)
  | (refine ⟨_, Or.inl rfl, ?_⟩)
  | (refine ⟨_, Or.inr rfl, ?_⟩)
  | (dsimp only [List.set_cons_zero, List.set_cons_succ]))
local macro_rules | `(tactic| walk_at "w") => `(tactic| (repeat (walk_at "w1"; try dsimp only)))
local macro_rules | `(tactic| walk_at "z1") => `(tactic| first
  | (with_reducible refine ws_seq ?_)
  | (with_reducible refine ws_if ?_)
  | (with_reducible refine ws_nx ?_)
  | ((with_reducible show WE (tCall _ _ _ _) _ _); first | (with_reducible refine walked_at ?_) | (refine take_at rfl ?_) | (with_reducible refine known_at ?_) | (refine words_at rfl ?_) | (refine row_at rfl ?_) | (refine number_at rfl ?_) | (with_reducible refine is_way_at ?_) | (with_reducible refine law_walks_at ?_) | (refine right_at rfl ?_) | (with_reducible refine we_wm (copied_at ?_)) | (with_reducible refine we_wm (grounds_at ?_)) | (refine we_wm (taken_at rfl ?_)) | (refine we_wm (rows_at rfl ?_)))
  | ((with_reducible show WM (tCall _ _ _ _) _ _); first | (refine wm_we (take_at rfl ?_)) | (refine wm_we (words_at rfl ?_)) | (refine wm_we (row_at rfl ?_)) | (refine wm_we (number_at rfl ?_)) | (with_reducible refine fired_at ?_) | (refine spoilt_at rfl ?_) | (refine wm_we (right_at rfl ?_)) | (refine begun_at rfl (by assumption) ?_) | (refine rows_at rfl ?_) | (with_reducible refine copied_at ?_) | (with_reducible refine grounds_at ?_) | (refine taken_at rfl ?_))
  | ((with_reducible show WM (tCallS _ _ _) _ _); first | (refine way_at rfl ?_))
  | ((with_reducible show WM (tMake _ _ _ _ _) _ _); first | (with_reducible refine book_at ?_))
  | ((with_reducible show WM (tMeth _ _ _ _ _ _ _) _ _); first | (refine tell_at rfl ?_))
  | (with_reducible refine ws_retN ?_)
  | ((with_reducible show WE (tVar _) _ _); first | (refine we_var rfl ?_) | (refine we_varF rfl ?_) | (refine we_varFd rfl ?_))
  | (with_reducible refine we_int ?_)
  | (with_reducible refine we_str ?_)
  | (with_reducible refine we_bl ?_)
  | (with_reducible refine we_non ?_)
  | (with_reducible refine wt_test ?_)
  | (with_reducible refine wt_B ?_)
  | (with_reducible refine wt_yes ?_)
  | (with_reducible refine wt_and ?_)
  | (with_reducible refine wt_or ?_)
  | (with_reducible refine wt_not ?_)
  | (with_reducible refine we_andV ?_)
  | (with_reducible refine we_orV ?_)
  | (with_reducible refine we_notV ?_)
  | (with_reducible refine we_if ?_)
  | (with_reducible refine we_rB0 ?_)
  | (with_reducible refine we_rI0 ?_)
  | (with_reducible refine we_rI ?_)
  | (with_reducible refine we_eq ?_)
  | (with_reducible refine we_din ?_)
  | (with_reducible refine we_dnotin ?_)
  | (with_reducible refine we_ne ?_)
  | ((with_reducible show WE (tOp _ (tVar _) (tC .non)) _ _); first | (refine we_isNM rfl ?_) | (refine we_notNM rfl ?_))
  | (with_reducible refine we_isN ?_)
  | (with_reducible refine we_notN ?_)
  | (with_reducible refine we_addS ?_)
  | (with_reducible refine we_inC ?_)
  | (with_reducible refine we_inS ?_)
  | (with_reducible refine we_lenS ?_)
  | (with_reducible refine we_all ?_)
  | (with_reducible refine we_any ?_)
  | (with_reducible refine we_join ?_)
  | (with_reducible refine we_tup ?_)
  | (with_reducible refine we_ixL ?_)
  | (with_reducible refine we_ixT ?_)
  | (with_reducible refine we_ixS ?_)
  | (with_reducible refine we_len ?_)
  | (with_reducible refine wa_nil ?_)
  | ((with_reducible show WA (tCons (tVar _) _) _ _); first | (refine wa_cons (we_var rfl ?_)) | (refine wa_slot (r := bk _ _ _ _) rfl ?_) | (refine wa_slot (r := bx _) rfl ?_) | (refine wa_slot (r := md _ _) rfl ?_) | (refine wa_cons (we_varF rfl ?_)))
  | (with_reducible refine wa_cons ?_)
  | (with_reducible refine wo_none ?_)
  | (with_reducible refine wo_some ?_)
  | (with_reducible refine wm_lst ?_)
  | (with_reducible refine wm_cat ?_)
  | (with_reducible refine wm_slL ?_)
  | (with_reducible refine wm_sortSet ?_)
  | (with_reducible refine we_isi ?_)
  | (with_reducible refine we_int1 ?_)
  | (with_reducible refine we_tupOf ?_)
  | (with_reducible refine we_slT ?_)
  | (with_reducible refine we_min ?_)
  | (with_reducible refine we_eqD ?_)
  | (with_reducible refine we_neD ?_)
  | (with_reducible refine we_ixs ?_)
  | (with_reducible refine we_neg ?_)
  | (with_reducible refine wm_list ?_)
  | (with_reducible refine wm_split ?_)
  | (with_reducible refine wm_dnew ?_)
  | (with_reducible refine take_at rfl ?_)
  | (with_reducible refine wm_call ?_)
  | (with_reducible refine wm_callX (by assumption) ?_)
  | (with_reducible refine wm_callX lets0 ?_)
  | (with_reducible refine wm_make ?_)
  | (with_reducible refine wm_lcL ?_)
  | (with_reducible refine wm_lcSq ?_)
  | (with_reducible refine wm_lcT ?_)
  | (with_reducible refine wm_lcR ?_)
  | (with_reducible refine wm_lcS ?_)
  | (with_reducible refine we_wm (te := tLst _) ?_)
  | (with_reducible refine we_wm (te := tLc _ _ _ _ _) ?_)
  | (refine take_at rfl ?_)
  | (with_reducible refine known_at ?_)
  | (with_reducible refine we_wm (te := tCall _ _ _ _) ?_)
  | (with_reducible refine we_wm (te := tCallS _ _ _) ?_)
  | (with_reducible refine ws_asg (te := tCallS _ _ _) ?_)
  | (with_reducible refine ws_asg (te := tMeth _ _ _ _ _ _ _) ?_)
  | (with_reducible refine ws_drop (te := tMeth _ _ _ _ _ _ _) ?_)
  | (with_reducible refine ws_drop (te := tCallS _ _ _) ?_)
  | (with_reducible refine we_wm (te := tSl _ _ _ _) ?_)
  | (with_reducible refine we_wm (te := tOp rCat _ _) ?_)
  | (with_reducible refine we_wm (te := tCB _ _) ?_)
  | (with_reducible refine we_wm (te := tM1 _ _ _) ?_)
  | (with_reducible refine ws_ret (te := tLst _) ?_)
  | (with_reducible refine ws_ret (te := tLc _ _ _ _ _) ?_)
  | (refine ws_retE (take_at rfl ?_))
  | (with_reducible refine ws_ret (te := tCall _ _ _ _) ?_)
  | (with_reducible refine ws_ret (te := tMake _ _ _ _ _) ?_)
  | (with_reducible refine ws_ret (te := tMeth _ _ _ _ _ _ _) ?_)
  | (with_reducible refine ws_ret (te := tSl _ _ _ _) ?_)
  | (with_reducible refine ws_ret (te := tOp rCat _ _) ?_)
  | (with_reducible refine ws_ret (wm_list ?_))
  | (with_reducible refine ws_retE ?_)
  | (with_reducible refine ws_asg (te := tLst _) ?_)
  | (with_reducible refine ws_asg (te := tLc _ _ _ _ _) ?_)
  | (refine ws_asgE (take_at rfl ?_))
  | (with_reducible refine ws_asg (te := tCall _ _ _ _) ?_)
  | (with_reducible refine ws_asg (te := tMake _ _ _ _ _) ?_)
  | (with_reducible refine ws_asg (te := tSl _ _ _ _) ?_)
  | (with_reducible refine ws_asg (te := tOp rCat _ _) ?_)
  | (with_reducible refine ws_asg (te := tDNewK) ?_)
  | (with_reducible refine ws_asg (wm_list ?_))
  | (with_reducible refine ws_asgE ?_)
  | ((with_reducible show (_ : Int) ≠ 0 ∧ _); (refine ⟨by decide, ?_⟩))
  | ((with_reducible show _ ≤ _ ∧ _); (refine ⟨(by walk_at "side"), ?_⟩))
  | ((with_reducible show _ < _ ∧ _); (refine ⟨(by walk_at "side"), ?_⟩))
  | ((with_reducible show (_ → _) ∧ (_ → _)); first | (refine ⟨fun hb => absurd hb (by walk_at "no"), fun _ => ?_⟩) | (refine ⟨fun _ => ?_, fun hb => absurd hb (by walk_at "no")⟩))
  | ((with_reducible show ∀ p : Addr, ∃ d, Frz (ml p _) d ∧ _); (intro p))
  | ((with_reducible show (slots _).Nodup ∧ _); (refine ⟨by simp [slots], ?_⟩))
  | (refine ⟨_, frz_ml, ?_⟩)
  | (refine ⟨_, frz_fz, ?_⟩)
  | (refine ⟨_, rfl, ?_⟩)
  | (with_reducible refine ⟨_, _, rfl, (by assumption), ?_⟩)
  | (with_reducible refine ⟨_, _, rfl, atI_0, ?_⟩)
  | (with_reducible refine ⟨_, _, rfl, atI_1, ?_⟩)
  | (refine ⟨_, _, rfl, rfl, ?_⟩)
  | (refine ⟨rfl, ?_⟩)
  | (refine Or.inl ⟨_, rfl, ?_⟩)
  | (refine Or.inr ⟨_, rfl, ?_⟩)
  | (refine ⟨_, Or.inl rfl, ?_⟩)
  | (refine ⟨_, Or.inr rfl, ?_⟩)
  | (dsimp only [List.set_cons_zero, List.set_cons_succ]))
local macro_rules | `(tactic| walk_at "z") => `(tactic| (repeat (walk_at "z1"; try dsimp only)))
section
variable {P : Program} {w : World} {K : PySem.W.Frag} {mg : Str → Option Value} {base : Heap}
def sp_is_way (T : Txt K mg) : FXp := fun args Q QX => ∃ a l rs ts d x ns, args = [bk T.C_Book a l rs, fz (.str x), fz d, fz (.list (ns.map .int))] ∧ Sq d ts ∧ MB.RB rs ∧ ts.length ≤ 1000 ∧ ns.length ≤ 10000 ∧ (MB.strangeOf rs ts = none → Q (fz (.bool (MB.walkB rs ts x ns))) args) ∧ ∀ w, MB.strangeOf rs ts = some w → QX ⟨T.C_NoGround, [("word", .str w)]⟩ args
theorem ok_is_way (T : Txt K mg) : FnOk P w K mg base (L2.CX P w) 4 T.is_way.a T.is_way.fd ["book", "thing", "taken", "numbers"] (spX (sp_is_way T)) := by
  refine fokX T.is_way.F sc_is_way (fun args Q QX h => ?_) (fun cdv A outer s H E hr args Q QX h L => ?_)
  · obtain ⟨a, l, rs, ts, d, x, ns, rfl, _⟩ := h
    rfl
  · obtain ⟨a, l, rs, ts, d, x, ns, rfl, hd, rb, ht, hn, q, qx⟩ := h
    refine ⟨_, (pss_cons (ps_expr (pe_callS (ok_must_be_grounds T) (hr.mono (by decide)) rfl T.must_be_grounds.m T.must_be_grounds.F.kp T.must_be_grounds.b (fun σ => passAt (takes_of rfl rfl rfl rfl) σ) (pa_cons (pv 0) (pa_cons (pv 2) pa_nil))))
      (pss_one (ps_ret (pe_call (ok_walked T) (hr.mono (by decide)) rfl T.walked.m T.walked.F.kp T.walked.b .nil pass0 (pa_cons (pe_meth0 (pv 0) T.c_Book T.Book_rows.me (ok_Book_rows T) (hr.mono (by decide)) T.Book_rows.b .nil pass0) (pa_cons (pv 1) (pa_cons (pv 2) (pa_cons (pv 3) pa_nil)))))))), ?_⟩
    show WS _ [some (bk _ _ _ _), some (fz _), some (fz _), some (fz _)] _
    refine ws_seq (ws_drop (wm_callX L (wa_slot rfl (wa_cons (we_var (i := 2) rfl (wa_nil ⟨_, rfl, by simp [slots], a, l, rs, ts, d, rfl, hd, rb.len, fun hn => ?_, fun w hw => finX_of (args' := [bk T.C_Book a l rs, fz (.str x), fz d, fz (.list (ns.map .int))]) ⟨kp_st pin_bk, kp_fz, kp_fz, kp_fz, trivial⟩ (qx w hw)⟩))))))
    show WS _ [some (bk _ _ _ _), some (fz _), some (fz _), some (fz _)] _
    refine ws_retE (we_call (wa_cons (we_wm (wm_meth (i := 0) rfl (ins_bk (by decide)) (wa_nil ⟨_, rfl, by simp [slots], a, l, rs, rfl, rb.len, rb.body, fun p => ⟨_, frz_ml, ?_⟩⟩)))))
    walk_at "z"
    exact ⟨rs, ts, d, x, ns, rfl, hd, rb, ht, by assumption, _, frz_fz, fin_of (args' := [bk T.C_Book a l rs, fz _, fz _, fz _]) ⟨kp_st pin_bk, kp_fz, kp_fz, kp_fz, trivial⟩ (q hn)⟩

end
end

section
local macro_rules | `(tactic| walk_at "no") => `(tactic| first | (with_reducible exact Bool.false_ne_true) | (with_reducible exact fun z => Bool.false_ne_true z.symm) | (simp only [decide_eq_true_eq, decide_eq_false_iff_not]; omega) | (decide +kernel) | (simp; done) | (simp; omega) | (exact Bool.false_ne_true) | (exact fun z => Bool.false_ne_true z.symm))
local macro_rules | `(tactic| walk_at "side") => `(tactic| first | omega | assumption | (refine Nat.le_trans (m := 100000) ?_ (by decide); first | omega | (simp <;> omega)) | (simp <;> omega))
local macro_rules | `(tactic| walk_at "w1") => `(tactic| first
  | (with_reducible refine ws_seq ?_)
  | (with_reducible refine ws_if ?_)
  | (with_reducible refine ws_nx ?_)
  | (with_reducible refine ws_retN ?_)
  | ((with_reducible show WE (tVar _) _ _); (refine we_var rfl ?_))
  | (with_reducible refine we_int ?_)
  | (with_reducible refine we_str ?_)
  | (with_reducible refine we_bl ?_)
  | (with_reducible refine we_non ?_)
  | (with_reducible refine wt_test ?_)
  | (with_reducible refine wt_B ?_)
  | (with_reducible refine wt_yes ?_)
  | (with_reducible refine wt_and ?_)
  | (with_reducible refine wt_or ?_)
  | (with_reducible refine wt_not ?_)
  | (with_reducible refine we_andV ?_)
  | (with_reducible refine we_orV ?_)
  | (with_reducible refine we_notV ?_)
  | (with_reducible refine we_if ?_)
  | (with_reducible refine we_rB0 ?_)
  | (with_reducible refine we_rI0 ?_)
  | (with_reducible refine we_rI ?_)
  | (with_reducible refine we_eq ?_)
  | (with_reducible refine we_din ?_)
  | (with_reducible refine we_dnotin ?_)
  | (with_reducible refine we_ne ?_)
  | (with_reducible refine we_isN ?_)
  | (with_reducible refine we_notN ?_)
  | (with_reducible refine we_addS ?_)
  | (with_reducible refine we_inC ?_)
  | (with_reducible refine we_inS ?_)
  | (with_reducible refine we_lenS ?_)
  | (with_reducible refine we_all ?_)
  | (with_reducible refine we_any ?_)
  | (with_reducible refine we_join ?_)
  | (with_reducible refine we_tup ?_)
  | (with_reducible refine we_ixL ?_)
  | (with_reducible refine we_ixT ?_)
  | (with_reducible refine we_ixS ?_)
  | (with_reducible refine we_len ?_)
  | (with_reducible refine wa_nil ?_)
  | (with_reducible refine wa_cons ?_)
  | (with_reducible refine wo_none ?_)
  | (with_reducible refine wo_some ?_)
  | (with_reducible refine wm_lst ?_)
  | (with_reducible refine wm_cat ?_)
  | (with_reducible refine wm_slL ?_)
  | (with_reducible refine wm_sortSet ?_)
  | (with_reducible refine we_isi ?_)
  | (with_reducible refine we_int1 ?_)
  | (with_reducible refine we_tupOf ?_)
  | (with_reducible refine we_slT ?_)
  | (with_reducible refine we_min ?_)
  | (with_reducible refine we_eqD ?_)
  | (with_reducible refine we_neD ?_)
  | (with_reducible refine we_ixs ?_)
  | (with_reducible refine we_neg ?_)
  | (with_reducible refine wm_list ?_)
  | (with_reducible refine wm_split ?_)
  | (with_reducible refine wm_dnew ?_)
  | (with_reducible refine take_at rfl ?_)
  | (with_reducible refine wm_call ?_)
  | (with_reducible refine wm_callX (by assumption) ?_)
  | (with_reducible refine wm_callX lets0 ?_)
  | (with_reducible refine wm_make ?_)
  | (with_reducible refine wm_lcL ?_)
  | (with_reducible refine wm_lcSq ?_)
  | (with_reducible refine wm_lcT ?_)
  | (with_reducible refine wm_lcR ?_)
  | (with_reducible refine wm_lcS ?_)
  | (with_reducible refine we_wm (te := tLst _) ?_)
  | (with_reducible refine we_wm (te := tLc _ _ _ _ _) ?_)
  | (refine take_at rfl ?_)
  | (with_reducible refine known_at ?_)
  | (with_reducible refine we_wm (te := tCall _ _ _ _) ?_)
  | (with_reducible refine we_wm (te := tCallS _ _ _) ?_)
  | (with_reducible refine we_wm (te := tSl _ _ _ _) ?_)
  | (with_reducible refine we_wm (te := tOp rCat _ _) ?_)
  | (with_reducible refine we_wm (te := tCB _ _) ?_)
  | (with_reducible refine we_wm (te := tM1 _ _ _) ?_)
  | (with_reducible refine ws_ret (te := tLst _) ?_)
  | (with_reducible refine ws_ret (te := tLc _ _ _ _ _) ?_)
  | (refine ws_retE (take_at rfl ?_))
  | (with_reducible refine ws_ret (te := tCall _ _ _ _) ?_)
  | (with_reducible refine ws_ret (te := tMake _ _ _ _ _) ?_)
  | (with_reducible refine ws_ret (te := tMeth _ _ _ _ _ _ _) ?_)
  | (with_reducible refine ws_ret (te := tSl _ _ _ _) ?_)
  | (with_reducible refine ws_ret (te := tOp rCat _ _) ?_)
  | (with_reducible refine ws_ret (wm_list ?_))
  | (with_reducible refine ws_retE ?_)
  | (with_reducible refine ws_asg (te := tLst _) ?_)
  | (with_reducible refine ws_asg (te := tLc _ _ _ _ _) ?_)
  | (refine ws_asgE (take_at rfl ?_))
  | (with_reducible refine ws_asg (te := tCall _ _ _ _) ?_)
  | (with_reducible refine ws_asg (te := tMake _ _ _ _ _) ?_)
  | (with_reducible refine ws_asg (te := tSl _ _ _ _) ?_)
  | (with_reducible refine ws_asg (te := tOp rCat _ _) ?_)
  | (with_reducible refine ws_asg (te := tDNewK) ?_)
  | (with_reducible refine ws_asg (wm_list ?_))
  | (with_reducible refine ws_asgE ?_)
  | ((with_reducible show _ ≤ _ ∧ _); (refine ⟨(by walk_at "side"), ?_⟩))
  | ((with_reducible show _ < _ ∧ _); (refine ⟨(by walk_at "side"), ?_⟩))
  | ((with_reducible show (_ → _) ∧ (_ → _)); first | (refine ⟨fun hb => absurd hb (by walk_at "no"), fun _ => ?_⟩) | (refine ⟨fun _ => ?_, fun hb => absurd hb (by walk_at "no")⟩))
  | ((with_reducible show ∀ p : Addr, ∃ d, Frz (ml p _) d ∧ _); (intro p))
  | ((with_reducible show (slots _).Nodup ∧ _); (refine ⟨by simp [slots], ?_⟩))
  | (refine ⟨_, frz_ml, ?_⟩)
  | (refine ⟨_, frz_fz, ?_⟩)
  | (refine ⟨_, rfl, ?_⟩)
  | (with_reducible refine ⟨_, _, rfl, atI_0, ?_⟩)
  | (with_reducible refine ⟨_, _, rfl, atI_1, ?_⟩)
  | (refine ⟨_, _, rfl, rfl, ?_⟩)
  | (refine ⟨rfl, ?_⟩)
  | (refine Or.inl ⟨_, rfl, ?_⟩)
  | (refine Or.inr ⟨_, rfl, ?_⟩)
  | (refine ⟨_, Or.inl rfl, ?_⟩)
  | (refine ⟨_, Or.inr rfl, ?_⟩)
  | (dsimp only [List.set_cons_zero, List.set_cons_succ]))
local macro_rules | `(tactic| walk_at "w") => `(tactic| (repeat (walk_at "w1"; try dsimp only)))
local macro_rules | `(tactic| walk_at "z1") => `(tactic| first
  | (with_reducible refine ws_seq ?_)
  | (with_reducible refine ws_if ?_)
  | (with_reducible refine ws_nx ?_)
  | ((with_reducible show WE (tCall _ _ _ _) _ _); first | (with_reducible refine walked_at ?_) | (refine take_at rfl ?_) | (with_reducible refine known_at ?_) | (refine words_at rfl ?_) | (refine row_at rfl ?_) | (refine number_at rfl ?_) | (with_reducible refine is_way_at ?_) | (with_reducible refine law_walks_at ?_) | (refine right_at rfl ?_) | (with_reducible refine we_wm (copied_at ?_)) | (with_reducible refine we_wm (grounds_at ?_)) | (refine we_wm (taken_at rfl ?_)) | (refine we_wm (rows_at rfl ?_)))
  | ((with_reducible show WM (tCall _ _ _ _) _ _); first | (refine wm_we (take_at rfl ?_)) | (refine wm_we (words_at rfl ?_)) | (refine wm_we (row_at rfl ?_)) | (refine wm_we (number_at rfl ?_)) | (with_reducible refine fired_at ?_) | (refine spoilt_at rfl ?_) | (refine wm_we (right_at rfl ?_)) | (refine begun_at rfl (by assumption) ?_) | (refine rows_at rfl ?_) | (with_reducible refine copied_at ?_) | (with_reducible refine grounds_at ?_) | (refine taken_at rfl ?_))
  | ((with_reducible show WM (tCallS _ _ _) _ _); first | (refine way_at rfl ?_))
  | ((with_reducible show WM (tMake _ _ _ _ _) _ _); first | (with_reducible refine book_at ?_))
  | ((with_reducible show WM (tMeth _ _ _ _ _ _ _) _ _); first | (refine tell_at rfl ?_))
  | (with_reducible refine ws_retN ?_)
  | ((with_reducible show WE (tVar _) _ _); first | (refine we_var rfl ?_) | (refine we_varF rfl ?_) | (refine we_varFd rfl ?_))
  | (with_reducible refine we_int ?_)
  | (with_reducible refine we_str ?_)
  | (with_reducible refine we_bl ?_)
  | (with_reducible refine we_non ?_)
  | (with_reducible refine wt_test ?_)
  | (with_reducible refine wt_B ?_)
  | (with_reducible refine wt_yes ?_)
  | (with_reducible refine wt_and ?_)
  | (with_reducible refine wt_or ?_)
  | (with_reducible refine wt_not ?_)
  | (with_reducible refine we_andV ?_)
  | (with_reducible refine we_orV ?_)
  | (with_reducible refine we_notV ?_)
  | (with_reducible refine we_if ?_)
  | (with_reducible refine we_rB0 ?_)
  | (with_reducible refine we_rI0 ?_)
  | (with_reducible refine we_rI ?_)
  | (with_reducible refine we_eq ?_)
  | (with_reducible refine we_din ?_)
  | (with_reducible refine we_dnotin ?_)
  | (with_reducible refine we_ne ?_)
  | ((with_reducible show WE (tOp _ (tVar _) (tC .non)) _ _); first | (refine we_isNM rfl ?_) | (refine we_notNM rfl ?_))
  | (with_reducible refine we_isN ?_)
  | (with_reducible refine we_notN ?_)
  | (with_reducible refine we_addS ?_)
  | (with_reducible refine we_inC ?_)
  | (with_reducible refine we_inS ?_)
  | (with_reducible refine we_lenS ?_)
  | (with_reducible refine we_all ?_)
  | (with_reducible refine we_any ?_)
  | (with_reducible refine we_join ?_)
  | (with_reducible refine we_tup ?_)
  | (with_reducible refine we_ixL ?_)
  | (with_reducible refine we_ixT ?_)
  | (with_reducible refine we_ixS ?_)
  | (with_reducible refine we_len ?_)
  | (with_reducible refine wa_nil ?_)
  | ((with_reducible show WA (tCons (tVar _) _) _ _); first | (refine wa_cons (we_var rfl ?_)) | (refine wa_slot (r := bk _ _ _ _) rfl ?_) | (refine wa_slot (r := bx _) rfl ?_) | (refine wa_slot (r := md _ _) rfl ?_) | (refine wa_cons (we_varF rfl ?_)))
  | (with_reducible refine wa_cons ?_)
  | (with_reducible refine wo_none ?_)
  | (with_reducible refine wo_some ?_)
  | (with_reducible refine wm_lst ?_)
  | (with_reducible refine wm_cat ?_)
  | (with_reducible refine wm_slL ?_)
  | (with_reducible refine wm_sortSet ?_)
  | (with_reducible refine we_isi ?_)
  | (with_reducible refine we_int1 ?_)
  | (with_reducible refine we_tupOf ?_)
  | (with_reducible refine we_slT ?_)
  | (with_reducible refine we_min ?_)
  | (with_reducible refine we_eqD ?_)
  | (with_reducible refine we_neD ?_)
  | (with_reducible refine we_ixs ?_)
  | (with_reducible refine we_neg ?_)
  | (with_reducible refine wm_list ?_)
  | (with_reducible refine wm_split ?_)
  | (with_reducible refine wm_dnew ?_)
  | (with_reducible refine take_at rfl ?_)
  | (with_reducible refine wm_call ?_)
  | (with_reducible refine wm_callX (by assumption) ?_)
  | (with_reducible refine wm_callX lets0 ?_)
  | (with_reducible refine wm_make ?_)
  | (with_reducible refine wm_lcL ?_)
  | (with_reducible refine wm_lcSq ?_)
  | (with_reducible refine wm_lcT ?_)
  | (with_reducible refine wm_lcR ?_)
  | (with_reducible refine wm_lcS ?_)
  | (with_reducible refine we_wm (te := tLst _) ?_)
  | (with_reducible refine we_wm (te := tLc _ _ _ _ _) ?_)
  | (refine take_at rfl ?_)
  | (with_reducible refine known_at ?_)
  | (with_reducible refine we_wm (te := tCall _ _ _ _) ?_)
  | (with_reducible refine we_wm (te := tCallS _ _ _) ?_)
  | (with_reducible refine ws_asg (te := tCallS _ _ _) ?_)
  | (with_reducible refine ws_asg (te := tMeth _ _ _ _ _ _ _) ?_)
  | (with_reducible refine ws_drop (te := tMeth _ _ _ _ _ _ _) ?_)
  | (with_reducible refine ws_drop (te := tCallS _ _ _) ?_)
  | (with_reducible refine we_wm (te := tSl _ _ _ _) ?_)
  | (with_reducible refine we_wm (te := tOp rCat _ _) ?_)
  | (with_reducible refine we_wm (te := tCB _ _) ?_)
  | (with_reducible refine we_wm (te := tM1 _ _ _) ?_)
  | (with_reducible refine ws_ret (te := tLst _) ?_)
  | (with_reducible refine ws_ret (te := tLc _ _ _ _ _) ?_)
  | (refine ws_retE (take_at rfl ?_))
  | (with_reducible refine ws_ret (te := tCall _ _ _ _) ?_)
  | (with_reducible refine ws_ret (te := tMake _ _ _ _ _) ?_)
  | (with_reducible refine ws_ret (te := tMeth _ _ _ _ _ _ _) ?_)
  | (with_reducible refine ws_ret (te := tSl _ _ _ _) ?_)
  | (with_reducible refine ws_ret (te := tOp rCat _ _) ?_)
  | (with_reducible refine ws_ret (wm_list ?_))
  | (with_reducible refine ws_retE ?_)
  | (with_reducible refine ws_asg (te := tLst _) ?_)
  | (with_reducible refine ws_asg (te := tLc _ _ _ _ _) ?_)
  | (refine ws_asgE (take_at rfl ?_))
  | (with_reducible refine ws_asg (te := tCall _ _ _ _) ?_)
  | (with_reducible refine ws_asg (te := tMake _ _ _ _ _) ?_)
  | (with_reducible refine ws_asg (te := tSl _ _ _ _) ?_)
  | (with_reducible refine ws_asg (te := tOp rCat _ _) ?_)
  | (with_reducible refine ws_asg (te := tDNewK) ?_)
  | (with_reducible refine ws_asg (wm_list ?_))
  | (with_reducible refine ws_asgE ?_)
  | ((with_reducible show (_ : Int) ≠ 0 ∧ _); (refine ⟨by decide, ?_⟩))
  | ((with_reducible show _ ≤ _ ∧ _); (refine ⟨(by walk_at "side"), ?_⟩))
  | ((with_reducible show _ < _ ∧ _); (refine ⟨(by walk_at "side"), ?_⟩))
  | ((with_reducible show (_ → _) ∧ (_ → _)); first | (refine ⟨fun hb => absurd hb (by walk_at "no"), fun _ => ?_⟩) | (refine ⟨fun _ => ?_, fun hb => absurd hb (by walk_at "no")⟩))
  | ((with_reducible show ∀ p : Addr, ∃ d, Frz (ml p _) d ∧ _); (intro p))
  | ((with_reducible show (slots _).Nodup ∧ _); (refine ⟨by simp [slots], ?_⟩))
  | (refine ⟨_, frz_ml, ?_⟩)
  | (refine ⟨_, frz_fz, ?_⟩)
  | (refine ⟨_, rfl, ?_⟩)
  | (with_reducible refine ⟨_, _, rfl, (by assumption), ?_⟩)
  | (with_reducible refine ⟨_, _, rfl, atI_0, ?_⟩)
  | (with_reducible refine ⟨_, _, rfl, atI_1, ?_⟩)
  | (refine ⟨_, _, rfl, rfl, ?_⟩)
  | (refine ⟨rfl, ?_⟩)
  | (refine Or.inl ⟨_, rfl, ?_⟩)
  | (refine Or.inr ⟨_, rfl, ?_⟩)
  | (refine ⟨_, Or.inl rfl, ?_⟩)
  | (refine ⟨_, Or.inr rfl, ?_⟩)
  | (dsimp only [List.set_cons_zero, List.set_cons_succ]))
local macro_rules | `(tactic| walk_at "z") => `(tactic| (repeat (walk_at "z1"; try dsimp only)))
section
variable {P : Program} {w : World} {K : PySem.W.Frag} {mg : Str → Option Value} {base : Heap}
def sp_law_begun (K : PySem.W.Frag) : FSp := fun args Q => ∃ a, ∃ xs : List Int, args = [scr K a xs] ∧ xs.length ≤ 63 ∧ ∀ p, Q (bx p) args
theorem ok_law_begun (T : Txt K mg) : FnOk P w K mg base CX0 1 T.law_begun.a T.law_begun.fd ["_law_script"] (spF (sp_law_begun K)) := by
  refine fok T.law_begun.F sc_law_begun (fun args Q h => ?_) (fun cdv A outer s H E hr args Q h => ?_)
  · obtain ⟨a, xs, rfl, _⟩ := h
    rfl
  · obtain ⟨a, xs, rfl, hl, q⟩ := h
    refine ⟨_, (pss_cons (ps_set (i := 1) sc_law_begun.nd rfl (by first | exact Or.inl rfl | exact Or.inr rfl) pe_int)
      (pss_cons (ps_for PassesOwn.never rfl (pi_list (pv 0)) (pg_name (i := 2) sc_law_begun.nd rfl (by first | exact Or.inl rfl | exact Or.inr rfl))
      (pss_one (ps_set (i := 1) sc_law_begun.nd rfl (by first | exact Or.inl rfl | exact Or.inr rfl) (pe_op op_modN (pe_op op_add (pe_op op_add (pe_op op_mul (pv 1) pe_int) (pe_op op_mul (pv 2) pe_int)) pe_int) pe_int))))
      (pss_one (ps_ret (pe_lst (pa_cons (pe_callTy (T := "list") call_list_of (by rfl) T.b_list (by decide +kernel) (pa_cons (pv 0) pa_nil)) (pa_cons (pe_op op_mul (pv 1) (pe_callTy (T := "int") call_int1 (by rfl) T.b_int (by decide +kernel) (pa_cons (pe_cmpR op_gt (pe_callB call_len_seq (by rfl) T.b_len (by decide +kernel) (pa_cons (pv 0) pa_nil)) pe_int (nomark _)) pa_nil))) pa_nil))))))), ?_⟩
    show WS _ [some (scr _ _ _), none, none] _
    refine ws_seq (ws_asgE (we_int ?_))
    refine ws_seq (ws_forS (i := 0) (K := K) (a := a) (xs := xs) rfl (fun k e => ∃ (s : Int) (x : Option Own), e = [some (scr K a xs), some (fz (.int s)), x] ∧ 0 ≤ s ∧ s < 2147483647) ⟨0, none, rfl, by decide, by decide⟩ (fun k c e hc ⟨s, y, ee, s0, s1⟩ => ?_) (fun e ⟨s, y, ee, s0, s1⟩ => ?_))
    · subst ee
      walk_at "w"
      refine ⟨.inr (by decide), ?_⟩
      walk_at "w"
      refine ⟨.inr (by decide), ?_⟩
      walk_at "w"
      refine ⟨by decide, ?_⟩
      generalize hz : s * 48271 + c * 69621 + 11 = z
      have ef : Int.fmod z 2147483647 = z % 2147483647 := Int.fmod_eq_emod_of_nonneg _ (by decide)
      generalize Int.fmod z 2147483647 = s' at ef
      exact ⟨s', _, rfl, by omega, by omega⟩
    · subst ee
      refine ws_ret (wm_boxS (i := 0) (K := K) (a := a) (xs := xs) rfl (by omega) (we_rI (we_var (i := 1) rfl ⟨_, rfl, we_int1 (we_rB0 (we_lenScr (i := 0) (a := a) (xs := xs) rfl ⟨_, rfl, we_int ⟨_, rfl, .inr ⟨_, rfl, ?_⟩⟩⟩))⟩)))
      have hj : ∀ j : Int, (j = 0 ∨ j = 1) → ∃ j' : Int, PyData.int j = .int j' ∧ CMul s j' ∧ ∃ s1 : Int, PyData.int (s * j') = .int s1 ∧ 0 ≤ s1 ∧ s1 < 2147483647 ∧ ∀ p, (fin [scr K a xs] Q).rt (bx p) [some (scr K a xs), some (fz (.int s)), y] := fun j hj =>
        ⟨j, rfl, .inr (by omega), _, rfl, by rcases hj with h | h <;> subst h <;> omega, by rcases hj with h | h <;> subst h <;> omega, fun p => finS pin_scr (q p)⟩
      exact hj _ (by split <;> simp)
theorem begun_at [B : Bs] {i : Nat} {sa : Addr} {xs : List Int} {es : Es} {EE : XK} {Q : Own → Es → Prop} (hi : es[i]? = some (some (scr K sa xs))) (hl : xs.length ≤ 63) (h : ∀ p, Q (bx p) es) : WM (tCall (spF (sp_law_begun K)) [] EE (tCons (tVar i) tNil)) es Q := by
  refine wm_call (wa_slot hi (wa_nil ⟨[scr K sa xs], by simp [lend, hi], by simp [slots], sa, xs, rfl, hl, fun p => ?_⟩))
  have : back es [.s i] [scr K sa xs] = es := set_self hi
  dsimp only
  rw [this]
  exact h p

end
end

section
local macro_rules | `(tactic| walk_at "no") => `(tactic| first | (with_reducible exact Bool.false_ne_true) | (with_reducible exact fun z => Bool.false_ne_true z.symm) | (simp only [decide_eq_true_eq, decide_eq_false_iff_not]; omega) | (decide +kernel) | (simp; done) | (simp; omega) | (exact Bool.false_ne_true) | (exact fun z => Bool.false_ne_true z.symm))
local macro_rules | `(tactic| walk_at "side") => `(tactic| first | omega | assumption | (refine Nat.le_trans (m := 100000) ?_ (by decide); first | omega | (simp <;> omega)) | (simp <;> omega))
local macro_rules | `(tactic| walk_at "w1") => `(tactic| first
  | (with_reducible refine ws_seq ?_)
  | (with_reducible refine ws_if ?_)
  | (with_reducible refine ws_nx ?_)
  | (with_reducible refine ws_retN ?_)
  | ((with_reducible show WE (tVar _) _ _); (refine we_var rfl ?_))
  | (with_reducible refine we_int ?_)
  | (with_reducible refine we_str ?_)
  | (with_reducible refine we_bl ?_)
  | (with_reducible refine we_non ?_)
  | (with_reducible refine wt_test ?_)
  | (with_reducible refine wt_B ?_)
  | (with_reducible refine wt_yes ?_)
  | (with_reducible refine wt_and ?_)
  | (with_reducible refine wt_or ?_)
  | (with_reducible refine wt_not ?_)
  | (with_reducible refine we_andV ?_)
  | (with_reducible refine we_orV ?_)
  | (with_reducible refine we_notV ?_)
  | (with_reducible refine we_if ?_)
  | (with_reducible refine we_rB0 ?_)
  | (with_reducible refine we_rI0 ?_)
  | (with_reducible refine we_rI ?_)
  | (with_reducible refine we_eq ?_)
  | (with_reducible refine we_din ?_)
  | (with_reducible refine we_dnotin ?_)
  | (with_reducible refine we_ne ?_)
  | (with_reducible refine we_isN ?_)
  | (with_reducible refine we_notN ?_)
  | (with_reducible refine we_addS ?_)
  | (with_reducible refine we_inC ?_)
  | (with_reducible refine we_inS ?_)
  | (with_reducible refine we_lenS ?_)
  | (with_reducible refine we_all ?_)
  | (with_reducible refine we_any ?_)
  | (with_reducible refine we_join ?_)
  | (with_reducible refine we_tup ?_)
  | (with_reducible refine we_ixL ?_)
  | (with_reducible refine we_ixT ?_)
  | (with_reducible refine we_ixS ?_)
  | (with_reducible refine we_len ?_)
  | (with_reducible refine wa_nil ?_)
  | (with_reducible refine wa_cons ?_)
  | (with_reducible refine wo_none ?_)
  | (with_reducible refine wo_some ?_)
  | (with_reducible refine wm_lst ?_)
  | (with_reducible refine wm_cat ?_)
  | (with_reducible refine wm_slL ?_)
  | (with_reducible refine wm_sortSet ?_)
  | (with_reducible refine we_isi ?_)
  | (with_reducible refine we_int1 ?_)
  | (with_reducible refine we_tupOf ?_)
  | (with_reducible refine we_slT ?_)
  | (with_reducible refine we_min ?_)
  | (with_reducible refine we_eqD ?_)
  | (with_reducible refine we_neD ?_)
  | (with_reducible refine we_ixs ?_)
  | (with_reducible refine we_neg ?_)
  | (with_reducible refine wm_list ?_)
  | (with_reducible refine wm_split ?_)
  | (with_reducible refine wm_dnew ?_)
  | (with_reducible refine take_at rfl ?_)
  | (with_reducible refine wm_call ?_)
  | (with_reducible refine wm_callX (by assumption) ?_)
  | (with_reducible refine wm_callX lets0 ?_)
  | (with_reducible refine wm_make ?_)
  | (with_reducible refine wm_lcL ?_)
  | (with_reducible refine wm_lcSq ?_)
  | (with_reducible refine wm_lcT ?_)
  | (with_reducible refine wm_lcR ?_)
  | (with_reducible refine wm_lcS ?_)
  | (with_reducible refine we_wm (te := tLst _) ?_)
  | (with_reducible refine we_wm (te := tLc _ _ _ _ _) ?_)
  | (refine take_at rfl ?_)
  | (with_reducible refine known_at ?_)
  | (with_reducible refine we_wm (te := tCall _ _ _ _) ?_)
  | (with_reducible refine we_wm (te := tCallS _ _ _) ?_)
  | (with_reducible refine we_wm (te := tSl _ _ _ _) ?_)
  | (with_reducible refine we_wm (te := tOp rCat _ _) ?_)
  | (with_reducible refine we_wm (te := tCB _ _) ?_)
  | (with_reducible refine we_wm (te := tM1 _ _ _) ?_)
  | (with_reducible refine ws_ret (te := tLst _) ?_)
  | (with_reducible refine ws_ret (te := tLc _ _ _ _ _) ?_)
  | (refine ws_retE (take_at rfl ?_))
  | (with_reducible refine ws_ret (te := tCall _ _ _ _) ?_)
  | (with_reducible refine ws_ret (te := tMake _ _ _ _ _) ?_)
  | (with_reducible refine ws_ret (te := tMeth _ _ _ _ _ _ _) ?_)
  | (with_reducible refine ws_ret (te := tSl _ _ _ _) ?_)
  | (with_reducible refine ws_ret (te := tOp rCat _ _) ?_)
  | (with_reducible refine ws_ret (wm_list ?_))
  | (with_reducible refine ws_retE ?_)
  | (with_reducible refine ws_asg (te := tLst _) ?_)
  | (with_reducible refine ws_asg (te := tLc _ _ _ _ _) ?_)
  | (refine ws_asgE (take_at rfl ?_))
  | (with_reducible refine ws_asg (te := tCall _ _ _ _) ?_)
  | (with_reducible refine ws_asg (te := tMake _ _ _ _ _) ?_)
  | (with_reducible refine ws_asg (te := tSl _ _ _ _) ?_)
  | (with_reducible refine ws_asg (te := tOp rCat _ _) ?_)
  | (with_reducible refine ws_asg (te := tDNewK) ?_)
  | (with_reducible refine ws_asg (wm_list ?_))
  | (with_reducible refine ws_asgE ?_)
  | ((with_reducible show _ ≤ _ ∧ _); (refine ⟨(by walk_at "side"), ?_⟩))
  | ((with_reducible show _ < _ ∧ _); (refine ⟨(by walk_at "side"), ?_⟩))
  | ((with_reducible show (_ → _) ∧ (_ → _)); first | (refine ⟨fun hb => absurd hb (by walk_at "no"), fun _ => ?_⟩) | (refine ⟨fun _ => ?_, fun hb => absurd hb (by walk_at "no")⟩))
  | ((with_reducible show ∀ p : Addr, ∃ d, Frz (ml p _) d ∧ _); (intro p))
  | ((with_reducible show (slots _).Nodup ∧ _); (refine ⟨by simp [slots], ?_⟩))
  | (refine ⟨_, frz_ml, ?_⟩)
  | (refine ⟨_, frz_fz, ?_⟩)
  | (refine ⟨_, rfl, ?_⟩)
  | (with_reducible refine ⟨_, _, rfl, atI_0, ?_⟩)
  | (with_reducible refine ⟨_, _, rfl, atI_1, ?_⟩)
  | (refine ⟨_, _, rfl, rfl, ?_⟩)
  | (refine ⟨rfl, ?_⟩)
  | (refine Or.inl ⟨_, rfl, ?_⟩)
  | (refine Or.inr ⟨_, rfl, ?_⟩)
  | (refine ⟨_, Or.inl rfl, ?_⟩)
  | (refine ⟨_, Or.inr rfl, ?_⟩)
  | (dsimp only [List.set_cons_zero, List.set_cons_succ]))
local macro_rules | `(tactic| walk_at "w") => `(tactic| (repeat (walk_at "w1"; try dsimp only)))
local macro_rules | `(tactic| walk_at "z1") => `(tactic| first
  | (with_reducible refine ws_seq ?_)
  | (with_reducible refine ws_if ?_)
  | (with_reducible refine ws_nx ?_)
  | ((with_reducible show WE (tCall _ _ _ _) _ _); first | (with_reducible refine walked_at ?_) | (refine take_at rfl ?_) | (with_reducible refine known_at ?_) | (refine words_at rfl ?_) | (refine row_at rfl ?_) | (refine number_at rfl ?_) | (with_reducible refine is_way_at ?_) | (with_reducible refine law_walks_at ?_) | (refine right_at rfl ?_) | (with_reducible refine we_wm (copied_at ?_)) | (with_reducible refine we_wm (grounds_at ?_)) | (refine we_wm (taken_at rfl ?_)) | (refine we_wm (rows_at rfl ?_)))
  | ((with_reducible show WM (tCall _ _ _ _) _ _); first | (refine wm_we (take_at rfl ?_)) | (refine wm_we (words_at rfl ?_)) | (refine wm_we (row_at rfl ?_)) | (refine wm_we (number_at rfl ?_)) | (with_reducible refine fired_at ?_) | (refine spoilt_at rfl ?_) | (refine wm_we (right_at rfl ?_)) | (refine begun_at rfl (by assumption) ?_) | (refine rows_at rfl ?_) | (with_reducible refine copied_at ?_) | (with_reducible refine grounds_at ?_) | (refine taken_at rfl ?_))
  | ((with_reducible show WM (tCallS _ _ _) _ _); first | (refine way_at rfl ?_))
  | ((with_reducible show WM (tMake _ _ _ _ _) _ _); first | (with_reducible refine book_at ?_))
  | ((with_reducible show WM (tMeth _ _ _ _ _ _ _) _ _); first | (refine tell_at rfl ?_))
  | (with_reducible refine ws_retN ?_)
  | ((with_reducible show WE (tVar _) _ _); first | (refine we_var rfl ?_) | (refine we_varF rfl ?_) | (refine we_varFd rfl ?_))
  | (with_reducible refine we_int ?_)
  | (with_reducible refine we_str ?_)
  | (with_reducible refine we_bl ?_)
  | (with_reducible refine we_non ?_)
  | (with_reducible refine wt_test ?_)
  | (with_reducible refine wt_B ?_)
  | (with_reducible refine wt_yes ?_)
  | (with_reducible refine wt_and ?_)
  | (with_reducible refine wt_or ?_)
  | (with_reducible refine wt_not ?_)
  | (with_reducible refine we_andV ?_)
  | (with_reducible refine we_orV ?_)
  | (with_reducible refine we_notV ?_)
  | (with_reducible refine we_if ?_)
  | (with_reducible refine we_rB0 ?_)
  | (with_reducible refine we_rI0 ?_)
  | (with_reducible refine we_rI ?_)
  | (with_reducible refine we_eq ?_)
  | (with_reducible refine we_din ?_)
  | (with_reducible refine we_dnotin ?_)
  | (with_reducible refine we_ne ?_)
  | ((with_reducible show WE (tOp _ (tVar _) (tC .non)) _ _); first | (refine we_isNM rfl ?_) | (refine we_notNM rfl ?_))
  | (with_reducible refine we_isN ?_)
  | (with_reducible refine we_notN ?_)
  | (with_reducible refine we_addS ?_)
  | (with_reducible refine we_inC ?_)
  | (with_reducible refine we_inS ?_)
  | (with_reducible refine we_lenS ?_)
  | (with_reducible refine we_all ?_)
  | (with_reducible refine we_any ?_)
  | (with_reducible refine we_join ?_)
  | (with_reducible refine we_tup ?_)
  | (with_reducible refine we_ixL ?_)
  | (with_reducible refine we_ixT ?_)
  | (with_reducible refine we_ixS ?_)
  | (with_reducible refine we_len ?_)
  | (with_reducible refine wa_nil ?_)
  | ((with_reducible show WA (tCons (tVar _) _) _ _); first | (refine wa_cons (we_var rfl ?_)) | (refine wa_slot (r := bk _ _ _ _) rfl ?_) | (refine wa_slot (r := bx _) rfl ?_) | (refine wa_slot (r := md _ _) rfl ?_) | (refine wa_cons (we_varF rfl ?_)))
  | (with_reducible refine wa_cons ?_)
  | (with_reducible refine wo_none ?_)
  | (with_reducible refine wo_some ?_)
  | (with_reducible refine wm_lst ?_)
  | (with_reducible refine wm_cat ?_)
  | (with_reducible refine wm_slL ?_)
  | (with_reducible refine wm_sortSet ?_)
  | (with_reducible refine we_isi ?_)
  | (with_reducible refine we_int1 ?_)
  | (with_reducible refine we_tupOf ?_)
  | (with_reducible refine we_slT ?_)
  | (with_reducible refine we_min ?_)
  | (with_reducible refine we_eqD ?_)
  | (with_reducible refine we_neD ?_)
  | (with_reducible refine we_ixs ?_)
  | (with_reducible refine we_neg ?_)
  | (with_reducible refine wm_list ?_)
  | (with_reducible refine wm_split ?_)
  | (with_reducible refine wm_dnew ?_)
  | (with_reducible refine take_at rfl ?_)
  | (with_reducible refine wm_call ?_)
  | (with_reducible refine wm_callX (by assumption) ?_)
  | (with_reducible refine wm_callX lets0 ?_)
  | (with_reducible refine wm_make ?_)
  | (with_reducible refine wm_lcL ?_)
  | (with_reducible refine wm_lcSq ?_)
  | (with_reducible refine wm_lcT ?_)
  | (with_reducible refine wm_lcR ?_)
  | (with_reducible refine wm_lcS ?_)
  | (with_reducible refine we_wm (te := tLst _) ?_)
  | (with_reducible refine we_wm (te := tLc _ _ _ _ _) ?_)
  | (refine take_at rfl ?_)
  | (with_reducible refine known_at ?_)
  | (with_reducible refine we_wm (te := tCall _ _ _ _) ?_)
  | (with_reducible refine we_wm (te := tCallS _ _ _) ?_)
  | (with_reducible refine ws_asg (te := tCallS _ _ _) ?_)
  | (with_reducible refine ws_asg (te := tMeth _ _ _ _ _ _ _) ?_)
  | (with_reducible refine ws_drop (te := tMeth _ _ _ _ _ _ _) ?_)
  | (with_reducible refine ws_drop (te := tCallS _ _ _) ?_)
  | (with_reducible refine we_wm (te := tSl _ _ _ _) ?_)
  | (with_reducible refine we_wm (te := tOp rCat _ _) ?_)
  | (with_reducible refine we_wm (te := tCB _ _) ?_)
  | (with_reducible refine we_wm (te := tM1 _ _ _) ?_)
  | (with_reducible refine ws_ret (te := tLst _) ?_)
  | (with_reducible refine ws_ret (te := tLc _ _ _ _ _) ?_)
  | (refine ws_retE (take_at rfl ?_))
  | (with_reducible refine ws_ret (te := tCall _ _ _ _) ?_)
  | (with_reducible refine ws_ret (te := tMake _ _ _ _ _) ?_)
  | (with_reducible refine ws_ret (te := tMeth _ _ _ _ _ _ _) ?_)
  | (with_reducible refine ws_ret (te := tSl _ _ _ _) ?_)
  | (with_reducible refine ws_ret (te := tOp rCat _ _) ?_)
  | (with_reducible refine ws_ret (wm_list ?_))
  | (with_reducible refine ws_retE ?_)
  | (with_reducible refine ws_asg (te := tLst _) ?_)
  | (with_reducible refine ws_asg (te := tLc _ _ _ _ _) ?_)
  | (refine ws_asgE (take_at rfl ?_))
  | (with_reducible refine ws_asg (te := tCall _ _ _ _) ?_)
  | (with_reducible refine ws_asg (te := tMake _ _ _ _ _) ?_)
  | (with_reducible refine ws_asg (te := tSl _ _ _ _) ?_)
  | (with_reducible refine ws_asg (te := tOp rCat _ _) ?_)
  | (with_reducible refine ws_asg (te := tDNewK) ?_)
  | (with_reducible refine ws_asg (wm_list ?_))
  | (with_reducible refine ws_asgE ?_)
  | ((with_reducible show (_ : Int) ≠ 0 ∧ _); (refine ⟨by decide, ?_⟩))
  | ((with_reducible show _ ≤ _ ∧ _); (refine ⟨(by walk_at "side"), ?_⟩))
  | ((with_reducible show _ < _ ∧ _); (refine ⟨(by walk_at "side"), ?_⟩))
  | ((with_reducible show (_ → _) ∧ (_ → _)); first | (refine ⟨fun hb => absurd hb (by walk_at "no"), fun _ => ?_⟩) | (refine ⟨fun _ => ?_, fun hb => absurd hb (by walk_at "no")⟩))
  | ((with_reducible show ∀ p : Addr, ∃ d, Frz (ml p _) d ∧ _); (intro p))
  | ((with_reducible show (slots _).Nodup ∧ _); (refine ⟨by simp [slots], ?_⟩))
  | (refine ⟨_, frz_ml, ?_⟩)
  | (refine ⟨_, frz_fz, ?_⟩)
  | (refine ⟨_, rfl, ?_⟩)
  | (with_reducible refine ⟨_, _, rfl, (by assumption), ?_⟩)
  | (with_reducible refine ⟨_, _, rfl, atI_0, ?_⟩)
  | (with_reducible refine ⟨_, _, rfl, atI_1, ?_⟩)
  | (refine ⟨_, _, rfl, rfl, ?_⟩)
  | (refine ⟨rfl, ?_⟩)
  | (refine Or.inl ⟨_, rfl, ?_⟩)
  | (refine Or.inr ⟨_, rfl, ?_⟩)
  | (refine ⟨_, Or.inl rfl, ?_⟩)
  | (refine ⟨_, Or.inr rfl, ?_⟩)
  | (dsimp only [List.set_cons_zero, List.set_cons_succ]))
local macro_rules | `(tactic| walk_at "z") => `(tactic| (repeat (walk_at "z1"; try dsimp only)))
section
variable {P : Program} {w : World} {K : PySem.W.Frag} {mg : Str → Option Value} {base : Heap}
def sp_law_take : FSp := fun args Q => ∃ p m, args = [bx p, fz (.int m)] ∧ 0 < m ∧ m.natAbs.log2 < 9000 ∧ ∀ r : Int, 0 ≤ r → r < m → Q (fz (.int r)) args
theorem ok_law_take (T : Txt K mg) : FnOk P w K mg base CX0 1 T.law_take.a T.law_take.fd ["_law_box", "_law_many"] (spF sp_law_take) := by
  refine fok T.law_take.F sc_law_take (fun args Q h => ?_) (fun cdv A outer s H E hr args Q h => ?_)
  · obtain ⟨p, m, rfl, _⟩ := h
    rfl
  · obtain ⟨p, m, rfl, hm, hl, q⟩ := h
    refine ⟨_, (pss_cons (ps_if (pt_cmpR (op_eqD hr.units) (pe_ix ix_list (pv 0) pe_int (fun _ _ => rfl)) (pe_lst pa_nil) (nomark _)) (pss_cons (ps_asg (pe_op op_modN (pe_op op_mul (pe_ix ix_list (pv 0) pe_int (fun _ _ => rfl)) pe_int) pe_int) (pg_sub (pv 0) pe_int set_list))
      (pss_one (ps_ret (pe_op op_modN (pe_op op_fdivW (pe_ix ix_list (pv 0) pe_int (fun _ _ => rfl)) pe_int) (pv 1))))) pss_nil)
      (pss_cons (ps_set (i := 2) sc_law_take.nd rfl (by first | exact Or.inl rfl | exact Or.inr rfl) (pe_ix ix_list (pe_ix ix_list (pv 0) pe_int (fun _ _ => rfl)) pe_int (fun _ _ => rfl)))
      (pss_cons (ps_asg (pe_op op_fdivW (pv 2) (pv 1)) (pg_sub (pe_ix ix_list (pv 0) pe_int (fun _ _ => rfl)) pe_int set_list))
      (pss_cons (ps_if (PW.pt (pw_or (pt_cmpR op_eq (pe_ix ix_list (pe_ix ix_list (pv 0) pe_int (fun _ _ => rfl)) pe_int (fun _ _ => rfl)) pe_int (nomark _)) (pw_or1 (pt_cmpR op_eq (pe_ix ix_list (pe_ix ix_list (pv 0) pe_int (fun _ _ => rfl)) pe_int (fun _ _ => rfl)) (pe_un un_neg pe_int) (nomark _))))) (pss_one (ps_expr (pe_bm PySem.F.plainAttrs_list PySem.F.slot_list_pop PySem.F.type_list_pop mt_popAt (pe_ix ix_list (pv 0) pe_int (fun _ _ => rfl)) (pa_cons pe_int pa_nil)))) pss_nil)
      (pss_one (ps_ret (pe_op op_modN (pv 2) (pv 1)))))))), ?_⟩
    show WS _ [some (bx _), some (fz _), none] _
    refine ws_open (i := 0) (p := p) rfl fun b s xs ⟨s0, s1, x0⟩ => ?_
    have one : ∀ (r : Int) x, 0 ≤ r → r < m → Fin [bx p, fz (.int m)] Q (fz (.int r)) [some (bx p), some (fz (.int m)), x] := fun r x h0 h1 => finS1 pin_bx (q r h0 h1)
    have md : ∀ z : Int, 0 ≤ z.fmod m ∧ z.fmod m < m := fun z => ⟨by rw [Int.fmod_eq_emod_of_nonneg _ (by omega)]; exact Int.emod_nonneg _ (by omega), by rw [Int.fmod_eq_emod_of_nonneg _ (by omega)]; exact Int.emod_lt_of_pos _ hm⟩
    refine ws_shutRt (i := 0) (p := p) ?_
    show WS _ [some (bxS _ _ _ _), some (fz _), none] _
    refine ws_seq (ws_if (wt_test (we_bxE (i := 0) rfl ⟨_, rfl, ?_⟩)))
    cases xs with
    | nil =>
      refine ⟨fun _ => ?_, fun hb => absurd hb (by decide)⟩
      refine ws_seq (ws_bx1 (i := 0) rfl (we_rI (we_rI (we_bx1 (i := 0) rfl ⟨_, rfl, we_int ⟨_, rfl, .inr (by omega), _, rfl, we_int ⟨_, rfl, by decide, _, rfl, rfl, ?_⟩⟩⟩))))
      have ef : Int.fmod (s * 48271) 2147483647 = s * 48271 % 2147483647 := Int.fmod_eq_emod_of_nonneg _ (by decide)
      generalize hs' : Int.fmod (s * 48271) 2147483647 = s' at ef
      have h0 : 0 ≤ s' := by omega
      have h1 : s' < 2147483647 := by omega
      show WS _ [some (bxS _ _ _ _), some (fz _), none] _
      refine ws_retE (we_rI (we_rI (we_bx1 (i := 0) rfl ⟨_, rfl, we_int ⟨_, rfl, ⟨by decide, by decide⟩, _, rfl, we_var (i := 1) rfl ⟨_, rfl, by omega, ?_⟩⟩⟩)))
      exact ⟨_, _, _, rfl, ⟨h0, h1, x0⟩, one _ _ (md _).1 (md _).2⟩
    | cons x ys =>
      refine ⟨fun hb => absurd hb (by simp), fun _ => ws_nx ?_⟩
      have lys : ys.length ≤ 64 := by simp at x0; omega
      refine ws_seq (ws_asgE (we_bx00 (i := 0) rfl rfl ?_))
      show WS _ [some (bxS _ _ _ _), some (fz _), some (fz (.int x))] _
      refine ws_seq (ws_bx00 (i := 0) rfl (we_rI (we_var (i := 2) rfl ⟨_, rfl, we_var (i := 1) rfl ⟨_, rfl, ⟨hm, hl⟩, _, rfl, rfl, ?_⟩⟩)))
      generalize x / m = y
      show WS _ [some (bxS _ _ _ _), some (fz _), some (fz (.int x))] _
      have fini : ∀ (zs : List Int) (E1 : SE), (∀ r, 0 ≤ r → r < m → E1.rt (fz (.int r)) [some (bxS p b s zs), some (fz (.int m)), some (fz (.int x))]) → WS (tRet (tOp (rI (fun _ j => j ≠ 0) fun i j => .int (i.fmod j)) (tVar 2) (tVar 1))) [some (bxS p b s zs), some (fz (.int m)), some (fz (.int x))] E1 := fun zs E1 h =>
        ws_retE (we_rI (we_var (i := 2) rfl ⟨_, rfl, we_var (i := 1) rfl ⟨_, rfl, by omega, h _ (md _).1 (md _).2⟩⟩))
      refine ws_seq (ws_if (wt_or (wt_test (we_eq (we_bx00 (i := 0) rfl rfl ⟨_, rfl, we_int ⟨_, rfl, rfl, _, rfl, ?_⟩⟩)))))
      refine ⟨fun _ => ⟨fun _ => ws_bxPop (i := 0) rfl lys (fini ys _ fun r h0 h1 => ⟨_, _, _, rfl, ⟨s0, s1, lys⟩, one _ _ h0 h1⟩), fun hb => absurd hb (by decide)⟩, fun _ => wt_test (we_eq (we_bx00 (i := 0) rfl rfl ⟨_, rfl, ?_⟩))⟩
      walk_at "w"
      refine ⟨fun _ => ws_bxPop (i := 0) rfl lys (fini ys _ fun r h0 h1 => ⟨_, _, _, rfl, ⟨s0, s1, lys⟩, one _ _ h0 h1⟩), fun _ => ws_nx (fini _ _ fun r h0 h1 => ⟨_, _, _, rfl, ⟨s0, s1, x0⟩, one _ _ h0 h1⟩)⟩
/-- a number drawn from the box in slot i -/
theorem take_at [B : Bs] {i : Nat} {p : Addr} {es : Es} {ta : TA} {EE : XK} {Q : PyData → Es → Prop} (hi : es[i]? = some (some (bx p))) (h : WA ta es fun as e => ∃ m : Int, as = [.d (.int m)] ∧ e = es ∧ 0 < m ∧ m < 1000000 ∧ ∀ r : Nat, (r : Int) < m → Q (.int (r : Int)) es) :
    WE (tCall (spF sp_law_take) [] EE (tCons (tVar i) ta)) es Q := by
  refine we_call (wa_slot hi fun σ G H Rs K hs k => h σ G H Rs K hs fun vs as G' H' Rs' es' s r st ⟨m, ea, ee, hm, hl, q⟩ => k vs as G' H' Rs' es' s r st ?_)
  subst ea ee
  refine ⟨[bx p, fz (.int m)], ?_, by simp [slots], p, m, rfl, hm, ?_, fun r h0 h1 => ⟨_, frz_fz, ?_⟩⟩
  · simp [lend, hi]
  · have : m.natAbs.log2 ≤ 20 := by
      by_cases z : m.natAbs = 0
      · omega
      · have := (Nat.log2_lt z (k := 20)).mpr (by omega)
        omega
    omega
  · have : back es' [.s i, .d (.int m)] [bx p, fz (.int m)] = es' := set_self hi
    rw [this]
    have e : r = ((r.toNat : Nat) : Int) := by omega
    rw [e]
    exact q r.toNat (by omega)

end
end

section
local macro_rules | `(tactic| walk_at "no") => `(tactic| first | (with_reducible exact Bool.false_ne_true) | (with_reducible exact fun z => Bool.false_ne_true z.symm) | (simp only [decide_eq_true_eq, decide_eq_false_iff_not]; omega) | (decide +kernel) | (simp; done) | (simp; omega) | (exact Bool.false_ne_true) | (exact fun z => Bool.false_ne_true z.symm))
local macro_rules | `(tactic| walk_at "side") => `(tactic| first | omega | assumption | (refine Nat.le_trans (m := 100000) ?_ (by decide); first | omega | (simp <;> omega)) | (simp <;> omega))
local macro_rules | `(tactic| walk_at "w1") => `(tactic| first
  | (with_reducible refine ws_seq ?_)
  | (with_reducible refine ws_if ?_)
  | (with_reducible refine ws_nx ?_)
  | (with_reducible refine ws_retN ?_)
  | ((with_reducible show WE (tVar _) _ _); (refine we_var rfl ?_))
  | (with_reducible refine we_int ?_)
  | (with_reducible refine we_str ?_)
  | (with_reducible refine we_bl ?_)
  | (with_reducible refine we_non ?_)
  | (with_reducible refine wt_test ?_)
  | (with_reducible refine wt_B ?_)
  | (with_reducible refine wt_yes ?_)
  | (with_reducible refine wt_and ?_)
  | (with_reducible refine wt_or ?_)
  | (with_reducible refine wt_not ?_)
  | (with_reducible refine we_andV ?_)
  | (with_reducible refine we_orV ?_)
  | (with_reducible refine we_notV ?_)
  | (with_reducible refine we_if ?_)
  | (with_reducible refine we_rB0 ?_)
  | (with_reducible refine we_rI0 ?_)
  | (with_reducible refine we_rI ?_)
  | (with_reducible refine we_eq ?_)
  | (with_reducible refine we_din ?_)
  | (with_reducible refine we_dnotin ?_)
  | (with_reducible refine we_ne ?_)
  | (with_reducible refine we_isN ?_)
  | (with_reducible refine we_notN ?_)
  | (with_reducible refine we_addS ?_)
  | (with_reducible refine we_inC ?_)
  | (with_reducible refine we_inS ?_)
  | (with_reducible refine we_lenS ?_)
  | (with_reducible refine we_all ?_)
  | (with_reducible refine we_any ?_)
  | (with_reducible refine we_join ?_)
  | (with_reducible refine we_tup ?_)
  | (with_reducible refine we_ixL ?_)
  | (with_reducible refine we_ixT ?_)
  | (with_reducible refine we_ixS ?_)
  | (with_reducible refine we_len ?_)
  | (with_reducible refine wa_nil ?_)
  | (with_reducible refine wa_cons ?_)
  | (with_reducible refine wo_none ?_)
  | (with_reducible refine wo_some ?_)
  | (with_reducible refine wm_lst ?_)
  | (with_reducible refine wm_cat ?_)
  | (with_reducible refine wm_slL ?_)
  | (with_reducible refine wm_sortSet ?_)
  | (with_reducible refine we_isi ?_)
  | (with_reducible refine we_int1 ?_)
  | (with_reducible refine we_tupOf ?_)
  | (with_reducible refine we_slT ?_)
  | (with_reducible refine we_min ?_)
  | (with_reducible refine we_eqD ?_)
  | (with_reducible refine we_neD ?_)
  | (with_reducible refine we_ixs ?_)
  | (with_reducible refine we_neg ?_)
  | (with_reducible refine wm_list ?_)
  | (with_reducible refine wm_split ?_)
  | (with_reducible refine wm_dnew ?_)
  | (with_reducible refine take_at rfl ?_)
  | (with_reducible refine wm_call ?_)
  | (with_reducible refine wm_callX (by assumption) ?_)
  | (with_reducible refine wm_callX lets0 ?_)
  | (with_reducible refine wm_make ?_)
  | (with_reducible refine wm_lcL ?_)
  | (with_reducible refine wm_lcSq ?_)
  | (with_reducible refine wm_lcT ?_)
  | (with_reducible refine wm_lcR ?_)
  | (with_reducible refine wm_lcS ?_)
  | (with_reducible refine we_wm (te := tLst _) ?_)
  | (with_reducible refine we_wm (te := tLc _ _ _ _ _) ?_)
  | (refine take_at rfl ?_)
  | (with_reducible refine known_at ?_)
  | (with_reducible refine we_wm (te := tCall _ _ _ _) ?_)
  | (with_reducible refine we_wm (te := tCallS _ _ _) ?_)
  | (with_reducible refine we_wm (te := tSl _ _ _ _) ?_)
  | (with_reducible refine we_wm (te := tOp rCat _ _) ?_)
  | (with_reducible refine we_wm (te := tCB _ _) ?_)
  | (with_reducible refine we_wm (te := tM1 _ _ _) ?_)
  | (with_reducible refine ws_ret (te := tLst _) ?_)
  | (with_reducible refine ws_ret (te := tLc _ _ _ _ _) ?_)
  | (refine ws_retE (take_at rfl ?_))
  | (with_reducible refine ws_ret (te := tCall _ _ _ _) ?_)
  | (with_reducible refine ws_ret (te := tMake _ _ _ _ _) ?_)
  | (with_reducible refine ws_ret (te := tMeth _ _ _ _ _ _ _) ?_)
  | (with_reducible refine ws_ret (te := tSl _ _ _ _) ?_)
  | (with_reducible refine ws_ret (te := tOp rCat _ _) ?_)
  | (with_reducible refine ws_ret (wm_list ?_))
  | (with_reducible refine ws_retE ?_)
  | (with_reducible refine ws_asg (te := tLst _) ?_)
  | (with_reducible refine ws_asg (te := tLc _ _ _ _ _) ?_)
  | (refine ws_asgE (take_at rfl ?_))
  | (with_reducible refine ws_asg (te := tCall _ _ _ _) ?_)
  | (with_reducible refine ws_asg (te := tMake _ _ _ _ _) ?_)
  | (with_reducible refine ws_asg (te := tSl _ _ _ _) ?_)
  | (with_reducible refine ws_asg (te := tOp rCat _ _) ?_)
  | (with_reducible refine ws_asg (te := tDNewK) ?_)
  | (with_reducible refine ws_asg (wm_list ?_))
  | (with_reducible refine ws_asgE ?_)
  | ((with_reducible show _ ≤ _ ∧ _); (refine ⟨(by walk_at "side"), ?_⟩))
  | ((with_reducible show _ < _ ∧ _); (refine ⟨(by walk_at "side"), ?_⟩))
  | ((with_reducible show (_ → _) ∧ (_ → _)); first | (refine ⟨fun hb => absurd hb (by walk_at "no"), fun _ => ?_⟩) | (refine ⟨fun _ => ?_, fun hb => absurd hb (by walk_at "no")⟩))
  | ((with_reducible show ∀ p : Addr, ∃ d, Frz (ml p _) d ∧ _); (intro p))
  | ((with_reducible show (slots _).Nodup ∧ _); (refine ⟨by simp [slots], ?_⟩))
  | (refine ⟨_, frz_ml, ?_⟩)
  | (refine ⟨_, frz_fz, ?_⟩)
  | (refine ⟨_, rfl, ?_⟩)
  | (with_reducible refine ⟨_, _, rfl, atI_0, ?_⟩)
  | (with_reducible refine ⟨_, _, rfl, atI_1, ?_⟩)
  | (refine ⟨_, _, rfl, rfl, ?_⟩)
  | (refine ⟨rfl, ?_⟩)
  | (refine Or.inl ⟨_, rfl, ?_⟩)
  | (refine Or.inr ⟨_, rfl, ?_⟩)
  | (refine ⟨_, Or.inl rfl, ?_⟩)
  | (refine ⟨_, Or.inr rfl, ?_⟩)
  | (dsimp only [List.set_cons_zero, List.set_cons_succ]))
local macro_rules | `(tactic| walk_at "w") => `(tactic| (repeat (walk_at "w1"; try dsimp only)))
local macro_rules | `(tactic| walk_at "z1") => `(tactic| first
  | (with_reducible refine ws_seq ?_)
  | (with_reducible refine ws_if ?_)
  | (with_reducible refine ws_nx ?_)
  | ((with_reducible show WE (tCall _ _ _ _) _ _); first | (with_reducible refine walked_at ?_) | (refine take_at rfl ?_) | (with_reducible refine known_at ?_) | (refine words_at rfl ?_) | (refine row_at rfl ?_) | (refine number_at rfl ?_) | (with_reducible refine is_way_at ?_) | (with_reducible refine law_walks_at ?_) | (refine right_at rfl ?_) | (with_reducible refine we_wm (copied_at ?_)) | (with_reducible refine we_wm (grounds_at ?_)) | (refine we_wm (taken_at rfl ?_)) | (refine we_wm (rows_at rfl ?_)))
  | ((with_reducible show WM (tCall _ _ _ _) _ _); first | (refine wm_we (take_at rfl ?_)) | (refine wm_we (words_at rfl ?_)) | (refine wm_we (row_at rfl ?_)) | (refine wm_we (number_at rfl ?_)) | (with_reducible refine fired_at ?_) | (refine spoilt_at rfl ?_) | (refine wm_we (right_at rfl ?_)) | (refine begun_at rfl (by assumption) ?_) | (refine rows_at rfl ?_) | (with_reducible refine copied_at ?_) | (with_reducible refine grounds_at ?_) | (refine taken_at rfl ?_))
  | ((with_reducible show WM (tCallS _ _ _) _ _); first | (refine way_at rfl ?_))
  | ((with_reducible show WM (tMake _ _ _ _ _) _ _); first | (with_reducible refine book_at ?_))
  | ((with_reducible show WM (tMeth _ _ _ _ _ _ _) _ _); first | (refine tell_at rfl ?_))
  | (with_reducible refine ws_retN ?_)
  | ((with_reducible show WE (tVar _) _ _); first | (refine we_var rfl ?_) | (refine we_varF rfl ?_) | (refine we_varFd rfl ?_))
  | (with_reducible refine we_int ?_)
  | (with_reducible refine we_str ?_)
  | (with_reducible refine we_bl ?_)
  | (with_reducible refine we_non ?_)
  | (with_reducible refine wt_test ?_)
  | (with_reducible refine wt_B ?_)
  | (with_reducible refine wt_yes ?_)
  | (with_reducible refine wt_and ?_)
  | (with_reducible refine wt_or ?_)
  | (with_reducible refine wt_not ?_)
  | (with_reducible refine we_andV ?_)
  | (with_reducible refine we_orV ?_)
  | (with_reducible refine we_notV ?_)
  | (with_reducible refine we_if ?_)
  | (with_reducible refine we_rB0 ?_)
  | (with_reducible refine we_rI0 ?_)
  | (with_reducible refine we_rI ?_)
  | (with_reducible refine we_eq ?_)
  | (with_reducible refine we_din ?_)
  | (with_reducible refine we_dnotin ?_)
  | (with_reducible refine we_ne ?_)
  | ((with_reducible show WE (tOp _ (tVar _) (tC .non)) _ _); first | (refine we_isNM rfl ?_) | (refine we_notNM rfl ?_))
  | (with_reducible refine we_isN ?_)
  | (with_reducible refine we_notN ?_)
  | (with_reducible refine we_addS ?_)
  | (with_reducible refine we_inC ?_)
  | (with_reducible refine we_inS ?_)
  | (with_reducible refine we_lenS ?_)
  | (with_reducible refine we_all ?_)
  | (with_reducible refine we_any ?_)
  | (with_reducible refine we_join ?_)
  | (with_reducible refine we_tup ?_)
  | (with_reducible refine we_ixL ?_)
  | (with_reducible refine we_ixT ?_)
  | (with_reducible refine we_ixS ?_)
  | (with_reducible refine we_len ?_)
  | (with_reducible refine wa_nil ?_)
  | ((with_reducible show WA (tCons (tVar _) _) _ _); first | (refine wa_cons (we_var rfl ?_)) | (refine wa_slot (r := bk _ _ _ _) rfl ?_) | (refine wa_slot (r := bx _) rfl ?_) | (refine wa_slot (r := md _ _) rfl ?_) | (refine wa_cons (we_varF rfl ?_)))
  | (with_reducible refine wa_cons ?_)
  | (with_reducible refine wo_none ?_)
  | (with_reducible refine wo_some ?_)
  | (with_reducible refine wm_lst ?_)
  | (with_reducible refine wm_cat ?_)
  | (with_reducible refine wm_slL ?_)
  | (with_reducible refine wm_sortSet ?_)
  | (with_reducible refine we_isi ?_)
  | (with_reducible refine we_int1 ?_)
  | (with_reducible refine we_tupOf ?_)
  | (with_reducible refine we_slT ?_)
  | (with_reducible refine we_min ?_)
  | (with_reducible refine we_eqD ?_)
  | (with_reducible refine we_neD ?_)
  | (with_reducible refine we_ixs ?_)
  | (with_reducible refine we_neg ?_)
  | (with_reducible refine wm_list ?_)
  | (with_reducible refine wm_split ?_)
  | (with_reducible refine wm_dnew ?_)
  | (with_reducible refine take_at rfl ?_)
  | (with_reducible refine wm_call ?_)
  | (with_reducible refine wm_callX (by assumption) ?_)
  | (with_reducible refine wm_callX lets0 ?_)
  | (with_reducible refine wm_make ?_)
  | (with_reducible refine wm_lcL ?_)
  | (with_reducible refine wm_lcSq ?_)
  | (with_reducible refine wm_lcT ?_)
  | (with_reducible refine wm_lcR ?_)
  | (with_reducible refine wm_lcS ?_)
  | (with_reducible refine we_wm (te := tLst _) ?_)
  | (with_reducible refine we_wm (te := tLc _ _ _ _ _) ?_)
  | (refine take_at rfl ?_)
  | (with_reducible refine known_at ?_)
  | (with_reducible refine we_wm (te := tCall _ _ _ _) ?_)
  | (with_reducible refine we_wm (te := tCallS _ _ _) ?_)
  | (with_reducible refine ws_asg (te := tCallS _ _ _) ?_)
  | (with_reducible refine ws_asg (te := tMeth _ _ _ _ _ _ _) ?_)
  | (with_reducible refine ws_drop (te := tMeth _ _ _ _ _ _ _) ?_)
  | (with_reducible refine ws_drop (te := tCallS _ _ _) ?_)
  | (with_reducible refine we_wm (te := tSl _ _ _ _) ?_)
  | (with_reducible refine we_wm (te := tOp rCat _ _) ?_)
  | (with_reducible refine we_wm (te := tCB _ _) ?_)
  | (with_reducible refine we_wm (te := tM1 _ _ _) ?_)
  | (with_reducible refine ws_ret (te := tLst _) ?_)
  | (with_reducible refine ws_ret (te := tLc _ _ _ _ _) ?_)
  | (refine ws_retE (take_at rfl ?_))
  | (with_reducible refine ws_ret (te := tCall _ _ _ _) ?_)
  | (with_reducible refine ws_ret (te := tMake _ _ _ _ _) ?_)
  | (with_reducible refine ws_ret (te := tMeth _ _ _ _ _ _ _) ?_)
  | (with_reducible refine ws_ret (te := tSl _ _ _ _) ?_)
  | (with_reducible refine ws_ret (te := tOp rCat _ _) ?_)
  | (with_reducible refine ws_ret (wm_list ?_))
  | (with_reducible refine ws_retE ?_)
  | (with_reducible refine ws_asg (te := tLst _) ?_)
  | (with_reducible refine ws_asg (te := tLc _ _ _ _ _) ?_)
  | (refine ws_asgE (take_at rfl ?_))
  | (with_reducible refine ws_asg (te := tCall _ _ _ _) ?_)
  | (with_reducible refine ws_asg (te := tMake _ _ _ _ _) ?_)
  | (with_reducible refine ws_asg (te := tSl _ _ _ _) ?_)
  | (with_reducible refine ws_asg (te := tOp rCat _ _) ?_)
  | (with_reducible refine ws_asg (te := tDNewK) ?_)
  | (with_reducible refine ws_asg (wm_list ?_))
  | (with_reducible refine ws_asgE ?_)
  | ((with_reducible show (_ : Int) ≠ 0 ∧ _); (refine ⟨by decide, ?_⟩))
  | ((with_reducible show _ ≤ _ ∧ _); (refine ⟨(by walk_at "side"), ?_⟩))
  | ((with_reducible show _ < _ ∧ _); (refine ⟨(by walk_at "side"), ?_⟩))
  | ((with_reducible show (_ → _) ∧ (_ → _)); first | (refine ⟨fun hb => absurd hb (by walk_at "no"), fun _ => ?_⟩) | (refine ⟨fun _ => ?_, fun hb => absurd hb (by walk_at "no")⟩))
  | ((with_reducible show ∀ p : Addr, ∃ d, Frz (ml p _) d ∧ _); (intro p))
  | ((with_reducible show (slots _).Nodup ∧ _); (refine ⟨by simp [slots], ?_⟩))
  | (refine ⟨_, frz_ml, ?_⟩)
  | (refine ⟨_, frz_fz, ?_⟩)
  | (refine ⟨_, rfl, ?_⟩)
  | (with_reducible refine ⟨_, _, rfl, (by assumption), ?_⟩)
  | (with_reducible refine ⟨_, _, rfl, atI_0, ?_⟩)
  | (with_reducible refine ⟨_, _, rfl, atI_1, ?_⟩)
  | (refine ⟨_, _, rfl, rfl, ?_⟩)
  | (refine ⟨rfl, ?_⟩)
  | (refine Or.inl ⟨_, rfl, ?_⟩)
  | (refine Or.inr ⟨_, rfl, ?_⟩)
  | (refine ⟨_, Or.inl rfl, ?_⟩)
  | (refine ⟨_, Or.inr rfl, ?_⟩)
  | (dsimp only [List.set_cons_zero, List.set_cons_succ]))
local macro_rules | `(tactic| walk_at "z") => `(tactic| (repeat (walk_at "z1"; try dsimp only)))
section
variable {P : Program} {w : World} {K : PySem.W.Frag} {mg : Str → Option Value} {base : Heap}
def sp_al : Nat → FSp
  | 0 => fun _ _ => False
  | n + 1 => fun args Q => ∃ d, args = [fz d, fz d] ∧ Askable n d ∧ Q (fz (.bool true)) args
abbrev sp_law_alike : FSp := sp_al 6
theorem al_all (T : Txt K mg) : ∀ n, n ≤ 20 → FnOk P w K mg base CX0 (n + 1) T.law_alike.a T.law_alike.fd ["_law_found", "_law_due"] (spF (sp_al n))
  | 0, _ => fok T.law_alike.F sc_law_alike (fun args Q h => h.elim) (fun cdv A outer s H E hr args Q h => h.elim)
  | n + 1, hn => by
    have ih := al_all T n (by omega)
    refine fok T.law_alike.F sc_law_alike (fun args Q h => ?_) (fun cdv A outer s H E hr args Q h => ?_)
    · obtain ⟨d, rfl, _⟩ := h
      rfl
    · obtain ⟨d, rfl, ask, q⟩ := h
      refine ⟨_, (pss_cons (ps_if (pt_cmpR op_isN (pv 1) pe_non (nomark _)) (pss_one (ps_ret (pe_cmpR op_isN (pv 0) pe_non (nomark _)))) pss_nil)
      (pss_cons (ps_if (pt_val (pe_callB call_isi (by rfl) T.b_isinstance (by decide +kernel) (pa_cons (pv 1) (pa_cons (pe_bltn (v := .ty "bool") (u := .type "bool") (by rfl) T.b_bool (by decide +kernel) rfl) pa_nil)))) (pss_one (ps_ret (pe_and (pe_callB call_isi (by rfl) T.b_isinstance (by decide +kernel) (pa_cons (pv 0) (pa_cons (pe_bltn (v := .ty "bool") (u := .type "bool") (by rfl) T.b_bool (by decide +kernel) rfl) pa_nil))) (pe_one (pe_cmpR (op_eqD hr.units) (pv 0) (pv 1) (nomark _)))))) pss_nil)
      (pss_cons (ps_if (pt_val (pe_callB call_isi (by rfl) T.b_isinstance (by decide +kernel) (pa_cons (pv 1) (pa_cons (pe_bltn (v := .ty "int") (u := .type "int") (by rfl) T.b_int (by decide +kernel) rfl) pa_nil)))) (pss_one (ps_ret (pe_and (pe_callB call_isi (by rfl) T.b_isinstance (by decide +kernel) (pa_cons (pv 0) (pa_cons (pe_bltn (v := .ty "int") (u := .type "int") (by rfl) T.b_int (by decide +kernel) rfl) pa_nil))) (pe_and (pe_not (pe_callB call_isi (by rfl) T.b_isinstance (by decide +kernel) (pa_cons (pv 0) (pa_cons (pe_bltn (v := .ty "bool") (u := .type "bool") (by rfl) T.b_bool (by decide +kernel) rfl) pa_nil)))) (pe_one (pe_cmpR (op_eqD hr.units) (pv 0) (pv 1) (nomark _))))))) pss_nil)
      (pss_cons (ps_if (pt_val (pe_callB call_isi (by rfl) T.b_isinstance (by decide +kernel) (pa_cons (pv 1) (pa_cons (pe_bltn (v := .ty "str") (u := .type "str") (by rfl) T.b_str (by decide +kernel) rfl) pa_nil)))) (pss_one (ps_ret (pe_and (pe_callB call_isi (by rfl) T.b_isinstance (by decide +kernel) (pa_cons (pv 0) (pa_cons (pe_bltn (v := .ty "str") (u := .type "str") (by rfl) T.b_str (by decide +kernel) rfl) pa_nil))) (pe_one (pe_cmpR (op_eqD hr.units) (pv 0) (pv 1) (nomark _)))))) pss_nil)
      (pss_cons (ps_if (PW.pt (pw_or (pt_cmpR op_ne (pe_callB call_isi (by rfl) T.b_isinstance (by decide +kernel) (pa_cons (pv 1) (pa_cons (pe_bltn (v := .ty "tuple") (u := .type "tuple") (by rfl) T.b_tuple (by decide +kernel) rfl) pa_nil))) (pe_callB call_isi (by rfl) T.b_isinstance (by decide +kernel) (pa_cons (pv 0) (pa_cons (pe_bltn (v := .ty "tuple") (u := .type "tuple") (by rfl) T.b_tuple (by decide +kernel) rfl) pa_nil))) (nomark _)) (pw_or1 (pt_cmpR op_ne (pe_callB call_isi (by rfl) T.b_isinstance (by decide +kernel) (pa_cons (pv 1) (pa_cons (pe_bltn (v := .ty "list") (u := .type "list") (by rfl) T.b_list (by decide +kernel) rfl) pa_nil))) (pe_callB call_isi (by rfl) T.b_isinstance (by decide +kernel) (pa_cons (pv 0) (pa_cons (pe_bltn (v := .ty "list") (u := .type "list") (by rfl) T.b_list (by decide +kernel) rfl) pa_nil))) (nomark _))))) (pss_one (ps_ret pe_bl)) pss_nil)
      (pss_cons (ps_if (pt_cmpR op_ne (pe_callB call_len_seq (by rfl) T.b_len (by decide +kernel) (pa_cons (pv 0) pa_nil)) (pe_callB call_len_seq (by rfl) T.b_len (by decide +kernel) (pa_cons (pv 1) pa_nil)) (nomark _)) (pss_one (ps_ret pe_bl)) pss_nil)
      (pss_cons (ps_for PassesOwn.never rfl (pi_range1 rfl T.b_range (pa_cons (pe_callB call_len_seq (by rfl) T.b_len (by decide +kernel) (pa_cons (pv 1) pa_nil)) pa_nil)) (pg_name (i := 2) sc_law_alike.nd rfl (by first | exact Or.inl rfl | exact Or.inr rfl))
      (pss_one (ps_if (pt_not (pt_val (pe_call ih (hr.mono (Nat.le_refl _)) rfl T.law_alike.m T.law_alike.F.kp T.law_alike.b .nil pass0 (pa_cons (pe_ix ixs (pv 0) (pv 2) (fun _ _ => rfl)) (pa_cons (pe_ix ixs (pv 1) (pv 2) (fun _ _ => rfl)) pa_nil))))) (pss_one (ps_ret pe_bl)) pss_nil)))
      (pss_one (ps_ret pe_bl))))))))), ?_⟩
      show WS _ [some (fz d), some (fz d), none] _
      have sh := ask.shaped (by omega)
      have re := ask.refl
      cases d with
      | none =>
        walk_at "w"
        exact fin2 q
      | bool b =>
        walk_at "w"
        rw [re]
        exact fin2 q
      | int i =>
        walk_at "w"
        rw [re]
        exact fin2 q
      | str x =>
        walk_at "w"
        rw [re]
        exact ⟨sh, sh, fin2 q⟩
      | list xs =>
        walk_at "w"
        cases n with
        | zero =>
          have := ask.dep
          simp [PyData.depth] at this
        | succ m =>
          obtain ⟨lx, ax⟩ := ask.inL
          refine ws_forR (wa_cons (we_len (we_var (i := 1) rfl (.inl ⟨_, rfl, wa_nil ⟨(xs.length : Int), rfl, by omega, by omega, fun k e => ∃ x, e = [some (fz (.list xs)), some (fz (.list xs)), x], ⟨none, rfl⟩, fun k e hk ⟨x, ee⟩ => ?_, fun e ⟨x, ee⟩ => ?_⟩⟩))))
          · subst ee
            have hk : k < xs.length := by simpa using hk
            have at1 : atI xs (k : Int) = some xs[k] := DV.atI_nat (List.getElem?_eq_getElem hk)
            walk_at "w"
            refine ⟨_, _, rfl, at1, ?_⟩
            walk_at "w"
            refine ⟨_, _, rfl, at1, ?_⟩
            walk_at "w"
            refine ⟨ax _ (List.getElem_mem hk), ?_⟩
            walk_at "w"
            exact ⟨_, rfl⟩
          · subst ee
            walk_at "w"
            exact fin2 q
      | tuple xs =>
        walk_at "w"
        cases n with
        | zero =>
          have := ask.dep
          simp [PyData.depth] at this
        | succ m =>
          obtain ⟨lx, ax⟩ := ask.inT
          refine ws_forR (wa_cons (we_len (we_var (i := 1) rfl (.inr ⟨_, rfl, wa_nil ⟨(xs.length : Int), rfl, by omega, by omega, fun k e => ∃ x, e = [some (fz (.tuple xs)), some (fz (.tuple xs)), x], ⟨none, rfl⟩, fun k e hk ⟨x, ee⟩ => ?_, fun e ⟨x, ee⟩ => ?_⟩⟩))))
          · subst ee
            have hk : k < xs.length := by simpa using hk
            have at1 : atI xs (k : Int) = some xs[k] := DV.atI_nat (List.getElem?_eq_getElem hk)
            walk_at "w"
            refine ⟨_, _, rfl, at1, ?_⟩
            walk_at "w"
            refine ⟨_, _, rfl, at1, ?_⟩
            walk_at "w"
            refine ⟨ax _ (List.getElem_mem hk), ?_⟩
            walk_at "w"
            exact ⟨_, rfl⟩
          · subst ee
            walk_at "w"
            exact fin2 q
      | dict es => exact absurd ask.lay (by simp [PyData.canLay0])
theorem ok_law_alike (T : Txt K mg) : FnOk P w K mg base CX0 7 T.law_alike.a T.law_alike.fd ["_law_found", "_law_due"] (spF sp_law_alike) := al_all T 6 (by decide)
theorem alike_at [B : Bs] {es : Es} {EE : XK} {te tf : TE} {Q : PyData → Es → Prop} (h : WE te es fun d1 e1 => WE tf e1 fun d2 e2 => d2 = d1 ∧ Askable 5 d1 ∧ Q (.bool true) e2) : WE (tCall (spF sp_law_alike) [] EE (tCons te (tCons tf tNil))) es Q :=
  we_call (wa_cons (we_mono h fun d1 e1 h1 => wa_cons (we_mono h1 fun d2 e2 ⟨e, ak, q⟩ => wa_nil ⟨[fz d1, fz d2], rfl, by simp [slots], d1, by rw [e], ak, ⟨_, frz_fz, q⟩⟩)))
theorem ask_up {n m : Nat} {d : PyData} (a : Askable n d) (h : n ≤ m) : Askable m d := ⟨a.lay, Nat.le_trans a.dep h, a.lon⟩

end
end

section
local macro_rules | `(tactic| walk_at "no") => `(tactic| first | (with_reducible exact Bool.false_ne_true) | (with_reducible exact fun z => Bool.false_ne_true z.symm) | (simp only [decide_eq_true_eq, decide_eq_false_iff_not]; omega) | (decide +kernel) | (simp; done) | (simp; omega) | (exact Bool.false_ne_true) | (exact fun z => Bool.false_ne_true z.symm))
local macro_rules | `(tactic| walk_at "side") => `(tactic| first | omega | assumption | (refine Nat.le_trans (m := 100000) ?_ (by decide); first | omega | (simp <;> omega)) | (simp <;> omega))
local macro_rules | `(tactic| walk_at "w1") => `(tactic| first
  | (with_reducible refine ws_seq ?_)
  | (with_reducible refine ws_if ?_)
  | (with_reducible refine ws_nx ?_)
  | (with_reducible refine ws_retN ?_)
  | ((with_reducible show WE (tVar _) _ _); (refine we_var rfl ?_))
  | (with_reducible refine we_int ?_)
  | (with_reducible refine we_str ?_)
  | (with_reducible refine we_bl ?_)
  | (with_reducible refine we_non ?_)
  | (with_reducible refine wt_test ?_)
  | (with_reducible refine wt_B ?_)
  | (with_reducible refine wt_yes ?_)
  | (with_reducible refine wt_and ?_)
  | (with_reducible refine wt_or ?_)
  | (with_reducible refine wt_not ?_)
  | (with_reducible refine we_andV ?_)
  | (with_reducible refine we_orV ?_)
  | (with_reducible refine we_notV ?_)
  | (with_reducible refine we_if ?_)
  | (with_reducible refine we_rB0 ?_)
  | (with_reducible refine we_rI0 ?_)
  | (with_reducible refine we_rI ?_)
  | (with_reducible refine we_eq ?_)
  | (with_reducible refine we_din ?_)
  | (with_reducible refine we_dnotin ?_)
  | (with_reducible refine we_ne ?_)
  | (with_reducible refine we_isN ?_)
  | (with_reducible refine we_notN ?_)
  | (with_reducible refine we_addS ?_)
  | (with_reducible refine we_inC ?_)
  | (with_reducible refine we_inS ?_)
  | (with_reducible refine we_lenS ?_)
  | (with_reducible refine we_all ?_)
  | (with_reducible refine we_any ?_)
  | (with_reducible refine we_join ?_)
  | (with_reducible refine we_tup ?_)
  | (with_reducible refine we_ixL ?_)
  | (with_reducible refine we_ixT ?_)
  | (with_reducible refine we_ixS ?_)
  | (with_reducible refine we_len ?_)
  | (with_reducible refine wa_nil ?_)
  | (with_reducible refine wa_cons ?_)
  | (with_reducible refine wo_none ?_)
  | (with_reducible refine wo_some ?_)
  | (with_reducible refine wm_lst ?_)
  | (with_reducible refine wm_cat ?_)
  | (with_reducible refine wm_slL ?_)
  | (with_reducible refine wm_sortSet ?_)
  | (with_reducible refine we_isi ?_)
  | (with_reducible refine we_int1 ?_)
  | (with_reducible refine we_tupOf ?_)
  | (with_reducible refine we_slT ?_)
  | (with_reducible refine we_min ?_)
  | (with_reducible refine we_eqD ?_)
  | (with_reducible refine we_neD ?_)
  | (with_reducible refine we_ixs ?_)
  | (with_reducible refine we_neg ?_)
  | (with_reducible refine wm_list ?_)
  | (with_reducible refine wm_split ?_)
  | (with_reducible refine wm_dnew ?_)
  | (with_reducible refine take_at rfl ?_)
  | (with_reducible refine wm_call ?_)
  | (with_reducible refine wm_callX (by assumption) ?_)
  | (with_reducible refine wm_callX lets0 ?_)
  | (with_reducible refine wm_make ?_)
  | (with_reducible refine wm_lcL ?_)
  | (with_reducible refine wm_lcSq ?_)
  | (with_reducible refine wm_lcT ?_)
  | (with_reducible refine wm_lcR ?_)
  | (with_reducible refine wm_lcS ?_)
  | (with_reducible refine we_wm (te := tLst _) ?_)
  | (with_reducible refine we_wm (te := tLc _ _ _ _ _) ?_)
  | (refine take_at rfl ?_)
  | (with_reducible refine known_at ?_)
  | (with_reducible refine we_wm (te := tCall _ _ _ _) ?_)
  | (with_reducible refine we_wm (te := tCallS _ _ _) ?_)
  | (with_reducible refine we_wm (te := tSl _ _ _ _) ?_)
  | (with_reducible refine we_wm (te := tOp rCat _ _) ?_)
  | (with_reducible refine we_wm (te := tCB _ _) ?_)
  | (with_reducible refine we_wm (te := tM1 _ _ _) ?_)
  | (with_reducible refine ws_ret (te := tLst _) ?_)
  | (with_reducible refine ws_ret (te := tLc _ _ _ _ _) ?_)
  | (refine ws_retE (take_at rfl ?_))
  | (with_reducible refine ws_ret (te := tCall _ _ _ _) ?_)
  | (with_reducible refine ws_ret (te := tMake _ _ _ _ _) ?_)
  | (with_reducible refine ws_ret (te := tMeth _ _ _ _ _ _ _) ?_)
  | (with_reducible refine ws_ret (te := tSl _ _ _ _) ?_)
  | (with_reducible refine ws_ret (te := tOp rCat _ _) ?_)
  | (with_reducible refine ws_ret (wm_list ?_))
  | (with_reducible refine ws_retE ?_)
  | (with_reducible refine ws_asg (te := tLst _) ?_)
  | (with_reducible refine ws_asg (te := tLc _ _ _ _ _) ?_)
  | (refine ws_asgE (take_at rfl ?_))
  | (with_reducible refine ws_asg (te := tCall _ _ _ _) ?_)
  | (with_reducible refine ws_asg (te := tMake _ _ _ _ _) ?_)
  | (with_reducible refine ws_asg (te := tSl _ _ _ _) ?_)
  | (with_reducible refine ws_asg (te := tOp rCat _ _) ?_)
  | (with_reducible refine ws_asg (te := tDNewK) ?_)
  | (with_reducible refine ws_asg (wm_list ?_))
  | (with_reducible refine ws_asgE ?_)
  | ((with_reducible show _ ≤ _ ∧ _); (refine ⟨(by walk_at "side"), ?_⟩))
  | ((with_reducible show _ < _ ∧ _); (refine ⟨(by walk_at "side"), ?_⟩))
  | ((with_reducible show (_ → _) ∧ (_ → _)); first | (refine ⟨fun hb => absurd hb (by walk_at "no"), fun _ => ?_⟩) | (refine ⟨fun _ => ?_, fun hb => absurd hb (by walk_at "no")⟩))
  | ((with_reducible show ∀ p : Addr, ∃ d, Frz (ml p _) d ∧ _); (intro p))
  | ((with_reducible show (slots _).Nodup ∧ _); (refine ⟨by simp [slots], ?_⟩))
  | (refine ⟨_, frz_ml, ?_⟩)
  | (refine ⟨_, frz_fz, ?_⟩)
  | (refine ⟨_, rfl, ?_⟩)
  | (with_reducible refine ⟨_, _, rfl, atI_0, ?_⟩)
  | (with_reducible refine ⟨_, _, rfl, atI_1, ?_⟩)
  | (refine ⟨_, _, rfl, rfl, ?_⟩)
  | (refine ⟨rfl, ?_⟩)
  | (refine Or.inl ⟨_, rfl, ?_⟩)
  | (refine Or.inr ⟨_, rfl, ?_⟩)
  | (refine ⟨_, Or.inl rfl, ?_⟩)
  | (refine ⟨_, Or.inr rfl, ?_⟩)
  | (dsimp only [List.set_cons_zero, List.set_cons_succ]))
local macro_rules | `(tactic| walk_at "w") => `(tactic| (repeat (walk_at "w1"; try dsimp only)))
local macro_rules | `(tactic| walk_at "z1") => `(tactic| first
  | (with_reducible refine ws_seq ?_)
  | (with_reducible refine ws_if ?_)
  | (with_reducible refine ws_nx ?_)
  | ((with_reducible show WE (tCall _ _ _ _) _ _); first | (with_reducible refine walked_at ?_) | (refine take_at rfl ?_) | (with_reducible refine known_at ?_) | (refine words_at rfl ?_) | (refine row_at rfl ?_) | (refine number_at rfl ?_) | (with_reducible refine is_way_at ?_) | (with_reducible refine law_walks_at ?_) | (refine right_at rfl ?_) | (with_reducible refine we_wm (copied_at ?_)) | (with_reducible refine we_wm (grounds_at ?_)) | (refine we_wm (taken_at rfl ?_)) | (refine we_wm (rows_at rfl ?_)))
  | ((with_reducible show WM (tCall _ _ _ _) _ _); first | (refine wm_we (take_at rfl ?_)) | (refine wm_we (words_at rfl ?_)) | (refine wm_we (row_at rfl ?_)) | (refine wm_we (number_at rfl ?_)) | (with_reducible refine fired_at ?_) | (refine spoilt_at rfl ?_) | (refine wm_we (right_at rfl ?_)) | (refine begun_at rfl (by assumption) ?_) | (refine rows_at rfl ?_) | (with_reducible refine copied_at ?_) | (with_reducible refine grounds_at ?_) | (refine taken_at rfl ?_))
  | ((with_reducible show WM (tCallS _ _ _) _ _); first | (refine way_at rfl ?_))
  | ((with_reducible show WM (tMake _ _ _ _ _) _ _); first | (with_reducible refine book_at ?_))
  | ((with_reducible show WM (tMeth _ _ _ _ _ _ _) _ _); first | (refine tell_at rfl ?_))
  | (with_reducible refine ws_retN ?_)
  | ((with_reducible show WE (tVar _) _ _); first | (refine we_var rfl ?_) | (refine we_varF rfl ?_) | (refine we_varFd rfl ?_))
  | (with_reducible refine we_int ?_)
  | (with_reducible refine we_str ?_)
  | (with_reducible refine we_bl ?_)
  | (with_reducible refine we_non ?_)
  | (with_reducible refine wt_test ?_)
  | (with_reducible refine wt_B ?_)
  | (with_reducible refine wt_yes ?_)
  | (with_reducible refine wt_and ?_)
  | (with_reducible refine wt_or ?_)
  | (with_reducible refine wt_not ?_)
  | (with_reducible refine we_andV ?_)
  | (with_reducible refine we_orV ?_)
  | (with_reducible refine we_notV ?_)
  | (with_reducible refine we_if ?_)
  | (with_reducible refine we_rB0 ?_)
  | (with_reducible refine we_rI0 ?_)
  | (with_reducible refine we_rI ?_)
  | (with_reducible refine we_eq ?_)
  | (with_reducible refine we_din ?_)
  | (with_reducible refine we_dnotin ?_)
  | (with_reducible refine we_ne ?_)
  | ((with_reducible show WE (tOp _ (tVar _) (tC .non)) _ _); first | (refine we_isNM rfl ?_) | (refine we_notNM rfl ?_))
  | (with_reducible refine we_isN ?_)
  | (with_reducible refine we_notN ?_)
  | (with_reducible refine we_addS ?_)
  | (with_reducible refine we_inC ?_)
  | (with_reducible refine we_inS ?_)
  | (with_reducible refine we_lenS ?_)
  | (with_reducible refine we_all ?_)
  | (with_reducible refine we_any ?_)
  | (with_reducible refine we_join ?_)
  | (with_reducible refine we_tup ?_)
  | (with_reducible refine we_ixL ?_)
  | (with_reducible refine we_ixT ?_)
  | (with_reducible refine we_ixS ?_)
  | (with_reducible refine we_len ?_)
  | (with_reducible refine wa_nil ?_)
  | ((with_reducible show WA (tCons (tVar _) _) _ _); first | (refine wa_cons (we_var rfl ?_)) | (refine wa_slot (r := bk _ _ _ _) rfl ?_) | (refine wa_slot (r := bx _) rfl ?_) | (refine wa_slot (r := md _ _) rfl ?_) | (refine wa_cons (we_varF rfl ?_)))
  | (with_reducible refine wa_cons ?_)
  | (with_reducible refine wo_none ?_)
  | (with_reducible refine wo_some ?_)
  | (with_reducible refine wm_lst ?_)
  | (with_reducible refine wm_cat ?_)
  | (with_reducible refine wm_slL ?_)
  | (with_reducible refine wm_sortSet ?_)
  | (with_reducible refine we_isi ?_)
  | (with_reducible refine we_int1 ?_)
  | (with_reducible refine we_tupOf ?_)
  | (with_reducible refine we_slT ?_)
  | (with_reducible refine we_min ?_)
  | (with_reducible refine we_eqD ?_)
  | (with_reducible refine we_neD ?_)
  | (with_reducible refine we_ixs ?_)
  | (with_reducible refine we_neg ?_)
  | (with_reducible refine wm_list ?_)
  | (with_reducible refine wm_split ?_)
  | (with_reducible refine wm_dnew ?_)
  | (with_reducible refine take_at rfl ?_)
  | (with_reducible refine wm_call ?_)
  | (with_reducible refine wm_callX (by assumption) ?_)
  | (with_reducible refine wm_callX lets0 ?_)
  | (with_reducible refine wm_make ?_)
  | (with_reducible refine wm_lcL ?_)
  | (with_reducible refine wm_lcSq ?_)
  | (with_reducible refine wm_lcT ?_)
  | (with_reducible refine wm_lcR ?_)
  | (with_reducible refine wm_lcS ?_)
  | (with_reducible refine we_wm (te := tLst _) ?_)
  | (with_reducible refine we_wm (te := tLc _ _ _ _ _) ?_)
  | (refine take_at rfl ?_)
  | (with_reducible refine known_at ?_)
  | (with_reducible refine we_wm (te := tCall _ _ _ _) ?_)
  | (with_reducible refine we_wm (te := tCallS _ _ _) ?_)
  | (with_reducible refine ws_asg (te := tCallS _ _ _) ?_)
  | (with_reducible refine ws_asg (te := tMeth _ _ _ _ _ _ _) ?_)
  | (with_reducible refine ws_drop (te := tMeth _ _ _ _ _ _ _) ?_)
  | (with_reducible refine ws_drop (te := tCallS _ _ _) ?_)
  | (with_reducible refine we_wm (te := tSl _ _ _ _) ?_)
  | (with_reducible refine we_wm (te := tOp rCat _ _) ?_)
  | (with_reducible refine we_wm (te := tCB _ _) ?_)
  | (with_reducible refine we_wm (te := tM1 _ _ _) ?_)
  | (with_reducible refine ws_ret (te := tLst _) ?_)
  | (with_reducible refine ws_ret (te := tLc _ _ _ _ _) ?_)
  | (refine ws_retE (take_at rfl ?_))
  | (with_reducible refine ws_ret (te := tCall _ _ _ _) ?_)
  | (with_reducible refine ws_ret (te := tMake _ _ _ _ _) ?_)
  | (with_reducible refine ws_ret (te := tMeth _ _ _ _ _ _ _) ?_)
  | (with_reducible refine ws_ret (te := tSl _ _ _ _) ?_)
  | (with_reducible refine ws_ret (te := tOp rCat _ _) ?_)
  | (with_reducible refine ws_ret (wm_list ?_))
  | (with_reducible refine ws_retE ?_)
  | (with_reducible refine ws_asg (te := tLst _) ?_)
  | (with_reducible refine ws_asg (te := tLc _ _ _ _ _) ?_)
  | (refine ws_asgE (take_at rfl ?_))
  | (with_reducible refine ws_asg (te := tCall _ _ _ _) ?_)
  | (with_reducible refine ws_asg (te := tMake _ _ _ _ _) ?_)
  | (with_reducible refine ws_asg (te := tSl _ _ _ _) ?_)
  | (with_reducible refine ws_asg (te := tOp rCat _ _) ?_)
  | (with_reducible refine ws_asg (te := tDNewK) ?_)
  | (with_reducible refine ws_asg (wm_list ?_))
  | (with_reducible refine ws_asgE ?_)
  | ((with_reducible show (_ : Int) ≠ 0 ∧ _); (refine ⟨by decide, ?_⟩))
  | ((with_reducible show _ ≤ _ ∧ _); (refine ⟨(by walk_at "side"), ?_⟩))
  | ((with_reducible show _ < _ ∧ _); (refine ⟨(by walk_at "side"), ?_⟩))
  | ((with_reducible show (_ → _) ∧ (_ → _)); first | (refine ⟨fun hb => absurd hb (by walk_at "no"), fun _ => ?_⟩) | (refine ⟨fun _ => ?_, fun hb => absurd hb (by walk_at "no")⟩))
  | ((with_reducible show ∀ p : Addr, ∃ d, Frz (ml p _) d ∧ _); (intro p))
  | ((with_reducible show (slots _).Nodup ∧ _); (refine ⟨by simp [slots], ?_⟩))
  | (refine ⟨_, frz_ml, ?_⟩)
  | (refine ⟨_, frz_fz, ?_⟩)
  | (refine ⟨_, rfl, ?_⟩)
  | (with_reducible refine ⟨_, _, rfl, (by assumption), ?_⟩)
  | (with_reducible refine ⟨_, _, rfl, atI_0, ?_⟩)
  | (with_reducible refine ⟨_, _, rfl, atI_1, ?_⟩)
  | (refine ⟨_, _, rfl, rfl, ?_⟩)
  | (refine ⟨rfl, ?_⟩)
  | (refine Or.inl ⟨_, rfl, ?_⟩)
  | (refine Or.inr ⟨_, rfl, ?_⟩)
  | (refine ⟨_, Or.inl rfl, ?_⟩)
  | (refine ⟨_, Or.inr rfl, ?_⟩)
  | (dsimp only [List.set_cons_zero, List.set_cons_succ]))
local macro_rules | `(tactic| walk_at "z") => `(tactic| (repeat (walk_at "z1"; try dsimp only)))
section
variable {P : Program} {w : World} {K : PySem.W.Frag} {mg : Str → Option Value} {base : Heap}
def sp_law_words : FSp := fun args Q => ∃ p, args = [bx p] ∧ ∀ q ws, Words ws → Q (ml q (ws.map .str)) args
theorem ok_law_words (T : Txt K mg) : FnOk P w K mg base CX0 2 T.law_words.a T.law_words.fd ["_law_box"] (spF sp_law_words) := by
  refine fok T.law_words.F sc_law_words (fun args Q h => ?_) (fun cdv A outer s H E hr args Q h => ?_)
  · obtain ⟨p, rfl, _⟩ := h
    rfl
  · obtain ⟨p, rfl, q⟩ := h
    refine ⟨_, (pss_cons (ps_set (i := 1) sc_law_words.nd rfl (by first | exact Or.inl rfl | exact Or.inr rfl) pe_str)
      (pss_cons (ps_set (i := 2) sc_law_words.nd rfl (by first | exact Or.inl rfl | exact Or.inr rfl) (pe_lc (own := [("_law_place", 5)]) (g := gName 5) (tt := tYes) rfl sc_law_words.nd (pi_range1 rfl T.b_range (pa_cons pe_int pa_nil)) (blkOk_by (own := [("_law_place", 5)]) (N := N_law_words) (sc := defScope s_law_words) (by decide +kernel)) (fun _ _ _ _ _ => pg_name (i := 5) sc_law_words.nd rfl (Or.inl rfl)) (fun _ _ _ _ _ => pts_nil) (fun _ _ _ _ _ => (pe_ix ix_str (pv 1) (pe_call (ok_law_take T) (hr.mono (by decide)) rfl T.law_take.m T.law_take.F.kp T.law_take.b .nil pass0 (pa_cons (pv 0) (pa_cons pe_int pa_nil))) (fun _ _ => rfl)))))
      (pss_cons (ps_set (i := 3) sc_law_words.nd rfl (by first | exact Or.inl rfl | exact Or.inr rfl) (pe_call (ok_law_take T) (hr.mono (by decide)) rfl T.law_take.m T.law_take.F.kp T.law_take.b .nil pass0 (pa_cons (pv 0) (pa_cons pe_int pa_nil))))
      (pss_cons (ps_set (i := 4) sc_law_words.nd rfl (by first | exact Or.inl rfl | exact Or.inr rfl) (pe_call (ok_law_take T) (hr.mono (by decide)) rfl T.law_take.m T.law_take.F.kp T.law_take.b .nil pass0 (pa_cons (pv 0) (pa_cons pe_int pa_nil))))
      (pss_cons (ps_if (pt_cmpR op_eq (pv 4) pe_int (nomark _)) (pss_cons (ps_set (i := 5) sc_law_words.nd rfl (by first | exact Or.inl rfl | exact Or.inr rfl) (pe_call (ok_law_take T) (hr.mono (by decide)) rfl T.law_take.m T.law_take.F.kp T.law_take.b .nil pass0 (pa_cons (pv 0) (pa_cons pe_int pa_nil))))
      (pss_cons (ps_set (i := 6) sc_law_words.nd rfl (by first | exact Or.inl rfl | exact Or.inr rfl) (pe_op op_add (pe_op op_add (pv 5) pe_int) (pe_call (ok_law_take T) (hr.mono (by decide)) rfl T.law_take.m T.law_take.F.kp T.law_take.b .nil pass0 (pa_cons (pv 0) (pa_cons (pe_op op_sub pe_int (pv 5)) pa_nil)))))
      (pss_cons (ps_set (i := 7) sc_law_words.nd rfl (by first | exact Or.inl rfl | exact Or.inr rfl) (pe_ix ix_list (pe_lst (pa_cons pe_int (pa_cons pe_int (pa_cons pe_int (pa_cons pe_int pa_nil))))) (pe_call (ok_law_take T) (hr.mono (by decide)) rfl T.law_take.m T.law_take.F.kp T.law_take.b .nil pass0 (pa_cons (pv 0) (pa_cons pe_int pa_nil))) (fun _ _ => rfl)))
      (pss_cons (ps_setLc (i := 8) (own := [("_law_k", 10)]) (g := gName 10) (tt := tYes) rfl sc_law_words.nd rfl (by show List.lookup _ (defScope s_law_words).names = _; decide +kernel) (sw_true rfl (by show List.lookup _ (defScope s_law_words).names = _; decide +kernel) rfl (by decide +kernel)) (pi_range1 rfl T.b_range (pa_cons pe_int pa_nil)) (blkOk_by (own := [("_law_k", 10)]) (N := N_law_words) (sc := defScope s_law_words) (by decide +kernel)) (fun _ _ _ _ _ => pg_name (i := 10) sc_law_words.nd rfl (Or.inl rfl)) (fun _ _ _ _ _ => pts_nil) (fun _ _ _ _ _ => (pe_ix ix_str (pv 1) (pe_op op_modN (pe_op op_add (pv 3) (pe_op op_mul (pv 7) (pv 10))) pe_int) (fun _ _ => rfl))))
      (pss_one (ps_ret (pe_lc (own := [("_law_letter", 13)]) (g := gName 13) (tt := tYes) rfl sc_law_words.nd (pi_list (pv 8)) (blkOk_by (own := [("_law_letter", 13)]) (N := N_law_words) (sc := defScope s_law_words) (by decide +kernel)) (fun _ _ _ _ _ => pg_name (i := 13) sc_law_words.nd rfl (Or.inl rfl)) (fun _ _ _ _ _ => pts_nil) (fun _ _ _ _ _ => (show PE _ _ (tM1 (joinR K) _ _) from (pe_join pe_str (pe_op op_cat (pe_op op_cat (pe_slice (show SlR _ (rSlL K) from sl_list) (pv 2) po_none (po_some (pv 5))) (pe_lst (pa_cons (pv 13) pa_nil))) (pe_slice (show SlR _ (rSlL K) from sl_list) (pv 2) (po_some (pe_op op_add (pv 5) pe_int)) (po_some (pv 6)))))))))))))) pss_nil)
      (pss_cons (ps_if (pt_cmpR op_eq (pv 4) pe_int (nomark _)) (pss_one (ps_ret (pe_lc (own := [("_law_k", 10)]) (g := gName 10) (tt := tYes) rfl sc_law_words.nd (pi_range1 rfl T.b_range (pa_cons pe_int pa_nil)) (blkOk_by (own := [("_law_k", 10)]) (N := N_law_words) (sc := defScope s_law_words) (by decide +kernel)) (fun _ _ _ _ _ => pg_name (i := 10) sc_law_words.nd rfl (Or.inl rfl)) (fun _ _ _ _ _ => pts_nil) (fun _ _ _ _ _ => (pe_op op_add_str (pe_ix ix_str (pv 1) (pe_op op_modN (pe_op op_add (pv 3) (pe_op op_fdivN (pv 10) pe_int)) pe_int) (fun _ _ => rfl)) (show PE _ _ (tM1 (joinR K) _ _) from (pe_join pe_str (pe_slice (show SlR _ (rSlL K) from sl_list) (pv 2) (po_some pe_int) (po_some (pe_op op_add pe_int (pe_op op_modN (pv 10) pe_int))))))))))) pss_nil)
      (pss_cons (ps_set (i := 9) sc_law_words.nd rfl (by first | exact Or.inl rfl | exact Or.inr rfl) (pe_lst pa_nil))
      (pss_cons (ps_for PassesOwn.never rfl (pi_range1 rfl T.b_range (pa_cons pe_int pa_nil)) (pg_name (i := 10) sc_law_words.nd rfl (by first | exact Or.inl rfl | exact Or.inr rfl))
      (pss_cons (ps_set (i := 11) sc_law_words.nd rfl (by first | exact Or.inl rfl | exact Or.inr rfl) pe_str)
      (pss_cons (ps_set (i := 12) sc_law_words.nd rfl (by first | exact Or.inl rfl | exact Or.inr rfl) (pe_op op_add (pv 10) pe_int))
      (pss_cons (ps_while PassesOwn.never (pt_cmpR op_gt (pv 12) pe_int (nomark _)) (pss_cons (ps_set (i := 11) sc_law_words.nd rfl (by first | exact Or.inl rfl | exact Or.inr rfl) (pe_op op_add_str (pe_ix ix_str (pv 1) (pe_op op_modN (pe_op op_add (pv 3) (pe_op op_modN (pv 12) pe_int)) pe_int) (fun _ _ => rfl)) (pv 11)))
      (pss_one (ps_set (i := 12) sc_law_words.nd rfl (by first | exact Or.inl rfl | exact Or.inr rfl) (pe_op op_fdivN (pv 12) pe_int)))))
      (pss_one (ps_expr (pe_bm PySem.F.plainAttrs_list PySem.F.slot_list_append PySem.F.type_list_append mt_append (pv 9) (pa_cons (pv 11) pa_nil))))))))
      (pss_one (ps_ret (pv 9))))))))))), ?_⟩
    show WS _ [some (bx _), none, none, none, none, none, none, none, none, none, none, none, none, none] _
    refine ws_seq (ws_asgE (we_str ?_))
    walk_at "w"
    refine lcI_all (fun y => ∃ i, i < 26 ∧ y = .str (let1 i)) (by decide) rfl (by decide) rfl (fun x hx => ?_) fun b acc la pa => ws_frz (i := 2) rfl frz_ml ?_
    · walk_at "w"
      refine fun r hr => ⟨_, 97 + r, rfl, by show lettersS.length ≤ sizeLine; rw [letters_len]; decide, ?_, ⟨r, by omega, rfl⟩, rfl⟩
      have := letters_atI (i := (r : Int)) (by omega) hr
      exact this
    obtain ⟨bs, rfl, hb⟩ := lets_of pa
    have lb : bs.length = 6 := by simpa [upto] using la
    walk_at "w"
    intro f hf
    walk_at "w"
    intro so hso
    show WS _ [some (bx p), some (fz (.str lettersS)), some (fz (.list ((bs.map let1).map .str))), some (fz (.int f)), some (fz (.int so)), none, none, none, none, none, none, none, none, none] _
    walk_at "w"
    by_cases h0 : so = 0
    · subst h0
      refine ⟨fun _ => ?_, fun hb => absurd hb (by decide)⟩
      walk_at "w"
      intro pl hpl
      walk_at "w"
      intro e he
      walk_at "w"
      intro g hg
      obtain ⟨st, hst, hs⟩ : ∃ st : Nat, atI [PyData.int 1, .int 3, .int 5, .int 7] (g : Int) = some (.int (st : Int)) ∧ (st = 1 ∨ st = 3 ∨ st = 5 ∨ st = 7) := by
        have : g = 0 ∨ g = 1 ∨ g = 2 ∨ g = 3 := by omega
        rcases this with h | h | h | h <;> subst h
        · exact ⟨1, rfl, .inl rfl⟩
        · exact ⟨3, rfl, .inr (.inl rfl)⟩
        · exact ⟨5, rfl, .inr (.inr (.inl rfl))⟩
        · exact ⟨7, rfl, .inr (.inr (.inr rfl))⟩
      refine ⟨_, _, rfl, hst, ?_⟩
      walk_at "w"
      refine lcI_mapA (xs := List.range 14) (fun k => .int (k : Int)) (fun k => .str (let1 ((f + st * k) % 26))) (by decide) rfl (by decide) rfl (fun k hk => ?_) fun b2 => ws_frz (i := 8) rfl frz_ml ?_
      · walk_at "w"
        refine ⟨.inl ⟨by omega, by omega⟩, ?_⟩
        walk_at "w"
        refine ⟨by decide, letter_goal (f + st * k) (by push_cast; rfl) ⟨rfl, rfl⟩⟩
      walk_at "w"
      refine lcI_mapA (xs := List.range 14) (fun k => .str (let1 ((f + st * k) % 26))) (fun k => .str (wA bs pl (pl + 1 + e) f st k)) (by decide) rfl (by decide) rfl (fun k hk => ?_) fun b3 => ?_
      · walk_at "w"
        rw [cut_take, strs_take]
        refine ⟨by simp; omega, fun p1 => ⟨_, frz_ml, _, rfl, ?_⟩⟩
        walk_at "w"
        have c1 : DV.cutD (List.map PyData.str (List.map let1 bs)) (some ((pl : Int) + 1)) (some ((pl : Int) + 1 + (e : Int))) = (((bs.take (pl + 1 + e)).drop (pl + 1)).map let1).map .str := by
          have := cut_mid (List.map PyData.str (List.map let1 bs)) (pl + 1) (pl + 1 + e)
          rw [strs_take, strs_drop] at this
          exact this
        rw [c1]
        refine ⟨by simp; omega, fun p2 => ⟨_, frz_ml, ?_⟩⟩
        refine join_goal (X := fun s => PyData.str s = .str (wA bs pl (pl + 1 + e) f st k) ∧ _) (bs.take pl ++ [(f + st * k) % 26] ++ (bs.take (pl + 1 + e)).drop (pl + 1)) ?_ (by simp; omega) ⟨rfl, rfl⟩
        simp only [List.map_append]
        rfl
      have z := q b3 _ (words_A (f := f) (sz := pl + 1 + e) lb hb (show pl < 6 by omega) (by omega) (by omega) hs)
      rw [List.map_map] at z
      exact finS pin_bx z
    refine ⟨fun hb => absurd hb (by simp; omega), fun _ => ?_⟩
    walk_at "w"
    by_cases h1 : so = 1
    · subst h1
      refine ⟨fun _ => ?_, fun hb => absurd hb (by decide)⟩
      walk_at "w"
      refine lcI_mapA (xs := List.range 14) (fun k => .int (k : Int)) (fun k => .str (wB bs f k)) (by decide) rfl (by decide) rfl (fun k hk => ?_) fun b3 => ?_
      · walk_at "w"
        refine ⟨⟨by decide, by decide⟩, ?_⟩
        have e6 : Int.fdiv (k : Int) 6 = ((k / 6 : Nat) : Int) := by
          rw [Int.fdiv_eq_ediv_of_nonneg _ (by decide)]
          omega
        rw [e6]
        walk_at "w"
        refine ⟨by decide, letter_goal (f + k / 6) (by push_cast; rfl) ?_⟩
        walk_at "w"
        have m6 : Int.fmod (k : Int) 6 = ((k % 6 : Nat) : Int) := by
          rw [Int.fmod_eq_emod_of_nonneg _ (by decide)]
          omega
        rw [m6]
        refine ⟨by decide, _, rfl, _, rfl, fun p1 => ⟨_, frz_ml, ?_⟩⟩
        have c1 : DV.cutD (List.map PyData.str (List.map let1 bs)) (some 1) (some (1 + ((k % 6 : Nat) : Int))) = (((bs.take (1 + k % 6)).drop 1).map let1).map .str := by
          have := cut_mid (List.map PyData.str (List.map let1 bs)) 1 (1 + k % 6)
          rw [strs_take, strs_drop] at this
          exact this
        rw [c1]
        have sz : ((bs.take (1 + k % 6)).drop 1).length ≤ 6 := by simp; omega
        refine ⟨_, rfl, ?_, _, rfl, ?_, ?_, rfl⟩
        · rw [join_let_sum, empty_len]
          omega
        · rw [join_let, wordL_len]
          exact Nat.le_trans (m := 1 + 6) (Nat.add_le_add_left sz 1) (by decide)
        · rw [join_let]
          exact congrArg PyData.str (wordL_app [(f + k / 6) % 26] _)
      have z := q b3 _ (words_B (f := f) lb hb)
      rw [List.map_map] at z
      exact finS pin_bx z
    refine ⟨fun hb => absurd hb (by simp; omega), fun _ => ?_⟩
    walk_at "w"
    intro wp
    refine ws_seq (ws_forR (wa_cons (we_int (wa_nil ⟨14, rfl, by decide, by decide, fun j e => ∃ x y z, e = [some (bx p), some (fz (.str lettersS)), some (fz (.list ((bs.map let1).map .str))), some (fz (.int f)), some (fz (.int so)), none, none, none, none, some (ml wp (((List.range j).map (wC f)).map .str)), x, y, z, none], ⟨none, none, none, rfl⟩, fun j e hj ⟨x, y, z, ee⟩ => ?_, fun e ⟨x, y, z, ee⟩ => ?_⟩))))
    · subst ee
      have hj : j < 14 := hj
      walk_at "w"
      refine ws_while (fun m e => ∃ t wl, e = [some (bx p), some (fz (.str lettersS)), some (fz (.list ((bs.map let1).map .str))), some (fz (.int f)), some (fz (.int so)), none, none, none, none, some (ml wp (((List.range j).map (wC f)).map .str)), some (fz (.int j)), some (fz (.str (wordL wl))), some (fz (.int m)), none] ∧ m < 2 ^ (t + 1) ∧ bitsL f t m ++ wl = bitsL f 5 (j + 2)) (m0 := j + 2) ⟨5, [], rfl, by show j + 2 < 64; omega, by simp⟩ fun m e ⟨t, wl, ee, hm, hw⟩ => ?_
      subst ee
      have lw : wl.length ≤ 6 := by
        have := (bits_ok f (by omega) j hj).2.1
        rw [← hw, List.length_append] at this
        omega
      walk_at "w"
      by_cases h1 : 1 < m
      · refine ⟨fun _ => ?_, fun hb => absurd (of_decide_eq_false hb) (by omega)⟩
        cases t with
        | zero => exact absurd hm (by simp; omega)
        | succ t =>
          rw [bits_step h1, List.append_assoc] at hw
          walk_at "w"
          refine ⟨by decide, ?_⟩
          have m2 : Int.fmod (m : Int) 2 = ((m % 2 : Nat) : Int) := by
            rw [Int.fmod_eq_emod_of_nonneg _ (by decide)]
            omega
          have d2 : Int.fdiv (m : Int) 2 = ((m / 2 : Nat) : Int) := by
            rw [Int.fdiv_eq_ediv_of_nonneg _ (by decide)]
            omega
          rw [m2]
          walk_at "w"
          refine ⟨by decide, letter_goal (f + m % 2) (by push_cast; rfl) ?_⟩
          walk_at "w"
          refine ⟨Nat.le_trans (m := 1 + 6) (Nat.add_le_add_left (by rw [wordL_len]; exact lw) 1) (by decide), ?_⟩
          walk_at "w"
          refine ⟨⟨by decide, by decide⟩, ?_⟩
          rw [d2]
          exact ⟨m / 2, by omega, t, (f + m % 2) % 26 :: wl, by rw [← show (⟨#[97 + (f + m % 2) % 26]⟩ : Str) ++ wordL wl = wordL ((f + m % 2) % 26 :: wl) from wordL_app [(f + m % 2) % 26] wl], by rw [Nat.pow_succ] at hm; omega, hw⟩
      · refine ⟨fun hb => absurd (of_decide_eq_true hb) (by omega), fun _ => ?_⟩
        rw [bits_end (by omega), List.nil_append] at hw
        refine ws_append (i := 9) rfl (we_var (i := 11) rfl ⟨rfl, by simp; omega, ?_⟩)
        refine ⟨some (fz (.int j)), some (fz (.str (wordL wl))), some (fz (.int m)), ?_⟩
        rw [hw, List.range_succ, List.map_append, List.map_append]
        rfl
    · subst ee
      exact ws_ret (wm_move (i := 9) rfl (finS pin_bx (q wp _ (words_C (by omega)))))
theorem words_at [B : Bs] {i : Nat} {p : Addr} {es : Es} {EE : XK} {Q : PyData → Es → Prop} (hi : es[i]? = some (some (bx p))) (h : ∀ ws : List Str, Words ws → Q (strsD ws) es) : WE (tCall (spF sp_law_words) [] EE (tCons (tVar i) tNil)) es Q := by
  refine we_call (wa_slot hi (wa_nil ⟨[bx p], by simp [lend, hi], by simp [slots], p, rfl, fun q1 ws hws => ⟨_, frz_ml, ?_⟩⟩))
  have : back es [.s i] [bx p] = es := set_self hi
  rw [this]
  exact h ws hws

end
end

section
local macro_rules | `(tactic| walk_at "no") => `(tactic| first | (with_reducible exact Bool.false_ne_true) | (with_reducible exact fun z => Bool.false_ne_true z.symm) | (simp only [decide_eq_true_eq, decide_eq_false_iff_not]; omega) | (decide +kernel) | (simp; done) | (simp; omega) | (exact Bool.false_ne_true) | (exact fun z => Bool.false_ne_true z.symm))
local macro_rules | `(tactic| walk_at "side") => `(tactic| first | omega | assumption | (refine Nat.le_trans (m := 100000) ?_ (by decide); first | omega | (simp <;> omega)) | (simp <;> omega))
local macro_rules | `(tactic| walk_at "w1") => `(tactic| first
  | (with_reducible refine ws_seq ?_)
  | (with_reducible refine ws_if ?_)
  | (with_reducible refine ws_nx ?_)
  | (with_reducible refine ws_retN ?_)
  | ((with_reducible show WE (tVar _) _ _); (refine we_var rfl ?_))
  | (with_reducible refine we_int ?_)
  | (with_reducible refine we_str ?_)
  | (with_reducible refine we_bl ?_)
  | (with_reducible refine we_non ?_)
  | (with_reducible refine wt_test ?_)
  | (with_reducible refine wt_B ?_)
  | (with_reducible refine wt_yes ?_)
  | (with_reducible refine wt_and ?_)
  | (with_reducible refine wt_or ?_)
  | (with_reducible refine wt_not ?_)
  | (with_reducible refine we_andV ?_)
  | (with_reducible refine we_orV ?_)
  | (with_reducible refine we_notV ?_)
  | (with_reducible refine we_if ?_)
  | (with_reducible refine we_rB0 ?_)
  | (with_reducible refine we_rI0 ?_)
  | (with_reducible refine we_rI ?_)
  | (with_reducible refine we_eq ?_)
  | (with_reducible refine we_din ?_)
  | (with_reducible refine we_dnotin ?_)
  | (with_reducible refine we_ne ?_)
  | (with_reducible refine we_isN ?_)
  | (with_reducible refine we_notN ?_)
  | (with_reducible refine we_addS ?_)
  | (with_reducible refine we_inC ?_)
  | (with_reducible refine we_inS ?_)
  | (with_reducible refine we_lenS ?_)
  | (with_reducible refine we_all ?_)
  | (with_reducible refine we_any ?_)
  | (with_reducible refine we_join ?_)
  | (with_reducible refine we_tup ?_)
  | (with_reducible refine we_ixL ?_)
  | (with_reducible refine we_ixT ?_)
  | (with_reducible refine we_ixS ?_)
  | (with_reducible refine we_len ?_)
  | (with_reducible refine wa_nil ?_)
  | (with_reducible refine wa_cons ?_)
  | (with_reducible refine wo_none ?_)
  | (with_reducible refine wo_some ?_)
  | (with_reducible refine wm_lst ?_)
  | (with_reducible refine wm_cat ?_)
  | (with_reducible refine wm_slL ?_)
  | (with_reducible refine wm_sortSet ?_)
  | (with_reducible refine we_isi ?_)
  | (with_reducible refine we_int1 ?_)
  | (with_reducible refine we_tupOf ?_)
  | (with_reducible refine we_slT ?_)
  | (with_reducible refine we_min ?_)
  | (with_reducible refine we_eqD ?_)
  | (with_reducible refine we_neD ?_)
  | (with_reducible refine we_ixs ?_)
  | (with_reducible refine we_neg ?_)
  | (with_reducible refine wm_list ?_)
  | (with_reducible refine wm_split ?_)
  | (with_reducible refine wm_dnew ?_)
  | (with_reducible refine take_at rfl ?_)
  | (with_reducible refine wm_call ?_)
  | (with_reducible refine wm_callX (by assumption) ?_)
  | (with_reducible refine wm_callX lets0 ?_)
  | (with_reducible refine wm_make ?_)
  | (with_reducible refine wm_lcL ?_)
  | (with_reducible refine wm_lcSq ?_)
  | (with_reducible refine wm_lcT ?_)
  | (with_reducible refine wm_lcR ?_)
  | (with_reducible refine wm_lcS ?_)
  | (with_reducible refine we_wm (te := tLst _) ?_)
  | (with_reducible refine we_wm (te := tLc _ _ _ _ _) ?_)
  | (refine take_at rfl ?_)
  | (with_reducible refine known_at ?_)
  | (with_reducible refine we_wm (te := tCall _ _ _ _) ?_)
  | (with_reducible refine we_wm (te := tCallS _ _ _) ?_)
  | (with_reducible refine we_wm (te := tSl _ _ _ _) ?_)
  | (with_reducible refine we_wm (te := tOp rCat _ _) ?_)
  | (with_reducible refine we_wm (te := tCB _ _) ?_)
  | (with_reducible refine we_wm (te := tM1 _ _ _) ?_)
  | (with_reducible refine ws_ret (te := tLst _) ?_)
  | (with_reducible refine ws_ret (te := tLc _ _ _ _ _) ?_)
  | (refine ws_retE (take_at rfl ?_))
  | (with_reducible refine ws_ret (te := tCall _ _ _ _) ?_)
  | (with_reducible refine ws_ret (te := tMake _ _ _ _ _) ?_)
  | (with_reducible refine ws_ret (te := tMeth _ _ _ _ _ _ _) ?_)
  | (with_reducible refine ws_ret (te := tSl _ _ _ _) ?_)
  | (with_reducible refine ws_ret (te := tOp rCat _ _) ?_)
  | (with_reducible refine ws_ret (wm_list ?_))
  | (with_reducible refine ws_retE ?_)
  | (with_reducible refine ws_asg (te := tLst _) ?_)
  | (with_reducible refine ws_asg (te := tLc _ _ _ _ _) ?_)
  | (refine ws_asgE (take_at rfl ?_))
  | (with_reducible refine ws_asg (te := tCall _ _ _ _) ?_)
  | (with_reducible refine ws_asg (te := tMake _ _ _ _ _) ?_)
  | (with_reducible refine ws_asg (te := tSl _ _ _ _) ?_)
  | (with_reducible refine ws_asg (te := tOp rCat _ _) ?_)
  | (with_reducible refine ws_asg (te := tDNewK) ?_)
  | (with_reducible refine ws_asg (wm_list ?_))
  | (with_reducible refine ws_asgE ?_)
  | ((with_reducible show _ ≤ _ ∧ _); (refine ⟨(by walk_at "side"), ?_⟩))
  | ((with_reducible show _ < _ ∧ _); (refine ⟨(by walk_at "side"), ?_⟩))
  | ((with_reducible show (_ → _) ∧ (_ → _)); first | (refine ⟨fun hb => absurd hb (by walk_at "no"), fun _ => ?_⟩) | (refine ⟨fun _ => ?_, fun hb => absurd hb (by walk_at "no")⟩))
  | ((with_reducible show ∀ p : Addr, ∃ d, Frz (ml p _) d ∧ _); (intro p))
  | ((with_reducible show (slots _).Nodup ∧ _); (refine ⟨by simp [slots], ?_⟩))
  | (refine ⟨_, frz_ml, ?_⟩)
  | (refine ⟨_, frz_fz, ?_⟩)
  | (refine ⟨_, rfl, ?_⟩)
  | (with_reducible refine ⟨_, _, rfl, atI_0, ?_⟩)
  | (with_reducible refine ⟨_, _, rfl, atI_1, ?_⟩)
  | (refine ⟨_, _, rfl, rfl, ?_⟩)
  | (refine ⟨rfl, ?_⟩)
  | (refine Or.inl ⟨_, rfl, ?_⟩)
  | (refine Or.inr ⟨_, rfl, ?_⟩)
  | (refine ⟨_, Or.inl rfl, ?_⟩)
  | (refine ⟨_, Or.inr rfl, ?_⟩)
  | (dsimp only [List.set_cons_zero, List.set_cons_succ]))
local macro_rules | `(tactic| walk_at "w") => `(tactic| (repeat (walk_at "w1"; try dsimp only)))
local macro_rules | `(tactic| walk_at "z1") => `(tactic| first
  | (with_reducible refine ws_seq ?_)
  | (with_reducible refine ws_if ?_)
  | (with_reducible refine ws_nx ?_)
  | ((with_reducible show WE (tCall _ _ _ _) _ _); first | (with_reducible refine walked_at ?_) | (refine take_at rfl ?_) | (with_reducible refine known_at ?_) | (refine words_at rfl ?_) | (refine row_at rfl ?_) | (refine number_at rfl ?_) | (with_reducible refine is_way_at ?_) | (with_reducible refine law_walks_at ?_) | (refine right_at rfl ?_) | (with_reducible refine we_wm (copied_at ?_)) | (with_reducible refine we_wm (grounds_at ?_)) | (refine we_wm (taken_at rfl ?_)) | (refine we_wm (rows_at rfl ?_)))
  | ((with_reducible show WM (tCall _ _ _ _) _ _); first | (refine wm_we (take_at rfl ?_)) | (refine wm_we (words_at rfl ?_)) | (refine wm_we (row_at rfl ?_)) | (refine wm_we (number_at rfl ?_)) | (with_reducible refine fired_at ?_) | (refine spoilt_at rfl ?_) | (refine wm_we (right_at rfl ?_)) | (refine begun_at rfl (by assumption) ?_) | (refine rows_at rfl ?_) | (with_reducible refine copied_at ?_) | (with_reducible refine grounds_at ?_) | (refine taken_at rfl ?_))
  | ((with_reducible show WM (tCallS _ _ _) _ _); first | (refine way_at rfl ?_))
  | ((with_reducible show WM (tMake _ _ _ _ _) _ _); first | (with_reducible refine book_at ?_))
  | ((with_reducible show WM (tMeth _ _ _ _ _ _ _) _ _); first | (refine tell_at rfl ?_))
  | (with_reducible refine ws_retN ?_)
  | ((with_reducible show WE (tVar _) _ _); first | (refine we_var rfl ?_) | (refine we_varF rfl ?_) | (refine we_varFd rfl ?_))
  | (with_reducible refine we_int ?_)
  | (with_reducible refine we_str ?_)
  | (with_reducible refine we_bl ?_)
  | (with_reducible refine we_non ?_)
  | (with_reducible refine wt_test ?_)
  | (with_reducible refine wt_B ?_)
  | (with_reducible refine wt_yes ?_)
  | (with_reducible refine wt_and ?_)
  | (with_reducible refine wt_or ?_)
  | (with_reducible refine wt_not ?_)
  | (with_reducible refine we_andV ?_)
  | (with_reducible refine we_orV ?_)
  | (with_reducible refine we_notV ?_)
  | (with_reducible refine we_if ?_)
  | (with_reducible refine we_rB0 ?_)
  | (with_reducible refine we_rI0 ?_)
  | (with_reducible refine we_rI ?_)
  | (with_reducible refine we_eq ?_)
  | (with_reducible refine we_din ?_)
  | (with_reducible refine we_dnotin ?_)
  | (with_reducible refine we_ne ?_)
  | ((with_reducible show WE (tOp _ (tVar _) (tC .non)) _ _); first | (refine we_isNM rfl ?_) | (refine we_notNM rfl ?_))
  | (with_reducible refine we_isN ?_)
  | (with_reducible refine we_notN ?_)
  | (with_reducible refine we_addS ?_)
  | (with_reducible refine we_inC ?_)
  | (with_reducible refine we_inS ?_)
  | (with_reducible refine we_lenS ?_)
  | (with_reducible refine we_all ?_)
  | (with_reducible refine we_any ?_)
  | (with_reducible refine we_join ?_)
  | (with_reducible refine we_tup ?_)
  | (with_reducible refine we_ixL ?_)
  | (with_reducible refine we_ixT ?_)
  | (with_reducible refine we_ixS ?_)
  | (with_reducible refine we_len ?_)
  | (with_reducible refine wa_nil ?_)
  | ((with_reducible show WA (tCons (tVar _) _) _ _); first | (refine wa_cons (we_var rfl ?_)) | (refine wa_slot (r := bk _ _ _ _) rfl ?_) | (refine wa_slot (r := bx _) rfl ?_) | (refine wa_slot (r := md _ _) rfl ?_) | (refine wa_cons (we_varF rfl ?_)))
  | (with_reducible refine wa_cons ?_)
  | (with_reducible refine wo_none ?_)
  | (with_reducible refine wo_some ?_)
  | (with_reducible refine wm_lst ?_)
  | (with_reducible refine wm_cat ?_)
  | (with_reducible refine wm_slL ?_)
  | (with_reducible refine wm_sortSet ?_)
  | (with_reducible refine we_isi ?_)
  | (with_reducible refine we_int1 ?_)
  | (with_reducible refine we_tupOf ?_)
  | (with_reducible refine we_slT ?_)
  | (with_reducible refine we_min ?_)
  | (with_reducible refine we_eqD ?_)
  | (with_reducible refine we_neD ?_)
  | (with_reducible refine we_ixs ?_)
  | (with_reducible refine we_neg ?_)
  | (with_reducible refine wm_list ?_)
  | (with_reducible refine wm_split ?_)
  | (with_reducible refine wm_dnew ?_)
  | (with_reducible refine take_at rfl ?_)
  | (with_reducible refine wm_call ?_)
  | (with_reducible refine wm_callX (by assumption) ?_)
  | (with_reducible refine wm_callX lets0 ?_)
  | (with_reducible refine wm_make ?_)
  | (with_reducible refine wm_lcL ?_)
  | (with_reducible refine wm_lcSq ?_)
  | (with_reducible refine wm_lcT ?_)
  | (with_reducible refine wm_lcR ?_)
  | (with_reducible refine wm_lcS ?_)
  | (with_reducible refine we_wm (te := tLst _) ?_)
  | (with_reducible refine we_wm (te := tLc _ _ _ _ _) ?_)
  | (refine take_at rfl ?_)
  | (with_reducible refine known_at ?_)
  | (with_reducible refine we_wm (te := tCall _ _ _ _) ?_)
  | (with_reducible refine we_wm (te := tCallS _ _ _) ?_)
  | (with_reducible refine ws_asg (te := tCallS _ _ _) ?_)
  | (with_reducible refine ws_asg (te := tMeth _ _ _ _ _ _ _) ?_)
  | (with_reducible refine ws_drop (te := tMeth _ _ _ _ _ _ _) ?_)
  | (with_reducible refine ws_drop (te := tCallS _ _ _) ?_)
  | (with_reducible refine we_wm (te := tSl _ _ _ _) ?_)
  | (with_reducible refine we_wm (te := tOp rCat _ _) ?_)
  | (with_reducible refine we_wm (te := tCB _ _) ?_)
  | (with_reducible refine we_wm (te := tM1 _ _ _) ?_)
  | (with_reducible refine ws_ret (te := tLst _) ?_)
  | (with_reducible refine ws_ret (te := tLc _ _ _ _ _) ?_)
  | (refine ws_retE (take_at rfl ?_))
  | (with_reducible refine ws_ret (te := tCall _ _ _ _) ?_)
  | (with_reducible refine ws_ret (te := tMake _ _ _ _ _) ?_)
  | (with_reducible refine ws_ret (te := tMeth _ _ _ _ _ _ _) ?_)
  | (with_reducible refine ws_ret (te := tSl _ _ _ _) ?_)
  | (with_reducible refine ws_ret (te := tOp rCat _ _) ?_)
  | (with_reducible refine ws_ret (wm_list ?_))
  | (with_reducible refine ws_retE ?_)
  | (with_reducible refine ws_asg (te := tLst _) ?_)
  | (with_reducible refine ws_asg (te := tLc _ _ _ _ _) ?_)
  | (refine ws_asgE (take_at rfl ?_))
  | (with_reducible refine ws_asg (te := tCall _ _ _ _) ?_)
  | (with_reducible refine ws_asg (te := tMake _ _ _ _ _) ?_)
  | (with_reducible refine ws_asg (te := tSl _ _ _ _) ?_)
  | (with_reducible refine ws_asg (te := tOp rCat _ _) ?_)
  | (with_reducible refine ws_asg (te := tDNewK) ?_)
  | (with_reducible refine ws_asg (wm_list ?_))
  | (with_reducible refine ws_asgE ?_)
  | ((with_reducible show (_ : Int) ≠ 0 ∧ _); (refine ⟨by decide, ?_⟩))
  | ((with_reducible show _ ≤ _ ∧ _); (refine ⟨(by walk_at "side"), ?_⟩))
  | ((with_reducible show _ < _ ∧ _); (refine ⟨(by walk_at "side"), ?_⟩))
  | ((with_reducible show (_ → _) ∧ (_ → _)); first | (refine ⟨fun hb => absurd hb (by walk_at "no"), fun _ => ?_⟩) | (refine ⟨fun _ => ?_, fun hb => absurd hb (by walk_at "no")⟩))
  | ((with_reducible show ∀ p : Addr, ∃ d, Frz (ml p _) d ∧ _); (intro p))
  | ((with_reducible show (slots _).Nodup ∧ _); (refine ⟨by simp [slots], ?_⟩))
  | (refine ⟨_, frz_ml, ?_⟩)
  | (refine ⟨_, frz_fz, ?_⟩)
  | (refine ⟨_, rfl, ?_⟩)
  | (with_reducible refine ⟨_, _, rfl, (by assumption), ?_⟩)
  | (with_reducible refine ⟨_, _, rfl, atI_0, ?_⟩)
  | (with_reducible refine ⟨_, _, rfl, atI_1, ?_⟩)
  | (refine ⟨_, _, rfl, rfl, ?_⟩)
  | (refine ⟨rfl, ?_⟩)
  | (refine Or.inl ⟨_, rfl, ?_⟩)
  | (refine Or.inr ⟨_, rfl, ?_⟩)
  | (refine ⟨_, Or.inl rfl, ?_⟩)
  | (refine ⟨_, Or.inr rfl, ?_⟩)
  | (dsimp only [List.set_cons_zero, List.set_cons_succ]))
local macro_rules | `(tactic| walk_at "z") => `(tactic| (repeat (walk_at "z1"; try dsimp only)))
section
variable {P : Program} {w : World} {K : PySem.W.Frag} {mg : Str → Option Value} {base : Heap}
def sp_law_body : FSp := fun args Q => ∃ p, ∃ ws : List Str, ∃ sz : List Int, args = [bx p, fz (.list (ws.map .str)), fz (.list (sz.map .int))] ∧ 0 < ws.length ∧ ws.length ≤ 1000 ∧ 0 < sz.length ∧ sz.length ≤ 1000 ∧ (∀ s ∈ sz, 0 ≤ s ∧ s ≤ 5) ∧
  ∀ q (b : List Str), b.length ≤ 5 → (∀ w ∈ b, w ∈ ws) → Q (ml q (b.map .str)) args
theorem ok_law_body (T : Txt K mg) : FnOk P w K mg base CX0 2 T.law_body.a T.law_body.fd ["_law_box", "_law_words_here", "_law_sizes"] (spF sp_law_body) := by
  refine fok T.law_body.F sc_law_body (fun args Q h => ?_) (fun cdv A outer s H E hr args Q h => ?_)
  · obtain ⟨p, ws, sz, rfl, _⟩ := h
    rfl
  · obtain ⟨p, ws, sz, rfl, w0, w1, z0, z1, hs, q⟩ := h
    refine ⟨_, (pss_cons (ps_set (i := 3) sc_law_body.nd rfl (by first | exact Or.inl rfl | exact Or.inr rfl) (pe_ix ix_list (pv 2) (pe_call (ok_law_take T) (hr.mono (by decide)) rfl T.law_take.m T.law_take.F.kp T.law_take.b .nil pass0 (pa_cons (pv 0) (pa_cons (pe_callB call_len_seq (by rfl) T.b_len (by decide +kernel) (pa_cons (pv 2) pa_nil)) pa_nil))) (fun _ _ => rfl)))
      (pss_cons (ps_if (pt_cmpR op_eq (pe_call (ok_law_take T) (hr.mono (by decide)) rfl T.law_take.m T.law_take.F.kp T.law_take.b .nil pass0 (pa_cons (pv 0) (pa_cons pe_int pa_nil))) pe_int (nomark _)) (pss_one (ps_set (i := 3) sc_law_body.nd rfl (by first | exact Or.inl rfl | exact Or.inr rfl) pe_int)) pss_nil)
      (pss_one (ps_ret (pe_lc (own := [("_law_place", 4)]) (g := gName 4) (tt := tYes) rfl sc_law_body.nd (pi_range1 rfl T.b_range (pa_cons (pv 3) pa_nil)) (blkOk_by (own := [("_law_place", 4)]) (N := N_law_body) (sc := defScope s_law_body) (by decide +kernel)) (fun _ _ _ _ _ => pg_name (i := 4) sc_law_body.nd rfl (Or.inl rfl)) (fun _ _ _ _ _ => pts_nil) (fun _ _ _ _ _ => (pe_ix (show IxR _ (rIxL K) from ix_list) (pv 1) (pe_call (ok_law_take T) (hr.mono (by decide)) rfl T.law_take.m T.law_take.F.kp T.law_take.b .nil pass0 (pa_cons (pv 0) (pa_cons (pe_callB (show CallR _ _ (lenR K) from call_len_seq) (by rfl) T.b_len (by decide +kernel) (pa_cons (pv 1) pa_nil)) pa_nil))) (fun _ _ => rfl)))))))), ?_⟩
    show WS _ [some (bx p), some (fz _), some (fz _), none, none] _
    walk_at "w"
    intro r hr
    have hr' : r < sz.length := by simpa using hr
    refine ⟨_, _, rfl, atI_nat (x := .int sz[r]) (by simp [hr']), ?_⟩
    obtain ⟨n, hn⟩ := nat_of (hs _ (List.getElem_mem hr')).1
    have h5 := (hs _ (List.getElem_mem hr')).2
    rw [hn] at h5 ⊢
    walk_at "w"
    intro g hg
    walk_at "w"
    have last : ∀ (m : Nat) (X : Own → Es → Prop), m ≤ 5 → (∀ (q : Addr) (b : List Str), b.length ≤ 5 → (∀ w ∈ b, w ∈ ws) → X (ml q (b.map .str)) [some (bx p), some (fz (.list (ws.map .str))), some (fz (.list (sz.map .int))), some (fz (.int (m : Int))), none]) →
        LcI tYes (tOp (rIxL K) (tVar 1) (tCall (spF sp_law_take) [] E0 (tCons (tVar 0) (tCons (tCB (lenR K) (tCons (tVar 1) tNil)) tNil)))) 4 [4] (upto m)
        [some (bx p), some (fz (.list (ws.map .str))), some (fz (.list (sz.map .int))), some (fz (.int (m : Int))), none] X := fun m X hm hX => by
      refine lcI_all (fun y => ∃ w, y = .str w ∧ w ∈ ws) (by decide) rfl (by simp [upto]; omega) rfl (fun x hx => ?_) fun b acc la pa => ?_
      · refine we_ixL (we_var (i := 1) rfl ⟨_, rfl, take_at (i := 0) rfl (wa_cons (we_len (we_var (i := 1) rfl (.inl ⟨_, rfl, wa_nil ⟨_, rfl, rfl, by simp; omega, by simp; omega, fun r hr => ?_⟩⟩))))⟩)
        have hr' : r < ws.length := by simpa using hr
        exact ⟨_, _, rfl, atI_nat (x := .str ws[r]) (by simp [hr']), ⟨_, rfl, List.getElem_mem hr'⟩, rfl⟩
      · obtain ⟨ws', rfl, hw⟩ := strs_ofP pa
        exact hX b ws' (by simp [upto] at la; omega) hw
    refine ⟨fun _ => ?_, fun _ => ws_nx ?_⟩
    · walk_at "w"
      exact last 0 _ (by omega) fun b acc la pa => finS2 pin_bx (q b acc la pa)
    · walk_at "w"
      exact last n _ (by omega) fun b acc la pa => finS2 pin_bx (q b acc la pa)

end
end

section
local macro_rules | `(tactic| walk_at "no") => `(tactic| first | (with_reducible exact Bool.false_ne_true) | (with_reducible exact fun z => Bool.false_ne_true z.symm) | (simp only [decide_eq_true_eq, decide_eq_false_iff_not]; omega) | (decide +kernel) | (simp; done) | (simp; omega) | (exact Bool.false_ne_true) | (exact fun z => Bool.false_ne_true z.symm))
local macro_rules | `(tactic| walk_at "side") => `(tactic| first | omega | assumption | (refine Nat.le_trans (m := 100000) ?_ (by decide); first | omega | (simp <;> omega)) | (simp <;> omega))
local macro_rules | `(tactic| walk_at "w1") => `(tactic| first
  | (with_reducible refine ws_seq ?_)
  | (with_reducible refine ws_if ?_)
  | (with_reducible refine ws_nx ?_)
  | (with_reducible refine ws_retN ?_)
  | ((with_reducible show WE (tVar _) _ _); (refine we_var rfl ?_))
  | (with_reducible refine we_int ?_)
  | (with_reducible refine we_str ?_)
  | (with_reducible refine we_bl ?_)
  | (with_reducible refine we_non ?_)
  | (with_reducible refine wt_test ?_)
  | (with_reducible refine wt_B ?_)
  | (with_reducible refine wt_yes ?_)
  | (with_reducible refine wt_and ?_)
  | (with_reducible refine wt_or ?_)
  | (with_reducible refine wt_not ?_)
  | (with_reducible refine we_andV ?_)
  | (with_reducible refine we_orV ?_)
  | (with_reducible refine we_notV ?_)
  | (with_reducible refine we_if ?_)
  | (with_reducible refine we_rB0 ?_)
  | (with_reducible refine we_rI0 ?_)
  | (with_reducible refine we_rI ?_)
  | (with_reducible refine we_eq ?_)
  | (with_reducible refine we_din ?_)
  | (with_reducible refine we_dnotin ?_)
  | (with_reducible refine we_ne ?_)
  | (with_reducible refine we_isN ?_)
  | (with_reducible refine we_notN ?_)
  | (with_reducible refine we_addS ?_)
  | (with_reducible refine we_inC ?_)
  | (with_reducible refine we_inS ?_)
  | (with_reducible refine we_lenS ?_)
  | (with_reducible refine we_all ?_)
  | (with_reducible refine we_any ?_)
  | (with_reducible refine we_join ?_)
  | (with_reducible refine we_tup ?_)
  | (with_reducible refine we_ixL ?_)
  | (with_reducible refine we_ixT ?_)
  | (with_reducible refine we_ixS ?_)
  | (with_reducible refine we_len ?_)
  | (with_reducible refine wa_nil ?_)
  | (with_reducible refine wa_cons ?_)
  | (with_reducible refine wo_none ?_)
  | (with_reducible refine wo_some ?_)
  | (with_reducible refine wm_lst ?_)
  | (with_reducible refine wm_cat ?_)
  | (with_reducible refine wm_slL ?_)
  | (with_reducible refine wm_sortSet ?_)
  | (with_reducible refine we_isi ?_)
  | (with_reducible refine we_int1 ?_)
  | (with_reducible refine we_tupOf ?_)
  | (with_reducible refine we_slT ?_)
  | (with_reducible refine we_min ?_)
  | (with_reducible refine we_eqD ?_)
  | (with_reducible refine we_neD ?_)
  | (with_reducible refine we_ixs ?_)
  | (with_reducible refine we_neg ?_)
  | (with_reducible refine wm_list ?_)
  | (with_reducible refine wm_split ?_)
  | (with_reducible refine wm_dnew ?_)
  | (with_reducible refine take_at rfl ?_)
  | (with_reducible refine wm_call ?_)
  | (with_reducible refine wm_callX (by assumption) ?_)
  | (with_reducible refine wm_callX lets0 ?_)
  | (with_reducible refine wm_make ?_)
  | (with_reducible refine wm_lcL ?_)
  | (with_reducible refine wm_lcSq ?_)
  | (with_reducible refine wm_lcT ?_)
  | (with_reducible refine wm_lcR ?_)
  | (with_reducible refine wm_lcS ?_)
  | (with_reducible refine we_wm (te := tLst _) ?_)
  | (with_reducible refine we_wm (te := tLc _ _ _ _ _) ?_)
  | (refine take_at rfl ?_)
  | (with_reducible refine known_at ?_)
  | (with_reducible refine we_wm (te := tCall _ _ _ _) ?_)
  | (with_reducible refine we_wm (te := tCallS _ _ _) ?_)
  | (with_reducible refine we_wm (te := tSl _ _ _ _) ?_)
  | (with_reducible refine we_wm (te := tOp rCat _ _) ?_)
  | (with_reducible refine we_wm (te := tCB _ _) ?_)
  | (with_reducible refine we_wm (te := tM1 _ _ _) ?_)
  | (with_reducible refine ws_ret (te := tLst _) ?_)
  | (with_reducible refine ws_ret (te := tLc _ _ _ _ _) ?_)
  | (refine ws_retE (take_at rfl ?_))
  | (with_reducible refine ws_ret (te := tCall _ _ _ _) ?_)
  | (with_reducible refine ws_ret (te := tMake _ _ _ _ _) ?_)
  | (with_reducible refine ws_ret (te := tMeth _ _ _ _ _ _ _) ?_)
  | (with_reducible refine ws_ret (te := tSl _ _ _ _) ?_)
  | (with_reducible refine ws_ret (te := tOp rCat _ _) ?_)
  | (with_reducible refine ws_ret (wm_list ?_))
  | (with_reducible refine ws_retE ?_)
  | (with_reducible refine ws_asg (te := tLst _) ?_)
  | (with_reducible refine ws_asg (te := tLc _ _ _ _ _) ?_)
  | (refine ws_asgE (take_at rfl ?_))
  | (with_reducible refine ws_asg (te := tCall _ _ _ _) ?_)
  | (with_reducible refine ws_asg (te := tMake _ _ _ _ _) ?_)
  | (with_reducible refine ws_asg (te := tSl _ _ _ _) ?_)
  | (with_reducible refine ws_asg (te := tOp rCat _ _) ?_)
  | (with_reducible refine ws_asg (te := tDNewK) ?_)
  | (with_reducible refine ws_asg (wm_list ?_))
  | (with_reducible refine ws_asgE ?_)
  | ((with_reducible show _ ≤ _ ∧ _); (refine ⟨(by walk_at "side"), ?_⟩))
  | ((with_reducible show _ < _ ∧ _); (refine ⟨(by walk_at "side"), ?_⟩))
  | ((with_reducible show (_ → _) ∧ (_ → _)); first | (refine ⟨fun hb => absurd hb (by walk_at "no"), fun _ => ?_⟩) | (refine ⟨fun _ => ?_, fun hb => absurd hb (by walk_at "no")⟩))
  | ((with_reducible show ∀ p : Addr, ∃ d, Frz (ml p _) d ∧ _); (intro p))
  | ((with_reducible show (slots _).Nodup ∧ _); (refine ⟨by simp [slots], ?_⟩))
  | (refine ⟨_, frz_ml, ?_⟩)
  | (refine ⟨_, frz_fz, ?_⟩)
  | (refine ⟨_, rfl, ?_⟩)
  | (with_reducible refine ⟨_, _, rfl, atI_0, ?_⟩)
  | (with_reducible refine ⟨_, _, rfl, atI_1, ?_⟩)
  | (refine ⟨_, _, rfl, rfl, ?_⟩)
  | (refine ⟨rfl, ?_⟩)
  | (refine Or.inl ⟨_, rfl, ?_⟩)
  | (refine Or.inr ⟨_, rfl, ?_⟩)
  | (refine ⟨_, Or.inl rfl, ?_⟩)
  | (refine ⟨_, Or.inr rfl, ?_⟩)
  | (dsimp only [List.set_cons_zero, List.set_cons_succ]))
local macro_rules | `(tactic| walk_at "w") => `(tactic| (repeat (walk_at "w1"; try dsimp only)))
local macro_rules | `(tactic| walk_at "z1") => `(tactic| first
  | (with_reducible refine ws_seq ?_)
  | (with_reducible refine ws_if ?_)
  | (with_reducible refine ws_nx ?_)
  | ((with_reducible show WE (tCall _ _ _ _) _ _); first | (with_reducible refine walked_at ?_) | (refine take_at rfl ?_) | (with_reducible refine known_at ?_) | (refine words_at rfl ?_) | (refine row_at rfl ?_) | (refine number_at rfl ?_) | (with_reducible refine is_way_at ?_) | (with_reducible refine law_walks_at ?_) | (refine right_at rfl ?_) | (with_reducible refine we_wm (copied_at ?_)) | (with_reducible refine we_wm (grounds_at ?_)) | (refine we_wm (taken_at rfl ?_)) | (refine we_wm (rows_at rfl ?_)))
  | ((with_reducible show WM (tCall _ _ _ _) _ _); first | (refine wm_we (take_at rfl ?_)) | (refine wm_we (words_at rfl ?_)) | (refine wm_we (row_at rfl ?_)) | (refine wm_we (number_at rfl ?_)) | (with_reducible refine fired_at ?_) | (refine spoilt_at rfl ?_) | (refine wm_we (right_at rfl ?_)) | (refine begun_at rfl (by assumption) ?_) | (refine rows_at rfl ?_) | (with_reducible refine copied_at ?_) | (with_reducible refine grounds_at ?_) | (refine taken_at rfl ?_))
  | ((with_reducible show WM (tCallS _ _ _) _ _); first | (refine way_at rfl ?_))
  | ((with_reducible show WM (tMake _ _ _ _ _) _ _); first | (with_reducible refine book_at ?_))
  | ((with_reducible show WM (tMeth _ _ _ _ _ _ _) _ _); first | (refine tell_at rfl ?_))
  | (with_reducible refine ws_retN ?_)
  | ((with_reducible show WE (tVar _) _ _); first | (refine we_var rfl ?_) | (refine we_varF rfl ?_) | (refine we_varFd rfl ?_))
  | (with_reducible refine we_int ?_)
  | (with_reducible refine we_str ?_)
  | (with_reducible refine we_bl ?_)
  | (with_reducible refine we_non ?_)
  | (with_reducible refine wt_test ?_)
  | (with_reducible refine wt_B ?_)
  | (with_reducible refine wt_yes ?_)
  | (with_reducible refine wt_and ?_)
  | (with_reducible refine wt_or ?_)
  | (with_reducible refine wt_not ?_)
  | (with_reducible refine we_andV ?_)
  | (with_reducible refine we_orV ?_)
  | (with_reducible refine we_notV ?_)
  | (with_reducible refine we_if ?_)
  | (with_reducible refine we_rB0 ?_)
  | (with_reducible refine we_rI0 ?_)
  | (with_reducible refine we_rI ?_)
  | (with_reducible refine we_eq ?_)
  | (with_reducible refine we_din ?_)
  | (with_reducible refine we_dnotin ?_)
  | (with_reducible refine we_ne ?_)
  | ((with_reducible show WE (tOp _ (tVar _) (tC .non)) _ _); first | (refine we_isNM rfl ?_) | (refine we_notNM rfl ?_))
  | (with_reducible refine we_isN ?_)
  | (with_reducible refine we_notN ?_)
  | (with_reducible refine we_addS ?_)
  | (with_reducible refine we_inC ?_)
  | (with_reducible refine we_inS ?_)
  | (with_reducible refine we_lenS ?_)
  | (with_reducible refine we_all ?_)
  | (with_reducible refine we_any ?_)
  | (with_reducible refine we_join ?_)
  | (with_reducible refine we_tup ?_)
  | (with_reducible refine we_ixL ?_)
  | (with_reducible refine we_ixT ?_)
  | (with_reducible refine we_ixS ?_)
  | (with_reducible refine we_len ?_)
  | (with_reducible refine wa_nil ?_)
  | ((with_reducible show WA (tCons (tVar _) _) _ _); first | (refine wa_cons (we_var rfl ?_)) | (refine wa_slot (r := bk _ _ _ _) rfl ?_) | (refine wa_slot (r := bx _) rfl ?_) | (refine wa_slot (r := md _ _) rfl ?_) | (refine wa_cons (we_varF rfl ?_)))
  | (with_reducible refine wa_cons ?_)
  | (with_reducible refine wo_none ?_)
  | (with_reducible refine wo_some ?_)
  | (with_reducible refine wm_lst ?_)
  | (with_reducible refine wm_cat ?_)
  | (with_reducible refine wm_slL ?_)
  | (with_reducible refine wm_sortSet ?_)
  | (with_reducible refine we_isi ?_)
  | (with_reducible refine we_int1 ?_)
  | (with_reducible refine we_tupOf ?_)
  | (with_reducible refine we_slT ?_)
  | (with_reducible refine we_min ?_)
  | (with_reducible refine we_eqD ?_)
  | (with_reducible refine we_neD ?_)
  | (with_reducible refine we_ixs ?_)
  | (with_reducible refine we_neg ?_)
  | (with_reducible refine wm_list ?_)
  | (with_reducible refine wm_split ?_)
  | (with_reducible refine wm_dnew ?_)
  | (with_reducible refine take_at rfl ?_)
  | (with_reducible refine wm_call ?_)
  | (with_reducible refine wm_callX (by assumption) ?_)
  | (with_reducible refine wm_callX lets0 ?_)
  | (with_reducible refine wm_make ?_)
  | (with_reducible refine wm_lcL ?_)
  | (with_reducible refine wm_lcSq ?_)
  | (with_reducible refine wm_lcT ?_)
  | (with_reducible refine wm_lcR ?_)
  | (with_reducible refine wm_lcS ?_)
  | (with_reducible refine we_wm (te := tLst _) ?_)
  | (with_reducible refine we_wm (te := tLc _ _ _ _ _) ?_)
  | (refine take_at rfl ?_)
  | (with_reducible refine known_at ?_)
  | (with_reducible refine we_wm (te := tCall _ _ _ _) ?_)
  | (with_reducible refine we_wm (te := tCallS _ _ _) ?_)
  | (with_reducible refine ws_asg (te := tCallS _ _ _) ?_)
  | (with_reducible refine ws_asg (te := tMeth _ _ _ _ _ _ _) ?_)
  | (with_reducible refine ws_drop (te := tMeth _ _ _ _ _ _ _) ?_)
  | (with_reducible refine ws_drop (te := tCallS _ _ _) ?_)
  | (with_reducible refine we_wm (te := tSl _ _ _ _) ?_)
  | (with_reducible refine we_wm (te := tOp rCat _ _) ?_)
  | (with_reducible refine we_wm (te := tCB _ _) ?_)
  | (with_reducible refine we_wm (te := tM1 _ _ _) ?_)
  | (with_reducible refine ws_ret (te := tLst _) ?_)
  | (with_reducible refine ws_ret (te := tLc _ _ _ _ _) ?_)
  | (refine ws_retE (take_at rfl ?_))
  | (with_reducible refine ws_ret (te := tCall _ _ _ _) ?_)
  | (with_reducible refine ws_ret (te := tMake _ _ _ _ _) ?_)
  | (with_reducible refine ws_ret (te := tMeth _ _ _ _ _ _ _) ?_)
  | (with_reducible refine ws_ret (te := tSl _ _ _ _) ?_)
  | (with_reducible refine ws_ret (te := tOp rCat _ _) ?_)
  | (with_reducible refine ws_ret (wm_list ?_))
  | (with_reducible refine ws_retE ?_)
  | (with_reducible refine ws_asg (te := tLst _) ?_)
  | (with_reducible refine ws_asg (te := tLc _ _ _ _ _) ?_)
  | (refine ws_asgE (take_at rfl ?_))
  | (with_reducible refine ws_asg (te := tCall _ _ _ _) ?_)
  | (with_reducible refine ws_asg (te := tMake _ _ _ _ _) ?_)
  | (with_reducible refine ws_asg (te := tSl _ _ _ _) ?_)
  | (with_reducible refine ws_asg (te := tOp rCat _ _) ?_)
  | (with_reducible refine ws_asg (te := tDNewK) ?_)
  | (with_reducible refine ws_asg (wm_list ?_))
  | (with_reducible refine ws_asgE ?_)
  | ((with_reducible show (_ : Int) ≠ 0 ∧ _); (refine ⟨by decide, ?_⟩))
  | ((with_reducible show _ ≤ _ ∧ _); (refine ⟨(by walk_at "side"), ?_⟩))
  | ((with_reducible show _ < _ ∧ _); (refine ⟨(by walk_at "side"), ?_⟩))
  | ((with_reducible show (_ → _) ∧ (_ → _)); first | (refine ⟨fun hb => absurd hb (by walk_at "no"), fun _ => ?_⟩) | (refine ⟨fun _ => ?_, fun hb => absurd hb (by walk_at "no")⟩))
  | ((with_reducible show ∀ p : Addr, ∃ d, Frz (ml p _) d ∧ _); (intro p))
  | ((with_reducible show (slots _).Nodup ∧ _); (refine ⟨by simp [slots], ?_⟩))
  | (refine ⟨_, frz_ml, ?_⟩)
  | (refine ⟨_, frz_fz, ?_⟩)
  | (refine ⟨_, rfl, ?_⟩)
  | (with_reducible refine ⟨_, _, rfl, (by assumption), ?_⟩)
  | (with_reducible refine ⟨_, _, rfl, atI_0, ?_⟩)
  | (with_reducible refine ⟨_, _, rfl, atI_1, ?_⟩)
  | (refine ⟨_, _, rfl, rfl, ?_⟩)
  | (refine ⟨rfl, ?_⟩)
  | (refine Or.inl ⟨_, rfl, ?_⟩)
  | (refine Or.inr ⟨_, rfl, ?_⟩)
  | (refine ⟨_, Or.inl rfl, ?_⟩)
  | (refine ⟨_, Or.inr rfl, ?_⟩)
  | (dsimp only [List.set_cons_zero, List.set_cons_succ]))
local macro_rules | `(tactic| walk_at "z") => `(tactic| (repeat (walk_at "z1"; try dsimp only)))
section
variable {P : Program} {w : World} {K : PySem.W.Frag} {mg : Str → Option Value} {base : Heap}
def sp_law_row : FSp := fun args Q => ∃ p, ∃ ws : List Str, ∃ many : Nat, args = [bx p, fz (.list (ws.map .str)), fz (.int (many : Int))] ∧ 0 < ws.length ∧ ws.length ≤ 1000 ∧ many ≤ ws.length ∧
  ∀ r : DV.Row, InW ws r → (rBody r).length ≤ 5 → InG (ws.take many) r → Q (fz (rowD r)) args
theorem body_at [B : Bs] {i : Nat} {p : Addr} {es : Es} {ta : TA} {EE : XK} {Q : PyData → Es → Prop} (hi : es[i]? = some (some (bx p))) (h : WA ta es fun as e => ∃ ws : List Str, ∃ sz : List Int, as = [.d (.list (ws.map .str)), .d (.list (sz.map .int))] ∧ e = es ∧ 0 < ws.length ∧ ws.length ≤ 1000 ∧ 0 < sz.length ∧ sz.length ≤ 1000 ∧ (∀ s ∈ sz, 0 ≤ s ∧ s ≤ 5) ∧
    ∀ b : List Str, b.length ≤ 5 → (∀ w ∈ b, w ∈ ws) → Q (.list (b.map .str)) es) :
    WE (tCall (spF sp_law_body) [] EE (tCons (tVar i) ta)) es Q := by
  refine we_call (wa_slot hi fun σ G H Rs K hs k => h σ G H Rs K hs fun vs as G' H' Rs' es' s r st ⟨ws, sz, ea, ee, w0, w1, z0, z1, hz, q⟩ => k vs as G' H' Rs' es' s r st ?_)
  subst ea ee
  refine ⟨[bx p, fz (.list (ws.map .str)), fz (.list (sz.map .int))], ?_, by simp [slots], p, ws, sz, rfl, w0, w1, z0, z1, hz, fun a b lb hb => ⟨_, frz_ml, ?_⟩⟩
  · simp [lend, hi]
  · have : back es' [.s i, .d (.list (ws.map .str)), .d (.list (sz.map .int))] [bx p, fz (.list (ws.map .str)), fz (.list (sz.map .int))] = es' := set_self hi
    rw [this]
    exact q b lb hb
theorem ok_law_row (T : Txt K mg) : FnOk P w K mg base CX0 3 T.law_row.a T.law_row.fd ["_law_box", "_law_words_here", "_law_many"] (spF sp_law_row) := by
  refine fok T.law_row.F sc_law_row (fun args Q h => ?_) (fun cdv A outer s H E hr args Q h => ?_)
  · obtain ⟨p, ws, m, rfl, _⟩ := h
    rfl
  · obtain ⟨p, ws, m, rfl, w0, w1, hm, q⟩ := h
    refine ⟨_, (pss_cons (ps_set (i := 3) sc_law_row.nd rfl (by first | exact Or.inl rfl | exact Or.inr rfl) (pe_call (ok_law_take T) (hr.mono (by decide)) rfl T.law_take.m T.law_take.F.kp T.law_take.b .nil pass0 (pa_cons (pv 0) (pa_cons pe_int pa_nil))))
      (pss_cons (ps_if (pt_cmpR op_eq (pv 3) pe_int (nomark _)) (pss_one (ps_ret (pe_tup (pa_cons pe_str (pa_cons (pe_call (ok_law_body T) (hr.mono (by decide)) rfl T.law_body.m T.law_body.F.kp T.law_body.b .nil pass0 (pa_cons (pv 0) (pa_cons (pv 1) (pa_cons (pe_lst (pa_cons pe_int (pa_cons pe_int (pa_cons pe_int (pa_cons pe_int (pa_cons pe_int (pa_cons pe_int (pa_cons pe_int (pa_cons pe_int pa_nil))))))))) pa_nil)))) pa_nil))))) pss_nil)
      (pss_cons (ps_if (PW.pt (pw_and (pt_cmpR op_eq (pv 3) pe_int (nomark _)) (pw_and1 (pt_cmpR op_gt (pv 2) pe_int (nomark _))))) (pss_one (ps_ret (pe_tup (pa_cons pe_str (pa_cons (pe_ix ix_list (pv 1) (pe_call (ok_law_take T) (hr.mono (by decide)) rfl T.law_take.m T.law_take.F.kp T.law_take.b .nil pass0 (pa_cons (pv 0) (pa_cons (pv 2) pa_nil))) (fun _ _ => rfl)) pa_nil))))) pss_nil)
      (pss_one (ps_ret (pe_tup (pa_cons pe_str (pa_cons (pe_ix ix_list (pv 1) (pe_call (ok_law_take T) (hr.mono (by decide)) rfl T.law_take.m T.law_take.F.kp T.law_take.b .nil pass0 (pa_cons (pv 0) (pa_cons (pe_callB call_len_seq (by rfl) T.b_len (by decide +kernel) (pa_cons (pv 1) pa_nil)) pa_nil))) (fun _ _ => rfl)) (pa_cons (pe_call (ok_law_body T) (hr.mono (by decide)) rfl T.law_body.m T.law_body.F.kp T.law_body.b .nil pass0 (pa_cons (pv 0) (pa_cons (pv 1) (pa_cons (pe_lst (pa_cons pe_int (pa_cons pe_int (pa_cons pe_int (pa_cons pe_int (pa_cons pe_int (pa_cons pe_int (pa_cons pe_int (pa_cons pe_int pa_nil))))))))) pa_nil)))) pa_nil))))))))), ?_⟩
    show WS _ [some (bx p), some (fz _), some (fz _), none] _
    refine ws_seq (ws_asgE (take_at (i := 0) rfl (wa_cons (we_int (wa_nil ⟨7, rfl, rfl, by decide, by decide, fun k hk => ?_⟩)))))
    show WS _ [some (bx p), some (fz _), some (fz _), some (fz (.int (k : Int)))] _
    have pick : ∀ (X : PyData → Es → Prop), (∀ w ∈ ws, X (.str w) [some (bx p), some (fz (.list (ws.map .str))), some (fz (.int (m : Int))), some (fz (.int (k : Int)))]) →
        WE (tOp (rIxL K) (tVar 1) (tCall (spF sp_law_take) [] E0 (tCons (tVar 0) (tCons (tCB (lenR K) (tCons (tVar 1) tNil)) tNil)))) [some (bx p), some (fz (.list (ws.map .str))), some (fz (.int (m : Int))), some (fz (.int (k : Int)))] X := fun X hX =>
      we_ixL (we_var (i := 1) rfl ⟨_, rfl, take_at (i := 0) rfl (wa_cons (we_len (we_var (i := 1) rfl (.inl ⟨_, rfl, wa_nil ⟨_, rfl, rfl, by simp; omega, by simp; omega, fun r hr => by
        have hr' : r < ws.length := by simpa using hr
        exact ⟨_, _, rfl, atI_nat (x := .str ws[r]) (by simp [hr']), hX _ (List.getElem_mem hr')⟩⟩⟩))))⟩)
    refine ws_seq (ws_if ?_)
    walk_at "w"
    by_cases k1 : k = 1
    · subst k1
      refine ⟨fun _ => ?_, fun hb => absurd hb (by decide)⟩
      refine ws_retE (we_tup (wa_cons (we_str (wa_cons (body_at (i := 0) rfl ?_)))))
      walk_at "w"
      refine ⟨ws, [2, 2, 1, 3, 2, 5, 2, 3], rfl, rfl, w0, w1, by decide, by decide, by decide, fun b lb hb => ?_⟩
      walk_at "w"
      exact finS2 pin_bx (q (.c b) hb lb fun g hg => by cases hg)
    refine ⟨fun hb => absurd hb (by simp; omega), fun _ => ?_⟩
    walk_at "w"
    have rule : ∀ E1 : SE, (∀ r : DV.Row, InW ws r → (rBody r).length ≤ 5 → InG (ws.take m) r → E1.rt (fz (rowD r)) [some (bx p), some (fz (.list (ws.map .str))), some (fz (.int (m : Int))), some (fz (.int (k : Int)))]) →
        WS (tRet (tTup (tCons (tC (.str "rule")) (tCons (tOp (rIxL K) (tVar 1) (tCall (spF sp_law_take) [] E0 (tCons (tVar 0) (tCons (tCB (lenR K) (tCons (tVar 1) tNil)) tNil)))) (tCons (tCall (spF sp_law_body) [] E0 (tCons (tVar 0) (tCons (tVar 1) (tCons (tLst (tCons (tC (.int 1)) (tCons (tC (.int 2)) (tCons (tC (.int 2)) (tCons (tC (.int 1)) (tCons (tC (.int 3)) (tCons (tC (.int 2)) (tCons (tC (.int 1)) (tCons (tC (.int 5)) tNil))))))))) tNil)))) tNil)))))
          [some (bx p), some (fz (.list (ws.map .str))), some (fz (.int (m : Int))), some (fz (.int (k : Int)))] E1 := fun E1 hE => by
      refine ws_retE (we_tup (wa_cons (we_str (wa_cons (pick _ fun w hw => wa_cons (body_at (i := 0) rfl ?_))))))
      walk_at "w"
      refine ⟨ws, [1, 2, 2, 1, 3, 2, 1, 5], rfl, rfl, w0, w1, by decide, by decide, by decide, fun b lb hb => ?_⟩
      walk_at "w"
      exact hE (.r w b) (fun x hx => (List.mem_cons.mp hx).elim (fun e => by rw [e]; exact hw) (hb x)) lb fun g hg => by cases hg
    have rule2 := rule (fin [bx p, fz (.list (ws.map .str)), fz (.int (m : Int))] Q) fun r h1 h2 h3 => finS2 pin_bx (q r h1 h2 h3)
    by_cases k2 : k = 2
    · subst k2
      refine ⟨fun _ => ?_, fun hb => absurd hb (by decide)⟩
      walk_at "w"
      by_cases m0 : 0 < m
      · refine ⟨fun _ => ?_, fun hb => absurd (of_decide_eq_false hb) (by omega)⟩
        refine ws_retE (we_tup (wa_cons (we_str (wa_cons (we_ixL (we_var (i := 1) rfl ⟨_, rfl, take_at (i := 0) rfl (wa_cons (we_var (i := 2) rfl (wa_nil ⟨_, rfl, rfl, by omega, by omega, fun r hr => ?_⟩)))⟩))))))
        have hr1 : r < m := by omega
        have hr' : r < ws.length := by omega
        refine ⟨_, _, rfl, atI_nat (x := .str ws[r]) (by simp [hr']), ?_⟩
        walk_at "w"
        exact finS2 pin_bx (q (.g ws[r]) (fun x hx => by rw [List.mem_singleton.mp hx]; exact List.getElem_mem hr') (by simp [rBody]) fun g hg => by
          cases hg
          exact List.mem_take_iff_getElem.mpr ⟨r, by omega, rfl⟩)
      · refine ⟨fun hb => absurd (of_decide_eq_true hb) (by omega), fun _ => ws_nx rule2⟩
    exact ⟨fun hb => absurd hb (by simp; omega), fun _ => ⟨fun hb => absurd hb (by decide), fun _ => ws_nx rule2⟩⟩

end
end

section
local macro_rules | `(tactic| walk_at "no") => `(tactic| first | (with_reducible exact Bool.false_ne_true) | (with_reducible exact fun z => Bool.false_ne_true z.symm) | (simp only [decide_eq_true_eq, decide_eq_false_iff_not]; omega) | (decide +kernel) | (simp; done) | (simp; omega) | (exact Bool.false_ne_true) | (exact fun z => Bool.false_ne_true z.symm))
local macro_rules | `(tactic| walk_at "side") => `(tactic| first | omega | assumption | (refine Nat.le_trans (m := 100000) ?_ (by decide); first | omega | (simp <;> omega)) | (simp <;> omega))
local macro_rules | `(tactic| walk_at "w1") => `(tactic| first
  | (with_reducible refine ws_seq ?_)
  | (with_reducible refine ws_if ?_)
  | (with_reducible refine ws_nx ?_)
  | (with_reducible refine ws_retN ?_)
  | ((with_reducible show WE (tVar _) _ _); (refine we_var rfl ?_))
  | (with_reducible refine we_int ?_)
  | (with_reducible refine we_str ?_)
  | (with_reducible refine we_bl ?_)
  | (with_reducible refine we_non ?_)
  | (with_reducible refine wt_test ?_)
  | (with_reducible refine wt_B ?_)
  | (with_reducible refine wt_yes ?_)
  | (with_reducible refine wt_and ?_)
  | (with_reducible refine wt_or ?_)
  | (with_reducible refine wt_not ?_)
  | (with_reducible refine we_andV ?_)
  | (with_reducible refine we_orV ?_)
  | (with_reducible refine we_notV ?_)
  | (with_reducible refine we_if ?_)
  | (with_reducible refine we_rB0 ?_)
  | (with_reducible refine we_rI0 ?_)
  | (with_reducible refine we_rI ?_)
  | (with_reducible refine we_eq ?_)
  | (with_reducible refine we_din ?_)
  | (with_reducible refine we_dnotin ?_)
  | (with_reducible refine we_ne ?_)
  | (with_reducible refine we_isN ?_)
  | (with_reducible refine we_notN ?_)
  | (with_reducible refine we_addS ?_)
  | (with_reducible refine we_inC ?_)
  | (with_reducible refine we_inS ?_)
  | (with_reducible refine we_lenS ?_)
  | (with_reducible refine we_all ?_)
  | (with_reducible refine we_any ?_)
  | (with_reducible refine we_join ?_)
  | (with_reducible refine we_tup ?_)
  | (with_reducible refine we_ixL ?_)
  | (with_reducible refine we_ixT ?_)
  | (with_reducible refine we_ixS ?_)
  | (with_reducible refine we_len ?_)
  | (with_reducible refine wa_nil ?_)
  | (with_reducible refine wa_cons ?_)
  | (with_reducible refine wo_none ?_)
  | (with_reducible refine wo_some ?_)
  | (with_reducible refine wm_lst ?_)
  | (with_reducible refine wm_cat ?_)
  | (with_reducible refine wm_slL ?_)
  | (with_reducible refine wm_sortSet ?_)
  | (with_reducible refine we_isi ?_)
  | (with_reducible refine we_int1 ?_)
  | (with_reducible refine we_tupOf ?_)
  | (with_reducible refine we_slT ?_)
  | (with_reducible refine we_min ?_)
  | (with_reducible refine we_eqD ?_)
  | (with_reducible refine we_neD ?_)
  | (with_reducible refine we_ixs ?_)
  | (with_reducible refine we_neg ?_)
  | (with_reducible refine wm_list ?_)
  | (with_reducible refine wm_split ?_)
  | (with_reducible refine wm_dnew ?_)
  | (with_reducible refine take_at rfl ?_)
  | (with_reducible refine wm_call ?_)
  | (with_reducible refine wm_callX (by assumption) ?_)
  | (with_reducible refine wm_callX lets0 ?_)
  | (with_reducible refine wm_make ?_)
  | (with_reducible refine wm_lcL ?_)
  | (with_reducible refine wm_lcSq ?_)
  | (with_reducible refine wm_lcT ?_)
  | (with_reducible refine wm_lcR ?_)
  | (with_reducible refine wm_lcS ?_)
  | (with_reducible refine we_wm (te := tLst _) ?_)
  | (with_reducible refine we_wm (te := tLc _ _ _ _ _) ?_)
  | (refine take_at rfl ?_)
  | (with_reducible refine known_at ?_)
  | (with_reducible refine we_wm (te := tCall _ _ _ _) ?_)
  | (with_reducible refine we_wm (te := tCallS _ _ _) ?_)
  | (with_reducible refine we_wm (te := tSl _ _ _ _) ?_)
  | (with_reducible refine we_wm (te := tOp rCat _ _) ?_)
  | (with_reducible refine we_wm (te := tCB _ _) ?_)
  | (with_reducible refine we_wm (te := tM1 _ _ _) ?_)
  | (with_reducible refine ws_ret (te := tLst _) ?_)
  | (with_reducible refine ws_ret (te := tLc _ _ _ _ _) ?_)
  | (refine ws_retE (take_at rfl ?_))
  | (with_reducible refine ws_ret (te := tCall _ _ _ _) ?_)
  | (with_reducible refine ws_ret (te := tMake _ _ _ _ _) ?_)
  | (with_reducible refine ws_ret (te := tMeth _ _ _ _ _ _ _) ?_)
  | (with_reducible refine ws_ret (te := tSl _ _ _ _) ?_)
  | (with_reducible refine ws_ret (te := tOp rCat _ _) ?_)
  | (with_reducible refine ws_ret (wm_list ?_))
  | (with_reducible refine ws_retE ?_)
  | (with_reducible refine ws_asg (te := tLst _) ?_)
  | (with_reducible refine ws_asg (te := tLc _ _ _ _ _) ?_)
  | (refine ws_asgE (take_at rfl ?_))
  | (with_reducible refine ws_asg (te := tCall _ _ _ _) ?_)
  | (with_reducible refine ws_asg (te := tMake _ _ _ _ _) ?_)
  | (with_reducible refine ws_asg (te := tSl _ _ _ _) ?_)
  | (with_reducible refine ws_asg (te := tOp rCat _ _) ?_)
  | (with_reducible refine ws_asg (te := tDNewK) ?_)
  | (with_reducible refine ws_asg (wm_list ?_))
  | (with_reducible refine ws_asgE ?_)
  | ((with_reducible show _ ≤ _ ∧ _); (refine ⟨(by walk_at "side"), ?_⟩))
  | ((with_reducible show _ < _ ∧ _); (refine ⟨(by walk_at "side"), ?_⟩))
  | ((with_reducible show (_ → _) ∧ (_ → _)); first | (refine ⟨fun hb => absurd hb (by walk_at "no"), fun _ => ?_⟩) | (refine ⟨fun _ => ?_, fun hb => absurd hb (by walk_at "no")⟩))
  | ((with_reducible show ∀ p : Addr, ∃ d, Frz (ml p _) d ∧ _); (intro p))
  | ((with_reducible show (slots _).Nodup ∧ _); (refine ⟨by simp [slots], ?_⟩))
  | (refine ⟨_, frz_ml, ?_⟩)
  | (refine ⟨_, frz_fz, ?_⟩)
  | (refine ⟨_, rfl, ?_⟩)
  | (with_reducible refine ⟨_, _, rfl, atI_0, ?_⟩)
  | (with_reducible refine ⟨_, _, rfl, atI_1, ?_⟩)
  | (refine ⟨_, _, rfl, rfl, ?_⟩)
  | (refine ⟨rfl, ?_⟩)
  | (refine Or.inl ⟨_, rfl, ?_⟩)
  | (refine Or.inr ⟨_, rfl, ?_⟩)
  | (refine ⟨_, Or.inl rfl, ?_⟩)
  | (refine ⟨_, Or.inr rfl, ?_⟩)
  | (dsimp only [List.set_cons_zero, List.set_cons_succ]))
local macro_rules | `(tactic| walk_at "w") => `(tactic| (repeat (walk_at "w1"; try dsimp only)))
local macro_rules | `(tactic| walk_at "z1") => `(tactic| first
  | (with_reducible refine ws_seq ?_)
  | (with_reducible refine ws_if ?_)
  | (with_reducible refine ws_nx ?_)
  | ((with_reducible show WE (tCall _ _ _ _) _ _); first | (with_reducible refine walked_at ?_) | (refine take_at rfl ?_) | (with_reducible refine known_at ?_) | (refine words_at rfl ?_) | (refine row_at rfl ?_) | (refine number_at rfl ?_) | (with_reducible refine is_way_at ?_) | (with_reducible refine law_walks_at ?_) | (refine right_at rfl ?_) | (with_reducible refine we_wm (copied_at ?_)) | (with_reducible refine we_wm (grounds_at ?_)) | (refine we_wm (taken_at rfl ?_)) | (refine we_wm (rows_at rfl ?_)))
  | ((with_reducible show WM (tCall _ _ _ _) _ _); first | (refine wm_we (take_at rfl ?_)) | (refine wm_we (words_at rfl ?_)) | (refine wm_we (row_at rfl ?_)) | (refine wm_we (number_at rfl ?_)) | (with_reducible refine fired_at ?_) | (refine spoilt_at rfl ?_) | (refine wm_we (right_at rfl ?_)) | (refine begun_at rfl (by assumption) ?_) | (refine rows_at rfl ?_) | (with_reducible refine copied_at ?_) | (with_reducible refine grounds_at ?_) | (refine taken_at rfl ?_))
  | ((with_reducible show WM (tCallS _ _ _) _ _); first | (refine way_at rfl ?_))
  | ((with_reducible show WM (tMake _ _ _ _ _) _ _); first | (with_reducible refine book_at ?_))
  | ((with_reducible show WM (tMeth _ _ _ _ _ _ _) _ _); first | (refine tell_at rfl ?_))
  | (with_reducible refine ws_retN ?_)
  | ((with_reducible show WE (tVar _) _ _); first | (refine we_var rfl ?_) | (refine we_varF rfl ?_) | (refine we_varFd rfl ?_))
  | (with_reducible refine we_int ?_)
  | (with_reducible refine we_str ?_)
  | (with_reducible refine we_bl ?_)
  | (with_reducible refine we_non ?_)
  | (with_reducible refine wt_test ?_)
  | (with_reducible refine wt_B ?_)
  | (with_reducible refine wt_yes ?_)
  | (with_reducible refine wt_and ?_)
  | (with_reducible refine wt_or ?_)
  | (with_reducible refine wt_not ?_)
  | (with_reducible refine we_andV ?_)
  | (with_reducible refine we_orV ?_)
  | (with_reducible refine we_notV ?_)
  | (with_reducible refine we_if ?_)
  | (with_reducible refine we_rB0 ?_)
  | (with_reducible refine we_rI0 ?_)
  | (with_reducible refine we_rI ?_)
  | (with_reducible refine we_eq ?_)
  | (with_reducible refine we_din ?_)
  | (with_reducible refine we_dnotin ?_)
  | (with_reducible refine we_ne ?_)
  | ((with_reducible show WE (tOp _ (tVar _) (tC .non)) _ _); first | (refine we_isNM rfl ?_) | (refine we_notNM rfl ?_))
  | (with_reducible refine we_isN ?_)
  | (with_reducible refine we_notN ?_)
  | (with_reducible refine we_addS ?_)
  | (with_reducible refine we_inC ?_)
  | (with_reducible refine we_inS ?_)
  | (with_reducible refine we_lenS ?_)
  | (with_reducible refine we_all ?_)
  | (with_reducible refine we_any ?_)
  | (with_reducible refine we_join ?_)
  | (with_reducible refine we_tup ?_)
  | (with_reducible refine we_ixL ?_)
  | (with_reducible refine we_ixT ?_)
  | (with_reducible refine we_ixS ?_)
  | (with_reducible refine we_len ?_)
  | (with_reducible refine wa_nil ?_)
  | ((with_reducible show WA (tCons (tVar _) _) _ _); first | (refine wa_cons (we_var rfl ?_)) | (refine wa_slot (r := bk _ _ _ _) rfl ?_) | (refine wa_slot (r := bx _) rfl ?_) | (refine wa_slot (r := md _ _) rfl ?_) | (refine wa_cons (we_varF rfl ?_)))
  | (with_reducible refine wa_cons ?_)
  | (with_reducible refine wo_none ?_)
  | (with_reducible refine wo_some ?_)
  | (with_reducible refine wm_lst ?_)
  | (with_reducible refine wm_cat ?_)
  | (with_reducible refine wm_slL ?_)
  | (with_reducible refine wm_sortSet ?_)
  | (with_reducible refine we_isi ?_)
  | (with_reducible refine we_int1 ?_)
  | (with_reducible refine we_tupOf ?_)
  | (with_reducible refine we_slT ?_)
  | (with_reducible refine we_min ?_)
  | (with_reducible refine we_eqD ?_)
  | (with_reducible refine we_neD ?_)
  | (with_reducible refine we_ixs ?_)
  | (with_reducible refine we_neg ?_)
  | (with_reducible refine wm_list ?_)
  | (with_reducible refine wm_split ?_)
  | (with_reducible refine wm_dnew ?_)
  | (with_reducible refine take_at rfl ?_)
  | (with_reducible refine wm_call ?_)
  | (with_reducible refine wm_callX (by assumption) ?_)
  | (with_reducible refine wm_callX lets0 ?_)
  | (with_reducible refine wm_make ?_)
  | (with_reducible refine wm_lcL ?_)
  | (with_reducible refine wm_lcSq ?_)
  | (with_reducible refine wm_lcT ?_)
  | (with_reducible refine wm_lcR ?_)
  | (with_reducible refine wm_lcS ?_)
  | (with_reducible refine we_wm (te := tLst _) ?_)
  | (with_reducible refine we_wm (te := tLc _ _ _ _ _) ?_)
  | (refine take_at rfl ?_)
  | (with_reducible refine known_at ?_)
  | (with_reducible refine we_wm (te := tCall _ _ _ _) ?_)
  | (with_reducible refine we_wm (te := tCallS _ _ _) ?_)
  | (with_reducible refine ws_asg (te := tCallS _ _ _) ?_)
  | (with_reducible refine ws_asg (te := tMeth _ _ _ _ _ _ _) ?_)
  | (with_reducible refine ws_drop (te := tMeth _ _ _ _ _ _ _) ?_)
  | (with_reducible refine ws_drop (te := tCallS _ _ _) ?_)
  | (with_reducible refine we_wm (te := tSl _ _ _ _) ?_)
  | (with_reducible refine we_wm (te := tOp rCat _ _) ?_)
  | (with_reducible refine we_wm (te := tCB _ _) ?_)
  | (with_reducible refine we_wm (te := tM1 _ _ _) ?_)
  | (with_reducible refine ws_ret (te := tLst _) ?_)
  | (with_reducible refine ws_ret (te := tLc _ _ _ _ _) ?_)
  | (refine ws_retE (take_at rfl ?_))
  | (with_reducible refine ws_ret (te := tCall _ _ _ _) ?_)
  | (with_reducible refine ws_ret (te := tMake _ _ _ _ _) ?_)
  | (with_reducible refine ws_ret (te := tMeth _ _ _ _ _ _ _) ?_)
  | (with_reducible refine ws_ret (te := tSl _ _ _ _) ?_)
  | (with_reducible refine ws_ret (te := tOp rCat _ _) ?_)
  | (with_reducible refine ws_ret (wm_list ?_))
  | (with_reducible refine ws_retE ?_)
  | (with_reducible refine ws_asg (te := tLst _) ?_)
  | (with_reducible refine ws_asg (te := tLc _ _ _ _ _) ?_)
  | (refine ws_asgE (take_at rfl ?_))
  | (with_reducible refine ws_asg (te := tCall _ _ _ _) ?_)
  | (with_reducible refine ws_asg (te := tMake _ _ _ _ _) ?_)
  | (with_reducible refine ws_asg (te := tSl _ _ _ _) ?_)
  | (with_reducible refine ws_asg (te := tOp rCat _ _) ?_)
  | (with_reducible refine ws_asg (te := tDNewK) ?_)
  | (with_reducible refine ws_asg (wm_list ?_))
  | (with_reducible refine ws_asgE ?_)
  | ((with_reducible show (_ : Int) ≠ 0 ∧ _); (refine ⟨by decide, ?_⟩))
  | ((with_reducible show _ ≤ _ ∧ _); (refine ⟨(by walk_at "side"), ?_⟩))
  | ((with_reducible show _ < _ ∧ _); (refine ⟨(by walk_at "side"), ?_⟩))
  | ((with_reducible show (_ → _) ∧ (_ → _)); first | (refine ⟨fun hb => absurd hb (by walk_at "no"), fun _ => ?_⟩) | (refine ⟨fun _ => ?_, fun hb => absurd hb (by walk_at "no")⟩))
  | ((with_reducible show ∀ p : Addr, ∃ d, Frz (ml p _) d ∧ _); (intro p))
  | ((with_reducible show (slots _).Nodup ∧ _); (refine ⟨by simp [slots], ?_⟩))
  | (refine ⟨_, frz_ml, ?_⟩)
  | (refine ⟨_, frz_fz, ?_⟩)
  | (refine ⟨_, rfl, ?_⟩)
  | (with_reducible refine ⟨_, _, rfl, (by assumption), ?_⟩)
  | (with_reducible refine ⟨_, _, rfl, atI_0, ?_⟩)
  | (with_reducible refine ⟨_, _, rfl, atI_1, ?_⟩)
  | (refine ⟨_, _, rfl, rfl, ?_⟩)
  | (refine ⟨rfl, ?_⟩)
  | (refine Or.inl ⟨_, rfl, ?_⟩)
  | (refine Or.inr ⟨_, rfl, ?_⟩)
  | (refine ⟨_, Or.inl rfl, ?_⟩)
  | (refine ⟨_, Or.inr rfl, ?_⟩)
  | (dsimp only [List.set_cons_zero, List.set_cons_succ]))
local macro_rules | `(tactic| walk_at "z") => `(tactic| (repeat (walk_at "z1"; try dsimp only)))
section
variable {P : Program} {w : World} {K : PySem.W.Frag} {mg : Str → Option Value} {base : Heap}
def sp_law_rows : FSp := fun args Q => ∃ p, ∃ ws : List Str, ∃ most : Nat, args = [bx p, fz (.list (ws.map .str)), fz (.int (most : Int))] ∧ Words ws ∧ most ≤ 1000 ∧
  ∀ q (rs : List DV.Row), rs.length ≤ most + 8 → (∀ r ∈ rs, Drawn ws (ws.take 8) r) → Q (ml q (rs.map rowD)) args
theorem row_at [B : Bs] {i : Nat} {p : Addr} {es : Es} {ta : TA} {EE : XK} {Q : PyData → Es → Prop} (hi : es[i]? = some (some (bx p))) (h : WA ta es fun as e => ∃ ws : List Str, ∃ many : Nat, as = [.d (.list (ws.map .str)), .d (.int (many : Int))] ∧ e = es ∧ 0 < ws.length ∧ ws.length ≤ 1000 ∧ many ≤ ws.length ∧
    ∀ r : DV.Row, Drawn ws (ws.take many) r → Q (rowD r) es) :
    WE (tCall (spF sp_law_row) [] EE (tCons (tVar i) ta)) es Q := by
  refine we_call (wa_slot hi fun σ G H Rs K hs k => h σ G H Rs K hs fun vs as G' H' Rs' es' s r st ⟨ws, m, ea, ee, w0, w1, z, q⟩ => k vs as G' H' Rs' es' s r st ?_)
  subst ea ee
  refine ⟨[bx p, fz (.list (ws.map .str)), fz (.int (m : Int))], ?_, by simp [slots], p, ws, m, rfl, w0, w1, z, fun r h1 h2 h3 => ⟨_, frz_fz, ?_⟩⟩
  · simp [lend, hi]
  · have : back es' [.s i, .d (.list (ws.map .str)), .d (.int (m : Int))] [bx p, fz (.list (ws.map .str)), fz (.int (m : Int))] = es' := set_self hi
    rw [this]
    exact q r ⟨h1, h2, h3⟩
theorem ok_law_rows (T : Txt K mg) : FnOk P w K mg base CX0 4 T.law_rows.a T.law_rows.fd ["_law_box", "_law_words_here", "_law_most"] (spF sp_law_rows) := by
  refine fok T.law_rows.F sc_law_rows (fun args Q h => ?_) (fun cdv A outer s H E hr args Q h => ?_)
  · obtain ⟨p, ws, m, rfl, _⟩ := h
    rfl
  · obtain ⟨p, ws, most, rfl, ⟨w0, w1, w2⟩, hm, q⟩ := h
    refine ⟨_, (pss_cons (ps_set (i := 3) sc_law_rows.nd rfl (by first | exact Or.inl rfl | exact Or.inr rfl) (pe_call (ok_law_take T) (hr.mono (by decide)) rfl T.law_take.m T.law_take.F.kp T.law_take.b .nil pass0 (pa_cons (pv 0) (pa_cons pe_int pa_nil))))
      (pss_cons (ps_if (pt_cmpR op_eq (pe_call (ok_law_take T) (hr.mono (by decide)) rfl T.law_take.m T.law_take.F.kp T.law_take.b .nil pass0 (pa_cons (pv 0) (pa_cons pe_int pa_nil))) pe_int (nomark _)) (pss_cons (ps_set (i := 3) sc_law_rows.nd rfl (by first | exact Or.inl rfl | exact Or.inr rfl) pe_int)
      (pss_one (ps_set (i := 2) sc_law_rows.nd rfl (by first | exact Or.inl rfl | exact Or.inr rfl) (pe_callB (call_min2 rfl) (by rfl) T.b_min (by decide +kernel) (pa_cons (pv 2) (pa_cons pe_int pa_nil)))))) pss_nil)
      (pss_cons (ps_set (i := 4) sc_law_rows.nd rfl (by first | exact Or.inl rfl | exact Or.inr rfl) (pe_slice sl_list (pv 1) po_none (po_some (pe_op op_add (pe_op op_add (pv 3) pe_int) (pe_call (ok_law_take T) (hr.mono (by decide)) rfl T.law_take.m T.law_take.F.kp T.law_take.b .nil pass0 (pa_cons (pv 0) (pa_cons pe_int pa_nil)))))))
      (pss_cons (ps_setLc (i := 5) (own := [("_law_word", 8)]) (g := gName 8) (tt := tYes) rfl sc_law_rows.nd rfl (by show List.lookup _ (defScope s_law_rows).names = _; decide +kernel) (sw_true rfl (by show List.lookup _ (defScope s_law_rows).names = _; decide +kernel) rfl (by decide +kernel)) (pi_list (pe_slice sl_list (pv 1) po_none (po_some (pv 3)))) (blkOk_by (own := [("_law_word", 8)]) (N := N_law_rows) (sc := defScope s_law_rows) (by decide +kernel)) (fun _ _ _ _ _ => pg_name (i := 8) sc_law_rows.nd rfl (Or.inl rfl)) (fun _ _ _ _ _ => pts_nil) (fun _ _ _ _ _ => (pe_tup (pa_cons pe_str (pa_cons (pv 8) pa_nil)))))
      (pss_cons (ps_for PassesOwn.never rfl (pi_range1 rfl T.b_range (pa_cons (pe_call (ok_law_take T) (hr.mono (by decide)) rfl T.law_take.m T.law_take.F.kp T.law_take.b .nil pass0 (pa_cons (pv 0) (pa_cons (pe_op op_add (pv 2) pe_int) pa_nil))) pa_nil)) (pg_name (i := 6) sc_law_rows.nd rfl (by first | exact Or.inl rfl | exact Or.inr rfl))
      (pss_one (ps_expr (pe_bm PySem.F.plainAttrs_list PySem.F.slot_list_append PySem.F.type_list_append mt_append (pv 5) (pa_cons (pe_call (ok_law_row T) (hr.mono (by decide)) rfl T.law_row.m T.law_row.F.kp T.law_row.b .nil pass0 (pa_cons (pv 0) (pa_cons (pv 4) (pa_cons (pv 3) pa_nil)))) pa_nil)))))
      (pss_cons (ps_set (i := 7) sc_law_rows.nd rfl (by first | exact Or.inl rfl | exact Or.inr rfl) (pe_lst pa_nil))
      (pss_cons (ps_while PassesOwn.never (pt_cmpR (op_neD hr.units) (pv 5) (pe_lst pa_nil) (nomark _)) (pss_one (ps_expr (pe_bm PySem.F.plainAttrs_list PySem.F.slot_list_append PySem.F.type_list_append mt_append (pv 7) (pa_cons (pe_bm PySem.F.plainAttrs_list PySem.F.slot_list_pop PySem.F.type_list_pop mt_popAt (pv 5) (pa_cons (pe_call (ok_law_take T) (hr.mono (by decide)) rfl T.law_take.m T.law_take.F.kp T.law_take.b .nil pass0 (pa_cons (pv 0) (pa_cons (pe_callB call_len_seq (by rfl) T.b_len (by decide +kernel) (pa_cons (pv 5) pa_nil)) pa_nil))) pa_nil)) pa_nil)))))
      (pss_one (ps_ret (pv 7)))))))))), ?_⟩
    show WS _ [some (bx p), some (fz _), some (fz _), none, none, none, none, none, none] _
    refine ws_seq (ws_asgE (take_at (i := 0) rfl (wa_cons (we_int (wa_nil ⟨6, rfl, rfl, by decide, by decide, fun many0 hmany0 => ?_⟩)))))
    refine ws_seq (ws_mono (E := { fin [bx p, fz (.list (ws.map .str)), fz (.int (most : Int))] Q with nx := fun e => ∃ many most' : Nat, many ≤ 8 ∧ most' + many ≤ most + 8 ∧ e = [some (bx p), some (fz (.list (ws.map .str))), some (fz (.int (most' : Int))), some (fz (.int (many : Int))), none, none, none, none, none] }) (ws_if ?_) (fun e ⟨many, most', h8, hmm, ee⟩ => ?_) (fun _ _ h => h) (fun _ h => h) (fun _ h => h))
    · walk_at "w"
      intro r hr
      walk_at "w"
      refine ⟨fun _ => ?_, fun _ => ws_nx ⟨many0, most, by omega, by omega, rfl⟩⟩
      walk_at "w"
      refine ⟨(most : Int), 4, rfl, 8, min most 4, by omega, by omega, ?_⟩
      have : (if (4 : Int) < (most : Int) then (4 : Int) else (most : Int)) = ((min most 4 : Nat) : Int) := by
        split <;> omega
      rw [this]
      rfl
    · subst ee
      have some1 : ∀ j : Nat, ∃ so : List Str, (ws.map PyData.str).take (many + 1 + j) = so.map .str ∧ 0 < so.length ∧ so.length ≤ 1000 ∧ many ≤ so.length ∧ (∀ w ∈ so, w ∈ ws) ∧ ∀ w ∈ so.take many, w ∈ ws.take 8 := fun j => by
        refine ⟨ws.take (many + 1 + j), by rw [List.map_take], by simp; omega, by simp; omega, by simp; omega, fun w hw => List.mem_of_mem_take hw, fun w hw => ?_⟩
        rw [List.take_take] at hw
        exact (List.take_sublist_take_left (by omega)).mem hw
      walk_at "w"
      intro j hj
      walk_at "w"
      refine fun b4 => ws_frz (i := 4) rfl frz_ml ?_
      obtain ⟨so, eso, s0, s1, s2, s3, s4⟩ := some1 j
      have c4 : DV.cutD (ws.map PyData.str) none (some ((many : Int) + 1 + (j : Int))) = so.map .str := (cut_take _ (many + 1 + j)).trans eso
      rw [c4]
      walk_at "w"
      have c5 : DV.cutD (ws.map PyData.str) none (some (many : Int)) = (ws.take many).map .str := by rw [cut_take, List.map_take]
      rw [c5]
      refine lcI_mapA .str (fun x => rowD (.g x)) (by decide) rfl (by simp; omega) rfl (fun x hx => ?_) fun b5 => ?_
      · walk_at "w"
      show WS _ [some (bx p), some (fz (.list (ws.map .str))), some (fz (.int (most' : Int))), some (fz (.int (many : Int))), some (fz (.list (so.map .str))), some (ml b5 _), none, none, none] _
      have l0 : (ws.take many).map (fun x => rowD (.g x)) = ((ws.take many).map DV.Row.g).map rowD := by rw [List.map_map]; rfl
      rw [l0]
      have d0 : ∀ r ∈ (ws.take many).map DV.Row.g, Drawn ws (ws.take 8) r := fun r hr => by
        obtain ⟨x, hx, rfl⟩ := List.mem_map.mp hr
        exact ⟨fun y hy => by rw [List.mem_singleton.mp hy]; exact List.mem_of_mem_take hx, by simp [rBody], fun g hg => by cases hg; exact (List.take_sublist_take_left (by omega)).mem hx⟩
      refine ws_seq (ws_forR (wa_cons (take_at (i := 0) rfl ?_)))
      refine wa_cons (we_rI0 (we_var (i := 2) rfl ⟨_, rfl, we_int ⟨_, rfl, ?_⟩⟩))
      refine wa_nil ⟨_, rfl, rfl, by omega, by omega, fun n hn => ?_⟩
      refine wa_nil ⟨(n : Int), rfl, by omega, by omega, fun k e => ∃ rs x, e = [some (bx p), some (fz (.list (ws.map .str))), some (fz (.int (most' : Int))), some (fz (.int (many : Int))), some (fz (.list (so.map .str))), some (ml b5 (rs.map rowD)), x, none, none] ∧ rs.length ≤ many + k ∧ ∀ r ∈ rs, Drawn ws (ws.take 8) r,
        ⟨_, none, rfl, by simp; omega, d0⟩, fun k e hk ⟨rs, x, ee, lr, dr⟩ => ?_, fun e ⟨rs, x, ee, lr, dr⟩ => ?_⟩
      · subst ee
        have hk : k < n := by simpa using hk
        refine ws_append (i := 5) rfl (row_at (i := 0) rfl (wa_cons (we_var (i := 4) rfl (wa_cons (we_var (i := 3) rfl (wa_nil ⟨so, many, rfl, rfl, s0, s1, s2, fun r d => ⟨rfl, by simp; omega, rs ++ [r], some (fz (.int (k : Int))), by rw [List.map_append]; rfl, by simp; omega, fun r' hr' => ?_⟩⟩))))))
        rcases List.mem_append.mp hr' with h | h
        · exact dr r' h
        · rw [List.mem_singleton.mp h]
          exact ⟨fun w hw => s3 w (d.w w hw), d.b, fun g hg => s4 g (d.g g hg)⟩
      · subst ee
        have lr : rs.length ≤ many + n := by simpa using lr
        refine ws_seq (ws_asg (wm_lst (wa_nil ⟨[], rfl, by decide, fun b7 => ?_⟩)))
        refine ws_seq (ws_while (fun m e => ∃ ls rs, m = ls.length ∧ e = [some (bx p), some (fz (.list (ws.map .str))), some (fz (.int (most' : Int))), some (fz (.int (many : Int))), some (fz (.list (so.map .str))), some (ml b5 (ls.map rowD)), x, some (ml b7 (rs.map rowD)), none] ∧ ls.length + rs.length ≤ many + n ∧ (∀ r ∈ ls, Drawn ws (ws.take 8) r) ∧ ∀ r ∈ rs, Drawn ws (ws.take 8) r)
          (m0 := rs.length) ⟨rs, [], rfl, rfl, by simpa using lr, dr, fun r hr => by simp at hr⟩ fun m e ⟨ls, rs, em, ee, lz, dl, dr⟩ => ?_)
        subst em ee
        refine wt_test (we_neNil (i := 5) rfl (rows_shaped fun r hr => (dl r hr).ok w2) ⟨_, rfl, ?_⟩)
        cases ls with
        | nil =>
          refine ⟨fun hb => absurd hb (by decide), fun _ => ?_⟩
          exact ws_ret (wm_move (i := 7) rfl (finS2 pin_bx (q b7 rs (by simp at lz; omega) dr)))
        | cons l0 ls0 =>
          refine ⟨fun _ => ?_, fun hb => absurd hb (by simp)⟩
          generalize hls : l0 :: ls0 = ls at *
          have lp : 0 < ls.length := by rw [← hls]; simp
          refine ws_append (i := 7) rfl (we_popAt (i := 5) rfl (take_at (i := 0) rfl (wa_cons (we_lenM (i := 5) rfl (wa_nil ⟨_, rfl, rfl, by simp; omega, by simp; omega, fun v hv => ?_⟩)))))
          have hv' : v < ls.length := by simpa using hv
          refine ⟨rfl, v, rowD ls[v], rfl, by simp [hv'], by simp; omega, ?_⟩
          refine ⟨rfl, by simp; omega, ls.length - 1, by omega, ls.eraseIdx v, rs ++ [ls[v]], by rw [List.length_eraseIdx_of_lt hv'], ?_, ?_, fun r hr => dl r (List.mem_of_mem_eraseIdx hr), fun r hr => ?_⟩
          · rw [List.map_append, erase_map]
            rfl
          · rw [List.length_eraseIdx_of_lt hv', List.length_append, List.length_singleton]
            omega
          · rcases List.mem_append.mp hr with h | h
            · exact dr r h
            · rw [List.mem_singleton.mp h]
              exact dl _ (List.getElem_mem hv')
theorem rows_at [B : Bs] {i : Nat} {p : Addr} {es : Es} {ta : TA} {EE : XK} {Q : Own → Es → Prop} (hi : es[i]? = some (some (bx p))) (h : WA ta es fun as e => ∃ ws : List Str, ∃ most : Nat, as = [.d (strsD ws), .d (.int (most : Int))] ∧ e = es ∧ Words ws ∧ most ≤ 1000 ∧
    ∀ q (rs : List DV.Row), rs.length ≤ most + 8 → (∀ r ∈ rs, Drawn ws (ws.take 8) r) → Q (ml q (rs.map rowD)) es) : WM (tCall (spF sp_law_rows) [] EE (tCons (tVar i) ta)) es Q := by
  refine wm_call (wa_slot hi fun σ G H Rs K hs k => h σ G H Rs K hs fun vs as G' H' Rs' es' s r st ⟨ws, m, ea, ee, w0, w1, q⟩ => k vs as G' H' Rs' es' s r st ?_)
  subst ea ee
  refine ⟨[bx p, fz (strsD ws), fz (.int (m : Int))], by simp [lend, hi], by simp [slots], p, ws, m, rfl, w0, w1, fun b rs h1 h2 => ?_⟩
  have : back es' [.s i, .d (strsD ws), .d (.int (m : Int))] [bx p, fz (strsD ws), fz (.int (m : Int))] = es' := set_self hi
  dsimp only
  rw [this]
  exact q b rs h1 h2

end
end

section
local macro_rules | `(tactic| walk_at "no") => `(tactic| first | (with_reducible exact Bool.false_ne_true) | (with_reducible exact fun z => Bool.false_ne_true z.symm) | (simp only [decide_eq_true_eq, decide_eq_false_iff_not]; omega) | (decide +kernel) | (simp; done) | (simp; omega) | (exact Bool.false_ne_true) | (exact fun z => Bool.false_ne_true z.symm))
local macro_rules | `(tactic| walk_at "side") => `(tactic| first | omega | assumption | (refine Nat.le_trans (m := 100000) ?_ (by decide); first | omega | (simp <;> omega)) | (simp <;> omega))
local macro_rules | `(tactic| walk_at "w1") => `(tactic| first
  | (with_reducible refine ws_seq ?_)
  | (with_reducible refine ws_if ?_)
  | (with_reducible refine ws_nx ?_)
  | (with_reducible refine ws_retN ?_)
  | ((with_reducible show WE (tVar _) _ _); (refine we_var rfl ?_))
  | (with_reducible refine we_int ?_)
  | (with_reducible refine we_str ?_)
  | (with_reducible refine we_bl ?_)
  | (with_reducible refine we_non ?_)
  | (with_reducible refine wt_test ?_)
  | (with_reducible refine wt_B ?_)
  | (with_reducible refine wt_yes ?_)
  | (with_reducible refine wt_and ?_)
  | (with_reducible refine wt_or ?_)
  | (with_reducible refine wt_not ?_)
  | (with_reducible refine we_andV ?_)
  | (with_reducible refine we_orV ?_)
  | (with_reducible refine we_notV ?_)
  | (with_reducible refine we_if ?_)
  | (with_reducible refine we_rB0 ?_)
  | (with_reducible refine we_rI0 ?_)
  | (with_reducible refine we_rI ?_)
  | (with_reducible refine we_eq ?_)
  | (with_reducible refine we_din ?_)
  | (with_reducible refine we_dnotin ?_)
  | (with_reducible refine we_ne ?_)
  | (with_reducible refine we_isN ?_)
  | (with_reducible refine we_notN ?_)
  | (with_reducible refine we_addS ?_)
  | (with_reducible refine we_inC ?_)
  | (with_reducible refine we_inS ?_)
  | (with_reducible refine we_lenS ?_)
  | (with_reducible refine we_all ?_)
  | (with_reducible refine we_any ?_)
  | (with_reducible refine we_join ?_)
  | (with_reducible refine we_tup ?_)
  | (with_reducible refine we_ixL ?_)
  | (with_reducible refine we_ixT ?_)
  | (with_reducible refine we_ixS ?_)
  | (with_reducible refine we_len ?_)
  | (with_reducible refine wa_nil ?_)
  | (with_reducible refine wa_cons ?_)
  | (with_reducible refine wo_none ?_)
  | (with_reducible refine wo_some ?_)
  | (with_reducible refine wm_lst ?_)
  | (with_reducible refine wm_cat ?_)
  | (with_reducible refine wm_slL ?_)
  | (with_reducible refine wm_sortSet ?_)
  | (with_reducible refine we_isi ?_)
  | (with_reducible refine we_int1 ?_)
  | (with_reducible refine we_tupOf ?_)
  | (with_reducible refine we_slT ?_)
  | (with_reducible refine we_min ?_)
  | (with_reducible refine we_eqD ?_)
  | (with_reducible refine we_neD ?_)
  | (with_reducible refine we_ixs ?_)
  | (with_reducible refine we_neg ?_)
  | (with_reducible refine wm_list ?_)
  | (with_reducible refine wm_split ?_)
  | (with_reducible refine wm_dnew ?_)
  | (with_reducible refine take_at rfl ?_)
  | (with_reducible refine wm_call ?_)
  | (with_reducible refine wm_callX (by assumption) ?_)
  | (with_reducible refine wm_callX lets0 ?_)
  | (with_reducible refine wm_make ?_)
  | (with_reducible refine wm_lcL ?_)
  | (with_reducible refine wm_lcSq ?_)
  | (with_reducible refine wm_lcT ?_)
  | (with_reducible refine wm_lcR ?_)
  | (with_reducible refine wm_lcS ?_)
  | (with_reducible refine we_wm (te := tLst _) ?_)
  | (with_reducible refine we_wm (te := tLc _ _ _ _ _) ?_)
  | (refine take_at rfl ?_)
  | (with_reducible refine known_at ?_)
  | (with_reducible refine we_wm (te := tCall _ _ _ _) ?_)
  | (with_reducible refine we_wm (te := tCallS _ _ _) ?_)
  | (with_reducible refine we_wm (te := tSl _ _ _ _) ?_)
  | (with_reducible refine we_wm (te := tOp rCat _ _) ?_)
  | (with_reducible refine we_wm (te := tCB _ _) ?_)
  | (with_reducible refine we_wm (te := tM1 _ _ _) ?_)
  | (with_reducible refine ws_ret (te := tLst _) ?_)
  | (with_reducible refine ws_ret (te := tLc _ _ _ _ _) ?_)
  | (refine ws_retE (take_at rfl ?_))
  | (with_reducible refine ws_ret (te := tCall _ _ _ _) ?_)
  | (with_reducible refine ws_ret (te := tMake _ _ _ _ _) ?_)
  | (with_reducible refine ws_ret (te := tMeth _ _ _ _ _ _ _) ?_)
  | (with_reducible refine ws_ret (te := tSl _ _ _ _) ?_)
  | (with_reducible refine ws_ret (te := tOp rCat _ _) ?_)
  | (with_reducible refine ws_ret (wm_list ?_))
  | (with_reducible refine ws_retE ?_)
  | (with_reducible refine ws_asg (te := tLst _) ?_)
  | (with_reducible refine ws_asg (te := tLc _ _ _ _ _) ?_)
  | (refine ws_asgE (take_at rfl ?_))
  | (with_reducible refine ws_asg (te := tCall _ _ _ _) ?_)
  | (with_reducible refine ws_asg (te := tMake _ _ _ _ _) ?_)
  | (with_reducible refine ws_asg (te := tSl _ _ _ _) ?_)
  | (with_reducible refine ws_asg (te := tOp rCat _ _) ?_)
  | (with_reducible refine ws_asg (te := tDNewK) ?_)
  | (with_reducible refine ws_asg (wm_list ?_))
  | (with_reducible refine ws_asgE ?_)
  | ((with_reducible show _ ≤ _ ∧ _); (refine ⟨(by walk_at "side"), ?_⟩))
  | ((with_reducible show _ < _ ∧ _); (refine ⟨(by walk_at "side"), ?_⟩))
  | ((with_reducible show (_ → _) ∧ (_ → _)); first | (refine ⟨fun hb => absurd hb (by walk_at "no"), fun _ => ?_⟩) | (refine ⟨fun _ => ?_, fun hb => absurd hb (by walk_at "no")⟩))
  | ((with_reducible show ∀ p : Addr, ∃ d, Frz (ml p _) d ∧ _); (intro p))
  | ((with_reducible show (slots _).Nodup ∧ _); (refine ⟨by simp [slots], ?_⟩))
  | (refine ⟨_, frz_ml, ?_⟩)
  | (refine ⟨_, frz_fz, ?_⟩)
  | (refine ⟨_, rfl, ?_⟩)
  | (with_reducible refine ⟨_, _, rfl, atI_0, ?_⟩)
  | (with_reducible refine ⟨_, _, rfl, atI_1, ?_⟩)
  | (refine ⟨_, _, rfl, rfl, ?_⟩)
  | (refine ⟨rfl, ?_⟩)
  | (refine Or.inl ⟨_, rfl, ?_⟩)
  | (refine Or.inr ⟨_, rfl, ?_⟩)
  | (refine ⟨_, Or.inl rfl, ?_⟩)
  | (refine ⟨_, Or.inr rfl, ?_⟩)
  | (dsimp only [List.set_cons_zero, List.set_cons_succ]))
local macro_rules | `(tactic| walk_at "w") => `(tactic| (repeat (walk_at "w1"; try dsimp only)))
local macro_rules | `(tactic| walk_at "z1") => `(tactic| first
  | (with_reducible refine ws_seq ?_)
  | (with_reducible refine ws_if ?_)
  | (with_reducible refine ws_nx ?_)
  | ((with_reducible show WE (tCall _ _ _ _) _ _); first | (with_reducible refine walked_at ?_) | (refine take_at rfl ?_) | (with_reducible refine known_at ?_) | (refine words_at rfl ?_) | (refine row_at rfl ?_) | (refine number_at rfl ?_) | (with_reducible refine is_way_at ?_) | (with_reducible refine law_walks_at ?_) | (refine right_at rfl ?_) | (with_reducible refine we_wm (copied_at ?_)) | (with_reducible refine we_wm (grounds_at ?_)) | (refine we_wm (taken_at rfl ?_)) | (refine we_wm (rows_at rfl ?_)))
  | ((with_reducible show WM (tCall _ _ _ _) _ _); first | (refine wm_we (take_at rfl ?_)) | (refine wm_we (words_at rfl ?_)) | (refine wm_we (row_at rfl ?_)) | (refine wm_we (number_at rfl ?_)) | (with_reducible refine fired_at ?_) | (refine spoilt_at rfl ?_) | (refine wm_we (right_at rfl ?_)) | (refine begun_at rfl (by assumption) ?_) | (refine rows_at rfl ?_) | (with_reducible refine copied_at ?_) | (with_reducible refine grounds_at ?_) | (refine taken_at rfl ?_))
  | ((with_reducible show WM (tCallS _ _ _) _ _); first | (refine way_at rfl ?_))
  | ((with_reducible show WM (tMake _ _ _ _ _) _ _); first | (with_reducible refine book_at ?_))
  | ((with_reducible show WM (tMeth _ _ _ _ _ _ _) _ _); first | (refine tell_at rfl ?_))
  | (with_reducible refine ws_retN ?_)
  | ((with_reducible show WE (tVar _) _ _); first | (refine we_var rfl ?_) | (refine we_varF rfl ?_) | (refine we_varFd rfl ?_))
  | (with_reducible refine we_int ?_)
  | (with_reducible refine we_str ?_)
  | (with_reducible refine we_bl ?_)
  | (with_reducible refine we_non ?_)
  | (with_reducible refine wt_test ?_)
  | (with_reducible refine wt_B ?_)
  | (with_reducible refine wt_yes ?_)
  | (with_reducible refine wt_and ?_)
  | (with_reducible refine wt_or ?_)
  | (with_reducible refine wt_not ?_)
  | (with_reducible refine we_andV ?_)
  | (with_reducible refine we_orV ?_)
  | (with_reducible refine we_notV ?_)
  | (with_reducible refine we_if ?_)
  | (with_reducible refine we_rB0 ?_)
  | (with_reducible refine we_rI0 ?_)
  | (with_reducible refine we_rI ?_)
  | (with_reducible refine we_eq ?_)
  | (with_reducible refine we_din ?_)
  | (with_reducible refine we_dnotin ?_)
  | (with_reducible refine we_ne ?_)
  | ((with_reducible show WE (tOp _ (tVar _) (tC .non)) _ _); first | (refine we_isNM rfl ?_) | (refine we_notNM rfl ?_))
  | (with_reducible refine we_isN ?_)
  | (with_reducible refine we_notN ?_)
  | (with_reducible refine we_addS ?_)
  | (with_reducible refine we_inC ?_)
  | (with_reducible refine we_inS ?_)
  | (with_reducible refine we_lenS ?_)
  | (with_reducible refine we_all ?_)
  | (with_reducible refine we_any ?_)
  | (with_reducible refine we_join ?_)
  | (with_reducible refine we_tup ?_)
  | (with_reducible refine we_ixL ?_)
  | (with_reducible refine we_ixT ?_)
  | (with_reducible refine we_ixS ?_)
  | (with_reducible refine we_len ?_)
  | (with_reducible refine wa_nil ?_)
  | ((with_reducible show WA (tCons (tVar _) _) _ _); first | (refine wa_cons (we_var rfl ?_)) | (refine wa_slot (r := bk _ _ _ _) rfl ?_) | (refine wa_slot (r := bx _) rfl ?_) | (refine wa_slot (r := md _ _) rfl ?_) | (refine wa_cons (we_varF rfl ?_)))
  | (with_reducible refine wa_cons ?_)
  | (with_reducible refine wo_none ?_)
  | (with_reducible refine wo_some ?_)
  | (with_reducible refine wm_lst ?_)
  | (with_reducible refine wm_cat ?_)
  | (with_reducible refine wm_slL ?_)
  | (with_reducible refine wm_sortSet ?_)
  | (with_reducible refine we_isi ?_)
  | (with_reducible refine we_int1 ?_)
  | (with_reducible refine we_tupOf ?_)
  | (with_reducible refine we_slT ?_)
  | (with_reducible refine we_min ?_)
  | (with_reducible refine we_eqD ?_)
  | (with_reducible refine we_neD ?_)
  | (with_reducible refine we_ixs ?_)
  | (with_reducible refine we_neg ?_)
  | (with_reducible refine wm_list ?_)
  | (with_reducible refine wm_split ?_)
  | (with_reducible refine wm_dnew ?_)
  | (with_reducible refine take_at rfl ?_)
  | (with_reducible refine wm_call ?_)
  | (with_reducible refine wm_callX (by assumption) ?_)
  | (with_reducible refine wm_callX lets0 ?_)
  | (with_reducible refine wm_make ?_)
  | (with_reducible refine wm_lcL ?_)
  | (with_reducible refine wm_lcSq ?_)
  | (with_reducible refine wm_lcT ?_)
  | (with_reducible refine wm_lcR ?_)
  | (with_reducible refine wm_lcS ?_)
  | (with_reducible refine we_wm (te := tLst _) ?_)
  | (with_reducible refine we_wm (te := tLc _ _ _ _ _) ?_)
  | (refine take_at rfl ?_)
  | (with_reducible refine known_at ?_)
  | (with_reducible refine we_wm (te := tCall _ _ _ _) ?_)
  | (with_reducible refine we_wm (te := tCallS _ _ _) ?_)
  | (with_reducible refine ws_asg (te := tCallS _ _ _) ?_)
  | (with_reducible refine ws_asg (te := tMeth _ _ _ _ _ _ _) ?_)
  | (with_reducible refine ws_drop (te := tMeth _ _ _ _ _ _ _) ?_)
  | (with_reducible refine ws_drop (te := tCallS _ _ _) ?_)
  | (with_reducible refine we_wm (te := tSl _ _ _ _) ?_)
  | (with_reducible refine we_wm (te := tOp rCat _ _) ?_)
  | (with_reducible refine we_wm (te := tCB _ _) ?_)
  | (with_reducible refine we_wm (te := tM1 _ _ _) ?_)
  | (with_reducible refine ws_ret (te := tLst _) ?_)
  | (with_reducible refine ws_ret (te := tLc _ _ _ _ _) ?_)
  | (refine ws_retE (take_at rfl ?_))
  | (with_reducible refine ws_ret (te := tCall _ _ _ _) ?_)
  | (with_reducible refine ws_ret (te := tMake _ _ _ _ _) ?_)
  | (with_reducible refine ws_ret (te := tMeth _ _ _ _ _ _ _) ?_)
  | (with_reducible refine ws_ret (te := tSl _ _ _ _) ?_)
  | (with_reducible refine ws_ret (te := tOp rCat _ _) ?_)
  | (with_reducible refine ws_ret (wm_list ?_))
  | (with_reducible refine ws_retE ?_)
  | (with_reducible refine ws_asg (te := tLst _) ?_)
  | (with_reducible refine ws_asg (te := tLc _ _ _ _ _) ?_)
  | (refine ws_asgE (take_at rfl ?_))
  | (with_reducible refine ws_asg (te := tCall _ _ _ _) ?_)
  | (with_reducible refine ws_asg (te := tMake _ _ _ _ _) ?_)
  | (with_reducible refine ws_asg (te := tSl _ _ _ _) ?_)
  | (with_reducible refine ws_asg (te := tOp rCat _ _) ?_)
  | (with_reducible refine ws_asg (te := tDNewK) ?_)
  | (with_reducible refine ws_asg (wm_list ?_))
  | (with_reducible refine ws_asgE ?_)
  | ((with_reducible show (_ : Int) ≠ 0 ∧ _); (refine ⟨by decide, ?_⟩))
  | ((with_reducible show _ ≤ _ ∧ _); (refine ⟨(by walk_at "side"), ?_⟩))
  | ((with_reducible show _ < _ ∧ _); (refine ⟨(by walk_at "side"), ?_⟩))
  | ((with_reducible show (_ → _) ∧ (_ → _)); first | (refine ⟨fun hb => absurd hb (by walk_at "no"), fun _ => ?_⟩) | (refine ⟨fun _ => ?_, fun hb => absurd hb (by walk_at "no")⟩))
  | ((with_reducible show ∀ p : Addr, ∃ d, Frz (ml p _) d ∧ _); (intro p))
  | ((with_reducible show (slots _).Nodup ∧ _); (refine ⟨by simp [slots], ?_⟩))
  | (refine ⟨_, frz_ml, ?_⟩)
  | (refine ⟨_, frz_fz, ?_⟩)
  | (refine ⟨_, rfl, ?_⟩)
  | (with_reducible refine ⟨_, _, rfl, (by assumption), ?_⟩)
  | (with_reducible refine ⟨_, _, rfl, atI_0, ?_⟩)
  | (with_reducible refine ⟨_, _, rfl, atI_1, ?_⟩)
  | (refine ⟨_, _, rfl, rfl, ?_⟩)
  | (refine ⟨rfl, ?_⟩)
  | (refine Or.inl ⟨_, rfl, ?_⟩)
  | (refine Or.inr ⟨_, rfl, ?_⟩)
  | (refine ⟨_, Or.inl rfl, ?_⟩)
  | (refine ⟨_, Or.inr rfl, ?_⟩)
  | (dsimp only [List.set_cons_zero, List.set_cons_succ]))
local macro_rules | `(tactic| walk_at "z") => `(tactic| (repeat (walk_at "z1"; try dsimp only)))
section
variable {P : Program} {w : World} {K : PySem.W.Frag} {mg : Str → Option Value} {base : Heap}
def sp_law_copied : FSp := fun args Q => ∃ rs : List DV.Row, args = [fz (rowsD rs)] ∧ rs.length ≤ 1000 ∧ (∀ r ∈ rs, (rBody r).length ≤ 1000) ∧ ∀ q, Q (ml q (rs.map rowD)) args
theorem ok_law_copied (T : Txt K mg) : FnOk P w K mg base CX0 1 T.law_copied.a T.law_copied.fd ["_law_rows_here"] (spF sp_law_copied) := by
  refine fok T.law_copied.F sc_law_copied (fun args Q h => ?_) (fun cdv A outer s H E hr args Q h => ?_)
  · obtain ⟨rs, rfl, _⟩ := h
    rfl
  · obtain ⟨rs, rfl, hl, hb, q⟩ := h
    refine ⟨_, (pss_one (ps_ret (pe_lc (own := [("_law_row_here", 1)]) (g := gName 1) (tt := tYes) rfl sc_law_copied.nd (pi_list (pv 0)) (blkOk_by (own := [("_law_row_here", 1)]) (N := N_law_copied) (sc := defScope s_law_copied) (by decide +kernel)) (fun _ _ _ _ _ => pg_name (i := 1) sc_law_copied.nd rfl (Or.inl rfl)) (fun _ _ _ _ _ => pts_nil) (fun _ _ _ _ _ => (pe_callTy (T := "tuple") (show CallR _ _ (tupR K) from call_tuple_of) (by rfl) T.b_tuple (by decide +kernel) (pa_cons (pe_lc (own := [("_law_part", 2)]) (g := gName 2) (tt := tYes) rfl sc_law_copied.nd (show PI _ _ _ (iTup K _) from (pi_tup (pv 1))) (blkOk_in (own := [("_law_part", 2)]) (N := N_law_copied) (by decide +kernel)) (fun _ _ _ _ _ => pg_name (i := 2) sc_law_copied.nd rfl (Or.inl rfl)) (fun _ _ _ _ _ => pts_nil) (fun _ _ _ _ _ => (pe_ifExp (pt_val (pe_callB (show CallR _ _ (rIsi K) from call_isi) (by rfl) T.b_isinstance (by decide +kernel) (pa_cons (pv 2) (pa_cons (pe_bltn (v := .ty "list") (u := .type "list") (by rfl) T.b_list (by decide +kernel) rfl) pa_nil)))) (pe_callTy (T := "list") (show CallR _ _ (listR K) from call_list_of) (by rfl) T.b_list (by decide +kernel) (pa_cons (pv 2) pa_nil)) (pv 2)))) pa_nil)))))), ?_⟩
    show WS _ [some (fz _), none, none] _
    walk_at "w"
    refine lcI_mapA rowD rowD (by decide) rfl (by omega) rfl (fun r hr => ?_) fun p => fin1 (q p)
    walk_at "w"
    have part : ∀ (X : Own → Es → Prop) (xs : List PyData), xs.length ≤ 1000 → (∀ x ∈ xs, (∃ s, x = .str s) ∨ ∃ b, x = strsD b) → (∀ p, X (ml p xs) [some (fz (rowsD rs)), some (fz (rowD r)), none]) →
        LcI tYes (tIf (tB (tCB (rIsi K) (tCons (tVar 2) (tCons (tC (.ty "list")) tNil)))) (tCB (listR K) (tCons (tVar 2) tNil)) (tVar 2)) 2 [2] xs [some (fz (rowsD rs)), some (fz (rowD r)), none] X := fun X xs lx hx hX => by
      refine lcI_map' id (by decide) rfl (by omega) (fun x hxm => ?_) rfl fun p => by rw [List.map_id]; exact hX p
      rcases hx x hxm with ⟨s, rfl⟩ | ⟨b, rfl⟩
      · walk_at "w"
      · walk_at "w"
    cases r with
    | g w =>
      walk_at "w"
      exact part _ _ (by simp) (fun x hx => .inl (by simp at hx; rcases hx with h | h <;> exact ⟨_, h⟩)) fun p => ⟨_, frz_ml, _, .inl rfl, rfl, rfl⟩
    | r w b =>
      walk_at "w"
      exact part _ _ (by simp) (fun x hx => by
        simp at hx
        rcases hx with h | h | h
        · exact .inl ⟨_, h⟩
        · exact .inl ⟨_, h⟩
        · exact .inr ⟨_, h⟩) fun p => ⟨_, frz_ml, _, .inl rfl, rfl, rfl⟩
    | c b =>
      walk_at "w"
      exact part _ _ (by simp) (fun x hx => by
        simp at hx
        rcases hx with h | h
        · exact .inl ⟨_, h⟩
        · exact .inr ⟨_, h⟩) fun p => ⟨_, frz_ml, _, .inl rfl, rfl, rfl⟩
theorem copied_at [B : Bs] {es : Es} {te : TE} {EE : XK} {Q : Own → Es → Prop} (h : WE te es fun d e => ∃ rs, d = rowsD rs ∧ rs.length ≤ 1000 ∧ (∀ r ∈ rs, (rBody r).length ≤ 1000) ∧ ∀ q, Q (ml q (rs.map rowD)) e) : WM (tCall (spF sp_law_copied) [] EE (tCons te tNil)) es Q :=
  wm_call (wa_cons (we_mono h fun d e ⟨rs, ed, l1, l2, q⟩ => wa_nil ⟨[fz d], rfl, by simp [slots], rs, by rw [ed], l1, l2, q⟩))

end
end

section
local macro_rules | `(tactic| walk_at "no") => `(tactic| first | (with_reducible exact Bool.false_ne_true) | (with_reducible exact fun z => Bool.false_ne_true z.symm) | (simp only [decide_eq_true_eq, decide_eq_false_iff_not]; omega) | (decide +kernel) | (simp; done) | (simp; omega) | (exact Bool.false_ne_true) | (exact fun z => Bool.false_ne_true z.symm))
local macro_rules | `(tactic| walk_at "side") => `(tactic| first | omega | assumption | (refine Nat.le_trans (m := 100000) ?_ (by decide); first | omega | (simp <;> omega)) | (simp <;> omega))
local macro_rules | `(tactic| walk_at "w1") => `(tactic| first
  | (with_reducible refine ws_seq ?_)
  | (with_reducible refine ws_if ?_)
  | (with_reducible refine ws_nx ?_)
  | (with_reducible refine ws_retN ?_)
  | ((with_reducible show WE (tVar _) _ _); (refine we_var rfl ?_))
  | (with_reducible refine we_int ?_)
  | (with_reducible refine we_str ?_)
  | (with_reducible refine we_bl ?_)
  | (with_reducible refine we_non ?_)
  | (with_reducible refine wt_test ?_)
  | (with_reducible refine wt_B ?_)
  | (with_reducible refine wt_yes ?_)
  | (with_reducible refine wt_and ?_)
  | (with_reducible refine wt_or ?_)
  | (with_reducible refine wt_not ?_)
  | (with_reducible refine we_andV ?_)
  | (with_reducible refine we_orV ?_)
  | (with_reducible refine we_notV ?_)
  | (with_reducible refine we_if ?_)
  | (with_reducible refine we_rB0 ?_)
  | (with_reducible refine we_rI0 ?_)
  | (with_reducible refine we_rI ?_)
  | (with_reducible refine we_eq ?_)
  | (with_reducible refine we_din ?_)
  | (with_reducible refine we_dnotin ?_)
  | (with_reducible refine we_ne ?_)
  | (with_reducible refine we_isN ?_)
  | (with_reducible refine we_notN ?_)
  | (with_reducible refine we_addS ?_)
  | (with_reducible refine we_inC ?_)
  | (with_reducible refine we_inS ?_)
  | (with_reducible refine we_lenS ?_)
  | (with_reducible refine we_all ?_)
  | (with_reducible refine we_any ?_)
  | (with_reducible refine we_join ?_)
  | (with_reducible refine we_tup ?_)
  | (with_reducible refine we_ixL ?_)
  | (with_reducible refine we_ixT ?_)
  | (with_reducible refine we_ixS ?_)
  | (with_reducible refine we_len ?_)
  | (with_reducible refine wa_nil ?_)
  | (with_reducible refine wa_cons ?_)
  | (with_reducible refine wo_none ?_)
  | (with_reducible refine wo_some ?_)
  | (with_reducible refine wm_lst ?_)
  | (with_reducible refine wm_cat ?_)
  | (with_reducible refine wm_slL ?_)
  | (with_reducible refine wm_sortSet ?_)
  | (with_reducible refine we_isi ?_)
  | (with_reducible refine we_int1 ?_)
  | (with_reducible refine we_tupOf ?_)
  | (with_reducible refine we_slT ?_)
  | (with_reducible refine we_min ?_)
  | (with_reducible refine we_eqD ?_)
  | (with_reducible refine we_neD ?_)
  | (with_reducible refine we_ixs ?_)
  | (with_reducible refine we_neg ?_)
  | (with_reducible refine wm_list ?_)
  | (with_reducible refine wm_split ?_)
  | (with_reducible refine wm_dnew ?_)
  | (with_reducible refine take_at rfl ?_)
  | (with_reducible refine wm_call ?_)
  | (with_reducible refine wm_callX (by assumption) ?_)
  | (with_reducible refine wm_callX lets0 ?_)
  | (with_reducible refine wm_make ?_)
  | (with_reducible refine wm_lcL ?_)
  | (with_reducible refine wm_lcSq ?_)
  | (with_reducible refine wm_lcT ?_)
  | (with_reducible refine wm_lcR ?_)
  | (with_reducible refine wm_lcS ?_)
  | (with_reducible refine we_wm (te := tLst _) ?_)
  | (with_reducible refine we_wm (te := tLc _ _ _ _ _) ?_)
  | (refine take_at rfl ?_)
  | (with_reducible refine known_at ?_)
  | (with_reducible refine we_wm (te := tCall _ _ _ _) ?_)
  | (with_reducible refine we_wm (te := tCallS _ _ _) ?_)
  | (with_reducible refine we_wm (te := tSl _ _ _ _) ?_)
  | (with_reducible refine we_wm (te := tOp rCat _ _) ?_)
  | (with_reducible refine we_wm (te := tCB _ _) ?_)
  | (with_reducible refine we_wm (te := tM1 _ _ _) ?_)
  | (with_reducible refine ws_ret (te := tLst _) ?_)
  | (with_reducible refine ws_ret (te := tLc _ _ _ _ _) ?_)
  | (refine ws_retE (take_at rfl ?_))
  | (with_reducible refine ws_ret (te := tCall _ _ _ _) ?_)
  | (with_reducible refine ws_ret (te := tMake _ _ _ _ _) ?_)
  | (with_reducible refine ws_ret (te := tMeth _ _ _ _ _ _ _) ?_)
  | (with_reducible refine ws_ret (te := tSl _ _ _ _) ?_)
  | (with_reducible refine ws_ret (te := tOp rCat _ _) ?_)
  | (with_reducible refine ws_ret (wm_list ?_))
  | (with_reducible refine ws_retE ?_)
  | (with_reducible refine ws_asg (te := tLst _) ?_)
  | (with_reducible refine ws_asg (te := tLc _ _ _ _ _) ?_)
  | (refine ws_asgE (take_at rfl ?_))
  | (with_reducible refine ws_asg (te := tCall _ _ _ _) ?_)
  | (with_reducible refine ws_asg (te := tMake _ _ _ _ _) ?_)
  | (with_reducible refine ws_asg (te := tSl _ _ _ _) ?_)
  | (with_reducible refine ws_asg (te := tOp rCat _ _) ?_)
  | (with_reducible refine ws_asg (te := tDNewK) ?_)
  | (with_reducible refine ws_asg (wm_list ?_))
  | (with_reducible refine ws_asgE ?_)
  | ((with_reducible show _ ≤ _ ∧ _); (refine ⟨(by walk_at "side"), ?_⟩))
  | ((with_reducible show _ < _ ∧ _); (refine ⟨(by walk_at "side"), ?_⟩))
  | ((with_reducible show (_ → _) ∧ (_ → _)); first | (refine ⟨fun hb => absurd hb (by walk_at "no"), fun _ => ?_⟩) | (refine ⟨fun _ => ?_, fun hb => absurd hb (by walk_at "no")⟩))
  | ((with_reducible show ∀ p : Addr, ∃ d, Frz (ml p _) d ∧ _); (intro p))
  | ((with_reducible show (slots _).Nodup ∧ _); (refine ⟨by simp [slots], ?_⟩))
  | (refine ⟨_, frz_ml, ?_⟩)
  | (refine ⟨_, frz_fz, ?_⟩)
  | (refine ⟨_, rfl, ?_⟩)
  | (with_reducible refine ⟨_, _, rfl, atI_0, ?_⟩)
  | (with_reducible refine ⟨_, _, rfl, atI_1, ?_⟩)
  | (refine ⟨_, _, rfl, rfl, ?_⟩)
  | (refine ⟨rfl, ?_⟩)
  | (refine Or.inl ⟨_, rfl, ?_⟩)
  | (refine Or.inr ⟨_, rfl, ?_⟩)
  | (refine ⟨_, Or.inl rfl, ?_⟩)
  | (refine ⟨_, Or.inr rfl, ?_⟩)
  | (dsimp only [List.set_cons_zero, List.set_cons_succ]))
local macro_rules | `(tactic| walk_at "w") => `(tactic| (repeat (walk_at "w1"; try dsimp only)))
local macro_rules | `(tactic| walk_at "z1") => `(tactic| first
  | (with_reducible refine ws_seq ?_)
  | (with_reducible refine ws_if ?_)
  | (with_reducible refine ws_nx ?_)
  | ((with_reducible show WE (tCall _ _ _ _) _ _); first | (with_reducible refine walked_at ?_) | (refine take_at rfl ?_) | (with_reducible refine known_at ?_) | (refine words_at rfl ?_) | (refine row_at rfl ?_) | (refine number_at rfl ?_) | (with_reducible refine is_way_at ?_) | (with_reducible refine law_walks_at ?_) | (refine right_at rfl ?_) | (with_reducible refine we_wm (copied_at ?_)) | (with_reducible refine we_wm (grounds_at ?_)) | (refine we_wm (taken_at rfl ?_)) | (refine we_wm (rows_at rfl ?_)))
  | ((with_reducible show WM (tCall _ _ _ _) _ _); first | (refine wm_we (take_at rfl ?_)) | (refine wm_we (words_at rfl ?_)) | (refine wm_we (row_at rfl ?_)) | (refine wm_we (number_at rfl ?_)) | (with_reducible refine fired_at ?_) | (refine spoilt_at rfl ?_) | (refine wm_we (right_at rfl ?_)) | (refine begun_at rfl (by assumption) ?_) | (refine rows_at rfl ?_) | (with_reducible refine copied_at ?_) | (with_reducible refine grounds_at ?_) | (refine taken_at rfl ?_))
  | ((with_reducible show WM (tCallS _ _ _) _ _); first | (refine way_at rfl ?_))
  | ((with_reducible show WM (tMake _ _ _ _ _) _ _); first | (with_reducible refine book_at ?_))
  | ((with_reducible show WM (tMeth _ _ _ _ _ _ _) _ _); first | (refine tell_at rfl ?_))
  | (with_reducible refine ws_retN ?_)
  | ((with_reducible show WE (tVar _) _ _); first | (refine we_var rfl ?_) | (refine we_varF rfl ?_) | (refine we_varFd rfl ?_))
  | (with_reducible refine we_int ?_)
  | (with_reducible refine we_str ?_)
  | (with_reducible refine we_bl ?_)
  | (with_reducible refine we_non ?_)
  | (with_reducible refine wt_test ?_)
  | (with_reducible refine wt_B ?_)
  | (with_reducible refine wt_yes ?_)
  | (with_reducible refine wt_and ?_)
  | (with_reducible refine wt_or ?_)
  | (with_reducible refine wt_not ?_)
  | (with_reducible refine we_andV ?_)
  | (with_reducible refine we_orV ?_)
  | (with_reducible refine we_notV ?_)
  | (with_reducible refine we_if ?_)
  | (with_reducible refine we_rB0 ?_)
  | (with_reducible refine we_rI0 ?_)
  | (with_reducible refine we_rI ?_)
  | (with_reducible refine we_eq ?_)
  | (with_reducible refine we_din ?_)
  | (with_reducible refine we_dnotin ?_)
  | (with_reducible refine we_ne ?_)
  | ((with_reducible show WE (tOp _ (tVar _) (tC .non)) _ _); first | (refine we_isNM rfl ?_) | (refine we_notNM rfl ?_))
  | (with_reducible refine we_isN ?_)
  | (with_reducible refine we_notN ?_)
  | (with_reducible refine we_addS ?_)
  | (with_reducible refine we_inC ?_)
  | (with_reducible refine we_inS ?_)
  | (with_reducible refine we_lenS ?_)
  | (with_reducible refine we_all ?_)
  | (with_reducible refine we_any ?_)
  | (with_reducible refine we_join ?_)
  | (with_reducible refine we_tup ?_)
  | (with_reducible refine we_ixL ?_)
  | (with_reducible refine we_ixT ?_)
  | (with_reducible refine we_ixS ?_)
  | (with_reducible refine we_len ?_)
  | (with_reducible refine wa_nil ?_)
  | ((with_reducible show WA (tCons (tVar _) _) _ _); first | (refine wa_cons (we_var rfl ?_)) | (refine wa_slot (r := bk _ _ _ _) rfl ?_) | (refine wa_slot (r := bx _) rfl ?_) | (refine wa_slot (r := md _ _) rfl ?_) | (refine wa_cons (we_varF rfl ?_)))
  | (with_reducible refine wa_cons ?_)
  | (with_reducible refine wo_none ?_)
  | (with_reducible refine wo_some ?_)
  | (with_reducible refine wm_lst ?_)
  | (with_reducible refine wm_cat ?_)
  | (with_reducible refine wm_slL ?_)
  | (with_reducible refine wm_sortSet ?_)
  | (with_reducible refine we_isi ?_)
  | (with_reducible refine we_int1 ?_)
  | (with_reducible refine we_tupOf ?_)
  | (with_reducible refine we_slT ?_)
  | (with_reducible refine we_min ?_)
  | (with_reducible refine we_eqD ?_)
  | (with_reducible refine we_neD ?_)
  | (with_reducible refine we_ixs ?_)
  | (with_reducible refine we_neg ?_)
  | (with_reducible refine wm_list ?_)
  | (with_reducible refine wm_split ?_)
  | (with_reducible refine wm_dnew ?_)
  | (with_reducible refine take_at rfl ?_)
  | (with_reducible refine wm_call ?_)
  | (with_reducible refine wm_callX (by assumption) ?_)
  | (with_reducible refine wm_callX lets0 ?_)
  | (with_reducible refine wm_make ?_)
  | (with_reducible refine wm_lcL ?_)
  | (with_reducible refine wm_lcSq ?_)
  | (with_reducible refine wm_lcT ?_)
  | (with_reducible refine wm_lcR ?_)
  | (with_reducible refine wm_lcS ?_)
  | (with_reducible refine we_wm (te := tLst _) ?_)
  | (with_reducible refine we_wm (te := tLc _ _ _ _ _) ?_)
  | (refine take_at rfl ?_)
  | (with_reducible refine known_at ?_)
  | (with_reducible refine we_wm (te := tCall _ _ _ _) ?_)
  | (with_reducible refine we_wm (te := tCallS _ _ _) ?_)
  | (with_reducible refine ws_asg (te := tCallS _ _ _) ?_)
  | (with_reducible refine ws_asg (te := tMeth _ _ _ _ _ _ _) ?_)
  | (with_reducible refine ws_drop (te := tMeth _ _ _ _ _ _ _) ?_)
  | (with_reducible refine ws_drop (te := tCallS _ _ _) ?_)
  | (with_reducible refine we_wm (te := tSl _ _ _ _) ?_)
  | (with_reducible refine we_wm (te := tOp rCat _ _) ?_)
  | (with_reducible refine we_wm (te := tCB _ _) ?_)
  | (with_reducible refine we_wm (te := tM1 _ _ _) ?_)
  | (with_reducible refine ws_ret (te := tLst _) ?_)
  | (with_reducible refine ws_ret (te := tLc _ _ _ _ _) ?_)
  | (refine ws_retE (take_at rfl ?_))
  | (with_reducible refine ws_ret (te := tCall _ _ _ _) ?_)
  | (with_reducible refine ws_ret (te := tMake _ _ _ _ _) ?_)
  | (with_reducible refine ws_ret (te := tMeth _ _ _ _ _ _ _) ?_)
  | (with_reducible refine ws_ret (te := tSl _ _ _ _) ?_)
  | (with_reducible refine ws_ret (te := tOp rCat _ _) ?_)
  | (with_reducible refine ws_ret (wm_list ?_))
  | (with_reducible refine ws_retE ?_)
  | (with_reducible refine ws_asg (te := tLst _) ?_)
  | (with_reducible refine ws_asg (te := tLc _ _ _ _ _) ?_)
  | (refine ws_asgE (take_at rfl ?_))
  | (with_reducible refine ws_asg (te := tCall _ _ _ _) ?_)
  | (with_reducible refine ws_asg (te := tMake _ _ _ _ _) ?_)
  | (with_reducible refine ws_asg (te := tSl _ _ _ _) ?_)
  | (with_reducible refine ws_asg (te := tOp rCat _ _) ?_)
  | (with_reducible refine ws_asg (te := tDNewK) ?_)
  | (with_reducible refine ws_asg (wm_list ?_))
  | (with_reducible refine ws_asgE ?_)
  | ((with_reducible show (_ : Int) ≠ 0 ∧ _); (refine ⟨by decide, ?_⟩))
  | ((with_reducible show _ ≤ _ ∧ _); (refine ⟨(by walk_at "side"), ?_⟩))
  | ((with_reducible show _ < _ ∧ _); (refine ⟨(by walk_at "side"), ?_⟩))
  | ((with_reducible show (_ → _) ∧ (_ → _)); first | (refine ⟨fun hb => absurd hb (by walk_at "no"), fun _ => ?_⟩) | (refine ⟨fun _ => ?_, fun hb => absurd hb (by walk_at "no")⟩))
  | ((with_reducible show ∀ p : Addr, ∃ d, Frz (ml p _) d ∧ _); (intro p))
  | ((with_reducible show (slots _).Nodup ∧ _); (refine ⟨by simp [slots], ?_⟩))
  | (refine ⟨_, frz_ml, ?_⟩)
  | (refine ⟨_, frz_fz, ?_⟩)
  | (refine ⟨_, rfl, ?_⟩)
  | (with_reducible refine ⟨_, _, rfl, (by assumption), ?_⟩)
  | (with_reducible refine ⟨_, _, rfl, atI_0, ?_⟩)
  | (with_reducible refine ⟨_, _, rfl, atI_1, ?_⟩)
  | (refine ⟨_, _, rfl, rfl, ?_⟩)
  | (refine ⟨rfl, ?_⟩)
  | (refine Or.inl ⟨_, rfl, ?_⟩)
  | (refine Or.inr ⟨_, rfl, ?_⟩)
  | (refine ⟨_, Or.inl rfl, ?_⟩)
  | (refine ⟨_, Or.inr rfl, ?_⟩)
  | (dsimp only [List.set_cons_zero, List.set_cons_succ]))
local macro_rules | `(tactic| walk_at "z") => `(tactic| (repeat (walk_at "z1"; try dsimp only)))
section
variable {P : Program} {w : World} {K : PySem.W.Frag} {mg : Str → Option Value} {base : Heap}
def sp_law_grounds : FSp := fun args Q => ∃ rs : List DV.Row, args = [fz (rowsD rs)] ∧ rs.length ≤ 1000 ∧ ∀ p, Q (ml p ((gsOf rs).map .str)) args
theorem ok_law_grounds (T : Txt K mg) : FnOk P w K mg base CX0 1 T.law_grounds.a T.law_grounds.fd ["_law_rows_here"] (spF sp_law_grounds) := by
  refine fok T.law_grounds.F sc_law_grounds (fun args Q h => ?_) (fun cdv A outer s H E hr args Q h => ?_)
  · obtain ⟨rs, rfl, _⟩ := h
    rfl
  · obtain ⟨rs, rfl, hl, q⟩ := h
    refine ⟨_, (pss_one (ps_ret (pe_callB (cr_sortedSS rfl) (by rfl) T.b_sorted (by decide +kernel) (pa_cons (pe_callTy (T := "set") (cr_setS rfl) (by rfl) T.b_set (by decide +kernel) (pa_cons (pe_lc (own := [("_law_row_here", 1)]) (g := gName 1) rfl sc_law_grounds.nd (pi_list (pv 0)) (blkOk_by (own := [("_law_row_here", 1)]) (N := N_law_grounds) (sc := defScope s_law_grounds) (by decide +kernel)) (fun _ _ _ _ _ => pg_name (i := 1) sc_law_grounds.nd rfl (Or.inl rfl)) (fun _ _ _ _ _ => pts_one (pt_cmpR op_eq (pe_ix (show IxR _ (rIxT K) from ix_tup) (pv 1) pe_int (fun _ _ => rfl)) pe_str (nomark _))) (fun _ _ _ _ _ => (pe_ix (show IxR _ (rIxT K) from ix_tup) (pv 1) pe_int (fun _ _ => rfl)))) pa_nil)) pa_nil)))), ?_⟩
    show WS _ [some (fz _), none] _
    refine ws_ret (wm_sortSet (we_wm (wm_lcL (we_var (i := 0) rfl ⟨_, rfl, lcI_fnA rowD (fun r => (rGround r).isSome) (fun r => .str ((rGround r).getD Str.empty)) (by decide) rfl (by omega) rfl (fun r hr => ?_) (fun r hr hg => ?_) fun p => ?_⟩))))
    · cases r <;> walk_at "w"
    · cases r with
      | g w => walk_at "w"
      | r w b => cases hg
      | c b => cases hg
    · exact ⟨_, frz_ml, groundsOf rs, by rw [grounds_map], Nat.le_trans (List.length_filterMap_le _ _) hl, fun p => fin1 (q p)⟩
theorem grounds_at [B : Bs] {es : Es} {te : TE} {EE : XK} {Q : Own → Es → Prop} (h : WE te es fun d e => ∃ rs, d = rowsD rs ∧ rs.length ≤ 1000 ∧ ∀ q, Q (ml q ((gsOf rs).map .str)) e) : WM (tCall (spF sp_law_grounds) [] EE (tCons te tNil)) es Q :=
  wm_call (wa_cons (we_mono h fun d e ⟨rs, ed, l1, q⟩ => wa_nil ⟨[fz d], rfl, by simp [slots], rs, by rw [ed], l1, q⟩))

end
end

section
local macro_rules | `(tactic| walk_at "no") => `(tactic| first | (with_reducible exact Bool.false_ne_true) | (with_reducible exact fun z => Bool.false_ne_true z.symm) | (simp only [decide_eq_true_eq, decide_eq_false_iff_not]; omega) | (decide +kernel) | (simp; done) | (simp; omega) | (exact Bool.false_ne_true) | (exact fun z => Bool.false_ne_true z.symm))
local macro_rules | `(tactic| walk_at "side") => `(tactic| first | omega | assumption | (refine Nat.le_trans (m := 100000) ?_ (by decide); first | omega | (simp <;> omega)) | (simp <;> omega))
local macro_rules | `(tactic| walk_at "w1") => `(tactic| first
  | (with_reducible refine ws_seq ?_)
  | (with_reducible refine ws_if ?_)
  | (with_reducible refine ws_nx ?_)
  | (with_reducible refine ws_retN ?_)
  | ((with_reducible show WE (tVar _) _ _); (refine we_var rfl ?_))
  | (with_reducible refine we_int ?_)
  | (with_reducible refine we_str ?_)
  | (with_reducible refine we_bl ?_)
  | (with_reducible refine we_non ?_)
  | (with_reducible refine wt_test ?_)
  | (with_reducible refine wt_B ?_)
  | (with_reducible refine wt_yes ?_)
  | (with_reducible refine wt_and ?_)
  | (with_reducible refine wt_or ?_)
  | (with_reducible refine wt_not ?_)
  | (with_reducible refine we_andV ?_)
  | (with_reducible refine we_orV ?_)
  | (with_reducible refine we_notV ?_)
  | (with_reducible refine we_if ?_)
  | (with_reducible refine we_rB0 ?_)
  | (with_reducible refine we_rI0 ?_)
  | (with_reducible refine we_rI ?_)
  | (with_reducible refine we_eq ?_)
  | (with_reducible refine we_din ?_)
  | (with_reducible refine we_dnotin ?_)
  | (with_reducible refine we_ne ?_)
  | (with_reducible refine we_isN ?_)
  | (with_reducible refine we_notN ?_)
  | (with_reducible refine we_addS ?_)
  | (with_reducible refine we_inC ?_)
  | (with_reducible refine we_inS ?_)
  | (with_reducible refine we_lenS ?_)
  | (with_reducible refine we_all ?_)
  | (with_reducible refine we_any ?_)
  | (with_reducible refine we_join ?_)
  | (with_reducible refine we_tup ?_)
  | (with_reducible refine we_ixL ?_)
  | (with_reducible refine we_ixT ?_)
  | (with_reducible refine we_ixS ?_)
  | (with_reducible refine we_len ?_)
  | (with_reducible refine wa_nil ?_)
  | (with_reducible refine wa_cons ?_)
  | (with_reducible refine wo_none ?_)
  | (with_reducible refine wo_some ?_)
  | (with_reducible refine wm_lst ?_)
  | (with_reducible refine wm_cat ?_)
  | (with_reducible refine wm_slL ?_)
  | (with_reducible refine wm_sortSet ?_)
  | (with_reducible refine we_isi ?_)
  | (with_reducible refine we_int1 ?_)
  | (with_reducible refine we_tupOf ?_)
  | (with_reducible refine we_slT ?_)
  | (with_reducible refine we_min ?_)
  | (with_reducible refine we_eqD ?_)
  | (with_reducible refine we_neD ?_)
  | (with_reducible refine we_ixs ?_)
  | (with_reducible refine we_neg ?_)
  | (with_reducible refine wm_list ?_)
  | (with_reducible refine wm_split ?_)
  | (with_reducible refine wm_dnew ?_)
  | (with_reducible refine take_at rfl ?_)
  | (with_reducible refine wm_call ?_)
  | (with_reducible refine wm_callX (by assumption) ?_)
  | (with_reducible refine wm_callX lets0 ?_)
  | (with_reducible refine wm_make ?_)
  | (with_reducible refine wm_lcL ?_)
  | (with_reducible refine wm_lcSq ?_)
  | (with_reducible refine wm_lcT ?_)
  | (with_reducible refine wm_lcR ?_)
  | (with_reducible refine wm_lcS ?_)
  | (with_reducible refine we_wm (te := tLst _) ?_)
  | (with_reducible refine we_wm (te := tLc _ _ _ _ _) ?_)
  | (refine take_at rfl ?_)
  | (with_reducible refine known_at ?_)
  | (with_reducible refine we_wm (te := tCall _ _ _ _) ?_)
  | (with_reducible refine we_wm (te := tCallS _ _ _) ?_)
  | (with_reducible refine we_wm (te := tSl _ _ _ _) ?_)
  | (with_reducible refine we_wm (te := tOp rCat _ _) ?_)
  | (with_reducible refine we_wm (te := tCB _ _) ?_)
  | (with_reducible refine we_wm (te := tM1 _ _ _) ?_)
  | (with_reducible refine ws_ret (te := tLst _) ?_)
  | (with_reducible refine ws_ret (te := tLc _ _ _ _ _) ?_)
  | (refine ws_retE (take_at rfl ?_))
  | (with_reducible refine ws_ret (te := tCall _ _ _ _) ?_)
  | (with_reducible refine ws_ret (te := tMake _ _ _ _ _) ?_)
  | (with_reducible refine ws_ret (te := tMeth _ _ _ _ _ _ _) ?_)
  | (with_reducible refine ws_ret (te := tSl _ _ _ _) ?_)
  | (with_reducible refine ws_ret (te := tOp rCat _ _) ?_)
  | (with_reducible refine ws_ret (wm_list ?_))
  | (with_reducible refine ws_retE ?_)
  | (with_reducible refine ws_asg (te := tLst _) ?_)
  | (with_reducible refine ws_asg (te := tLc _ _ _ _ _) ?_)
  | (refine ws_asgE (take_at rfl ?_))
  | (with_reducible refine ws_asg (te := tCall _ _ _ _) ?_)
  | (with_reducible refine ws_asg (te := tMake _ _ _ _ _) ?_)
  | (with_reducible refine ws_asg (te := tSl _ _ _ _) ?_)
  | (with_reducible refine ws_asg (te := tOp rCat _ _) ?_)
  | (with_reducible refine ws_asg (te := tDNewK) ?_)
  | (with_reducible refine ws_asg (wm_list ?_))
  | (with_reducible refine ws_asgE ?_)
  | ((with_reducible show _ ≤ _ ∧ _); (refine ⟨(by walk_at "side"), ?_⟩))
  | ((with_reducible show _ < _ ∧ _); (refine ⟨(by walk_at "side"), ?_⟩))
  | ((with_reducible show (_ → _) ∧ (_ → _)); first | (refine ⟨fun hb => absurd hb (by walk_at "no"), fun _ => ?_⟩) | (refine ⟨fun _ => ?_, fun hb => absurd hb (by walk_at "no")⟩))
  | ((with_reducible show ∀ p : Addr, ∃ d, Frz (ml p _) d ∧ _); (intro p))
  | ((with_reducible show (slots _).Nodup ∧ _); (refine ⟨by simp [slots], ?_⟩))
  | (refine ⟨_, frz_ml, ?_⟩)
  | (refine ⟨_, frz_fz, ?_⟩)
  | (refine ⟨_, rfl, ?_⟩)
  | (with_reducible refine ⟨_, _, rfl, atI_0, ?_⟩)
  | (with_reducible refine ⟨_, _, rfl, atI_1, ?_⟩)
  | (refine ⟨_, _, rfl, rfl, ?_⟩)
  | (refine ⟨rfl, ?_⟩)
  | (refine Or.inl ⟨_, rfl, ?_⟩)
  | (refine Or.inr ⟨_, rfl, ?_⟩)
  | (refine ⟨_, Or.inl rfl, ?_⟩)
  | (refine ⟨_, Or.inr rfl, ?_⟩)
  | (dsimp only [List.set_cons_zero, List.set_cons_succ]))
local macro_rules | `(tactic| walk_at "w") => `(tactic| (repeat (walk_at "w1"; try dsimp only)))
local macro_rules | `(tactic| walk_at "z1") => `(tactic| first
  | (with_reducible refine ws_seq ?_)
  | (with_reducible refine ws_if ?_)
  | (with_reducible refine ws_nx ?_)
  | ((with_reducible show WE (tCall _ _ _ _) _ _); first | (with_reducible refine walked_at ?_) | (refine take_at rfl ?_) | (with_reducible refine known_at ?_) | (refine words_at rfl ?_) | (refine row_at rfl ?_) | (refine number_at rfl ?_) | (with_reducible refine is_way_at ?_) | (with_reducible refine law_walks_at ?_) | (refine right_at rfl ?_) | (with_reducible refine we_wm (copied_at ?_)) | (with_reducible refine we_wm (grounds_at ?_)) | (refine we_wm (taken_at rfl ?_)) | (refine we_wm (rows_at rfl ?_)))
  | ((with_reducible show WM (tCall _ _ _ _) _ _); first | (refine wm_we (take_at rfl ?_)) | (refine wm_we (words_at rfl ?_)) | (refine wm_we (row_at rfl ?_)) | (refine wm_we (number_at rfl ?_)) | (with_reducible refine fired_at ?_) | (refine spoilt_at rfl ?_) | (refine wm_we (right_at rfl ?_)) | (refine begun_at rfl (by assumption) ?_) | (refine rows_at rfl ?_) | (with_reducible refine copied_at ?_) | (with_reducible refine grounds_at ?_) | (refine taken_at rfl ?_))
  | ((with_reducible show WM (tCallS _ _ _) _ _); first | (refine way_at rfl ?_))
  | ((with_reducible show WM (tMake _ _ _ _ _) _ _); first | (with_reducible refine book_at ?_))
  | ((with_reducible show WM (tMeth _ _ _ _ _ _ _) _ _); first | (refine tell_at rfl ?_))
  | (with_reducible refine ws_retN ?_)
  | ((with_reducible show WE (tVar _) _ _); first | (refine we_var rfl ?_) | (refine we_varF rfl ?_) | (refine we_varFd rfl ?_))
  | (with_reducible refine we_int ?_)
  | (with_reducible refine we_str ?_)
  | (with_reducible refine we_bl ?_)
  | (with_reducible refine we_non ?_)
  | (with_reducible refine wt_test ?_)
  | (with_reducible refine wt_B ?_)
  | (with_reducible refine wt_yes ?_)
  | (with_reducible refine wt_and ?_)
  | (with_reducible refine wt_or ?_)
  | (with_reducible refine wt_not ?_)
  | (with_reducible refine we_andV ?_)
  | (with_reducible refine we_orV ?_)
  | (with_reducible refine we_notV ?_)
  | (with_reducible refine we_if ?_)
  | (with_reducible refine we_rB0 ?_)
  | (with_reducible refine we_rI0 ?_)
  | (with_reducible refine we_rI ?_)
  | (with_reducible refine we_eq ?_)
  | (with_reducible refine we_din ?_)
  | (with_reducible refine we_dnotin ?_)
  | (with_reducible refine we_ne ?_)
  | ((with_reducible show WE (tOp _ (tVar _) (tC .non)) _ _); first | (refine we_isNM rfl ?_) | (refine we_notNM rfl ?_))
  | (with_reducible refine we_isN ?_)
  | (with_reducible refine we_notN ?_)
  | (with_reducible refine we_addS ?_)
  | (with_reducible refine we_inC ?_)
  | (with_reducible refine we_inS ?_)
  | (with_reducible refine we_lenS ?_)
  | (with_reducible refine we_all ?_)
  | (with_reducible refine we_any ?_)
  | (with_reducible refine we_join ?_)
  | (with_reducible refine we_tup ?_)
  | (with_reducible refine we_ixL ?_)
  | (with_reducible refine we_ixT ?_)
  | (with_reducible refine we_ixS ?_)
  | (with_reducible refine we_len ?_)
  | (with_reducible refine wa_nil ?_)
  | ((with_reducible show WA (tCons (tVar _) _) _ _); first | (refine wa_cons (we_var rfl ?_)) | (refine wa_slot (r := bk _ _ _ _) rfl ?_) | (refine wa_slot (r := bx _) rfl ?_) | (refine wa_slot (r := md _ _) rfl ?_) | (refine wa_cons (we_varF rfl ?_)))
  | (with_reducible refine wa_cons ?_)
  | (with_reducible refine wo_none ?_)
  | (with_reducible refine wo_some ?_)
  | (with_reducible refine wm_lst ?_)
  | (with_reducible refine wm_cat ?_)
  | (with_reducible refine wm_slL ?_)
  | (with_reducible refine wm_sortSet ?_)
  | (with_reducible refine we_isi ?_)
  | (with_reducible refine we_int1 ?_)
  | (with_reducible refine we_tupOf ?_)
  | (with_reducible refine we_slT ?_)
  | (with_reducible refine we_min ?_)
  | (with_reducible refine we_eqD ?_)
  | (with_reducible refine we_neD ?_)
  | (with_reducible refine we_ixs ?_)
  | (with_reducible refine we_neg ?_)
  | (with_reducible refine wm_list ?_)
  | (with_reducible refine wm_split ?_)
  | (with_reducible refine wm_dnew ?_)
  | (with_reducible refine take_at rfl ?_)
  | (with_reducible refine wm_call ?_)
  | (with_reducible refine wm_callX (by assumption) ?_)
  | (with_reducible refine wm_callX lets0 ?_)
  | (with_reducible refine wm_make ?_)
  | (with_reducible refine wm_lcL ?_)
  | (with_reducible refine wm_lcSq ?_)
  | (with_reducible refine wm_lcT ?_)
  | (with_reducible refine wm_lcR ?_)
  | (with_reducible refine wm_lcS ?_)
  | (with_reducible refine we_wm (te := tLst _) ?_)
  | (with_reducible refine we_wm (te := tLc _ _ _ _ _) ?_)
  | (refine take_at rfl ?_)
  | (with_reducible refine known_at ?_)
  | (with_reducible refine we_wm (te := tCall _ _ _ _) ?_)
  | (with_reducible refine we_wm (te := tCallS _ _ _) ?_)
  | (with_reducible refine ws_asg (te := tCallS _ _ _) ?_)
  | (with_reducible refine ws_asg (te := tMeth _ _ _ _ _ _ _) ?_)
  | (with_reducible refine ws_drop (te := tMeth _ _ _ _ _ _ _) ?_)
  | (with_reducible refine ws_drop (te := tCallS _ _ _) ?_)
  | (with_reducible refine we_wm (te := tSl _ _ _ _) ?_)
  | (with_reducible refine we_wm (te := tOp rCat _ _) ?_)
  | (with_reducible refine we_wm (te := tCB _ _) ?_)
  | (with_reducible refine we_wm (te := tM1 _ _ _) ?_)
  | (with_reducible refine ws_ret (te := tLst _) ?_)
  | (with_reducible refine ws_ret (te := tLc _ _ _ _ _) ?_)
  | (refine ws_retE (take_at rfl ?_))
  | (with_reducible refine ws_ret (te := tCall _ _ _ _) ?_)
  | (with_reducible refine ws_ret (te := tMake _ _ _ _ _) ?_)
  | (with_reducible refine ws_ret (te := tMeth _ _ _ _ _ _ _) ?_)
  | (with_reducible refine ws_ret (te := tSl _ _ _ _) ?_)
  | (with_reducible refine ws_ret (te := tOp rCat _ _) ?_)
  | (with_reducible refine ws_ret (wm_list ?_))
  | (with_reducible refine ws_retE ?_)
  | (with_reducible refine ws_asg (te := tLst _) ?_)
  | (with_reducible refine ws_asg (te := tLc _ _ _ _ _) ?_)
  | (refine ws_asgE (take_at rfl ?_))
  | (with_reducible refine ws_asg (te := tCall _ _ _ _) ?_)
  | (with_reducible refine ws_asg (te := tMake _ _ _ _ _) ?_)
  | (with_reducible refine ws_asg (te := tSl _ _ _ _) ?_)
  | (with_reducible refine ws_asg (te := tOp rCat _ _) ?_)
  | (with_reducible refine ws_asg (te := tDNewK) ?_)
  | (with_reducible refine ws_asg (wm_list ?_))
  | (with_reducible refine ws_asgE ?_)
  | ((with_reducible show (_ : Int) ≠ 0 ∧ _); (refine ⟨by decide, ?_⟩))
  | ((with_reducible show _ ≤ _ ∧ _); (refine ⟨(by walk_at "side"), ?_⟩))
  | ((with_reducible show _ < _ ∧ _); (refine ⟨(by walk_at "side"), ?_⟩))
  | ((with_reducible show (_ → _) ∧ (_ → _)); first | (refine ⟨fun hb => absurd hb (by walk_at "no"), fun _ => ?_⟩) | (refine ⟨fun _ => ?_, fun hb => absurd hb (by walk_at "no")⟩))
  | ((with_reducible show ∀ p : Addr, ∃ d, Frz (ml p _) d ∧ _); (intro p))
  | ((with_reducible show (slots _).Nodup ∧ _); (refine ⟨by simp [slots], ?_⟩))
  | (refine ⟨_, frz_ml, ?_⟩)
  | (refine ⟨_, frz_fz, ?_⟩)
  | (refine ⟨_, rfl, ?_⟩)
  | (with_reducible refine ⟨_, _, rfl, (by assumption), ?_⟩)
  | (with_reducible refine ⟨_, _, rfl, atI_0, ?_⟩)
  | (with_reducible refine ⟨_, _, rfl, atI_1, ?_⟩)
  | (refine ⟨_, _, rfl, rfl, ?_⟩)
  | (refine ⟨rfl, ?_⟩)
  | (refine Or.inl ⟨_, rfl, ?_⟩)
  | (refine Or.inr ⟨_, rfl, ?_⟩)
  | (refine ⟨_, Or.inl rfl, ?_⟩)
  | (refine ⟨_, Or.inr rfl, ?_⟩)
  | (dsimp only [List.set_cons_zero, List.set_cons_succ]))
local macro_rules | `(tactic| walk_at "z") => `(tactic| (repeat (walk_at "z1"; try dsimp only)))
section
variable {P : Program} {w : World} {K : PySem.W.Frag} {mg : Str → Option Value} {base : Heap}
def sp_law_taken : FSp := fun args Q => ∃ p, ∃ gs : List Str, args = [bx p, fz (strsD gs)] ∧ gs.length ≤ 1000 ∧ (∀ w ∈ gs, LayS w) ∧
  ∀ q (ts : List Str), ts.length ≤ 6 → (∀ w ∈ ts, w ∈ gs) → Q (ml q (ts.map .str)) args
theorem ok_law_taken (T : Txt K mg) : FnOk P w K mg base CX0 2 T.law_taken.a T.law_taken.fd ["_law_box", "_law_grounds_here"] (spF sp_law_taken) := by
  refine fok T.law_taken.F sc_law_taken (fun args Q h => ?_) (fun cdv A outer s H E hr args Q h => ?_)
  · obtain ⟨p, gs, rfl, _⟩ := h
    rfl
  · obtain ⟨p, gs, rfl, hl, lay, q⟩ := h
    refine ⟨_, (pss_cons (ps_if (pt_cmpR (op_eqD hr.units) (pv 1) (pe_lst pa_nil) (nomark _)) (pss_one (ps_ret (pe_lst pa_nil))) pss_nil)
      (pss_one (ps_ret (pe_lc (own := [("_law_turn", 2)]) (g := gName 2) (tt := tYes) rfl sc_law_taken.nd (pi_range1 rfl T.b_range (pa_cons (pe_call (ok_law_take T) (hr.mono (by decide)) rfl T.law_take.m T.law_take.F.kp T.law_take.b .nil pass0 (pa_cons (pv 0) (pa_cons pe_int pa_nil))) pa_nil)) (blkOk_by (own := [("_law_turn", 2)]) (N := N_law_taken) (sc := defScope s_law_taken) (by decide +kernel)) (fun _ _ _ _ _ => pg_name (i := 2) sc_law_taken.nd rfl (Or.inl rfl)) (fun _ _ _ _ _ => pts_nil) (fun _ _ _ _ _ => (pe_ix (show IxR _ (rIxL K) from ix_list) (pv 1) (pe_call (ok_law_take T) (hr.mono (by decide)) rfl T.law_take.m T.law_take.F.kp T.law_take.b .nil pass0 (pa_cons (pv 0) (pa_cons (pe_callB (show CallR _ _ (lenR K) from call_len_seq) (by rfl) T.b_len (by decide +kernel) (pa_cons (pv 1) pa_nil)) pa_nil))) (fun _ _ => rfl))))))), ?_⟩
    show WS _ [some (bx p), some (fz _), none] _
    refine ws_seq (ws_if (wt_test (we_eqD (we_var (i := 1) rfl (we_wm (wm_lst (wa_nil ⟨[], rfl, by decide, fun p => ⟨_, frz_ml, strs_shaped lay, strs_shaped (ws := []) (by simp), _, rfl, ?_⟩⟩)))))))
    cases gs with
    | nil =>
      refine ⟨fun _ => ?_, fun z => absurd z (by decide)⟩
      walk_at "w"
      exact fun b => finS1 pin_bx (q b [] (by simp) (by simp))
    | cons g0 gs0 =>
      refine ⟨fun z => absurd z (by simp [strsD, PyData.eqv, PyData.eqvAll]), fun _ => ws_nx ?_⟩
      generalize hg : g0 :: gs0 = gs at *
      have g1 : 0 < gs.length := by rw [← hg]; simp
      refine ws_ret (wm_lcR (wa_cons (take_at (i := 0) rfl (wa_cons (we_int (wa_nil ⟨7, rfl, rfl, by decide, by decide, fun n hn => wa_nil ⟨(n : Int), rfl, by omega, by omega, ?_⟩⟩))))))
      refine lcI_all (fun y => ∃ w, y = .str w ∧ w ∈ gs) (by decide) rfl (by simp [upto]; omega) rfl (fun x hx => ?_) fun b acc la pa => ?_
      · refine we_ixL (we_var (i := 1) rfl ⟨_, rfl, take_at (i := 0) rfl (wa_cons (we_len (we_var (i := 1) rfl (.inl ⟨_, rfl, wa_nil ⟨_, rfl, rfl, by simp; omega, by simp; omega, fun r hr => ?_⟩⟩))))⟩)
        have hr' : r < gs.length := by simpa using hr
        exact ⟨_, _, rfl, atI_nat (x := .str gs[r]) (by simp [hr']), ⟨_, rfl, List.getElem_mem hr'⟩, rfl⟩
      · obtain ⟨ws', rfl, hw⟩ := strs_ofP pa
        exact finS1 pin_bx (q b ws' (by simp [upto] at la; omega) hw)
/-- some grounds taken, drawn by the box in slot i -/
theorem taken_at [B : Bs] {i : Nat} {p : Addr} {es : Es} {te : TE} {EE : XK} {Q : Own → Es → Prop} (h0 : es[i]? = some (some (bx p))) (h : WE te es fun d e => e = es ∧ ∃ gs, d = strsD gs ∧ gs.length ≤ 1000 ∧ (∀ w ∈ gs, LayS w) ∧ ∀ q (ts : List Str), ts.length ≤ 6 → (∀ w ∈ ts, w ∈ gs) → Q (ml q (ts.map .str)) es) :
    WM (tCall (spF sp_law_taken) [] EE (tCons (tVar i) (tCons te tNil))) es Q := by
  refine wm_call (wa_slot h0 (wa_cons (we_mono h fun d e ⟨ee, gs, ed, hl, lay, q⟩ => ?_)))
  subst ee ed
  refine wa_nil ⟨[bx p, fz (strsD gs)], by simp [lend, h0], by simp [slots], p, gs, rfl, hl, lay, fun b ts lt ht => ?_⟩
  have : back e [.s i, .d (strsD gs)] [bx p, fz (strsD gs)] = e := set_self h0
  dsimp only
  rw [this]
  exact q b ts lt ht

end
end

section
local macro_rules | `(tactic| walk_at "no") => `(tactic| first | (with_reducible exact Bool.false_ne_true) | (with_reducible exact fun z => Bool.false_ne_true z.symm) | (simp only [decide_eq_true_eq, decide_eq_false_iff_not]; omega) | (decide +kernel) | (simp; done) | (simp; omega) | (exact Bool.false_ne_true) | (exact fun z => Bool.false_ne_true z.symm))
local macro_rules | `(tactic| walk_at "side") => `(tactic| first | omega | assumption | (refine Nat.le_trans (m := 100000) ?_ (by decide); first | omega | (simp <;> omega)) | (simp <;> omega))
local macro_rules | `(tactic| walk_at "w1") => `(tactic| first
  | (with_reducible refine ws_seq ?_)
  | (with_reducible refine ws_if ?_)
  | (with_reducible refine ws_nx ?_)
  | (with_reducible refine ws_retN ?_)
  | ((with_reducible show WE (tVar _) _ _); (refine we_var rfl ?_))
  | (with_reducible refine we_int ?_)
  | (with_reducible refine we_str ?_)
  | (with_reducible refine we_bl ?_)
  | (with_reducible refine we_non ?_)
  | (with_reducible refine wt_test ?_)
  | (with_reducible refine wt_B ?_)
  | (with_reducible refine wt_yes ?_)
  | (with_reducible refine wt_and ?_)
  | (with_reducible refine wt_or ?_)
  | (with_reducible refine wt_not ?_)
  | (with_reducible refine we_andV ?_)
  | (with_reducible refine we_orV ?_)
  | (with_reducible refine we_notV ?_)
  | (with_reducible refine we_if ?_)
  | (with_reducible refine we_rB0 ?_)
  | (with_reducible refine we_rI0 ?_)
  | (with_reducible refine we_rI ?_)
  | (with_reducible refine we_eq ?_)
  | (with_reducible refine we_din ?_)
  | (with_reducible refine we_dnotin ?_)
  | (with_reducible refine we_ne ?_)
  | (with_reducible refine we_isN ?_)
  | (with_reducible refine we_notN ?_)
  | (with_reducible refine we_addS ?_)
  | (with_reducible refine we_inC ?_)
  | (with_reducible refine we_inS ?_)
  | (with_reducible refine we_lenS ?_)
  | (with_reducible refine we_all ?_)
  | (with_reducible refine we_any ?_)
  | (with_reducible refine we_join ?_)
  | (with_reducible refine we_tup ?_)
  | (with_reducible refine we_ixL ?_)
  | (with_reducible refine we_ixT ?_)
  | (with_reducible refine we_ixS ?_)
  | (with_reducible refine we_len ?_)
  | (with_reducible refine wa_nil ?_)
  | (with_reducible refine wa_cons ?_)
  | (with_reducible refine wo_none ?_)
  | (with_reducible refine wo_some ?_)
  | (with_reducible refine wm_lst ?_)
  | (with_reducible refine wm_cat ?_)
  | (with_reducible refine wm_slL ?_)
  | (with_reducible refine wm_sortSet ?_)
  | (with_reducible refine we_isi ?_)
  | (with_reducible refine we_int1 ?_)
  | (with_reducible refine we_tupOf ?_)
  | (with_reducible refine we_slT ?_)
  | (with_reducible refine we_min ?_)
  | (with_reducible refine we_eqD ?_)
  | (with_reducible refine we_neD ?_)
  | (with_reducible refine we_ixs ?_)
  | (with_reducible refine we_neg ?_)
  | (with_reducible refine wm_list ?_)
  | (with_reducible refine wm_split ?_)
  | (with_reducible refine wm_dnew ?_)
  | (with_reducible refine take_at rfl ?_)
  | (with_reducible refine wm_call ?_)
  | (with_reducible refine wm_callX (by assumption) ?_)
  | (with_reducible refine wm_callX lets0 ?_)
  | (with_reducible refine wm_make ?_)
  | (with_reducible refine wm_lcL ?_)
  | (with_reducible refine wm_lcSq ?_)
  | (with_reducible refine wm_lcT ?_)
  | (with_reducible refine wm_lcR ?_)
  | (with_reducible refine wm_lcS ?_)
  | (with_reducible refine we_wm (te := tLst _) ?_)
  | (with_reducible refine we_wm (te := tLc _ _ _ _ _) ?_)
  | (refine take_at rfl ?_)
  | (with_reducible refine known_at ?_)
  | (with_reducible refine we_wm (te := tCall _ _ _ _) ?_)
  | (with_reducible refine we_wm (te := tCallS _ _ _) ?_)
  | (with_reducible refine we_wm (te := tSl _ _ _ _) ?_)
  | (with_reducible refine we_wm (te := tOp rCat _ _) ?_)
  | (with_reducible refine we_wm (te := tCB _ _) ?_)
  | (with_reducible refine we_wm (te := tM1 _ _ _) ?_)
  | (with_reducible refine ws_ret (te := tLst _) ?_)
  | (with_reducible refine ws_ret (te := tLc _ _ _ _ _) ?_)
  | (refine ws_retE (take_at rfl ?_))
  | (with_reducible refine ws_ret (te := tCall _ _ _ _) ?_)
  | (with_reducible refine ws_ret (te := tMake _ _ _ _ _) ?_)
  | (with_reducible refine ws_ret (te := tMeth _ _ _ _ _ _ _) ?_)
  | (with_reducible refine ws_ret (te := tSl _ _ _ _) ?_)
  | (with_reducible refine ws_ret (te := tOp rCat _ _) ?_)
  | (with_reducible refine ws_ret (wm_list ?_))
  | (with_reducible refine ws_retE ?_)
  | (with_reducible refine ws_asg (te := tLst _) ?_)
  | (with_reducible refine ws_asg (te := tLc _ _ _ _ _) ?_)
  | (refine ws_asgE (take_at rfl ?_))
  | (with_reducible refine ws_asg (te := tCall _ _ _ _) ?_)
  | (with_reducible refine ws_asg (te := tMake _ _ _ _ _) ?_)
  | (with_reducible refine ws_asg (te := tSl _ _ _ _) ?_)
  | (with_reducible refine ws_asg (te := tOp rCat _ _) ?_)
  | (with_reducible refine ws_asg (te := tDNewK) ?_)
  | (with_reducible refine ws_asg (wm_list ?_))
  | (with_reducible refine ws_asgE ?_)
  | ((with_reducible show _ ≤ _ ∧ _); (refine ⟨(by walk_at "side"), ?_⟩))
  | ((with_reducible show _ < _ ∧ _); (refine ⟨(by walk_at "side"), ?_⟩))
  | ((with_reducible show (_ → _) ∧ (_ → _)); first | (refine ⟨fun hb => absurd hb (by walk_at "no"), fun _ => ?_⟩) | (refine ⟨fun _ => ?_, fun hb => absurd hb (by walk_at "no")⟩))
  | ((with_reducible show ∀ p : Addr, ∃ d, Frz (ml p _) d ∧ _); (intro p))
  | ((with_reducible show (slots _).Nodup ∧ _); (refine ⟨by simp [slots], ?_⟩))
  | (refine ⟨_, frz_ml, ?_⟩)
  | (refine ⟨_, frz_fz, ?_⟩)
  | (refine ⟨_, rfl, ?_⟩)
  | (with_reducible refine ⟨_, _, rfl, atI_0, ?_⟩)
  | (with_reducible refine ⟨_, _, rfl, atI_1, ?_⟩)
  | (refine ⟨_, _, rfl, rfl, ?_⟩)
  | (refine ⟨rfl, ?_⟩)
  | (refine Or.inl ⟨_, rfl, ?_⟩)
  | (refine Or.inr ⟨_, rfl, ?_⟩)
  | (refine ⟨_, Or.inl rfl, ?_⟩)
  | (refine ⟨_, Or.inr rfl, ?_⟩)
  | (dsimp only [List.set_cons_zero, List.set_cons_succ]))
local macro_rules | `(tactic| walk_at "w") => `(tactic| (repeat (walk_at "w1"; try dsimp only)))
local macro_rules | `(tactic| walk_at "z1") => `(tactic| first
  | (with_reducible refine ws_seq ?_)
  | (with_reducible refine ws_if ?_)
  | (with_reducible refine ws_nx ?_)
  | ((with_reducible show WE (tCall _ _ _ _) _ _); first | (with_reducible refine walked_at ?_) | (refine take_at rfl ?_) | (with_reducible refine known_at ?_) | (refine words_at rfl ?_) | (refine row_at rfl ?_) | (refine number_at rfl ?_) | (with_reducible refine is_way_at ?_) | (with_reducible refine law_walks_at ?_) | (refine right_at rfl ?_) | (with_reducible refine we_wm (copied_at ?_)) | (with_reducible refine we_wm (grounds_at ?_)) | (refine we_wm (taken_at rfl ?_)) | (refine we_wm (rows_at rfl ?_)))
  | ((with_reducible show WM (tCall _ _ _ _) _ _); first | (refine wm_we (take_at rfl ?_)) | (refine wm_we (words_at rfl ?_)) | (refine wm_we (row_at rfl ?_)) | (refine wm_we (number_at rfl ?_)) | (with_reducible refine fired_at ?_) | (refine spoilt_at rfl ?_) | (refine wm_we (right_at rfl ?_)) | (refine begun_at rfl (by assumption) ?_) | (refine rows_at rfl ?_) | (with_reducible refine copied_at ?_) | (with_reducible refine grounds_at ?_) | (refine taken_at rfl ?_))
  | ((with_reducible show WM (tCallS _ _ _) _ _); first | (refine way_at rfl ?_))
  | ((with_reducible show WM (tMake _ _ _ _ _) _ _); first | (with_reducible refine book_at ?_))
  | ((with_reducible show WM (tMeth _ _ _ _ _ _ _) _ _); first | (refine tell_at rfl ?_))
  | (with_reducible refine ws_retN ?_)
  | ((with_reducible show WE (tVar _) _ _); first | (refine we_var rfl ?_) | (refine we_varF rfl ?_) | (refine we_varFd rfl ?_))
  | (with_reducible refine we_int ?_)
  | (with_reducible refine we_str ?_)
  | (with_reducible refine we_bl ?_)
  | (with_reducible refine we_non ?_)
  | (with_reducible refine wt_test ?_)
  | (with_reducible refine wt_B ?_)
  | (with_reducible refine wt_yes ?_)
  | (with_reducible refine wt_and ?_)
  | (with_reducible refine wt_or ?_)
  | (with_reducible refine wt_not ?_)
  | (with_reducible refine we_andV ?_)
  | (with_reducible refine we_orV ?_)
  | (with_reducible refine we_notV ?_)
  | (with_reducible refine we_if ?_)
  | (with_reducible refine we_rB0 ?_)
  | (with_reducible refine we_rI0 ?_)
  | (with_reducible refine we_rI ?_)
  | (with_reducible refine we_eq ?_)
  | (with_reducible refine we_din ?_)
  | (with_reducible refine we_dnotin ?_)
  | (with_reducible refine we_ne ?_)
  | ((with_reducible show WE (tOp _ (tVar _) (tC .non)) _ _); first | (refine we_isNM rfl ?_) | (refine we_notNM rfl ?_))
  | (with_reducible refine we_isN ?_)
  | (with_reducible refine we_notN ?_)
  | (with_reducible refine we_addS ?_)
  | (with_reducible refine we_inC ?_)
  | (with_reducible refine we_inS ?_)
  | (with_reducible refine we_lenS ?_)
  | (with_reducible refine we_all ?_)
  | (with_reducible refine we_any ?_)
  | (with_reducible refine we_join ?_)
  | (with_reducible refine we_tup ?_)
  | (with_reducible refine we_ixL ?_)
  | (with_reducible refine we_ixT ?_)
  | (with_reducible refine we_ixS ?_)
  | (with_reducible refine we_len ?_)
  | (with_reducible refine wa_nil ?_)
  | ((with_reducible show WA (tCons (tVar _) _) _ _); first | (refine wa_cons (we_var rfl ?_)) | (refine wa_slot (r := bk _ _ _ _) rfl ?_) | (refine wa_slot (r := bx _) rfl ?_) | (refine wa_slot (r := md _ _) rfl ?_) | (refine wa_cons (we_varF rfl ?_)))
  | (with_reducible refine wa_cons ?_)
  | (with_reducible refine wo_none ?_)
  | (with_reducible refine wo_some ?_)
  | (with_reducible refine wm_lst ?_)
  | (with_reducible refine wm_cat ?_)
  | (with_reducible refine wm_slL ?_)
  | (with_reducible refine wm_sortSet ?_)
  | (with_reducible refine we_isi ?_)
  | (with_reducible refine we_int1 ?_)
  | (with_reducible refine we_tupOf ?_)
  | (with_reducible refine we_slT ?_)
  | (with_reducible refine we_min ?_)
  | (with_reducible refine we_eqD ?_)
  | (with_reducible refine we_neD ?_)
  | (with_reducible refine we_ixs ?_)
  | (with_reducible refine we_neg ?_)
  | (with_reducible refine wm_list ?_)
  | (with_reducible refine wm_split ?_)
  | (with_reducible refine wm_dnew ?_)
  | (with_reducible refine take_at rfl ?_)
  | (with_reducible refine wm_call ?_)
  | (with_reducible refine wm_callX (by assumption) ?_)
  | (with_reducible refine wm_callX lets0 ?_)
  | (with_reducible refine wm_make ?_)
  | (with_reducible refine wm_lcL ?_)
  | (with_reducible refine wm_lcSq ?_)
  | (with_reducible refine wm_lcT ?_)
  | (with_reducible refine wm_lcR ?_)
  | (with_reducible refine wm_lcS ?_)
  | (with_reducible refine we_wm (te := tLst _) ?_)
  | (with_reducible refine we_wm (te := tLc _ _ _ _ _) ?_)
  | (refine take_at rfl ?_)
  | (with_reducible refine known_at ?_)
  | (with_reducible refine we_wm (te := tCall _ _ _ _) ?_)
  | (with_reducible refine we_wm (te := tCallS _ _ _) ?_)
  | (with_reducible refine ws_asg (te := tCallS _ _ _) ?_)
  | (with_reducible refine ws_asg (te := tMeth _ _ _ _ _ _ _) ?_)
  | (with_reducible refine ws_drop (te := tMeth _ _ _ _ _ _ _) ?_)
  | (with_reducible refine ws_drop (te := tCallS _ _ _) ?_)
  | (with_reducible refine we_wm (te := tSl _ _ _ _) ?_)
  | (with_reducible refine we_wm (te := tOp rCat _ _) ?_)
  | (with_reducible refine we_wm (te := tCB _ _) ?_)
  | (with_reducible refine we_wm (te := tM1 _ _ _) ?_)
  | (with_reducible refine ws_ret (te := tLst _) ?_)
  | (with_reducible refine ws_ret (te := tLc _ _ _ _ _) ?_)
  | (refine ws_retE (take_at rfl ?_))
  | (with_reducible refine ws_ret (te := tCall _ _ _ _) ?_)
  | (with_reducible refine ws_ret (te := tMake _ _ _ _ _) ?_)
  | (with_reducible refine ws_ret (te := tMeth _ _ _ _ _ _ _) ?_)
  | (with_reducible refine ws_ret (te := tSl _ _ _ _) ?_)
  | (with_reducible refine ws_ret (te := tOp rCat _ _) ?_)
  | (with_reducible refine ws_ret (wm_list ?_))
  | (with_reducible refine ws_retE ?_)
  | (with_reducible refine ws_asg (te := tLst _) ?_)
  | (with_reducible refine ws_asg (te := tLc _ _ _ _ _) ?_)
  | (refine ws_asgE (take_at rfl ?_))
  | (with_reducible refine ws_asg (te := tCall _ _ _ _) ?_)
  | (with_reducible refine ws_asg (te := tMake _ _ _ _ _) ?_)
  | (with_reducible refine ws_asg (te := tSl _ _ _ _) ?_)
  | (with_reducible refine ws_asg (te := tOp rCat _ _) ?_)
  | (with_reducible refine ws_asg (te := tDNewK) ?_)
  | (with_reducible refine ws_asg (wm_list ?_))
  | (with_reducible refine ws_asgE ?_)
  | ((with_reducible show (_ : Int) ≠ 0 ∧ _); (refine ⟨by decide, ?_⟩))
  | ((with_reducible show _ ≤ _ ∧ _); (refine ⟨(by walk_at "side"), ?_⟩))
  | ((with_reducible show _ < _ ∧ _); (refine ⟨(by walk_at "side"), ?_⟩))
  | ((with_reducible show (_ → _) ∧ (_ → _)); first | (refine ⟨fun hb => absurd hb (by walk_at "no"), fun _ => ?_⟩) | (refine ⟨fun _ => ?_, fun hb => absurd hb (by walk_at "no")⟩))
  | ((with_reducible show ∀ p : Addr, ∃ d, Frz (ml p _) d ∧ _); (intro p))
  | ((with_reducible show (slots _).Nodup ∧ _); (refine ⟨by simp [slots], ?_⟩))
  | (refine ⟨_, frz_ml, ?_⟩)
  | (refine ⟨_, frz_fz, ?_⟩)
  | (refine ⟨_, rfl, ?_⟩)
  | (with_reducible refine ⟨_, _, rfl, (by assumption), ?_⟩)
  | (with_reducible refine ⟨_, _, rfl, atI_0, ?_⟩)
  | (with_reducible refine ⟨_, _, rfl, atI_1, ?_⟩)
  | (refine ⟨_, _, rfl, rfl, ?_⟩)
  | (refine ⟨rfl, ?_⟩)
  | (refine Or.inl ⟨_, rfl, ?_⟩)
  | (refine Or.inr ⟨_, rfl, ?_⟩)
  | (refine ⟨_, Or.inl rfl, ?_⟩)
  | (refine ⟨_, Or.inr rfl, ?_⟩)
  | (dsimp only [List.set_cons_zero, List.set_cons_succ]))
local macro_rules | `(tactic| walk_at "z") => `(tactic| (repeat (walk_at "z1"; try dsimp only)))
section
variable {P : Program} {w : World} {K : PySem.W.Frag} {mg : Str → Option Value} {base : Heap}
def sp_law_walks : FSp := fun args Q => ∃ rs ts d x ns, args = [fz (rowsD rs), fz (.str x), fz d, fz (.list (ns.map .int))] ∧ Sq d ts ∧ MB.RB rs ∧ ts.length ≤ 1000 ∧ ns.length ≤ 10000 ∧ Q (fz (.bool (MB.walkB rs ts x ns))) args
theorem ok_law_walks (T : Txt K mg) : FnOk P w K mg base CX0 1 T.law_walks.a T.law_walks.fd ["_law_rows_here", "_law_thing", "_law_taken_here", "_law_numbers"] (spF sp_law_walks) := by
  refine fok T.law_walks.F sc_law_walks (fun args Q h => ?_) (fun cdv A outer s H E hr args Q h => ?_)
  · obtain ⟨rs, ts, d, x, ns, rfl, _⟩ := h
    rfl
  · obtain ⟨rs, ts, d, x, ns, rfl, hd, rb, ht, hn, q⟩ := h
    refine ⟨_, (pss_cons (ps_set (i := 4) sc_law_walks.nd rfl (by first | exact Or.inl rfl | exact Or.inr rfl) pe_dnewK)
      (pss_cons (ps_for PassesOwn.never rfl (pi_seq (pv 2)) (pg_name (i := 5) sc_law_walks.nd rfl (by first | exact Or.inl rfl | exact Or.inr rfl))
      (pss_one (ps_dput (hu_of hr) (pv 4) (pv 5) pe_bl rfl)))
      (pss_cons (ps_for PassesOwn.never rfl (pi_list (pv 3)) (pg_name (i := 6) sc_law_walks.nd rfl (by first | exact Or.inl rfl | exact Or.inr rfl))
      (pss_cons (ps_if (PW.pt (pw_or (pt_cmpR op_lt (pv 6) pe_int (nomark _)) (pw_or (pt_cmpR op_ge (pv 6) (pe_callB call_len_seq (by rfl) T.b_len (by decide +kernel) (pa_cons (pv 0) pa_nil)) (nomark _)) (pw_or1 (pt_cmpR op_ne (pe_ix ix_tup (pe_ix ix_list (pv 0) (pv 6) (fun _ _ => rfl)) pe_int (fun _ _ => rfl)) pe_str (nomark _)))))) (pss_one (ps_ret pe_bl)) pss_nil)
      (pss_cons (ps_if (pt_not (pt_val (pe_callB (cr_all rfl) (by rfl) T.b_all (by decide +kernel) (pa_cons (pe_lc (own := [("_law_word", 5)]) (g := gName 5) (tt := tYes) rfl sc_law_walks.nd (pi_list (pe_ix ix_tup (pe_ix ix_list (pv 0) (pv 6) (fun _ _ => rfl)) pe_int (fun _ _ => rfl))) (blkOk_by (own := [("_law_word", 5)]) (N := N_law_walks) (sc := defScope s_law_walks) (by decide +kernel)) (fun _ _ _ _ _ => pg_name (i := 5) sc_law_walks.nd rfl (Or.inl rfl)) (fun _ _ _ _ _ => pts_nil) (fun _ _ _ _ _ => (pe_cmp (pc_din (hu_of hr) (pv 5) (pv 4))))) pa_nil)))) (pss_one (ps_ret pe_bl)) pss_nil)
      (pss_one (ps_dput (hu_of hr) (pv 4) (pe_ix ix_tup (pe_ix ix_list (pv 0) (pv 6) (fun _ _ => rfl)) pe_int (fun _ _ => rfl)) pe_bl rfl)))))
      (pss_one (ps_ret (pe_cmp (pc_din (hu_of hr) (pv 1) (pv 4)))))))), ?_⟩
    have r1 := rb.len
    show WS _ [some (fz _), some (fz _), some (fz _), some (fz _), none, none, none] _
    refine ws_seq (ws_asg (wm_dnew fun p4 => ?_))
    refine ws_seq (ws_forSq (we_var (i := 2) rfl ⟨ts.map .str, hd, fun k e => ∃ y, e = [some (fz (rowsD rs)), some (fz (.str x)), some (fz d), some (fz (.list (ns.map .int))), some (md p4 (kn (SX.insAll [] (ts.take k)))), y, none], ⟨_, rfl⟩, fun k x e hx ⟨y, ee⟩ => ?_, fun e ⟨y5, ee⟩ => ?_⟩))
    · subst ee
      rw [List.getElem?_map, Option.map_eq_some_iff] at hx
      obtain ⟨w, hw, rfl⟩ := hx
      refine ws_dput (we_bl ⟨⟨_, rfl⟩, we_var (i := 5) rfl ⟨_, p4, _, rfl, rfl, ?_, some (fz (.str w)), ?_⟩⟩)
      · rw [kn_length]
        have := SX.insAll_len (ts.take k) []
        rw [List.length_take] at this
        simp at this
        omega
      · rw [kn_put, ← MB.insAll_take hw]
        rfl
    · subst ee
      rw [List.length_map, List.take_length]
      have kl0 : (SX.insAll [] ts).length ≤ ts.length := by
        have := SX.insAll_len ts []
        simpa using this
      refine ws_drp (j := 5) ?_
      show WS _ [some (fz _), some (fz _), some (fz _), some (fz _), some (md p4 _), none, none] _
      refine ws_seq (ws_forL (we_var (i := 3) rfl ⟨_, rfl, fun k e => ∃ ks y6, e = [some (fz (rowsD rs)), some (fz (.str x)), some (fz d), some (fz (.list (ns.map .int))), some (md p4 (kn ks)), none, y6] ∧ MB.steps rs (SX.insAll [] ts) (ns.take k) = some ks ∧ ks.length ≤ ts.length + k, ⟨_, none, rfl, rfl, by omega⟩, fun k n e hx ⟨ks, y6, ee, st, kl⟩ => ?_, fun e ⟨ks, y6, ee, st, kl⟩ => ?_⟩))
      · subst ee
        rw [List.getElem?_map, Option.map_eq_some_iff] at hx
        obtain ⟨n, hx, rfl⟩ := hx
        have hk : k < ns.length := (List.getElem?_eq_some_iff.mp hx).1
        have no : MB.step rs ks n = none → MB.walkB rs ts x ns = false := MB.walk_stop hx st
        have stop : MB.step rs ks n = none → ∀ z4 z6, DV.Fin [fz (rowsD rs), fz (.str x), fz d, fz (.list (ns.map .int))] Q (fz (.bool false)) [some (fz (rowsD rs)), some (fz (.str x)), some (fz d), some (fz (.list (ns.map .int))), z4, none, z6] := fun h z4 z6 => by
          rw [no h] at q
          exact fin4 q
        walk_at "z"
        by_cases h0 : n < 0
        · refine ⟨fun _ => ?_, fun z => absurd h0 (by simpa using z)⟩
          walk_at "z"
          exact stop (by unfold MB.step; rw [if_pos h0]) _ _
        refine ⟨fun z => absurd (by simpa using z) h0, fun _ => ?_⟩
        obtain ⟨m, rfl⟩ := Int.eq_ofNat_of_zero_le (show 0 ≤ n by omega)
        walk_at "z"
        by_cases h1 : rs.length ≤ m
        · refine ⟨fun _ => ?_, fun z => absurd z (by simp; omega)⟩
          walk_at "z"
          exact stop (by unfold MB.step; rw [if_neg h0, Int.toNat_natCast, List.getElem?_eq_none h1]) _ _
        refine ⟨fun z => absurd z (by simp; omega), fun _ => ?_⟩
        have hm : m < rs.length := by omega
        have hat : atI (rs.map rowD) (m : Int) = some (rowD rs[m]) := DV.atI_nat (by simp [hm])
        have hrm : rs[m]? = some rs[m] := List.getElem?_eq_getElem hm
        have hmm := List.getElem_mem hm
        generalize rs[m] = r at hat hrm hmm
        cases r with
        | g w =>
          walk_at "z"
          exact stop (by unfold MB.step; rw [if_neg h0, Int.toNat_natCast, hrm]) _ _
        | c b =>
          walk_at "z"
          exact stop (by unfold MB.step; rw [if_neg h0, Int.toNat_natCast, hrm]) _ _
        | r w b =>
          have hb1 : b.length ≤ 1000 := rb.body _ hmm
          walk_at "z"
          refine lcI_boolsA .str (fun w => decide (w ∈ ks)) (by decide) rfl (by omega) (fun x hx => ?_) rfl ?_
          · walk_at "z"
            exact ⟨_, _, _, rfl, rfl, dk_md, by rw [dkeys_kn], rfl⟩
          rw [List.all_map]
          walk_at "z"
          refine ⟨fun z => ?_, fun z => ?_⟩
          · walk_at "z"
            exact stop (by unfold MB.step; rw [if_neg h0, Int.toNat_natCast, hrm]; exact if_neg (by simpa using z)) _ _
          · walk_at "z"
            have hb : ∀ y ∈ b, y ∈ ks := by simpa using z
            refine ws_dput (we_bl ⟨⟨_, rfl⟩, we_ixT (we_ixL (we_var (i := 0) rfl ⟨_, rfl, we_var (i := 6) rfl ⟨_, _, rfl, hat, _, rfl, we_int ⟨_, _, rfl, atI_1, w, p4, _, rfl, rfl, by rw [kn_length]; omega, ?_⟩⟩⟩))⟩)
            rw [kn_put]
            have := SX.ins_len ks w
            exact ⟨_, _, rfl, MB.steps_snoc hx st (MB.step_of hrm hb), by omega⟩
      · subst ee
        rw [List.length_map, List.take_length] at st
        refine ws_retE (we_din (we_var (i := 1) rfl ⟨_, _, _, rfl, rfl, dk_md, ?_⟩))
        rw [dkeys_kn]
        have e : MB.walkB rs ts x ns = decide (x ∈ ks) := by
          unfold MB.walkB
          rw [st]
        rw [e] at q
        exact fin4 q
/-- a call that is handed a list of ours to read -/
theorem law_walks_at [B : Bs] {es : Es} {ta : TA} {EE : XK} {Q : PyData → Es → Prop} (h : WA ta es fun as e => ∃ rs ts d x ns, see e as [fz (rowsD rs), fz (.str x), fz d, fz (.list (ns.map .int))] ∧ Sq d ts ∧ MB.RB rs ∧ ts.length ≤ 1000 ∧ ns.length ≤ 10000 ∧ Q (.bool (MB.walkB rs ts x ns)) e) : WE (tCall (spF sp_law_walks) [] EE ta) es Q :=
  we_callB fun σ G H Rs K hs k => h σ G H Rs K hs fun vs as G' H' Rs' es' s r st ⟨rs, ts, d, x, ns, se, q⟩ => k vs as G' H' Rs' es' s r st ⟨_, se, rs, ts, d, x, ns, rfl, q.1, q.2.1, q.2.2.1, q.2.2.2.1, _, _, rfl, rfl, q.2.2.2.2⟩

end
end

section
local macro_rules | `(tactic| walk_at "no") => `(tactic| first | (with_reducible exact Bool.false_ne_true) | (with_reducible exact fun z => Bool.false_ne_true z.symm) | (simp only [decide_eq_true_eq, decide_eq_false_iff_not]; omega) | (decide +kernel) | (simp; done) | (simp; omega) | (exact Bool.false_ne_true) | (exact fun z => Bool.false_ne_true z.symm))
local macro_rules | `(tactic| walk_at "side") => `(tactic| first | omega | assumption | (refine Nat.le_trans (m := 100000) ?_ (by decide); first | omega | (simp <;> omega)) | (simp <;> omega))
local macro_rules | `(tactic| walk_at "w1") => `(tactic| first
  | (with_reducible refine ws_seq ?_)
  | (with_reducible refine ws_if ?_)
  | (with_reducible refine ws_nx ?_)
  | (with_reducible refine ws_retN ?_)
  | ((with_reducible show WE (tVar _) _ _); (refine we_var rfl ?_))
  | (with_reducible refine we_int ?_)
  | (with_reducible refine we_str ?_)
  | (with_reducible refine we_bl ?_)
  | (with_reducible refine we_non ?_)
  | (with_reducible refine wt_test ?_)
  | (with_reducible refine wt_B ?_)
  | (with_reducible refine wt_yes ?_)
  | (with_reducible refine wt_and ?_)
  | (with_reducible refine wt_or ?_)
  | (with_reducible refine wt_not ?_)
  | (with_reducible refine we_andV ?_)
  | (with_reducible refine we_orV ?_)
  | (with_reducible refine we_notV ?_)
  | (with_reducible refine we_if ?_)
  | (with_reducible refine we_rB0 ?_)
  | (with_reducible refine we_rI0 ?_)
  | (with_reducible refine we_rI ?_)
  | (with_reducible refine we_eq ?_)
  | (with_reducible refine we_din ?_)
  | (with_reducible refine we_dnotin ?_)
  | (with_reducible refine we_ne ?_)
  | (with_reducible refine we_isN ?_)
  | (with_reducible refine we_notN ?_)
  | (with_reducible refine we_addS ?_)
  | (with_reducible refine we_inC ?_)
  | (with_reducible refine we_inS ?_)
  | (with_reducible refine we_lenS ?_)
  | (with_reducible refine we_all ?_)
  | (with_reducible refine we_any ?_)
  | (with_reducible refine we_join ?_)
  | (with_reducible refine we_tup ?_)
  | (with_reducible refine we_ixL ?_)
  | (with_reducible refine we_ixT ?_)
  | (with_reducible refine we_ixS ?_)
  | (with_reducible refine we_len ?_)
  | (with_reducible refine wa_nil ?_)
  | (with_reducible refine wa_cons ?_)
  | (with_reducible refine wo_none ?_)
  | (with_reducible refine wo_some ?_)
  | (with_reducible refine wm_lst ?_)
  | (with_reducible refine wm_cat ?_)
  | (with_reducible refine wm_slL ?_)
  | (with_reducible refine wm_sortSet ?_)
  | (with_reducible refine we_isi ?_)
  | (with_reducible refine we_int1 ?_)
  | (with_reducible refine we_tupOf ?_)
  | (with_reducible refine we_slT ?_)
  | (with_reducible refine we_min ?_)
  | (with_reducible refine we_eqD ?_)
  | (with_reducible refine we_neD ?_)
  | (with_reducible refine we_ixs ?_)
  | (with_reducible refine we_neg ?_)
  | (with_reducible refine wm_list ?_)
  | (with_reducible refine wm_split ?_)
  | (with_reducible refine wm_dnew ?_)
  | (with_reducible refine take_at rfl ?_)
  | (with_reducible refine wm_call ?_)
  | (with_reducible refine wm_callX (by assumption) ?_)
  | (with_reducible refine wm_callX lets0 ?_)
  | (with_reducible refine wm_make ?_)
  | (with_reducible refine wm_lcL ?_)
  | (with_reducible refine wm_lcSq ?_)
  | (with_reducible refine wm_lcT ?_)
  | (with_reducible refine wm_lcR ?_)
  | (with_reducible refine wm_lcS ?_)
  | (with_reducible refine we_wm (te := tLst _) ?_)
  | (with_reducible refine we_wm (te := tLc _ _ _ _ _) ?_)
  | (refine take_at rfl ?_)
  | (with_reducible refine known_at ?_)
  | (with_reducible refine we_wm (te := tCall _ _ _ _) ?_)
  | (with_reducible refine we_wm (te := tCallS _ _ _) ?_)
  | (with_reducible refine we_wm (te := tSl _ _ _ _) ?_)
  | (with_reducible refine we_wm (te := tOp rCat _ _) ?_)
  | (with_reducible refine we_wm (te := tCB _ _) ?_)
  | (with_reducible refine we_wm (te := tM1 _ _ _) ?_)
  | (with_reducible refine ws_ret (te := tLst _) ?_)
  | (with_reducible refine ws_ret (te := tLc _ _ _ _ _) ?_)
  | (refine ws_retE (take_at rfl ?_))
  | (with_reducible refine ws_ret (te := tCall _ _ _ _) ?_)
  | (with_reducible refine ws_ret (te := tMake _ _ _ _ _) ?_)
  | (with_reducible refine ws_ret (te := tMeth _ _ _ _ _ _ _) ?_)
  | (with_reducible refine ws_ret (te := tSl _ _ _ _) ?_)
  | (with_reducible refine ws_ret (te := tOp rCat _ _) ?_)
  | (with_reducible refine ws_ret (wm_list ?_))
  | (with_reducible refine ws_retE ?_)
  | (with_reducible refine ws_asg (te := tLst _) ?_)
  | (with_reducible refine ws_asg (te := tLc _ _ _ _ _) ?_)
  | (refine ws_asgE (take_at rfl ?_))
  | (with_reducible refine ws_asg (te := tCall _ _ _ _) ?_)
  | (with_reducible refine ws_asg (te := tMake _ _ _ _ _) ?_)
  | (with_reducible refine ws_asg (te := tSl _ _ _ _) ?_)
  | (with_reducible refine ws_asg (te := tOp rCat _ _) ?_)
  | (with_reducible refine ws_asg (te := tDNewK) ?_)
  | (with_reducible refine ws_asg (wm_list ?_))
  | (with_reducible refine ws_asgE ?_)
  | ((with_reducible show _ ≤ _ ∧ _); (refine ⟨(by walk_at "side"), ?_⟩))
  | ((with_reducible show _ < _ ∧ _); (refine ⟨(by walk_at "side"), ?_⟩))
  | ((with_reducible show (_ → _) ∧ (_ → _)); first | (refine ⟨fun hb => absurd hb (by walk_at "no"), fun _ => ?_⟩) | (refine ⟨fun _ => ?_, fun hb => absurd hb (by walk_at "no")⟩))
  | ((with_reducible show ∀ p : Addr, ∃ d, Frz (ml p _) d ∧ _); (intro p))
  | ((with_reducible show (slots _).Nodup ∧ _); (refine ⟨by simp [slots], ?_⟩))
  | (refine ⟨_, frz_ml, ?_⟩)
  | (refine ⟨_, frz_fz, ?_⟩)
  | (refine ⟨_, rfl, ?_⟩)
  | (with_reducible refine ⟨_, _, rfl, atI_0, ?_⟩)
  | (with_reducible refine ⟨_, _, rfl, atI_1, ?_⟩)
  | (refine ⟨_, _, rfl, rfl, ?_⟩)
  | (refine ⟨rfl, ?_⟩)
  | (refine Or.inl ⟨_, rfl, ?_⟩)
  | (refine Or.inr ⟨_, rfl, ?_⟩)
  | (refine ⟨_, Or.inl rfl, ?_⟩)
  | (refine ⟨_, Or.inr rfl, ?_⟩)
  | (dsimp only [List.set_cons_zero, List.set_cons_succ]))
local macro_rules | `(tactic| walk_at "w") => `(tactic| (repeat (walk_at "w1"; try dsimp only)))
local macro_rules | `(tactic| walk_at "z1") => `(tactic| first
  | (with_reducible refine ws_seq ?_)
  | (with_reducible refine ws_if ?_)
  | (with_reducible refine ws_nx ?_)
  | ((with_reducible show WE (tCall _ _ _ _) _ _); first | (with_reducible refine walked_at ?_) | (refine take_at rfl ?_) | (with_reducible refine known_at ?_) | (refine words_at rfl ?_) | (refine row_at rfl ?_) | (refine number_at rfl ?_) | (with_reducible refine is_way_at ?_) | (with_reducible refine law_walks_at ?_) | (refine right_at rfl ?_) | (with_reducible refine we_wm (copied_at ?_)) | (with_reducible refine we_wm (grounds_at ?_)) | (refine we_wm (taken_at rfl ?_)) | (refine we_wm (rows_at rfl ?_)))
  | ((with_reducible show WM (tCall _ _ _ _) _ _); first | (refine wm_we (take_at rfl ?_)) | (refine wm_we (words_at rfl ?_)) | (refine wm_we (row_at rfl ?_)) | (refine wm_we (number_at rfl ?_)) | (with_reducible refine fired_at ?_) | (refine spoilt_at rfl ?_) | (refine wm_we (right_at rfl ?_)) | (refine begun_at rfl (by assumption) ?_) | (refine rows_at rfl ?_) | (with_reducible refine copied_at ?_) | (with_reducible refine grounds_at ?_) | (refine taken_at rfl ?_))
  | ((with_reducible show WM (tCallS _ _ _) _ _); first | (refine way_at rfl ?_))
  | ((with_reducible show WM (tMake _ _ _ _ _) _ _); first | (with_reducible refine book_at ?_))
  | ((with_reducible show WM (tMeth _ _ _ _ _ _ _) _ _); first | (refine tell_at rfl ?_))
  | (with_reducible refine ws_retN ?_)
  | ((with_reducible show WE (tVar _) _ _); first | (refine we_var rfl ?_) | (refine we_varF rfl ?_) | (refine we_varFd rfl ?_))
  | (with_reducible refine we_int ?_)
  | (with_reducible refine we_str ?_)
  | (with_reducible refine we_bl ?_)
  | (with_reducible refine we_non ?_)
  | (with_reducible refine wt_test ?_)
  | (with_reducible refine wt_B ?_)
  | (with_reducible refine wt_yes ?_)
  | (with_reducible refine wt_and ?_)
  | (with_reducible refine wt_or ?_)
  | (with_reducible refine wt_not ?_)
  | (with_reducible refine we_andV ?_)
  | (with_reducible refine we_orV ?_)
  | (with_reducible refine we_notV ?_)
  | (with_reducible refine we_if ?_)
  | (with_reducible refine we_rB0 ?_)
  | (with_reducible refine we_rI0 ?_)
  | (with_reducible refine we_rI ?_)
  | (with_reducible refine we_eq ?_)
  | (with_reducible refine we_din ?_)
  | (with_reducible refine we_dnotin ?_)
  | (with_reducible refine we_ne ?_)
  | ((with_reducible show WE (tOp _ (tVar _) (tC .non)) _ _); first | (refine we_isNM rfl ?_) | (refine we_notNM rfl ?_))
  | (with_reducible refine we_isN ?_)
  | (with_reducible refine we_notN ?_)
  | (with_reducible refine we_addS ?_)
  | (with_reducible refine we_inC ?_)
  | (with_reducible refine we_inS ?_)
  | (with_reducible refine we_lenS ?_)
  | (with_reducible refine we_all ?_)
  | (with_reducible refine we_any ?_)
  | (with_reducible refine we_join ?_)
  | (with_reducible refine we_tup ?_)
  | (with_reducible refine we_ixL ?_)
  | (with_reducible refine we_ixT ?_)
  | (with_reducible refine we_ixS ?_)
  | (with_reducible refine we_len ?_)
  | (with_reducible refine wa_nil ?_)
  | ((with_reducible show WA (tCons (tVar _) _) _ _); first | (refine wa_cons (we_var rfl ?_)) | (refine wa_slot (r := bk _ _ _ _) rfl ?_) | (refine wa_slot (r := bx _) rfl ?_) | (refine wa_slot (r := md _ _) rfl ?_) | (refine wa_cons (we_varF rfl ?_)))
  | (with_reducible refine wa_cons ?_)
  | (with_reducible refine wo_none ?_)
  | (with_reducible refine wo_some ?_)
  | (with_reducible refine wm_lst ?_)
  | (with_reducible refine wm_cat ?_)
  | (with_reducible refine wm_slL ?_)
  | (with_reducible refine wm_sortSet ?_)
  | (with_reducible refine we_isi ?_)
  | (with_reducible refine we_int1 ?_)
  | (with_reducible refine we_tupOf ?_)
  | (with_reducible refine we_slT ?_)
  | (with_reducible refine we_min ?_)
  | (with_reducible refine we_eqD ?_)
  | (with_reducible refine we_neD ?_)
  | (with_reducible refine we_ixs ?_)
  | (with_reducible refine we_neg ?_)
  | (with_reducible refine wm_list ?_)
  | (with_reducible refine wm_split ?_)
  | (with_reducible refine wm_dnew ?_)
  | (with_reducible refine take_at rfl ?_)
  | (with_reducible refine wm_call ?_)
  | (with_reducible refine wm_callX (by assumption) ?_)
  | (with_reducible refine wm_callX lets0 ?_)
  | (with_reducible refine wm_make ?_)
  | (with_reducible refine wm_lcL ?_)
  | (with_reducible refine wm_lcSq ?_)
  | (with_reducible refine wm_lcT ?_)
  | (with_reducible refine wm_lcR ?_)
  | (with_reducible refine wm_lcS ?_)
  | (with_reducible refine we_wm (te := tLst _) ?_)
  | (with_reducible refine we_wm (te := tLc _ _ _ _ _) ?_)
  | (refine take_at rfl ?_)
  | (with_reducible refine known_at ?_)
  | (with_reducible refine we_wm (te := tCall _ _ _ _) ?_)
  | (with_reducible refine we_wm (te := tCallS _ _ _) ?_)
  | (with_reducible refine ws_asg (te := tCallS _ _ _) ?_)
  | (with_reducible refine ws_asg (te := tMeth _ _ _ _ _ _ _) ?_)
  | (with_reducible refine ws_drop (te := tMeth _ _ _ _ _ _ _) ?_)
  | (with_reducible refine ws_drop (te := tCallS _ _ _) ?_)
  | (with_reducible refine we_wm (te := tSl _ _ _ _) ?_)
  | (with_reducible refine we_wm (te := tOp rCat _ _) ?_)
  | (with_reducible refine we_wm (te := tCB _ _) ?_)
  | (with_reducible refine we_wm (te := tM1 _ _ _) ?_)
  | (with_reducible refine ws_ret (te := tLst _) ?_)
  | (with_reducible refine ws_ret (te := tLc _ _ _ _ _) ?_)
  | (refine ws_retE (take_at rfl ?_))
  | (with_reducible refine ws_ret (te := tCall _ _ _ _) ?_)
  | (with_reducible refine ws_ret (te := tMake _ _ _ _ _) ?_)
  | (with_reducible refine ws_ret (te := tMeth _ _ _ _ _ _ _) ?_)
  | (with_reducible refine ws_ret (te := tSl _ _ _ _) ?_)
  | (with_reducible refine ws_ret (te := tOp rCat _ _) ?_)
  | (with_reducible refine ws_ret (wm_list ?_))
  | (with_reducible refine ws_retE ?_)
  | (with_reducible refine ws_asg (te := tLst _) ?_)
  | (with_reducible refine ws_asg (te := tLc _ _ _ _ _) ?_)
  | (refine ws_asgE (take_at rfl ?_))
  | (with_reducible refine ws_asg (te := tCall _ _ _ _) ?_)
  | (with_reducible refine ws_asg (te := tMake _ _ _ _ _) ?_)
  | (with_reducible refine ws_asg (te := tSl _ _ _ _) ?_)
  | (with_reducible refine ws_asg (te := tOp rCat _ _) ?_)
  | (with_reducible refine ws_asg (te := tDNewK) ?_)
  | (with_reducible refine ws_asg (wm_list ?_))
  | (with_reducible refine ws_asgE ?_)
  | ((with_reducible show (_ : Int) ≠ 0 ∧ _); (refine ⟨by decide, ?_⟩))
  | ((with_reducible show _ ≤ _ ∧ _); (refine ⟨(by walk_at "side"), ?_⟩))
  | ((with_reducible show _ < _ ∧ _); (refine ⟨(by walk_at "side"), ?_⟩))
  | ((with_reducible show (_ → _) ∧ (_ → _)); first | (refine ⟨fun hb => absurd hb (by walk_at "no"), fun _ => ?_⟩) | (refine ⟨fun _ => ?_, fun hb => absurd hb (by walk_at "no")⟩))
  | ((with_reducible show ∀ p : Addr, ∃ d, Frz (ml p _) d ∧ _); (intro p))
  | ((with_reducible show (slots _).Nodup ∧ _); (refine ⟨by simp [slots], ?_⟩))
  | (refine ⟨_, frz_ml, ?_⟩)
  | (refine ⟨_, frz_fz, ?_⟩)
  | (refine ⟨_, rfl, ?_⟩)
  | (with_reducible refine ⟨_, _, rfl, (by assumption), ?_⟩)
  | (with_reducible refine ⟨_, _, rfl, atI_0, ?_⟩)
  | (with_reducible refine ⟨_, _, rfl, atI_1, ?_⟩)
  | (refine ⟨_, _, rfl, rfl, ?_⟩)
  | (refine ⟨rfl, ?_⟩)
  | (refine Or.inl ⟨_, rfl, ?_⟩)
  | (refine Or.inr ⟨_, rfl, ?_⟩)
  | (refine ⟨_, Or.inl rfl, ?_⟩)
  | (refine ⟨_, Or.inr rfl, ?_⟩)
  | (dsimp only [List.set_cons_zero, List.set_cons_succ]))
local macro_rules | `(tactic| walk_at "z") => `(tactic| (repeat (walk_at "z1"; try dsimp only)))
section
variable {P : Program} {w : World} {K : PySem.W.Frag} {mg : Str → Option Value} {base : Heap}
def sp_law_fired : FSp := fun args Q => ∃ rs ts d, args = [fz (rowsD rs), fz d] ∧ Sq d ts ∧ MB.RB rs ∧ rs.length ≤ 60 ∧ ts.length ≤ 1000 ∧ ∀ (ns : List Int) p, ns.length ≤ 3600 → Q (ml p (ns.map .int)) args
theorem ok_law_fired (T : Txt K mg) : FnOk P w K mg base CX0 1 T.law_fired.a T.law_fired.fd ["_law_rows_here", "_law_taken_here"] (spF sp_law_fired) := by
  refine fok T.law_fired.F sc_law_fired (fun args Q h => ?_) (fun cdv A outer s H E hr args Q h => ?_)
  · obtain ⟨rs, ts, d, rfl, _⟩ := h
    rfl
  · obtain ⟨rs, ts, d, rfl, hd, rb, hr6, ht, q⟩ := h
    refine ⟨_, (pss_cons (ps_set (i := 2) sc_law_fired.nd rfl (by first | exact Or.inl rfl | exact Or.inr rfl) (pe_lst pa_nil))
      (pss_cons (ps_set (i := 3) sc_law_fired.nd rfl (by first | exact Or.inl rfl | exact Or.inr rfl) pe_dnewK)
      (pss_cons (ps_for PassesOwn.never rfl (pi_seq (pv 1)) (pg_name (i := 4) sc_law_fired.nd rfl (by first | exact Or.inl rfl | exact Or.inr rfl))
      (pss_one (ps_dput (hu_of hr) (pv 3) (pv 4) pe_bl rfl)))
      (pss_cons (ps_for PassesOwn.never rfl (pi_range1 rfl T.b_range (pa_cons (pe_callB call_len_seq (by rfl) T.b_len (by decide +kernel) (pa_cons (pv 0) pa_nil)) pa_nil)) (pg_name (i := 5) sc_law_fired.nd rfl (by first | exact Or.inl rfl | exact Or.inr rfl))
      (pss_one (ps_for PassesOwn.never rfl (pi_range1 rfl T.b_range (pa_cons (pe_callB call_len_seq (by rfl) T.b_len (by decide +kernel) (pa_cons (pv 0) pa_nil)) pa_nil)) (pg_name (i := 6) sc_law_fired.nd rfl (by first | exact Or.inl rfl | exact Or.inr rfl))
      (pss_cons (ps_set (i := 7) sc_law_fired.nd rfl (by first | exact Or.inl rfl | exact Or.inr rfl) (pe_ix ix_list (pv 0) (pv 6) (fun _ _ => rfl)))
      (pss_one (ps_if (PW.pt (pw_and (pt_cmpR op_eq (pe_ix ix_tup (pv 7) pe_int (fun _ _ => rfl)) pe_str (nomark _)) (pw_and (pt_cmp (pc_dnotin (hu_of hr) (pe_ix ix_tup (pv 7) pe_int (fun _ _ => rfl)) (pv 3))) (pw_and1 (pt_val (pe_callB (cr_all rfl) (by rfl) T.b_all (by decide +kernel) (pa_cons (pe_lc (own := [("_law_word", 4)]) (g := gName 4) (tt := tYes) rfl sc_law_fired.nd (pi_list (pe_ix ix_tup (pv 7) pe_int (fun _ _ => rfl))) (blkOk_by (own := [("_law_word", 4)]) (N := N_law_fired) (sc := defScope s_law_fired) (by decide +kernel)) (fun _ _ _ _ _ => pg_name (i := 4) sc_law_fired.nd rfl (Or.inl rfl)) (fun _ _ _ _ _ => pts_nil) (fun _ _ _ _ _ => (pe_cmp (pc_din (hu_of hr) (pv 4) (pv 3))))) pa_nil))))))) (pss_cons (ps_dput (hu_of hr) (pv 3) (pe_ix ix_tup (pv 7) pe_int (fun _ _ => rfl)) pe_bl rfl)
      (pss_one (ps_expr (pe_bm PySem.F.plainAttrs_list PySem.F.slot_list_append PySem.F.type_list_append mt_append (pv 2) (pa_cons (pv 6) pa_nil))))) pss_nil))))))
      (pss_one (ps_ret (pv 2))))))), ?_⟩
    show WS _ [some (fz _), some (fz _), none, none, none, none, none, none] _
    refine ws_seq (ws_asg (wm_lst (wa_nil ⟨[], rfl, by decide, fun p2 => ?_⟩)))
    refine ws_seq (ws_asg (wm_dnew fun p3 => ?_))
    show WS _ [some (fz _), some (fz _), some (ml p2 []), some (md p3 []), none, none, none, none] _
    refine ws_seq (ws_forSq (we_var (i := 1) rfl ⟨ts.map .str, hd, fun k e => ∃ y, e = [some (fz (rowsD rs)), some (fz d), some (ml p2 []), some (md p3 (kn (SX.insAll [] (ts.take k)))), y, none, none, none], ⟨_, rfl⟩, fun k x e hx ⟨y, ee⟩ => ?_, fun e ⟨y4, ee⟩ => ?_⟩))
    · subst ee
      rw [List.getElem?_map, Option.map_eq_some_iff] at hx
      obtain ⟨w, hw, rfl⟩ := hx
      refine ws_dput (we_bl ⟨⟨_, rfl⟩, we_var (i := 4) rfl ⟨_, p3, _, rfl, rfl, ?_, some (fz (.str w)), ?_⟩⟩)
      · rw [kn_length]
        have := SX.insAll_len (ts.take k) []
        rw [List.length_take] at this
        simp at this
        omega
      · rw [kn_put, ← MB.insAll_take hw]
        rfl
    · subst ee
      rw [List.length_map, List.take_length]
      have kl0 : (SX.insAll [] ts).length ≤ ts.length := by
        have := SX.insAll_len ts []
        simpa using this
      refine ws_drp (j := 4) ?_
      show WS _ [some (fz _), some (fz _), some (ml p2 (([] : List Int).map .int)), some (md p3 _), none, none, none, none] _
      generalize SX.insAll [] ts = ks0 at kl0 ⊢
      refine ws_seq (ws_forR (wa_cons (we_len (we_var (i := 0) rfl (.inl ⟨_, rfl, wa_nil ⟨(rs.length : Int), by simp, by omega, by omega, fun k e => ∃ ks ns x5 x6 x7, e = [some (fz (rowsD rs)), some (fz d), some (ml p2 ((ns : List Int).map .int)), some (md p3 (kn ks)), none, x5, x6, x7] ∧ ns.length ≤ 60 * k ∧ ks.length ≤ ts.length + 60 * k,
        ⟨ks0, [], none, none, none, rfl, by simp, by omega⟩, fun k e hk ⟨ks, ns, x5, x6, x7, ee, nl, kl⟩ => ?_, fun e ⟨ks, ns, x5, x6, x7, ee, nl, kl⟩ => ?_⟩⟩)))))
      · subst ee
        have hk' : k < rs.length := by simpa using hk
        show WS _ [some (fz _), some (fz _), some (ml p2 _), some (md p3 _), none, some (fz (.int (k : Int))), x6, x7] _
        refine ws_forR (wa_cons (we_len (we_var (i := 0) rfl (.inl ⟨_, rfl, wa_nil ⟨(rs.length : Int), by simp, by omega, by omega, fun j e => ∃ ks ns x6 x7, e = [some (fz (rowsD rs)), some (fz d), some (ml p2 ((ns : List Int).map .int)), some (md p3 (kn ks)), none, some (fz (.int (k : Int))), x6, x7] ∧ ns.length ≤ 60 * k + j ∧ ks.length ≤ ts.length + 60 * k + j,
          ⟨ks, ns, x6, x7, rfl, by omega, by omega⟩, fun j e hj ⟨ks, ns, x6, x7, ee, nl, kl⟩ => ?_, fun e ⟨ks, ns, x6, x7, ee, nl, kl⟩ => ⟨ks, ns, _, x6, x7, ee, by simp at nl; omega, by simp at kl; omega⟩⟩⟩))))
        subst ee
        have hj' : j < rs.length := by simpa using hj
        have hat : atI (rs.map rowD) (j : Int) = some (rowD rs[j]) := DV.atI_nat (by simp [hj'])
        have hm := List.getElem_mem hj'
        show WS _ [some (fz _), some (fz _), some (ml p2 _), some (md p3 _), none, some (fz (.int (k : Int))), some (fz (.int (j : Int))), x7] _
        refine ws_seq (ws_asgE (we_ixL (we_var (i := 0) rfl ⟨_, rfl, we_var (i := 6) rfl ⟨_, _, rfl, hat, ?_⟩⟩)))
        show WS _ [some (fz _), some (fz _), some (ml p2 _), some (md p3 _), none, some (fz (.int (k : Int))), some (fz (.int (j : Int))), some (fz (rowD rs[j]))] _
        have same : ∀ z7, ∃ ks' ns' x6 x7, [some (fz (rowsD rs)), some (fz d), some (ml p2 (ns.map .int)), some (md p3 (kn ks)), none, some (fz (.int (k : Int))), some (fz (.int (j : Int))), z7] = [some (fz (rowsD rs)), some (fz d), some (ml p2 ((ns' : List Int).map .int)), some (md p3 (kn ks')), none, some (fz (.int (k : Int))), x6, x7] ∧ ns'.length ≤ 60 * k + (j + 1) ∧ ks'.length ≤ ts.length + 60 * k + (j + 1) := fun z7 => ⟨ks, ns, _, _, rfl, by omega, by omega⟩
        generalize rs[j] = r at hm same ⊢
        cases r with
        | g w =>
          walk_at "z"
          exact same _
        | c b =>
          walk_at "z"
          exact same _
        | r w b =>
          have hb1 : b.length ≤ 1000 := rb.body _ hm
          walk_at "z"
          refine ⟨_, _, _, rfl, rfl, dk_md, ?_⟩
          rw [dkeys_kn]
          by_cases c1 : w ∈ ks
          · refine ⟨_, rfl, fun z => absurd z (by simp [c1]), fun _ => ?_⟩
            walk_at "z"
            exact same _
          refine ⟨_, rfl, fun _ => ?_, fun z => absurd z (by simp [c1])⟩
          walk_at "z"
          refine lcI_boolsA .str (fun w => decide (w ∈ ks)) (by decide) rfl (by omega) (fun x hx => ?_) rfl ?_
          · walk_at "z"
            exact ⟨_, _, _, rfl, rfl, dk_md, by rw [dkeys_kn], rfl⟩
          rw [List.all_map]
          walk_at "z"
          refine ⟨fun z => ?_, fun z => ?_⟩
          · refine ws_seq (ws_dput (we_bl ⟨⟨_, rfl⟩, we_ixT (we_var (i := 7) rfl ⟨_, rfl, we_int ⟨_, _, rfl, atI_1, w, p3, _, rfl, rfl, by rw [kn_length]; omega, ?_⟩⟩)⟩))
            rw [kn_put]
            show WS _ [some (fz _), some (fz _), some (ml p2 _), some (md p3 _), none, some (fz (.int (k : Int))), some (fz (.int (j : Int))), some (fz _)] _
            have := SX.ins_len ks w
            refine ws_append (i := 2) rfl (we_var (i := 6) rfl ⟨rfl, by simp; omega, SX.ins ks w, ns ++ [(j : Int)], some (fz (.int (j : Int))), some (fz (rowD (.r w b))), by rw [List.map_append]; rfl, by simp; omega, by omega⟩)
          · walk_at "z"
            exact same _
      · subst ee
        exact ws_ret (wm_move (i := 2) rfl (fin2 (q ns p2 (by simp at nl; omega))))
/-- the rules that fire, in order -/
theorem fired_at [B : Bs] {ta : TA} {es : Es} {EE : XK} {Q : Own → Es → Prop} (h : WA ta es fun as e => ∃ rs ts d, as = [.d (rowsD rs), .d d] ∧ Sq d ts ∧ MB.RB rs ∧ rs.length ≤ 60 ∧ ts.length ≤ 1000 ∧ ∀ (ns : List Int) p, ns.length ≤ 3600 → Q (ml p (ns.map .int)) e) : WM (tCall (spF sp_law_fired) [] EE ta) es Q :=
  wm_call fun σ G H Rs K hs k => h σ G H Rs K hs fun vs as G' H' Rs' es' s r st ⟨rs, ts, d, ea, hd, rb, hr, ht, q⟩ => k vs as G' H' Rs' es' s r st (by
    subst ea
    exact ⟨_, rfl, by simp [slots], rs, ts, d, rfl, hd, rb, hr, ht, q⟩)

end
end

section
local macro_rules | `(tactic| walk_at "no") => `(tactic| first | (with_reducible exact Bool.false_ne_true) | (with_reducible exact fun z => Bool.false_ne_true z.symm) | (simp only [decide_eq_true_eq, decide_eq_false_iff_not]; omega) | (decide +kernel) | (simp; done) | (simp; omega) | (exact Bool.false_ne_true) | (exact fun z => Bool.false_ne_true z.symm))
local macro_rules | `(tactic| walk_at "side") => `(tactic| first | omega | assumption | (refine Nat.le_trans (m := 100000) ?_ (by decide); first | omega | (simp <;> omega)) | (simp <;> omega))
local macro_rules | `(tactic| walk_at "w1") => `(tactic| first
  | (with_reducible refine ws_seq ?_)
  | (with_reducible refine ws_if ?_)
  | (with_reducible refine ws_nx ?_)
  | (with_reducible refine ws_retN ?_)
  | ((with_reducible show WE (tVar _) _ _); (refine we_var rfl ?_))
  | (with_reducible refine we_int ?_)
  | (with_reducible refine we_str ?_)
  | (with_reducible refine we_bl ?_)
  | (with_reducible refine we_non ?_)
  | (with_reducible refine wt_test ?_)
  | (with_reducible refine wt_B ?_)
  | (with_reducible refine wt_yes ?_)
  | (with_reducible refine wt_and ?_)
  | (with_reducible refine wt_or ?_)
  | (with_reducible refine wt_not ?_)
  | (with_reducible refine we_andV ?_)
  | (with_reducible refine we_orV ?_)
  | (with_reducible refine we_notV ?_)
  | (with_reducible refine we_if ?_)
  | (with_reducible refine we_rB0 ?_)
  | (with_reducible refine we_rI0 ?_)
  | (with_reducible refine we_rI ?_)
  | (with_reducible refine we_eq ?_)
  | (with_reducible refine we_din ?_)
  | (with_reducible refine we_dnotin ?_)
  | (with_reducible refine we_ne ?_)
  | (with_reducible refine we_isN ?_)
  | (with_reducible refine we_notN ?_)
  | (with_reducible refine we_addS ?_)
  | (with_reducible refine we_inC ?_)
  | (with_reducible refine we_inS ?_)
  | (with_reducible refine we_lenS ?_)
  | (with_reducible refine we_all ?_)
  | (with_reducible refine we_any ?_)
  | (with_reducible refine we_join ?_)
  | (with_reducible refine we_tup ?_)
  | (with_reducible refine we_ixL ?_)
  | (with_reducible refine we_ixT ?_)
  | (with_reducible refine we_ixS ?_)
  | (with_reducible refine we_len ?_)
  | (with_reducible refine wa_nil ?_)
  | (with_reducible refine wa_cons ?_)
  | (with_reducible refine wo_none ?_)
  | (with_reducible refine wo_some ?_)
  | (with_reducible refine wm_lst ?_)
  | (with_reducible refine wm_cat ?_)
  | (with_reducible refine wm_slL ?_)
  | (with_reducible refine wm_sortSet ?_)
  | (with_reducible refine we_isi ?_)
  | (with_reducible refine we_int1 ?_)
  | (with_reducible refine we_tupOf ?_)
  | (with_reducible refine we_slT ?_)
  | (with_reducible refine we_min ?_)
  | (with_reducible refine we_eqD ?_)
  | (with_reducible refine we_neD ?_)
  | (with_reducible refine we_ixs ?_)
  | (with_reducible refine we_neg ?_)
  | (with_reducible refine wm_list ?_)
  | (with_reducible refine wm_split ?_)
  | (with_reducible refine wm_dnew ?_)
  | (with_reducible refine take_at rfl ?_)
  | (with_reducible refine wm_call ?_)
  | (with_reducible refine wm_callX (by assumption) ?_)
  | (with_reducible refine wm_callX lets0 ?_)
  | (with_reducible refine wm_make ?_)
  | (with_reducible refine wm_lcL ?_)
  | (with_reducible refine wm_lcSq ?_)
  | (with_reducible refine wm_lcT ?_)
  | (with_reducible refine wm_lcR ?_)
  | (with_reducible refine wm_lcS ?_)
  | (with_reducible refine we_wm (te := tLst _) ?_)
  | (with_reducible refine we_wm (te := tLc _ _ _ _ _) ?_)
  | (refine take_at rfl ?_)
  | (with_reducible refine known_at ?_)
  | (with_reducible refine we_wm (te := tCall _ _ _ _) ?_)
  | (with_reducible refine we_wm (te := tCallS _ _ _) ?_)
  | (with_reducible refine we_wm (te := tSl _ _ _ _) ?_)
  | (with_reducible refine we_wm (te := tOp rCat _ _) ?_)
  | (with_reducible refine we_wm (te := tCB _ _) ?_)
  | (with_reducible refine we_wm (te := tM1 _ _ _) ?_)
  | (with_reducible refine ws_ret (te := tLst _) ?_)
  | (with_reducible refine ws_ret (te := tLc _ _ _ _ _) ?_)
  | (refine ws_retE (take_at rfl ?_))
  | (with_reducible refine ws_ret (te := tCall _ _ _ _) ?_)
  | (with_reducible refine ws_ret (te := tMake _ _ _ _ _) ?_)
  | (with_reducible refine ws_ret (te := tMeth _ _ _ _ _ _ _) ?_)
  | (with_reducible refine ws_ret (te := tSl _ _ _ _) ?_)
  | (with_reducible refine ws_ret (te := tOp rCat _ _) ?_)
  | (with_reducible refine ws_ret (wm_list ?_))
  | (with_reducible refine ws_retE ?_)
  | (with_reducible refine ws_asg (te := tLst _) ?_)
  | (with_reducible refine ws_asg (te := tLc _ _ _ _ _) ?_)
  | (refine ws_asgE (take_at rfl ?_))
  | (with_reducible refine ws_asg (te := tCall _ _ _ _) ?_)
  | (with_reducible refine ws_asg (te := tMake _ _ _ _ _) ?_)
  | (with_reducible refine ws_asg (te := tSl _ _ _ _) ?_)
  | (with_reducible refine ws_asg (te := tOp rCat _ _) ?_)
  | (with_reducible refine ws_asg (te := tDNewK) ?_)
  | (with_reducible refine ws_asg (wm_list ?_))
  | (with_reducible refine ws_asgE ?_)
  | ((with_reducible show _ ≤ _ ∧ _); (refine ⟨(by walk_at "side"), ?_⟩))
  | ((with_reducible show _ < _ ∧ _); (refine ⟨(by walk_at "side"), ?_⟩))
  | ((with_reducible show (_ → _) ∧ (_ → _)); first | (refine ⟨fun hb => absurd hb (by walk_at "no"), fun _ => ?_⟩) | (refine ⟨fun _ => ?_, fun hb => absurd hb (by walk_at "no")⟩))
  | ((with_reducible show ∀ p : Addr, ∃ d, Frz (ml p _) d ∧ _); (intro p))
  | ((with_reducible show (slots _).Nodup ∧ _); (refine ⟨by simp [slots], ?_⟩))
  | (refine ⟨_, frz_ml, ?_⟩)
  | (refine ⟨_, frz_fz, ?_⟩)
  | (refine ⟨_, rfl, ?_⟩)
  | (with_reducible refine ⟨_, _, rfl, atI_0, ?_⟩)
  | (with_reducible refine ⟨_, _, rfl, atI_1, ?_⟩)
  | (refine ⟨_, _, rfl, rfl, ?_⟩)
  | (refine ⟨rfl, ?_⟩)
  | (refine Or.inl ⟨_, rfl, ?_⟩)
  | (refine Or.inr ⟨_, rfl, ?_⟩)
  | (refine ⟨_, Or.inl rfl, ?_⟩)
  | (refine ⟨_, Or.inr rfl, ?_⟩)
  | (dsimp only [List.set_cons_zero, List.set_cons_succ]))
local macro_rules | `(tactic| walk_at "w") => `(tactic| (repeat (walk_at "w1"; try dsimp only)))
local macro_rules | `(tactic| walk_at "z1") => `(tactic| first
  | (with_reducible refine ws_seq ?_)
  | (with_reducible refine ws_if ?_)
  | (with_reducible refine ws_nx ?_)
  | ((with_reducible show WE (tCall _ _ _ _) _ _); first | (with_reducible refine walked_at ?_) | (refine take_at rfl ?_) | (with_reducible refine known_at ?_) | (refine words_at rfl ?_) | (refine row_at rfl ?_) | (refine number_at rfl ?_) | (with_reducible refine is_way_at ?_) | (with_reducible refine law_walks_at ?_) | (refine right_at rfl ?_) | (with_reducible refine we_wm (copied_at ?_)) | (with_reducible refine we_wm (grounds_at ?_)) | (refine we_wm (taken_at rfl ?_)) | (refine we_wm (rows_at rfl ?_)))
  | ((with_reducible show WM (tCall _ _ _ _) _ _); first | (refine wm_we (take_at rfl ?_)) | (refine wm_we (words_at rfl ?_)) | (refine wm_we (row_at rfl ?_)) | (refine wm_we (number_at rfl ?_)) | (with_reducible refine fired_at ?_) | (refine spoilt_at rfl ?_) | (refine wm_we (right_at rfl ?_)) | (refine begun_at rfl (by assumption) ?_) | (refine rows_at rfl ?_) | (with_reducible refine copied_at ?_) | (with_reducible refine grounds_at ?_) | (refine taken_at rfl ?_))
  | ((with_reducible show WM (tCallS _ _ _) _ _); first | (refine way_at rfl ?_))
  | ((with_reducible show WM (tMake _ _ _ _ _) _ _); first | (with_reducible refine book_at ?_))
  | ((with_reducible show WM (tMeth _ _ _ _ _ _ _) _ _); first | (refine tell_at rfl ?_))
  | (with_reducible refine ws_retN ?_)
  | ((with_reducible show WE (tVar _) _ _); first | (refine we_var rfl ?_) | (refine we_varF rfl ?_) | (refine we_varFd rfl ?_))
  | (with_reducible refine we_int ?_)
  | (with_reducible refine we_str ?_)
  | (with_reducible refine we_bl ?_)
  | (with_reducible refine we_non ?_)
  | (with_reducible refine wt_test ?_)
  | (with_reducible refine wt_B ?_)
  | (with_reducible refine wt_yes ?_)
  | (with_reducible refine wt_and ?_)
  | (with_reducible refine wt_or ?_)
  | (with_reducible refine wt_not ?_)
  | (with_reducible refine we_andV ?_)
  | (with_reducible refine we_orV ?_)
  | (with_reducible refine we_notV ?_)
  | (with_reducible refine we_if ?_)
  | (with_reducible refine we_rB0 ?_)
  | (with_reducible refine we_rI0 ?_)
  | (with_reducible refine we_rI ?_)
  | (with_reducible refine we_eq ?_)
  | (with_reducible refine we_din ?_)
  | (with_reducible refine we_dnotin ?_)
  | (with_reducible refine we_ne ?_)
  | ((with_reducible show WE (tOp _ (tVar _) (tC .non)) _ _); first | (refine we_isNM rfl ?_) | (refine we_notNM rfl ?_))
  | (with_reducible refine we_isN ?_)
  | (with_reducible refine we_notN ?_)
  | (with_reducible refine we_addS ?_)
  | (with_reducible refine we_inC ?_)
  | (with_reducible refine we_inS ?_)
  | (with_reducible refine we_lenS ?_)
  | (with_reducible refine we_all ?_)
  | (with_reducible refine we_any ?_)
  | (with_reducible refine we_join ?_)
  | (with_reducible refine we_tup ?_)
  | (with_reducible refine we_ixL ?_)
  | (with_reducible refine we_ixT ?_)
  | (with_reducible refine we_ixS ?_)
  | (with_reducible refine we_len ?_)
  | (with_reducible refine wa_nil ?_)
  | ((with_reducible show WA (tCons (tVar _) _) _ _); first | (refine wa_cons (we_var rfl ?_)) | (refine wa_slot (r := bk _ _ _ _) rfl ?_) | (refine wa_slot (r := bx _) rfl ?_) | (refine wa_slot (r := md _ _) rfl ?_) | (refine wa_cons (we_varF rfl ?_)))
  | (with_reducible refine wa_cons ?_)
  | (with_reducible refine wo_none ?_)
  | (with_reducible refine wo_some ?_)
  | (with_reducible refine wm_lst ?_)
  | (with_reducible refine wm_cat ?_)
  | (with_reducible refine wm_slL ?_)
  | (with_reducible refine wm_sortSet ?_)
  | (with_reducible refine we_isi ?_)
  | (with_reducible refine we_int1 ?_)
  | (with_reducible refine we_tupOf ?_)
  | (with_reducible refine we_slT ?_)
  | (with_reducible refine we_min ?_)
  | (with_reducible refine we_eqD ?_)
  | (with_reducible refine we_neD ?_)
  | (with_reducible refine we_ixs ?_)
  | (with_reducible refine we_neg ?_)
  | (with_reducible refine wm_list ?_)
  | (with_reducible refine wm_split ?_)
  | (with_reducible refine wm_dnew ?_)
  | (with_reducible refine take_at rfl ?_)
  | (with_reducible refine wm_call ?_)
  | (with_reducible refine wm_callX (by assumption) ?_)
  | (with_reducible refine wm_callX lets0 ?_)
  | (with_reducible refine wm_make ?_)
  | (with_reducible refine wm_lcL ?_)
  | (with_reducible refine wm_lcSq ?_)
  | (with_reducible refine wm_lcT ?_)
  | (with_reducible refine wm_lcR ?_)
  | (with_reducible refine wm_lcS ?_)
  | (with_reducible refine we_wm (te := tLst _) ?_)
  | (with_reducible refine we_wm (te := tLc _ _ _ _ _) ?_)
  | (refine take_at rfl ?_)
  | (with_reducible refine known_at ?_)
  | (with_reducible refine we_wm (te := tCall _ _ _ _) ?_)
  | (with_reducible refine we_wm (te := tCallS _ _ _) ?_)
  | (with_reducible refine ws_asg (te := tCallS _ _ _) ?_)
  | (with_reducible refine ws_asg (te := tMeth _ _ _ _ _ _ _) ?_)
  | (with_reducible refine ws_drop (te := tMeth _ _ _ _ _ _ _) ?_)
  | (with_reducible refine ws_drop (te := tCallS _ _ _) ?_)
  | (with_reducible refine we_wm (te := tSl _ _ _ _) ?_)
  | (with_reducible refine we_wm (te := tOp rCat _ _) ?_)
  | (with_reducible refine we_wm (te := tCB _ _) ?_)
  | (with_reducible refine we_wm (te := tM1 _ _ _) ?_)
  | (with_reducible refine ws_ret (te := tLst _) ?_)
  | (with_reducible refine ws_ret (te := tLc _ _ _ _ _) ?_)
  | (refine ws_retE (take_at rfl ?_))
  | (with_reducible refine ws_ret (te := tCall _ _ _ _) ?_)
  | (with_reducible refine ws_ret (te := tMake _ _ _ _ _) ?_)
  | (with_reducible refine ws_ret (te := tMeth _ _ _ _ _ _ _) ?_)
  | (with_reducible refine ws_ret (te := tSl _ _ _ _) ?_)
  | (with_reducible refine ws_ret (te := tOp rCat _ _) ?_)
  | (with_reducible refine ws_ret (wm_list ?_))
  | (with_reducible refine ws_retE ?_)
  | (with_reducible refine ws_asg (te := tLst _) ?_)
  | (with_reducible refine ws_asg (te := tLc _ _ _ _ _) ?_)
  | (refine ws_asgE (take_at rfl ?_))
  | (with_reducible refine ws_asg (te := tCall _ _ _ _) ?_)
  | (with_reducible refine ws_asg (te := tMake _ _ _ _ _) ?_)
  | (with_reducible refine ws_asg (te := tSl _ _ _ _) ?_)
  | (with_reducible refine ws_asg (te := tOp rCat _ _) ?_)
  | (with_reducible refine ws_asg (te := tDNewK) ?_)
  | (with_reducible refine ws_asg (wm_list ?_))
  | (with_reducible refine ws_asgE ?_)
  | ((with_reducible show (_ : Int) ≠ 0 ∧ _); (refine ⟨by decide, ?_⟩))
  | ((with_reducible show _ ≤ _ ∧ _); (refine ⟨(by walk_at "side"), ?_⟩))
  | ((with_reducible show _ < _ ∧ _); (refine ⟨(by walk_at "side"), ?_⟩))
  | ((with_reducible show (_ → _) ∧ (_ → _)); first | (refine ⟨fun hb => absurd hb (by walk_at "no"), fun _ => ?_⟩) | (refine ⟨fun _ => ?_, fun hb => absurd hb (by walk_at "no")⟩))
  | ((with_reducible show ∀ p : Addr, ∃ d, Frz (ml p _) d ∧ _); (intro p))
  | ((with_reducible show (slots _).Nodup ∧ _); (refine ⟨by simp [slots], ?_⟩))
  | (refine ⟨_, frz_ml, ?_⟩)
  | (refine ⟨_, frz_fz, ?_⟩)
  | (refine ⟨_, rfl, ?_⟩)
  | (with_reducible refine ⟨_, _, rfl, (by assumption), ?_⟩)
  | (with_reducible refine ⟨_, _, rfl, atI_0, ?_⟩)
  | (with_reducible refine ⟨_, _, rfl, atI_1, ?_⟩)
  | (refine ⟨_, _, rfl, rfl, ?_⟩)
  | (refine ⟨rfl, ?_⟩)
  | (refine Or.inl ⟨_, rfl, ?_⟩)
  | (refine Or.inr ⟨_, rfl, ?_⟩)
  | (refine ⟨_, Or.inl rfl, ?_⟩)
  | (refine ⟨_, Or.inr rfl, ?_⟩)
  | (dsimp only [List.set_cons_zero, List.set_cons_succ]))
local macro_rules | `(tactic| walk_at "z") => `(tactic| (repeat (walk_at "z1"; try dsimp only)))
section
variable {P : Program} {w : World} {K : PySem.W.Frag} {mg : Str → Option Value} {base : Heap}
def sp_law_number : FSp := fun args Q => ∃ p rs, args = [bx p, fz (rowsD rs)] ∧ rs.length ≤ 1000 ∧ ∀ z : Int, Q (fz (.int z)) args
/-- a number drawn from the box, however big -/
theorem takeB_at [B : Bs] {i : Nat} {p : Addr} {es : Es} {ta : TA} {EE : XK} {Q : PyData → Es → Prop} (hi : es[i]? = some (some (bx p))) (h : WA ta es fun as e => ∃ m : Int, as = [.d (.int m)] ∧ e = es ∧ 0 < m ∧ m.natAbs.log2 < 9000 ∧ ∀ r : Int, Q (.int r) es) :
    WE (tCall (spF sp_law_take) [] EE (tCons (tVar i) ta)) es Q := by
  refine we_call (wa_slot hi fun σ G H Rs K hs k => h σ G H Rs K hs fun vs as G' H' Rs' es' s r st ⟨m, ea, ee, hm, hl, q⟩ => k vs as G' H' Rs' es' s r st ?_)
  subst ea ee
  refine ⟨[bx p, fz (.int m)], by simp [lend, hi], by simp [slots], p, m, rfl, hm, hl, fun r h0 h1 => ⟨_, frz_fz, ?_⟩⟩
  have : back es' [.s i, .d (.int m)] [bx p, fz (.int m)] = es' := set_self hi
  rw [this]
  exact q r
theorem ok_law_number (T : Txt K mg) : FnOk P w K mg base CX0 2 T.law_number.a T.law_number.fd ["_law_box", "_law_rows_here"] (spF sp_law_number) := by
  refine fok T.law_number.F sc_law_number (fun args Q h => ?_) (fun cdv A outer s H E hr args Q h => ?_)
  · obtain ⟨p, rs, rfl, _⟩ := h
    rfl
  · obtain ⟨p, rs, rfl, hl, q⟩ := h
    refine ⟨_, (pss_cons (ps_set (i := 2) sc_law_number.nd rfl (by first | exact Or.inl rfl | exact Or.inr rfl) (pe_call (ok_law_take T) (hr.mono (by decide)) rfl T.law_take.m T.law_take.F.kp T.law_take.b .nil pass0 (pa_cons (pv 0) (pa_cons (pe_op op_pow pe_int pe_int) pa_nil))))
      (pss_cons (ps_set (i := 3) sc_law_number.nd rfl (by first | exact Or.inl rfl | exact Or.inr rfl) (pe_lst (pa_cons (pe_call (ok_law_take T) (hr.mono (by decide)) rfl T.law_take.m T.law_take.F.kp T.law_take.b .nil pass0 (pa_cons (pv 0) (pa_cons (pe_op op_add (pe_callB call_len_seq (by rfl) T.b_len (by decide +kernel) (pa_cons (pv 1) pa_nil)) pe_int) pa_nil))) (pa_cons (pe_call (ok_law_take T) (hr.mono (by decide)) rfl T.law_take.m T.law_take.F.kp T.law_take.b .nil pass0 (pa_cons (pv 0) (pa_cons (pe_op op_add (pe_callB call_len_seq (by rfl) T.b_len (by decide +kernel) (pa_cons (pv 1) pa_nil)) pe_int) pa_nil))) (pa_cons (pe_un un_neg pe_int) (pa_cons (pe_callB call_len_seq (by rfl) T.b_len (by decide +kernel) (pa_cons (pv 1) pa_nil)) (pa_cons (pv 2) (pa_cons (pe_op op_sub pe_int (pv 2)) pa_nil))))))))
      (pss_one (ps_ret (pe_ix ix_list (pv 3) (pe_call (ok_law_take T) (hr.mono (by decide)) rfl T.law_take.m T.law_take.F.kp T.law_take.b .nil pass0 (pa_cons (pv 0) (pa_cons pe_int pa_nil))) (fun _ _ => rfl)))))), ?_⟩
    show WS _ [some (bx _), some (fz _), none, none] _
    refine ws_seq (ws_asgE (takeB_at (i := 0) rfl ?_))
    walk_at "z"
    refine ⟨by unfold CPow; decide +kernel, wa_nil ⟨_, rfl, rfl, by decide +kernel, by decide +kernel, fun far => ?_⟩⟩
    show WS _ [some (bx _), some (fz _), some (fz (.int far)), none] _
    walk_at "z"
    intro r1 h1
    clear h1
    walk_at "z"
    intro r2 h2
    clear h2
    walk_at "z"
    refine fun p3 => ws_frz (i := 3) rfl frz_ml ?_
    have six : ∀ r : Nat, (r : Int) < 6 → ∃ z : Int, atI [PyData.int (r1 : Int), .int (r2 : Int), .int (-1), .int ((rs.map rowD).length : Nat), .int far, .int (0 - far)] (r : Int) = some (.int z) := fun r hr => by
      have : r < 6 := by omega
      match r, this with
      | 0, _ => exact ⟨_, rfl⟩
      | 1, _ => exact ⟨_, rfl⟩
      | 2, _ => exact ⟨_, rfl⟩
      | 3, _ => exact ⟨_, rfl⟩
      | 4, _ => exact ⟨_, rfl⟩
      | 5, _ => exact ⟨_, rfl⟩
    show WS _ [some (bx _), some (fz _), some (fz (.int far)), some (fz _)] _
    walk_at "z"
    intro r hr
    obtain ⟨z, hz⟩ := six r hr
    exact ⟨_, _, rfl, hz, finS1 pin_bx (q z)⟩
/-- any number, drawn -/
theorem number_at [B : Bs] {i : Nat} {p : Addr} {es : Es} {ta : TA} {EE : XK} {Q : PyData → Es → Prop} (hi : es[i]? = some (some (bx p))) (h : WA ta es fun as e => ∃ rs, as = [.d (rowsD rs)] ∧ e = es ∧ rs.length ≤ 1000 ∧ ∀ z : Int, Q (.int z) es) :
    WE (tCall (spF sp_law_number) [] EE (tCons (tVar i) ta)) es Q := by
  refine we_call (wa_slot hi fun σ G H Rs K hs k => h σ G H Rs K hs fun vs as G' H' Rs' es' s r st ⟨rs, ea, ee, hl, q⟩ => k vs as G' H' Rs' es' s r st ?_)
  subst ea ee
  refine ⟨[bx p, fz (rowsD rs)], by simp [lend, hi], by simp [slots], p, rs, rfl, hl, fun z => ⟨_, frz_fz, ?_⟩⟩
  have : back es' [.s i, .d (rowsD rs)] [bx p, fz (rowsD rs)] = es' := set_self hi
  rw [this]
  exact q z

end
end

section
local macro_rules | `(tactic| walk_at "no") => `(tactic| first | (with_reducible exact Bool.false_ne_true) | (with_reducible exact fun z => Bool.false_ne_true z.symm) | (simp only [decide_eq_true_eq, decide_eq_false_iff_not]; omega) | (decide +kernel) | (simp; done) | (simp; omega) | (exact Bool.false_ne_true) | (exact fun z => Bool.false_ne_true z.symm))
local macro_rules | `(tactic| walk_at "side") => `(tactic| first | omega | assumption | (refine Nat.le_trans (m := 100000) ?_ (by decide); first | omega | (simp <;> omega)) | (simp <;> omega))
local macro_rules | `(tactic| walk_at "w1") => `(tactic| first
  | (with_reducible refine ws_seq ?_)
  | (with_reducible refine ws_if ?_)
  | (with_reducible refine ws_nx ?_)
  | (with_reducible refine ws_retN ?_)
  | ((with_reducible show WE (tVar _) _ _); (refine we_var rfl ?_))
  | (with_reducible refine we_int ?_)
  | (with_reducible refine we_str ?_)
  | (with_reducible refine we_bl ?_)
  | (with_reducible refine we_non ?_)
  | (with_reducible refine wt_test ?_)
  | (with_reducible refine wt_B ?_)
  | (with_reducible refine wt_yes ?_)
  | (with_reducible refine wt_and ?_)
  | (with_reducible refine wt_or ?_)
  | (with_reducible refine wt_not ?_)
  | (with_reducible refine we_andV ?_)
  | (with_reducible refine we_orV ?_)
  | (with_reducible refine we_notV ?_)
  | (with_reducible refine we_if ?_)
  | (with_reducible refine we_rB0 ?_)
  | (with_reducible refine we_rI0 ?_)
  | (with_reducible refine we_rI ?_)
  | (with_reducible refine we_eq ?_)
  | (with_reducible refine we_din ?_)
  | (with_reducible refine we_dnotin ?_)
  | (with_reducible refine we_ne ?_)
  | (with_reducible refine we_isN ?_)
  | (with_reducible refine we_notN ?_)
  | (with_reducible refine we_addS ?_)
  | (with_reducible refine we_inC ?_)
  | (with_reducible refine we_inS ?_)
  | (with_reducible refine we_lenS ?_)
  | (with_reducible refine we_all ?_)
  | (with_reducible refine we_any ?_)
  | (with_reducible refine we_join ?_)
  | (with_reducible refine we_tup ?_)
  | (with_reducible refine we_ixL ?_)
  | (with_reducible refine we_ixT ?_)
  | (with_reducible refine we_ixS ?_)
  | (with_reducible refine we_len ?_)
  | (with_reducible refine wa_nil ?_)
  | (with_reducible refine wa_cons ?_)
  | (with_reducible refine wo_none ?_)
  | (with_reducible refine wo_some ?_)
  | (with_reducible refine wm_lst ?_)
  | (with_reducible refine wm_cat ?_)
  | (with_reducible refine wm_slL ?_)
  | (with_reducible refine wm_sortSet ?_)
  | (with_reducible refine we_isi ?_)
  | (with_reducible refine we_int1 ?_)
  | (with_reducible refine we_tupOf ?_)
  | (with_reducible refine we_slT ?_)
  | (with_reducible refine we_min ?_)
  | (with_reducible refine we_eqD ?_)
  | (with_reducible refine we_neD ?_)
  | (with_reducible refine we_ixs ?_)
  | (with_reducible refine we_neg ?_)
  | (with_reducible refine wm_list ?_)
  | (with_reducible refine wm_split ?_)
  | (with_reducible refine wm_dnew ?_)
  | (with_reducible refine take_at rfl ?_)
  | (with_reducible refine wm_call ?_)
  | (with_reducible refine wm_callX (by assumption) ?_)
  | (with_reducible refine wm_callX lets0 ?_)
  | (with_reducible refine wm_make ?_)
  | (with_reducible refine wm_lcL ?_)
  | (with_reducible refine wm_lcSq ?_)
  | (with_reducible refine wm_lcT ?_)
  | (with_reducible refine wm_lcR ?_)
  | (with_reducible refine wm_lcS ?_)
  | (with_reducible refine we_wm (te := tLst _) ?_)
  | (with_reducible refine we_wm (te := tLc _ _ _ _ _) ?_)
  | (refine take_at rfl ?_)
  | (with_reducible refine known_at ?_)
  | (with_reducible refine we_wm (te := tCall _ _ _ _) ?_)
  | (with_reducible refine we_wm (te := tCallS _ _ _) ?_)
  | (with_reducible refine we_wm (te := tSl _ _ _ _) ?_)
  | (with_reducible refine we_wm (te := tOp rCat _ _) ?_)
  | (with_reducible refine we_wm (te := tCB _ _) ?_)
  | (with_reducible refine we_wm (te := tM1 _ _ _) ?_)
  | (with_reducible refine ws_ret (te := tLst _) ?_)
  | (with_reducible refine ws_ret (te := tLc _ _ _ _ _) ?_)
  | (refine ws_retE (take_at rfl ?_))
  | (with_reducible refine ws_ret (te := tCall _ _ _ _) ?_)
  | (with_reducible refine ws_ret (te := tMake _ _ _ _ _) ?_)
  | (with_reducible refine ws_ret (te := tMeth _ _ _ _ _ _ _) ?_)
  | (with_reducible refine ws_ret (te := tSl _ _ _ _) ?_)
  | (with_reducible refine ws_ret (te := tOp rCat _ _) ?_)
  | (with_reducible refine ws_ret (wm_list ?_))
  | (with_reducible refine ws_retE ?_)
  | (with_reducible refine ws_asg (te := tLst _) ?_)
  | (with_reducible refine ws_asg (te := tLc _ _ _ _ _) ?_)
  | (refine ws_asgE (take_at rfl ?_))
  | (with_reducible refine ws_asg (te := tCall _ _ _ _) ?_)
  | (with_reducible refine ws_asg (te := tMake _ _ _ _ _) ?_)
  | (with_reducible refine ws_asg (te := tSl _ _ _ _) ?_)
  | (with_reducible refine ws_asg (te := tOp rCat _ _) ?_)
  | (with_reducible refine ws_asg (te := tDNewK) ?_)
  | (with_reducible refine ws_asg (wm_list ?_))
  | (with_reducible refine ws_asgE ?_)
  | ((with_reducible show _ ≤ _ ∧ _); (refine ⟨(by walk_at "side"), ?_⟩))
  | ((with_reducible show _ < _ ∧ _); (refine ⟨(by walk_at "side"), ?_⟩))
  | ((with_reducible show (_ → _) ∧ (_ → _)); first | (refine ⟨fun hb => absurd hb (by walk_at "no"), fun _ => ?_⟩) | (refine ⟨fun _ => ?_, fun hb => absurd hb (by walk_at "no")⟩))
  | ((with_reducible show ∀ p : Addr, ∃ d, Frz (ml p _) d ∧ _); (intro p))
  | ((with_reducible show (slots _).Nodup ∧ _); (refine ⟨by simp [slots], ?_⟩))
  | (refine ⟨_, frz_ml, ?_⟩)
  | (refine ⟨_, frz_fz, ?_⟩)
  | (refine ⟨_, rfl, ?_⟩)
  | (with_reducible refine ⟨_, _, rfl, atI_0, ?_⟩)
  | (with_reducible refine ⟨_, _, rfl, atI_1, ?_⟩)
  | (refine ⟨_, _, rfl, rfl, ?_⟩)
  | (refine ⟨rfl, ?_⟩)
  | (refine Or.inl ⟨_, rfl, ?_⟩)
  | (refine Or.inr ⟨_, rfl, ?_⟩)
  | (refine ⟨_, Or.inl rfl, ?_⟩)
  | (refine ⟨_, Or.inr rfl, ?_⟩)
  | (dsimp only [List.set_cons_zero, List.set_cons_succ]))
local macro_rules | `(tactic| walk_at "w") => `(tactic| (repeat (walk_at "w1"; try dsimp only)))
local macro_rules | `(tactic| walk_at "z1") => `(tactic| first
  | (with_reducible refine ws_seq ?_)
  | (with_reducible refine ws_if ?_)
  | (with_reducible refine ws_nx ?_)
  | ((with_reducible show WE (tCall _ _ _ _) _ _); first | (with_reducible refine walked_at ?_) | (refine take_at rfl ?_) | (with_reducible refine known_at ?_) | (refine words_at rfl ?_) | (refine row_at rfl ?_) | (refine number_at rfl ?_) | (with_reducible refine is_way_at ?_) | (with_reducible refine law_walks_at ?_) | (refine right_at rfl ?_) | (with_reducible refine we_wm (copied_at ?_)) | (with_reducible refine we_wm (grounds_at ?_)) | (refine we_wm (taken_at rfl ?_)) | (refine we_wm (rows_at rfl ?_)))
  | ((with_reducible show WM (tCall _ _ _ _) _ _); first | (refine wm_we (take_at rfl ?_)) | (refine wm_we (words_at rfl ?_)) | (refine wm_we (row_at rfl ?_)) | (refine wm_we (number_at rfl ?_)) | (with_reducible refine fired_at ?_) | (refine spoilt_at rfl ?_) | (refine wm_we (right_at rfl ?_)) | (refine begun_at rfl (by assumption) ?_) | (refine rows_at rfl ?_) | (with_reducible refine copied_at ?_) | (with_reducible refine grounds_at ?_) | (refine taken_at rfl ?_))
  | ((with_reducible show WM (tCallS _ _ _) _ _); first | (refine way_at rfl ?_))
  | ((with_reducible show WM (tMake _ _ _ _ _) _ _); first | (with_reducible refine book_at ?_))
  | ((with_reducible show WM (tMeth _ _ _ _ _ _ _) _ _); first | (refine tell_at rfl ?_))
  | (with_reducible refine ws_retN ?_)
  | ((with_reducible show WE (tVar _) _ _); first | (refine we_var rfl ?_) | (refine we_varF rfl ?_) | (refine we_varFd rfl ?_))
  | (with_reducible refine we_int ?_)
  | (with_reducible refine we_str ?_)
  | (with_reducible refine we_bl ?_)
  | (with_reducible refine we_non ?_)
  | (with_reducible refine wt_test ?_)
  | (with_reducible refine wt_B ?_)
  | (with_reducible refine wt_yes ?_)
  | (with_reducible refine wt_and ?_)
  | (with_reducible refine wt_or ?_)
  | (with_reducible refine wt_not ?_)
  | (with_reducible refine we_andV ?_)
  | (with_reducible refine we_orV ?_)
  | (with_reducible refine we_notV ?_)
  | (with_reducible refine we_if ?_)
  | (with_reducible refine we_rB0 ?_)
  | (with_reducible refine we_rI0 ?_)
  | (with_reducible refine we_rI ?_)
  | (with_reducible refine we_eq ?_)
  | (with_reducible refine we_din ?_)
  | (with_reducible refine we_dnotin ?_)
  | (with_reducible refine we_ne ?_)
  | ((with_reducible show WE (tOp _ (tVar _) (tC .non)) _ _); first | (refine we_isNM rfl ?_) | (refine we_notNM rfl ?_))
  | (with_reducible refine we_isN ?_)
  | (with_reducible refine we_notN ?_)
  | (with_reducible refine we_addS ?_)
  | (with_reducible refine we_inC ?_)
  | (with_reducible refine we_inS ?_)
  | (with_reducible refine we_lenS ?_)
  | (with_reducible refine we_all ?_)
  | (with_reducible refine we_any ?_)
  | (with_reducible refine we_join ?_)
  | (with_reducible refine we_tup ?_)
  | (with_reducible refine we_ixL ?_)
  | (with_reducible refine we_ixT ?_)
  | (with_reducible refine we_ixS ?_)
  | (with_reducible refine we_len ?_)
  | (with_reducible refine wa_nil ?_)
  | ((with_reducible show WA (tCons (tVar _) _) _ _); first | (refine wa_cons (we_var rfl ?_)) | (refine wa_slot (r := bk _ _ _ _) rfl ?_) | (refine wa_slot (r := bx _) rfl ?_) | (refine wa_slot (r := md _ _) rfl ?_) | (refine wa_cons (we_varF rfl ?_)))
  | (with_reducible refine wa_cons ?_)
  | (with_reducible refine wo_none ?_)
  | (with_reducible refine wo_some ?_)
  | (with_reducible refine wm_lst ?_)
  | (with_reducible refine wm_cat ?_)
  | (with_reducible refine wm_slL ?_)
  | (with_reducible refine wm_sortSet ?_)
  | (with_reducible refine we_isi ?_)
  | (with_reducible refine we_int1 ?_)
  | (with_reducible refine we_tupOf ?_)
  | (with_reducible refine we_slT ?_)
  | (with_reducible refine we_min ?_)
  | (with_reducible refine we_eqD ?_)
  | (with_reducible refine we_neD ?_)
  | (with_reducible refine we_ixs ?_)
  | (with_reducible refine we_neg ?_)
  | (with_reducible refine wm_list ?_)
  | (with_reducible refine wm_split ?_)
  | (with_reducible refine wm_dnew ?_)
  | (with_reducible refine take_at rfl ?_)
  | (with_reducible refine wm_call ?_)
  | (with_reducible refine wm_callX (by assumption) ?_)
  | (with_reducible refine wm_callX lets0 ?_)
  | (with_reducible refine wm_make ?_)
  | (with_reducible refine wm_lcL ?_)
  | (with_reducible refine wm_lcSq ?_)
  | (with_reducible refine wm_lcT ?_)
  | (with_reducible refine wm_lcR ?_)
  | (with_reducible refine wm_lcS ?_)
  | (with_reducible refine we_wm (te := tLst _) ?_)
  | (with_reducible refine we_wm (te := tLc _ _ _ _ _) ?_)
  | (refine take_at rfl ?_)
  | (with_reducible refine known_at ?_)
  | (with_reducible refine we_wm (te := tCall _ _ _ _) ?_)
  | (with_reducible refine we_wm (te := tCallS _ _ _) ?_)
  | (with_reducible refine ws_asg (te := tCallS _ _ _) ?_)
  | (with_reducible refine ws_asg (te := tMeth _ _ _ _ _ _ _) ?_)
  | (with_reducible refine ws_drop (te := tMeth _ _ _ _ _ _ _) ?_)
  | (with_reducible refine ws_drop (te := tCallS _ _ _) ?_)
  | (with_reducible refine we_wm (te := tSl _ _ _ _) ?_)
  | (with_reducible refine we_wm (te := tOp rCat _ _) ?_)
  | (with_reducible refine we_wm (te := tCB _ _) ?_)
  | (with_reducible refine we_wm (te := tM1 _ _ _) ?_)
  | (with_reducible refine ws_ret (te := tLst _) ?_)
  | (with_reducible refine ws_ret (te := tLc _ _ _ _ _) ?_)
  | (refine ws_retE (take_at rfl ?_))
  | (with_reducible refine ws_ret (te := tCall _ _ _ _) ?_)
  | (with_reducible refine ws_ret (te := tMake _ _ _ _ _) ?_)
  | (with_reducible refine ws_ret (te := tMeth _ _ _ _ _ _ _) ?_)
  | (with_reducible refine ws_ret (te := tSl _ _ _ _) ?_)
  | (with_reducible refine ws_ret (te := tOp rCat _ _) ?_)
  | (with_reducible refine ws_ret (wm_list ?_))
  | (with_reducible refine ws_retE ?_)
  | (with_reducible refine ws_asg (te := tLst _) ?_)
  | (with_reducible refine ws_asg (te := tLc _ _ _ _ _) ?_)
  | (refine ws_asgE (take_at rfl ?_))
  | (with_reducible refine ws_asg (te := tCall _ _ _ _) ?_)
  | (with_reducible refine ws_asg (te := tMake _ _ _ _ _) ?_)
  | (with_reducible refine ws_asg (te := tSl _ _ _ _) ?_)
  | (with_reducible refine ws_asg (te := tOp rCat _ _) ?_)
  | (with_reducible refine ws_asg (te := tDNewK) ?_)
  | (with_reducible refine ws_asg (wm_list ?_))
  | (with_reducible refine ws_asgE ?_)
  | ((with_reducible show (_ : Int) ≠ 0 ∧ _); (refine ⟨by decide, ?_⟩))
  | ((with_reducible show _ ≤ _ ∧ _); (refine ⟨(by walk_at "side"), ?_⟩))
  | ((with_reducible show _ < _ ∧ _); (refine ⟨(by walk_at "side"), ?_⟩))
  | ((with_reducible show (_ → _) ∧ (_ → _)); first | (refine ⟨fun hb => absurd hb (by walk_at "no"), fun _ => ?_⟩) | (refine ⟨fun _ => ?_, fun hb => absurd hb (by walk_at "no")⟩))
  | ((with_reducible show ∀ p : Addr, ∃ d, Frz (ml p _) d ∧ _); (intro p))
  | ((with_reducible show (slots _).Nodup ∧ _); (refine ⟨by simp [slots], ?_⟩))
  | (refine ⟨_, frz_ml, ?_⟩)
  | (refine ⟨_, frz_fz, ?_⟩)
  | (refine ⟨_, rfl, ?_⟩)
  | (with_reducible refine ⟨_, _, rfl, (by assumption), ?_⟩)
  | (with_reducible refine ⟨_, _, rfl, atI_0, ?_⟩)
  | (with_reducible refine ⟨_, _, rfl, atI_1, ?_⟩)
  | (refine ⟨_, _, rfl, rfl, ?_⟩)
  | (refine ⟨rfl, ?_⟩)
  | (refine Or.inl ⟨_, rfl, ?_⟩)
  | (refine Or.inr ⟨_, rfl, ?_⟩)
  | (refine ⟨_, Or.inl rfl, ?_⟩)
  | (refine ⟨_, Or.inr rfl, ?_⟩)
  | (dsimp only [List.set_cons_zero, List.set_cons_succ]))
local macro_rules | `(tactic| walk_at "z") => `(tactic| (repeat (walk_at "z1"; try dsimp only)))
section
variable {P : Program} {w : World} {K : PySem.W.Frag} {mg : Str → Option Value} {base : Heap}
def sp_law_spoilt : FSp := fun args Q => ∃ p rs ns, args = [bx p, fz (rowsD rs), fz (.list ((ns : List Int).map .int))] ∧ rs.length ≤ 1000 ∧ ns.length ≤ 5000 ∧ ∀ b (ms : List Int), ms.length ≤ ns.length + 1 → Q (ml b (ms.map .int)) args
theorem ok_law_spoilt (T : Txt K mg) : FnOk P w K mg base CX0 3 T.law_spoilt.a T.law_spoilt.fd ["_law_box", "_law_rows_here", "_law_numbers"] (spF sp_law_spoilt) := by
  refine fok T.law_spoilt.F sc_law_spoilt (fun args Q h => ?_) (fun cdv A outer s H E hr args Q h => ?_)
  · obtain ⟨p, rs, ns, rfl, _⟩ := h
    rfl
  · obtain ⟨p, rs, ns, rfl, hl, hn, q⟩ := h
    refine ⟨_, (pss_cons (ps_set (i := 3) sc_law_spoilt.nd rfl (by first | exact Or.inl rfl | exact Or.inr rfl) (pe_call (ok_law_take T) (hr.mono (by decide)) rfl T.law_take.m T.law_take.F.kp T.law_take.b .nil pass0 (pa_cons (pv 0) (pa_cons (pe_op op_add (pe_callB call_len_seq (by rfl) T.b_len (by decide +kernel) (pa_cons (pv 2) pa_nil)) pe_int) pa_nil))))
      (pss_cons (ps_set (i := 4) sc_law_spoilt.nd rfl (by first | exact Or.inl rfl | exact Or.inr rfl) (pe_call (ok_law_take T) (hr.mono (by decide)) rfl T.law_take.m T.law_take.F.kp T.law_take.b .nil pass0 (pa_cons (pv 0) (pa_cons pe_int pa_nil))))
      (pss_cons (ps_if (PW.pt (pw_or (pt_cmpR op_eq (pv 4) pe_int (nomark _)) (pw_or (pt_cmpR (op_eqD hr.units) (pv 2) (pe_lst pa_nil) (nomark _)) (pw_or1 (pt_cmpR op_eq (pv 3) (pe_callB call_len_seq (by rfl) T.b_len (by decide +kernel) (pa_cons (pv 2) pa_nil)) (nomark _)))))) (pss_one (ps_ret (pe_op op_cat (pe_op op_cat (pe_slice sl_list (pv 2) po_none (po_some (pv 3))) (pe_lst (pa_cons (pe_call (ok_law_number T) (hr.mono (by decide)) rfl T.law_number.m T.law_number.F.kp T.law_number.b .nil pass0 (pa_cons (pv 0) (pa_cons (pv 1) pa_nil))) pa_nil))) (pe_slice sl_list (pv 2) (po_some (pv 3)) po_none)))) pss_nil)
      (pss_cons (ps_if (pt_cmpR op_eq (pv 4) pe_int (nomark _)) (pss_one (ps_ret (pe_op op_cat (pe_slice sl_list (pv 2) po_none (po_some (pv 3))) (pe_slice sl_list (pv 2) (po_some (pe_op op_add (pv 3) pe_int)) po_none)))) pss_nil)
      (pss_cons (ps_if (pt_cmpR op_eq (pv 4) pe_int (nomark _)) (pss_one (ps_ret (pe_op op_cat (pe_op op_cat (pe_slice sl_list (pv 2) po_none (po_some (pv 3))) (pe_lst (pa_cons (pe_ix ix_list (pv 2) (pv 3) (fun _ _ => rfl)) pa_nil))) (pe_slice sl_list (pv 2) (po_some (pv 3)) po_none)))) pss_nil)
      (pss_cons (ps_if (pt_cmpR op_eq (pv 4) pe_int (nomark _)) (pss_one (ps_ret (pe_op op_cat (pe_op op_cat (pe_slice sl_list (pv 2) po_none (po_some (pv 3))) (pe_lst (pa_cons (pe_call (ok_law_number T) (hr.mono (by decide)) rfl T.law_number.m T.law_number.F.kp T.law_number.b .nil pass0 (pa_cons (pv 0) (pa_cons (pv 1) pa_nil))) pa_nil))) (pe_slice sl_list (pv 2) (po_some (pe_op op_add (pv 3) pe_int)) po_none)))) pss_nil)
      (pss_cons (ps_set (i := 5) sc_law_spoilt.nd rfl (by first | exact Or.inl rfl | exact Or.inr rfl) (pe_op op_cat (pe_slice sl_list (pv 2) po_none (po_some (pv 3))) (pe_slice sl_list (pv 2) (po_some (pe_op op_add (pv 3) pe_int)) po_none)))
      (pss_cons (ps_set (i := 6) sc_law_spoilt.nd rfl (by first | exact Or.inl rfl | exact Or.inr rfl) (pe_call (ok_law_take T) (hr.mono (by decide)) rfl T.law_take.m T.law_take.F.kp T.law_take.b .nil pass0 (pa_cons (pv 0) (pa_cons (pe_op op_add (pe_callB call_len_seq (by rfl) T.b_len (by decide +kernel) (pa_cons (pv 5) pa_nil)) pe_int) pa_nil))))
      (pss_one (ps_ret (pe_op op_cat (pe_op op_cat (pe_slice sl_list (pv 5) po_none (po_some (pv 6))) (pe_lst (pa_cons (pe_ix ix_list (pv 2) (pv 3) (fun _ _ => rfl)) pa_nil))) (pe_slice sl_list (pv 5) (po_some (pv 6)) po_none)))))))))))), ?_⟩
    show WS _ [some (bx _), some (fz _), some (fz _), none, none, none, none] _
    walk_at "z"
    intro a hat
    have ha : a ≤ ns.length := by simp at hat; omega
    clear hat
    walk_at "z"
    intro r hr
    have hr6 : r < 6 := by omega
    clear hr
    have out : ∀ (ms : List Int) ds b y3 y4 y5 y6, ds = ms.map PyData.int → ms.length ≤ ns.length + 1 → DV.Fin [bx p, fz (rowsD rs), fz (.list (ns.map .int))] Q (ml b ds) [some (bx p), some (fz (rowsD rs)), some (fz (.list (ns.map .int))), y3, y4, y5, y6] := fun ms ds b y3 y4 y5 y6 e l => by
      rw [e]
      exact finS2 pin_bx (q b ms l)
    have shp : SeqAt.shaped (.list (ns.map .int)) = true := (sh_list (n := 0) (xs := ns.map .int) fun x hx => by
      obtain ⟨i, _, rfl⟩ := List.mem_map.mp hx
      exact sh_int i).shaped
    show WS _ [some (bx _), some (fz _), some (fz _), some (fz (.int (a : Int))), some (fz (.int (r : Int))), none, none] _
    have csucc : ∀ xs : List PyData, DV.cutD xs (some ((a : Int) + 1)) none = xs.drop (a + 1) := fun xs => cut_drop xs (a + 1)
    have eq0 : PyData.eqv (.list (ns.map .int)) (.list []) = decide (ns = []) := by
      cases ns with
      | nil => rfl
      | cons n ns => simp [PyData.eqv, PyData.eqvAll]
    refine ws_seq (ws_if (wt_or ?_))
    walk_at "z"
    refine ⟨fun h0 => ?_, fun h0 => ?_⟩
    · skip
      walk_at "z"
      intro z
      walk_at "z"
      rw [cut_take]
      refine ⟨by simp; omega, fun b1 => ?_⟩
      walk_at "z"
      rw [cut_drop]
      refine ⟨by simp; omega, fun b2 => ?_⟩
      exact out (ns.take a ++ [z] ++ ns.drop a) _ _ _ _ _ _ (by simp) (by simp; omega)
    walk_at "z"
    refine ⟨shp, rfl, _, rfl, ?_⟩
    rw [eq0]
    refine ⟨fun h1 => ?_, fun h1 => ?_⟩
    · skip
      walk_at "z"
      intro z
      walk_at "z"
      rw [cut_take]
      refine ⟨by simp; omega, fun b1 => ?_⟩
      walk_at "z"
      rw [cut_drop]
      refine ⟨by simp; omega, fun b2 => ?_⟩
      exact out (ns.take a ++ [z] ++ ns.drop a) _ _ _ _ _ _ (by simp) (by simp; omega)
    walk_at "z"
    refine ⟨fun h2 => ?_, fun h2 => ?_⟩
    · skip
      walk_at "z"
      intro z
      walk_at "z"
      rw [cut_take]
      refine ⟨by simp; omega, fun b1 => ?_⟩
      walk_at "z"
      rw [cut_drop]
      refine ⟨by simp; omega, fun b2 => ?_⟩
      exact out (ns.take a ++ [z] ++ ns.drop a) _ _ _ _ _ _ (by simp) (by simp; omega)
    have ha2 : a < ns.length := by
      have : a ≠ ns.length := fun z => by simp [z] at h2
      omega
    have hat : atI (ns.map PyData.int) (a : Int) = some (.int ns[a]) := DV.atI_nat (k := a) (by simp [ha2])
    have hr0 : r ≠ 0 := fun z => by simp [z] at h0
    walk_at "z"
    refine ⟨fun h0 => ?_, fun h0 => ?_⟩
    · walk_at "z"
      rw [cut_take, csucc]
      refine ⟨by simp; omega, fun b2 => ?_⟩
      exact out (ns.take a ++ ns.drop (a + 1)) _ _ _ _ _ _ (by simp) (by simp; omega)
    walk_at "z"
    refine ⟨fun h0 => ?_, fun h0 => ?_⟩
    · walk_at "z"
      rw [cut_take]
      refine ⟨by simp; omega, fun b1 => ?_⟩
      walk_at "z"
      rw [cut_drop]
      refine ⟨by simp; omega, fun b2 => ?_⟩
      exact out (ns.take a ++ [ns[a]] ++ ns.drop a) _ _ _ _ _ _ (by rw [List.map_append, List.map_append, List.map_take, List.map_drop]; rfl) (by simp; omega)
    walk_at "z"
    refine ⟨fun h0 => ?_, fun h0 => ?_⟩
    · skip
      walk_at "z"
      intro z
      walk_at "z"
      rw [cut_take]
      refine ⟨by simp; omega, fun b1 => ?_⟩
      walk_at "z"
      rw [csucc]
      refine ⟨by simp; omega, fun b2 => ?_⟩
      exact out (ns.take a ++ [z] ++ ns.drop (a + 1)) _ _ _ _ _ _ (by simp) (by simp; omega)
    walk_at "z"
    rw [cut_take, csucc]
    refine ⟨by simp; omega, fun b5 => ?_⟩
    have el : (ns.map PyData.int).take a ++ (ns.map PyData.int).drop (a + 1) = (ns.take a ++ ns.drop (a + 1)).map .int := by simp
    rw [el]
    have ll : (ns.take a ++ ns.drop (a + 1)).length < ns.length := by simp; omega
    generalize ns.take a ++ ns.drop (a + 1) = left at ll ⊢
    refine ws_frz (i := 5) rfl frz_ml ?_
    show WS _ [some (bx _), some (fz _), some (fz _), some (fz (.int (a : Int))), some (fz (.int (r : Int))), some (fz (.list (left.map .int))), none] _
    walk_at "z"
    intro t ht
    have ht' : t ≤ left.length := by simp at ht; omega
    clear ht
    walk_at "z"
    rw [cut_take]
    refine ⟨by simp; omega, fun b1 => ?_⟩
    walk_at "z"
    rw [cut_drop]
    refine ⟨by simp; omega, fun b2 => ?_⟩
    exact out (left.take t ++ [ns[a]] ++ left.drop t) _ _ _ _ _ _ (by simp) (by simp; omega)
/-- one deed on the numbers -/
theorem spoilt_at [B : Bs] {i : Nat} {p : Addr} {es : Es} {ta : TA} {EE : XK} {Q : Own → Es → Prop} (hi : es[i]? = some (some (bx p))) (h : WA ta es fun as e => ∃ rs, ∃ ns : List Int, as = [.d (rowsD rs), .d (.list (ns.map .int))] ∧ e = es ∧ rs.length ≤ 1000 ∧ ns.length ≤ 5000 ∧ ∀ b (ms : List Int), ms.length ≤ ns.length + 1 → Q (ml b (ms.map .int)) es) :
    WM (tCall (spF sp_law_spoilt) [] EE (tCons (tVar i) ta)) es Q := by
  refine wm_call (wa_slot hi fun σ G H Rs K hs k => h σ G H Rs K hs fun vs as G' H' Rs' es' s r st ⟨rs, ns, ea, ee, hl, hn, q⟩ => k vs as G' H' Rs' es' s r st ?_)
  subst ea ee
  refine ⟨[bx p, fz (rowsD rs), fz (.list (ns.map .int))], by simp [lend, hi], by simp [slots], p, rs, ns, rfl, hl, hn, fun b ms hm => ?_⟩
  have : back es' [.s i, .d (rowsD rs), .d (.list (ns.map .int))] [bx p, fz (rowsD rs), fz (.list (ns.map .int))] = es' := set_self hi
  dsimp only
  rw [this]
  exact q b ms hm

end
end

section
local macro_rules | `(tactic| walk_at "no") => `(tactic| first | (with_reducible exact Bool.false_ne_true) | (with_reducible exact fun z => Bool.false_ne_true z.symm) | (simp only [decide_eq_true_eq, decide_eq_false_iff_not]; omega) | (decide +kernel) | (simp; done) | (simp; omega) | (exact Bool.false_ne_true) | (exact fun z => Bool.false_ne_true z.symm))
local macro_rules | `(tactic| walk_at "side") => `(tactic| first | omega | assumption | (refine Nat.le_trans (m := 100000) ?_ (by decide); first | omega | (simp <;> omega)) | (simp <;> omega))
local macro_rules | `(tactic| walk_at "w1") => `(tactic| first
  | (with_reducible refine ws_seq ?_)
  | (with_reducible refine ws_if ?_)
  | (with_reducible refine ws_nx ?_)
  | (with_reducible refine ws_retN ?_)
  | ((with_reducible show WE (tVar _) _ _); (refine we_var rfl ?_))
  | (with_reducible refine we_int ?_)
  | (with_reducible refine we_str ?_)
  | (with_reducible refine we_bl ?_)
  | (with_reducible refine we_non ?_)
  | (with_reducible refine wt_test ?_)
  | (with_reducible refine wt_B ?_)
  | (with_reducible refine wt_yes ?_)
  | (with_reducible refine wt_and ?_)
  | (with_reducible refine wt_or ?_)
  | (with_reducible refine wt_not ?_)
  | (with_reducible refine we_andV ?_)
  | (with_reducible refine we_orV ?_)
  | (with_reducible refine we_notV ?_)
  | (with_reducible refine we_if ?_)
  | (with_reducible refine we_rB0 ?_)
  | (with_reducible refine we_rI0 ?_)
  | (with_reducible refine we_rI ?_)
  | (with_reducible refine we_eq ?_)
  | (with_reducible refine we_din ?_)
  | (with_reducible refine we_dnotin ?_)
  | (with_reducible refine we_ne ?_)
  | (with_reducible refine we_isN ?_)
  | (with_reducible refine we_notN ?_)
  | (with_reducible refine we_addS ?_)
  | (with_reducible refine we_inC ?_)
  | (with_reducible refine we_inS ?_)
  | (with_reducible refine we_lenS ?_)
  | (with_reducible refine we_all ?_)
  | (with_reducible refine we_any ?_)
  | (with_reducible refine we_join ?_)
  | (with_reducible refine we_tup ?_)
  | (with_reducible refine we_ixL ?_)
  | (with_reducible refine we_ixT ?_)
  | (with_reducible refine we_ixS ?_)
  | (with_reducible refine we_len ?_)
  | (with_reducible refine wa_nil ?_)
  | (with_reducible refine wa_cons ?_)
  | (with_reducible refine wo_none ?_)
  | (with_reducible refine wo_some ?_)
  | (with_reducible refine wm_lst ?_)
  | (with_reducible refine wm_cat ?_)
  | (with_reducible refine wm_slL ?_)
  | (with_reducible refine wm_sortSet ?_)
  | (with_reducible refine we_isi ?_)
  | (with_reducible refine we_int1 ?_)
  | (with_reducible refine we_tupOf ?_)
  | (with_reducible refine we_slT ?_)
  | (with_reducible refine we_min ?_)
  | (with_reducible refine we_eqD ?_)
  | (with_reducible refine we_neD ?_)
  | (with_reducible refine we_ixs ?_)
  | (with_reducible refine we_neg ?_)
  | (with_reducible refine wm_list ?_)
  | (with_reducible refine wm_split ?_)
  | (with_reducible refine wm_dnew ?_)
  | (with_reducible refine take_at rfl ?_)
  | (with_reducible refine wm_call ?_)
  | (with_reducible refine wm_callX (by assumption) ?_)
  | (with_reducible refine wm_callX lets0 ?_)
  | (with_reducible refine wm_make ?_)
  | (with_reducible refine wm_lcL ?_)
  | (with_reducible refine wm_lcSq ?_)
  | (with_reducible refine wm_lcT ?_)
  | (with_reducible refine wm_lcR ?_)
  | (with_reducible refine wm_lcS ?_)
  | (with_reducible refine we_wm (te := tLst _) ?_)
  | (with_reducible refine we_wm (te := tLc _ _ _ _ _) ?_)
  | (refine take_at rfl ?_)
  | (with_reducible refine known_at ?_)
  | (with_reducible refine we_wm (te := tCall _ _ _ _) ?_)
  | (with_reducible refine we_wm (te := tCallS _ _ _) ?_)
  | (with_reducible refine we_wm (te := tSl _ _ _ _) ?_)
  | (with_reducible refine we_wm (te := tOp rCat _ _) ?_)
  | (with_reducible refine we_wm (te := tCB _ _) ?_)
  | (with_reducible refine we_wm (te := tM1 _ _ _) ?_)
  | (with_reducible refine ws_ret (te := tLst _) ?_)
  | (with_reducible refine ws_ret (te := tLc _ _ _ _ _) ?_)
  | (refine ws_retE (take_at rfl ?_))
  | (with_reducible refine ws_ret (te := tCall _ _ _ _) ?_)
  | (with_reducible refine ws_ret (te := tMake _ _ _ _ _) ?_)
  | (with_reducible refine ws_ret (te := tMeth _ _ _ _ _ _ _) ?_)
  | (with_reducible refine ws_ret (te := tSl _ _ _ _) ?_)
  | (with_reducible refine ws_ret (te := tOp rCat _ _) ?_)
  | (with_reducible refine ws_ret (wm_list ?_))
  | (with_reducible refine ws_retE ?_)
  | (with_reducible refine ws_asg (te := tLst _) ?_)
  | (with_reducible refine ws_asg (te := tLc _ _ _ _ _) ?_)
  | (refine ws_asgE (take_at rfl ?_))
  | (with_reducible refine ws_asg (te := tCall _ _ _ _) ?_)
  | (with_reducible refine ws_asg (te := tMake _ _ _ _ _) ?_)
  | (with_reducible refine ws_asg (te := tSl _ _ _ _) ?_)
  | (with_reducible refine ws_asg (te := tOp rCat _ _) ?_)
  | (with_reducible refine ws_asg (te := tDNewK) ?_)
  | (with_reducible refine ws_asg (wm_list ?_))
  | (with_reducible refine ws_asgE ?_)
  | ((with_reducible show _ ≤ _ ∧ _); (refine ⟨(by walk_at "side"), ?_⟩))
  | ((with_reducible show _ < _ ∧ _); (refine ⟨(by walk_at "side"), ?_⟩))
  | ((with_reducible show (_ → _) ∧ (_ → _)); first | (refine ⟨fun hb => absurd hb (by walk_at "no"), fun _ => ?_⟩) | (refine ⟨fun _ => ?_, fun hb => absurd hb (by walk_at "no")⟩))
  | ((with_reducible show ∀ p : Addr, ∃ d, Frz (ml p _) d ∧ _); (intro p))
  | ((with_reducible show (slots _).Nodup ∧ _); (refine ⟨by simp [slots], ?_⟩))
  | (refine ⟨_, frz_ml, ?_⟩)
  | (refine ⟨_, frz_fz, ?_⟩)
  | (refine ⟨_, rfl, ?_⟩)
  | (with_reducible refine ⟨_, _, rfl, atI_0, ?_⟩)
  | (with_reducible refine ⟨_, _, rfl, atI_1, ?_⟩)
  | (refine ⟨_, _, rfl, rfl, ?_⟩)
  | (refine ⟨rfl, ?_⟩)
  | (refine Or.inl ⟨_, rfl, ?_⟩)
  | (refine Or.inr ⟨_, rfl, ?_⟩)
  | (refine ⟨_, Or.inl rfl, ?_⟩)
  | (refine ⟨_, Or.inr rfl, ?_⟩)
  | (dsimp only [List.set_cons_zero, List.set_cons_succ]))
local macro_rules | `(tactic| walk_at "w") => `(tactic| (repeat (walk_at "w1"; try dsimp only)))
local macro_rules | `(tactic| walk_at "z1") => `(tactic| first
  | (with_reducible refine ws_seq ?_)
  | (with_reducible refine ws_if ?_)
  | (with_reducible refine ws_nx ?_)
  | ((with_reducible show WE (tCall _ _ _ _) _ _); first | (with_reducible refine walked_at ?_) | (refine take_at rfl ?_) | (with_reducible refine known_at ?_) | (refine words_at rfl ?_) | (refine row_at rfl ?_) | (refine number_at rfl ?_) | (with_reducible refine is_way_at ?_) | (with_reducible refine law_walks_at ?_) | (refine right_at rfl ?_) | (with_reducible refine we_wm (copied_at ?_)) | (with_reducible refine we_wm (grounds_at ?_)) | (refine we_wm (taken_at rfl ?_)) | (refine we_wm (rows_at rfl ?_)))
  | ((with_reducible show WM (tCall _ _ _ _) _ _); first | (refine wm_we (take_at rfl ?_)) | (refine wm_we (words_at rfl ?_)) | (refine wm_we (row_at rfl ?_)) | (refine wm_we (number_at rfl ?_)) | (with_reducible refine fired_at ?_) | (refine spoilt_at rfl ?_) | (refine wm_we (right_at rfl ?_)) | (refine begun_at rfl (by assumption) ?_) | (refine rows_at rfl ?_) | (with_reducible refine copied_at ?_) | (with_reducible refine grounds_at ?_) | (refine taken_at rfl ?_))
  | ((with_reducible show WM (tCallS _ _ _) _ _); first | (refine way_at rfl ?_))
  | ((with_reducible show WM (tMake _ _ _ _ _) _ _); first | (with_reducible refine book_at ?_))
  | ((with_reducible show WM (tMeth _ _ _ _ _ _ _) _ _); first | (refine tell_at rfl ?_))
  | (with_reducible refine ws_retN ?_)
  | ((with_reducible show WE (tVar _) _ _); first | (refine we_var rfl ?_) | (refine we_varF rfl ?_) | (refine we_varFd rfl ?_))
  | (with_reducible refine we_int ?_)
  | (with_reducible refine we_str ?_)
  | (with_reducible refine we_bl ?_)
  | (with_reducible refine we_non ?_)
  | (with_reducible refine wt_test ?_)
  | (with_reducible refine wt_B ?_)
  | (with_reducible refine wt_yes ?_)
  | (with_reducible refine wt_and ?_)
  | (with_reducible refine wt_or ?_)
  | (with_reducible refine wt_not ?_)
  | (with_reducible refine we_andV ?_)
  | (with_reducible refine we_orV ?_)
  | (with_reducible refine we_notV ?_)
  | (with_reducible refine we_if ?_)
  | (with_reducible refine we_rB0 ?_)
  | (with_reducible refine we_rI0 ?_)
  | (with_reducible refine we_rI ?_)
  | (with_reducible refine we_eq ?_)
  | (with_reducible refine we_din ?_)
  | (with_reducible refine we_dnotin ?_)
  | (with_reducible refine we_ne ?_)
  | ((with_reducible show WE (tOp _ (tVar _) (tC .non)) _ _); first | (refine we_isNM rfl ?_) | (refine we_notNM rfl ?_))
  | (with_reducible refine we_isN ?_)
  | (with_reducible refine we_notN ?_)
  | (with_reducible refine we_addS ?_)
  | (with_reducible refine we_inC ?_)
  | (with_reducible refine we_inS ?_)
  | (with_reducible refine we_lenS ?_)
  | (with_reducible refine we_all ?_)
  | (with_reducible refine we_any ?_)
  | (with_reducible refine we_join ?_)
  | (with_reducible refine we_tup ?_)
  | (with_reducible refine we_ixL ?_)
  | (with_reducible refine we_ixT ?_)
  | (with_reducible refine we_ixS ?_)
  | (with_reducible refine we_len ?_)
  | (with_reducible refine wa_nil ?_)
  | ((with_reducible show WA (tCons (tVar _) _) _ _); first | (refine wa_cons (we_var rfl ?_)) | (refine wa_slot (r := bk _ _ _ _) rfl ?_) | (refine wa_slot (r := bx _) rfl ?_) | (refine wa_slot (r := md _ _) rfl ?_) | (refine wa_cons (we_varF rfl ?_)))
  | (with_reducible refine wa_cons ?_)
  | (with_reducible refine wo_none ?_)
  | (with_reducible refine wo_some ?_)
  | (with_reducible refine wm_lst ?_)
  | (with_reducible refine wm_cat ?_)
  | (with_reducible refine wm_slL ?_)
  | (with_reducible refine wm_sortSet ?_)
  | (with_reducible refine we_isi ?_)
  | (with_reducible refine we_int1 ?_)
  | (with_reducible refine we_tupOf ?_)
  | (with_reducible refine we_slT ?_)
  | (with_reducible refine we_min ?_)
  | (with_reducible refine we_eqD ?_)
  | (with_reducible refine we_neD ?_)
  | (with_reducible refine we_ixs ?_)
  | (with_reducible refine we_neg ?_)
  | (with_reducible refine wm_list ?_)
  | (with_reducible refine wm_split ?_)
  | (with_reducible refine wm_dnew ?_)
  | (with_reducible refine take_at rfl ?_)
  | (with_reducible refine wm_call ?_)
  | (with_reducible refine wm_callX (by assumption) ?_)
  | (with_reducible refine wm_callX lets0 ?_)
  | (with_reducible refine wm_make ?_)
  | (with_reducible refine wm_lcL ?_)
  | (with_reducible refine wm_lcSq ?_)
  | (with_reducible refine wm_lcT ?_)
  | (with_reducible refine wm_lcR ?_)
  | (with_reducible refine wm_lcS ?_)
  | (with_reducible refine we_wm (te := tLst _) ?_)
  | (with_reducible refine we_wm (te := tLc _ _ _ _ _) ?_)
  | (refine take_at rfl ?_)
  | (with_reducible refine known_at ?_)
  | (with_reducible refine we_wm (te := tCall _ _ _ _) ?_)
  | (with_reducible refine we_wm (te := tCallS _ _ _) ?_)
  | (with_reducible refine ws_asg (te := tCallS _ _ _) ?_)
  | (with_reducible refine ws_asg (te := tMeth _ _ _ _ _ _ _) ?_)
  | (with_reducible refine ws_drop (te := tMeth _ _ _ _ _ _ _) ?_)
  | (with_reducible refine ws_drop (te := tCallS _ _ _) ?_)
  | (with_reducible refine we_wm (te := tSl _ _ _ _) ?_)
  | (with_reducible refine we_wm (te := tOp rCat _ _) ?_)
  | (with_reducible refine we_wm (te := tCB _ _) ?_)
  | (with_reducible refine we_wm (te := tM1 _ _ _) ?_)
  | (with_reducible refine ws_ret (te := tLst _) ?_)
  | (with_reducible refine ws_ret (te := tLc _ _ _ _ _) ?_)
  | (refine ws_retE (take_at rfl ?_))
  | (with_reducible refine ws_ret (te := tCall _ _ _ _) ?_)
  | (with_reducible refine ws_ret (te := tMake _ _ _ _ _) ?_)
  | (with_reducible refine ws_ret (te := tMeth _ _ _ _ _ _ _) ?_)
  | (with_reducible refine ws_ret (te := tSl _ _ _ _) ?_)
  | (with_reducible refine ws_ret (te := tOp rCat _ _) ?_)
  | (with_reducible refine ws_ret (wm_list ?_))
  | (with_reducible refine ws_retE ?_)
  | (with_reducible refine ws_asg (te := tLst _) ?_)
  | (with_reducible refine ws_asg (te := tLc _ _ _ _ _) ?_)
  | (refine ws_asgE (take_at rfl ?_))
  | (with_reducible refine ws_asg (te := tCall _ _ _ _) ?_)
  | (with_reducible refine ws_asg (te := tMake _ _ _ _ _) ?_)
  | (with_reducible refine ws_asg (te := tSl _ _ _ _) ?_)
  | (with_reducible refine ws_asg (te := tOp rCat _ _) ?_)
  | (with_reducible refine ws_asg (te := tDNewK) ?_)
  | (with_reducible refine ws_asg (wm_list ?_))
  | (with_reducible refine ws_asgE ?_)
  | ((with_reducible show (_ : Int) ≠ 0 ∧ _); (refine ⟨by decide, ?_⟩))
  | ((with_reducible show _ ≤ _ ∧ _); (refine ⟨(by walk_at "side"), ?_⟩))
  | ((with_reducible show _ < _ ∧ _); (refine ⟨(by walk_at "side"), ?_⟩))
  | ((with_reducible show (_ → _) ∧ (_ → _)); first | (refine ⟨fun hb => absurd hb (by walk_at "no"), fun _ => ?_⟩) | (refine ⟨fun _ => ?_, fun hb => absurd hb (by walk_at "no")⟩))
  | ((with_reducible show ∀ p : Addr, ∃ d, Frz (ml p _) d ∧ _); (intro p))
  | ((with_reducible show (slots _).Nodup ∧ _); (refine ⟨by simp [slots], ?_⟩))
  | (refine ⟨_, frz_ml, ?_⟩)
  | (refine ⟨_, frz_fz, ?_⟩)
  | (refine ⟨_, rfl, ?_⟩)
  | (with_reducible refine ⟨_, _, rfl, (by assumption), ?_⟩)
  | (with_reducible refine ⟨_, _, rfl, atI_0, ?_⟩)
  | (with_reducible refine ⟨_, _, rfl, atI_1, ?_⟩)
  | (refine ⟨_, _, rfl, rfl, ?_⟩)
  | (refine ⟨rfl, ?_⟩)
  | (refine Or.inl ⟨_, rfl, ?_⟩)
  | (refine Or.inr ⟨_, rfl, ?_⟩)
  | (refine ⟨_, Or.inl rfl, ?_⟩)
  | (refine ⟨_, Or.inr rfl, ?_⟩)
  | (dsimp only [List.set_cons_zero, List.set_cons_succ]))
local macro_rules | `(tactic| walk_at "z") => `(tactic| (repeat (walk_at "z1"; try dsimp only)))
section
variable {P : Program} {w : World} {K : PySem.W.Frag} {mg : Str → Option Value} {base : Heap}
def sp_law_stranger (T : Txt K mg) : FSp := fun args Q => ∃ (a l : Addr) (rs : List DV.Row) (w : Str) (ts : List Str) (ns : List Int) (s : Str), args = [bk T.C_Book a l rs, fz (.str w), fz (strsD ts), fz (.list (ns.map .int))] ∧ ns.length ≤ 10000 ∧ MB.RB rs ∧ ts.length ≤ 1000 ∧ MB.strangeOf rs ts = some s ∧ Q (fz (.str s)) args
theorem ok_law_stranger (T : Txt K mg) : FnOk P w K mg base CX0 5 T.law_stranger.a T.law_stranger.fd ["_law_book", "_law_thing", "_law_taken_here", "_law_numbers"] (spF (sp_law_stranger T)) := by
  refine fok T.law_stranger.F sc_law_stranger (fun args Q h => ?_) (fun cdv A outer s H E hr args Q h => ?_)
  · obtain ⟨a, l, rs, w, ts, ns, s, rfl, _⟩ := h
    rfl
  · obtain ⟨a, l, rs, w, ts, ns, st, rfl, hn4, rb, ht, hs, q⟩ := h
    refine ⟨_, (pss_cons (ps_tryX (i := 4) rfl rfl sc_law_stranger.nd rfl rfl ⟨rfl, by decide, .inl T.m_GroundError⟩ takes0 (fun W pn xe tk po =>
      (pss_one (ps_expr (pe_callS (ok_is_way T) (hr.mono (by decide)) rfl T.is_way.m T.is_way.F.kp T.is_way.b (fun σ => passAt tk σ) (pa_cons (pv 0) (pa_cons (pv 1) (pa_cons (pv 2) (pa_cons (pv 3) pa_nil)))))))) (fun a oe cls d pn hz hf isx =>
      (pss_cons (ps_set (i := 5) sc_law_stranger.nd rfl (by first | exact Or.inl rfl | exact Or.inr rfl) (pe_lst (pa_cons (pe_callB isx (by rfl) T.b_isinstance (by decide +kernel) (pa_cons (pv 4) (pa_cons (pe_glob (v := .ref T.C_BadText) (by rfl) T.m_BadText rfl) pa_nil))) (pa_cons (pe_callB isx (by rfl) T.b_isinstance (by decide +kernel) (pa_cons (pv 4) (pa_cons (pe_glob (v := .ref T.C_Clash) (by rfl) T.m_Clash rfl) pa_nil))) (pa_cons (pe_callB isx (by rfl) T.b_isinstance (by decide +kernel) (pa_cons (pv 4) (pa_cons (pe_glob (v := .ref T.C_BadRow) (by rfl) T.m_BadRow rfl) pa_nil))) (pa_cons (pe_callB isx (by rfl) T.b_isinstance (by decide +kernel) (pa_cons (pv 4) (pa_cons (pe_glob (v := .ref T.C_NoRow) (by rfl) T.m_NoRow rfl) pa_nil))) pa_nil))))))
      (pss_cons (ps_expr (show PE _ _ (tBM K _ _ _ _) from (pe_bm PySem.F.plainAttrs_list PySem.F.slot_list_append PySem.F.type_list_append mt_append (pv 5) (pa_cons (pe_callB isx (by rfl) T.b_isinstance (by decide +kernel) (pa_cons (pv 4) (pa_cons (pe_glob (v := .ref T.C_Nothing) (by rfl) T.m_Nothing rfl) pa_nil))) pa_nil))))
      (pss_cons (ps_set (i := 6) sc_law_stranger.nd rfl (by first | exact Or.inl rfl | exact Or.inr rfl) (pe_and (pe_callB isx (by rfl) T.b_isinstance (by decide +kernel) (pa_cons (pv 4) (pa_cons (pe_glob (v := .ref T.C_NoGround) (by rfl) T.m_NoGround rfl) pa_nil))) (pe_and (pe_callB isx (by rfl) T.b_isinstance (by decide +kernel) (pa_cons (pv 4) (pa_cons (pe_bltn (v := .ty "ValueError") (u := .type "ValueError") (by rfl) T.b_ValueError (by decide +kernel) rfl) pa_nil))) (pe_one (pe_cmpR (show OpR _ _ (rIn K true) from op_notIn_seq) pe_bl (pv 5) (by first | rfl | exact nomark _))))))
      (pss_one (ps_ret (pe_ifExp (pt_val (pv 6)) (pe_xf hz hf (pv 4)) pe_non))))))))
      (pss_one (ps_ret pe_non))), ?_⟩
    show WS _ [some (bk _ _ _ _), some (fz _), some (fz _), some (fz _), none, none, none] _
    refine ws_seq (ws_tryT (fun x e => x = ⟨T.C_NoGround, [("word", .str st)]⟩ ∧ e = [some (bk T.C_Book a l rs), some (fz (.str w)), some (fz (strsD ts)), some (fz (.list (ns.map .int))), none, none, none]) (fun {_} W L => ?_) (fun x e ⟨ex, ee⟩ => ?_))
    · refine ws_drop (wm_callX L (wa_slot rfl (wa_cons (we_var (i := 1) rfl (wa_cons (we_var (i := 2) rfl (wa_cons (we_var (i := 3) rfl (wa_nil ⟨_, rfl, by simp [slots], a, l, rs, ts, _, w, ns, rfl, .inl rfl, rb, ht, hn4, fun hn => ?_, fun v hv => ?_⟩)))))))))
      · rw [hs] at hn
        cases hn
      · rw [hs] at hv
        cases hv
        exact ⟨rfl, rfl⟩
    · subst ex ee
      refine ⟨T.ex_NoGround_GroundError, fun ea dd => ?_⟩
      show WS _ [some (bk _ _ _ _), some (fz _), some (fz _), some (fz _), some (exv ea dd _), none, none] _
      have isx : ∀ {es : Es} {c : V} {cv : Value} {b : Bool} {Q : PyData → Es → Prop}, es[4]? = some (some (exv ea dd ⟨T.C_NoGround, [("word", .str st)]⟩)) → (∀ u, RelV c u → u = cv) → PySem.W.kitOne K (.ref T.C_NoGround) cv = some b → Q (.bool b) es →
          WE (tCB (rIsX K ea (.ref T.C_NoGround) (some dd)) (tCons (tVar 4) (tCons (tC c) tNil))) es Q := fun hi hcv hb q => we_isX T.e_NoGround hi hcv hb q
      have rr : ∀ (C : Addr) (u : Value), RelV (.ref C) u → u = .ref C := fun C u h => h
      refine ws_seq (ws_asg (wm_lst (wa_cons (isx rfl (rr _) T.kt_NoGround_BadText (wa_cons (isx rfl (rr _) T.kt_NoGround_Clash (wa_cons (isx rfl (rr _) T.kt_NoGround_BadRow (wa_cons (isx rfl (rr _) T.kt_NoGround_NoRow (wa_nil ⟨_, rfl, by decide, fun b5 => ?_⟩)))))))))))
      show WS _ [some (bk _ _ _ _), some (fz _), some (fz _), some (fz _), some (exv ea dd _), some (ml b5 _), none] _
      refine ws_seq (ws_append (i := 5) rfl (isx rfl (rr _) T.kt_NoGround_Nothing ⟨rfl, by decide, ?_⟩))
      show WS _ [some (bk _ _ _ _), some (fz _), some (fz _), some (fz _), some (exv ea dd _), some (ml b5 _), none] _
      refine ws_frz (i := 5) rfl frz_ml ?_
      show WS _ [some (bk _ _ _ _), some (fz _), some (fz _), some (fz _), some (exv ea dd _), some (fz (.list (([false, false, false, false, false] : List Bool).map .bool))), none] _
      refine ws_seq (ws_asgE (we_andV (isx rfl (rr _) (kit_self) ⟨true, rfl, fun _ => ?_, fun z => by cases z⟩)))
      refine we_andV (isx rfl (fun u h => h) T.kt_NoGround_ValueError ⟨true, rfl, fun _ => ?_, fun z => by cases z⟩)
      refine we_inB (we_bl ⟨true, rfl, we_var (i := 5) rfl ⟨_, .inl rfl, ?_⟩⟩)
      show WS _ [some (bk _ _ _ _), some (fz _), some (fz _), some (fz _), some (exv ea dd _), some (fz _), some (fz (.bool true))] _
      refine ws_retE (we_if (wt_test (we_var (i := 6) rfl ⟨true, rfl, fun _ => ?_, fun z => by cases z⟩)))
      refine we_xf T.e_NoGround (T.x_NoGround.no _ (by simp)) rfl (d := .str st) (by simp [List.lookup]) ?_
      exact fin_of (args' := [bk T.C_Book a l rs, fz _, fz _, fz _]) ⟨kp_st pin_bk, kp_fz, kp_fz, kp_fz, trivial⟩ q

end
end

section
local macro_rules | `(tactic| walk_at "no") => `(tactic| first | (with_reducible exact Bool.false_ne_true) | (with_reducible exact fun z => Bool.false_ne_true z.symm) | (simp only [decide_eq_true_eq, decide_eq_false_iff_not]; omega) | (decide +kernel) | (simp; done) | (simp; omega) | (exact Bool.false_ne_true) | (exact fun z => Bool.false_ne_true z.symm))
local macro_rules | `(tactic| walk_at "side") => `(tactic| first | omega | assumption | (refine Nat.le_trans (m := 100000) ?_ (by decide); first | omega | (simp <;> omega)) | (simp <;> omega))
local macro_rules | `(tactic| walk_at "w1") => `(tactic| first
  | (with_reducible refine ws_seq ?_)
  | (with_reducible refine ws_if ?_)
  | (with_reducible refine ws_nx ?_)
  | (with_reducible refine ws_retN ?_)
  | ((with_reducible show WE (tVar _) _ _); (refine we_var rfl ?_))
  | (with_reducible refine we_int ?_)
  | (with_reducible refine we_str ?_)
  | (with_reducible refine we_bl ?_)
  | (with_reducible refine we_non ?_)
  | (with_reducible refine wt_test ?_)
  | (with_reducible refine wt_B ?_)
  | (with_reducible refine wt_yes ?_)
  | (with_reducible refine wt_and ?_)
  | (with_reducible refine wt_or ?_)
  | (with_reducible refine wt_not ?_)
  | (with_reducible refine we_andV ?_)
  | (with_reducible refine we_orV ?_)
  | (with_reducible refine we_notV ?_)
  | (with_reducible refine we_if ?_)
  | (with_reducible refine we_rB0 ?_)
  | (with_reducible refine we_rI0 ?_)
  | (with_reducible refine we_rI ?_)
  | (with_reducible refine we_eq ?_)
  | (with_reducible refine we_din ?_)
  | (with_reducible refine we_dnotin ?_)
  | (with_reducible refine we_ne ?_)
  | (with_reducible refine we_isN ?_)
  | (with_reducible refine we_notN ?_)
  | (with_reducible refine we_addS ?_)
  | (with_reducible refine we_inC ?_)
  | (with_reducible refine we_inS ?_)
  | (with_reducible refine we_lenS ?_)
  | (with_reducible refine we_all ?_)
  | (with_reducible refine we_any ?_)
  | (with_reducible refine we_join ?_)
  | (with_reducible refine we_tup ?_)
  | (with_reducible refine we_ixL ?_)
  | (with_reducible refine we_ixT ?_)
  | (with_reducible refine we_ixS ?_)
  | (with_reducible refine we_len ?_)
  | (with_reducible refine wa_nil ?_)
  | (with_reducible refine wa_cons ?_)
  | (with_reducible refine wo_none ?_)
  | (with_reducible refine wo_some ?_)
  | (with_reducible refine wm_lst ?_)
  | (with_reducible refine wm_cat ?_)
  | (with_reducible refine wm_slL ?_)
  | (with_reducible refine wm_sortSet ?_)
  | (with_reducible refine we_isi ?_)
  | (with_reducible refine we_int1 ?_)
  | (with_reducible refine we_tupOf ?_)
  | (with_reducible refine we_slT ?_)
  | (with_reducible refine we_min ?_)
  | (with_reducible refine we_eqD ?_)
  | (with_reducible refine we_neD ?_)
  | (with_reducible refine we_ixs ?_)
  | (with_reducible refine we_neg ?_)
  | (with_reducible refine wm_list ?_)
  | (with_reducible refine wm_split ?_)
  | (with_reducible refine wm_dnew ?_)
  | (with_reducible refine take_at rfl ?_)
  | (with_reducible refine wm_call ?_)
  | (with_reducible refine wm_callX (by assumption) ?_)
  | (with_reducible refine wm_callX lets0 ?_)
  | (with_reducible refine wm_make ?_)
  | (with_reducible refine wm_lcL ?_)
  | (with_reducible refine wm_lcSq ?_)
  | (with_reducible refine wm_lcT ?_)
  | (with_reducible refine wm_lcR ?_)
  | (with_reducible refine wm_lcS ?_)
  | (with_reducible refine we_wm (te := tLst _) ?_)
  | (with_reducible refine we_wm (te := tLc _ _ _ _ _) ?_)
  | (refine take_at rfl ?_)
  | (with_reducible refine known_at ?_)
  | (with_reducible refine we_wm (te := tCall _ _ _ _) ?_)
  | (with_reducible refine we_wm (te := tCallS _ _ _) ?_)
  | (with_reducible refine we_wm (te := tSl _ _ _ _) ?_)
  | (with_reducible refine we_wm (te := tOp rCat _ _) ?_)
  | (with_reducible refine we_wm (te := tCB _ _) ?_)
  | (with_reducible refine we_wm (te := tM1 _ _ _) ?_)
  | (with_reducible refine ws_ret (te := tLst _) ?_)
  | (with_reducible refine ws_ret (te := tLc _ _ _ _ _) ?_)
  | (refine ws_retE (take_at rfl ?_))
  | (with_reducible refine ws_ret (te := tCall _ _ _ _) ?_)
  | (with_reducible refine ws_ret (te := tMake _ _ _ _ _) ?_)
  | (with_reducible refine ws_ret (te := tMeth _ _ _ _ _ _ _) ?_)
  | (with_reducible refine ws_ret (te := tSl _ _ _ _) ?_)
  | (with_reducible refine ws_ret (te := tOp rCat _ _) ?_)
  | (with_reducible refine ws_ret (wm_list ?_))
  | (with_reducible refine ws_retE ?_)
  | (with_reducible refine ws_asg (te := tLst _) ?_)
  | (with_reducible refine ws_asg (te := tLc _ _ _ _ _) ?_)
  | (refine ws_asgE (take_at rfl ?_))
  | (with_reducible refine ws_asg (te := tCall _ _ _ _) ?_)
  | (with_reducible refine ws_asg (te := tMake _ _ _ _ _) ?_)
  | (with_reducible refine ws_asg (te := tSl _ _ _ _) ?_)
  | (with_reducible refine ws_asg (te := tOp rCat _ _) ?_)
  | (with_reducible refine ws_asg (te := tDNewK) ?_)
  | (with_reducible refine ws_asg (wm_list ?_))
  | (with_reducible refine ws_asgE ?_)
  | ((with_reducible show _ ≤ _ ∧ _); (refine ⟨(by walk_at "side"), ?_⟩))
  | ((with_reducible show _ < _ ∧ _); (refine ⟨(by walk_at "side"), ?_⟩))
  | ((with_reducible show (_ → _) ∧ (_ → _)); first | (refine ⟨fun hb => absurd hb (by walk_at "no"), fun _ => ?_⟩) | (refine ⟨fun _ => ?_, fun hb => absurd hb (by walk_at "no")⟩))
  | ((with_reducible show ∀ p : Addr, ∃ d, Frz (ml p _) d ∧ _); (intro p))
  | ((with_reducible show (slots _).Nodup ∧ _); (refine ⟨by simp [slots], ?_⟩))
  | (refine ⟨_, frz_ml, ?_⟩)
  | (refine ⟨_, frz_fz, ?_⟩)
  | (refine ⟨_, rfl, ?_⟩)
  | (with_reducible refine ⟨_, _, rfl, atI_0, ?_⟩)
  | (with_reducible refine ⟨_, _, rfl, atI_1, ?_⟩)
  | (refine ⟨_, _, rfl, rfl, ?_⟩)
  | (refine ⟨rfl, ?_⟩)
  | (refine Or.inl ⟨_, rfl, ?_⟩)
  | (refine Or.inr ⟨_, rfl, ?_⟩)
  | (refine ⟨_, Or.inl rfl, ?_⟩)
  | (refine ⟨_, Or.inr rfl, ?_⟩)
  | (dsimp only [List.set_cons_zero, List.set_cons_succ]))
local macro_rules | `(tactic| walk_at "w") => `(tactic| (repeat (walk_at "w1"; try dsimp only)))
local macro_rules | `(tactic| walk_at "z1") => `(tactic| first
  | (with_reducible refine ws_seq ?_)
  | (with_reducible refine ws_if ?_)
  | (with_reducible refine ws_nx ?_)
  | ((with_reducible show WE (tCall _ _ _ _) _ _); first | (with_reducible refine walked_at ?_) | (refine take_at rfl ?_) | (with_reducible refine known_at ?_) | (refine words_at rfl ?_) | (refine row_at rfl ?_) | (refine number_at rfl ?_) | (with_reducible refine is_way_at ?_) | (with_reducible refine law_walks_at ?_) | (refine right_at rfl ?_) | (with_reducible refine we_wm (copied_at ?_)) | (with_reducible refine we_wm (grounds_at ?_)) | (refine we_wm (taken_at rfl ?_)) | (refine we_wm (rows_at rfl ?_)))
  | ((with_reducible show WM (tCall _ _ _ _) _ _); first | (refine wm_we (take_at rfl ?_)) | (refine wm_we (words_at rfl ?_)) | (refine wm_we (row_at rfl ?_)) | (refine wm_we (number_at rfl ?_)) | (with_reducible refine fired_at ?_) | (refine spoilt_at rfl ?_) | (refine wm_we (right_at rfl ?_)) | (refine begun_at rfl (by assumption) ?_) | (refine rows_at rfl ?_) | (with_reducible refine copied_at ?_) | (with_reducible refine grounds_at ?_) | (refine taken_at rfl ?_))
  | ((with_reducible show WM (tCallS _ _ _) _ _); first | (refine way_at rfl ?_))
  | ((with_reducible show WM (tMake _ _ _ _ _) _ _); first | (with_reducible refine book_at ?_))
  | ((with_reducible show WM (tMeth _ _ _ _ _ _ _) _ _); first | (refine tell_at rfl ?_))
  | (with_reducible refine ws_retN ?_)
  | ((with_reducible show WE (tVar _) _ _); first | (refine we_var rfl ?_) | (refine we_varF rfl ?_) | (refine we_varFd rfl ?_))
  | (with_reducible refine we_int ?_)
  | (with_reducible refine we_str ?_)
  | (with_reducible refine we_bl ?_)
  | (with_reducible refine we_non ?_)
  | (with_reducible refine wt_test ?_)
  | (with_reducible refine wt_B ?_)
  | (with_reducible refine wt_yes ?_)
  | (with_reducible refine wt_and ?_)
  | (with_reducible refine wt_or ?_)
  | (with_reducible refine wt_not ?_)
  | (with_reducible refine we_andV ?_)
  | (with_reducible refine we_orV ?_)
  | (with_reducible refine we_notV ?_)
  | (with_reducible refine we_if ?_)
  | (with_reducible refine we_rB0 ?_)
  | (with_reducible refine we_rI0 ?_)
  | (with_reducible refine we_rI ?_)
  | (with_reducible refine we_eq ?_)
  | (with_reducible refine we_din ?_)
  | (with_reducible refine we_dnotin ?_)
  | (with_reducible refine we_ne ?_)
  | ((with_reducible show WE (tOp _ (tVar _) (tC .non)) _ _); first | (refine we_isNM rfl ?_) | (refine we_notNM rfl ?_))
  | (with_reducible refine we_isN ?_)
  | (with_reducible refine we_notN ?_)
  | (with_reducible refine we_addS ?_)
  | (with_reducible refine we_inC ?_)
  | (with_reducible refine we_inS ?_)
  | (with_reducible refine we_lenS ?_)
  | (with_reducible refine we_all ?_)
  | (with_reducible refine we_any ?_)
  | (with_reducible refine we_join ?_)
  | (with_reducible refine we_tup ?_)
  | (with_reducible refine we_ixL ?_)
  | (with_reducible refine we_ixT ?_)
  | (with_reducible refine we_ixS ?_)
  | (with_reducible refine we_len ?_)
  | (with_reducible refine wa_nil ?_)
  | ((with_reducible show WA (tCons (tVar _) _) _ _); first | (refine wa_cons (we_var rfl ?_)) | (refine wa_slot (r := bk _ _ _ _) rfl ?_) | (refine wa_slot (r := bx _) rfl ?_) | (refine wa_slot (r := md _ _) rfl ?_) | (refine wa_cons (we_varF rfl ?_)))
  | (with_reducible refine wa_cons ?_)
  | (with_reducible refine wo_none ?_)
  | (with_reducible refine wo_some ?_)
  | (with_reducible refine wm_lst ?_)
  | (with_reducible refine wm_cat ?_)
  | (with_reducible refine wm_slL ?_)
  | (with_reducible refine wm_sortSet ?_)
  | (with_reducible refine we_isi ?_)
  | (with_reducible refine we_int1 ?_)
  | (with_reducible refine we_tupOf ?_)
  | (with_reducible refine we_slT ?_)
  | (with_reducible refine we_min ?_)
  | (with_reducible refine we_eqD ?_)
  | (with_reducible refine we_neD ?_)
  | (with_reducible refine we_ixs ?_)
  | (with_reducible refine we_neg ?_)
  | (with_reducible refine wm_list ?_)
  | (with_reducible refine wm_split ?_)
  | (with_reducible refine wm_dnew ?_)
  | (with_reducible refine take_at rfl ?_)
  | (with_reducible refine wm_call ?_)
  | (with_reducible refine wm_callX (by assumption) ?_)
  | (with_reducible refine wm_callX lets0 ?_)
  | (with_reducible refine wm_make ?_)
  | (with_reducible refine wm_lcL ?_)
  | (with_reducible refine wm_lcSq ?_)
  | (with_reducible refine wm_lcT ?_)
  | (with_reducible refine wm_lcR ?_)
  | (with_reducible refine wm_lcS ?_)
  | (with_reducible refine we_wm (te := tLst _) ?_)
  | (with_reducible refine we_wm (te := tLc _ _ _ _ _) ?_)
  | (refine take_at rfl ?_)
  | (with_reducible refine known_at ?_)
  | (with_reducible refine we_wm (te := tCall _ _ _ _) ?_)
  | (with_reducible refine we_wm (te := tCallS _ _ _) ?_)
  | (with_reducible refine ws_asg (te := tCallS _ _ _) ?_)
  | (with_reducible refine ws_asg (te := tMeth _ _ _ _ _ _ _) ?_)
  | (with_reducible refine ws_drop (te := tMeth _ _ _ _ _ _ _) ?_)
  | (with_reducible refine ws_drop (te := tCallS _ _ _) ?_)
  | (with_reducible refine we_wm (te := tSl _ _ _ _) ?_)
  | (with_reducible refine we_wm (te := tOp rCat _ _) ?_)
  | (with_reducible refine we_wm (te := tCB _ _) ?_)
  | (with_reducible refine we_wm (te := tM1 _ _ _) ?_)
  | (with_reducible refine ws_ret (te := tLst _) ?_)
  | (with_reducible refine ws_ret (te := tLc _ _ _ _ _) ?_)
  | (refine ws_retE (take_at rfl ?_))
  | (with_reducible refine ws_ret (te := tCall _ _ _ _) ?_)
  | (with_reducible refine ws_ret (te := tMake _ _ _ _ _) ?_)
  | (with_reducible refine ws_ret (te := tMeth _ _ _ _ _ _ _) ?_)
  | (with_reducible refine ws_ret (te := tSl _ _ _ _) ?_)
  | (with_reducible refine ws_ret (te := tOp rCat _ _) ?_)
  | (with_reducible refine ws_ret (wm_list ?_))
  | (with_reducible refine ws_retE ?_)
  | (with_reducible refine ws_asg (te := tLst _) ?_)
  | (with_reducible refine ws_asg (te := tLc _ _ _ _ _) ?_)
  | (refine ws_asgE (take_at rfl ?_))
  | (with_reducible refine ws_asg (te := tCall _ _ _ _) ?_)
  | (with_reducible refine ws_asg (te := tMake _ _ _ _ _) ?_)
  | (with_reducible refine ws_asg (te := tSl _ _ _ _) ?_)
  | (with_reducible refine ws_asg (te := tOp rCat _ _) ?_)
  | (with_reducible refine ws_asg (te := tDNewK) ?_)
  | (with_reducible refine ws_asg (wm_list ?_))
  | (with_reducible refine ws_asgE ?_)
  | ((with_reducible show (_ : Int) ≠ 0 ∧ _); (refine ⟨by decide, ?_⟩))
  | ((with_reducible show _ ≤ _ ∧ _); (refine ⟨(by walk_at "side"), ?_⟩))
  | ((with_reducible show _ < _ ∧ _); (refine ⟨(by walk_at "side"), ?_⟩))
  | ((with_reducible show (_ → _) ∧ (_ → _)); first | (refine ⟨fun hb => absurd hb (by walk_at "no"), fun _ => ?_⟩) | (refine ⟨fun _ => ?_, fun hb => absurd hb (by walk_at "no")⟩))
  | ((with_reducible show ∀ p : Addr, ∃ d, Frz (ml p _) d ∧ _); (intro p))
  | ((with_reducible show (slots _).Nodup ∧ _); (refine ⟨by simp [slots], ?_⟩))
  | (refine ⟨_, frz_ml, ?_⟩)
  | (refine ⟨_, frz_fz, ?_⟩)
  | (refine ⟨_, rfl, ?_⟩)
  | (with_reducible refine ⟨_, _, rfl, (by assumption), ?_⟩)
  | (with_reducible refine ⟨_, _, rfl, atI_0, ?_⟩)
  | (with_reducible refine ⟨_, _, rfl, atI_1, ?_⟩)
  | (refine ⟨_, _, rfl, rfl, ?_⟩)
  | (refine ⟨rfl, ?_⟩)
  | (refine Or.inl ⟨_, rfl, ?_⟩)
  | (refine Or.inr ⟨_, rfl, ?_⟩)
  | (refine ⟨_, Or.inl rfl, ?_⟩)
  | (refine ⟨_, Or.inr rfl, ?_⟩)
  | (dsimp only [List.set_cons_zero, List.set_cons_succ]))
local macro_rules | `(tactic| walk_at "z") => `(tactic| (repeat (walk_at "z1"; try dsimp only)))
section
variable {P : Program} {w : World} {K : PySem.W.Frag} {mg : Str → Option Value} {base : Heap}
def sp_law (K : PySem.W.Frag) : FSp := fun args Q => ∃ a, ∃ xs : List Int, args = [scr K a xs] ∧ xs.length ≤ 63 ∧ Q (fz (.bool true)) args
theorem ok_law (T : Txt K mg) : FnOk P w K mg base CX0 8 T.law.a T.law.fd ["_law_script"] (spF (sp_law K)) := by
  refine fok T.law.F sc_law (fun args Q h => ?_) (fun cdv A outer s H E hr args Q h => ?_)
  · obtain ⟨sa, xs, rfl, _⟩ := h
    rfl
  · obtain ⟨sa, xs, rfl, hl, q⟩ := h
    refine ⟨_, (pss_cons (ps_set (i := 1) sc_law.nd rfl (by first | exact Or.inl rfl | exact Or.inr rfl) (pe_call (ok_law_begun T) (hr.mono (by decide)) rfl T.law_begun.m T.law_begun.F.kp T.law_begun.b .nil pass0 (pa_cons (pv 0) pa_nil)))
      (pss_cons (ps_set (i := 2) sc_law.nd rfl (by first | exact Or.inl rfl | exact Or.inr rfl) (pe_call (ok_law_words T) (hr.mono (by decide)) rfl T.law_words.m T.law_words.F.kp T.law_words.b .nil pass0 (pa_cons (pv 1) pa_nil)))
      (pss_cons (ps_set (i := 3) sc_law.nd rfl (by first | exact Or.inl rfl | exact Or.inr rfl) (pe_call (ok_law_rows T) (hr.mono (by decide)) rfl T.law_rows.m T.law_rows.F.kp T.law_rows.b .nil pass0 (pa_cons (pv 1) (pa_cons (pv 2) (pa_cons pe_int pa_nil)))))
      (pss_cons (ps_set (i := 4) sc_law.nd rfl (by first | exact Or.inl rfl | exact Or.inr rfl) (pe_make T.M_Book (ok_Book_init T) (hr.mono (by decide)) rfl T.m_Book T.Book_init.b .nil pass0 (pa_cons (pe_call (ok_law_copied T) (hr.mono (by decide)) rfl T.law_copied.m T.law_copied.F.kp T.law_copied.b .nil pass0 (pa_cons (pv 3) pa_nil)) pa_nil)))
      (pss_cons (ps_set (i := 5) sc_law.nd rfl (by first | exact Or.inl rfl | exact Or.inr rfl) (pe_call (ok_law_taken T) (hr.mono (by decide)) rfl T.law_taken.m T.law_taken.F.kp T.law_taken.b .nil pass0 (pa_cons (pv 1) (pa_cons (pe_call (ok_law_grounds T) (hr.mono (by decide)) rfl T.law_grounds.m T.law_grounds.F.kp T.law_grounds.b .nil pass0 (pa_cons (pv 3) pa_nil)) pa_nil))))
      (pss_cons (ps_set (i := 6) sc_law.nd rfl (by first | exact Or.inl rfl | exact Or.inr rfl) (pe_call (ok_law_fired T) (hr.mono (by decide)) rfl T.law_fired.m T.law_fired.F.kp T.law_fired.b .nil pass0 (pa_cons (pv 3) (pa_cons (pv 5) pa_nil))))
      (pss_cons (ps_for PassesOwn.never rfl (pi_range1 rfl T.b_range (pa_cons pe_int pa_nil)) (pg_name (i := 7) sc_law.nd rfl (by first | exact Or.inl rfl | exact Or.inr rfl))
      (pss_cons (ps_set (i := 8) sc_law.nd rfl (by first | exact Or.inl rfl | exact Or.inr rfl) (pe_callTy (T := "list") call_list_of (by rfl) T.b_list (by decide +kernel) (pa_cons (pv 6) pa_nil)))
      (pss_cons (ps_for PassesOwn.never rfl (pi_range1 rfl T.b_range (pa_cons (pe_call (ok_law_take T) (hr.mono (by decide)) rfl T.law_take.m T.law_take.F.kp T.law_take.b .nil pass0 (pa_cons (pv 1) (pa_cons pe_int pa_nil))) pa_nil)) (pg_name (i := 9) sc_law.nd rfl (by first | exact Or.inl rfl | exact Or.inr rfl))
      (pss_one (ps_set (i := 8) sc_law.nd rfl (by first | exact Or.inl rfl | exact Or.inr rfl) (pe_call (ok_law_spoilt T) (hr.mono (by decide)) rfl T.law_spoilt.m T.law_spoilt.F.kp T.law_spoilt.b .nil pass0 (pa_cons (pv 1) (pa_cons (pv 3) (pa_cons (pv 8) pa_nil)))))))
      (pss_cons (ps_if (pt_cmpR op_eq (pe_call (ok_law_take T) (hr.mono (by decide)) rfl T.law_take.m T.law_take.F.kp T.law_take.b .nil pass0 (pa_cons (pv 1) (pa_cons pe_int pa_nil))) pe_int (nomark _)) (pss_one (ps_setLc (i := 8) (own := [("_law_place", 13)]) (g := gName 13) (tt := tYes) rfl sc_law.nd rfl (by show List.lookup _ (defScope s_law).names = _; decide +kernel) (sw_true rfl (by show List.lookup _ (defScope s_law).names = _; decide +kernel) rfl (by decide +kernel)) (pi_range1 rfl T.b_range (pa_cons (pe_call (ok_law_take T) (hr.mono (by decide)) rfl T.law_take.m T.law_take.F.kp T.law_take.b .nil pass0 (pa_cons (pv 1) (pa_cons pe_int pa_nil))) pa_nil)) (blkOk_by (own := [("_law_place", 13)]) (N := N_law) (sc := defScope s_law) (by decide +kernel)) (fun _ _ _ _ _ => pg_name (i := 13) sc_law.nd rfl (Or.inl rfl)) (fun _ _ _ _ _ => pts_nil) (fun _ _ _ _ _ => (pe_call (ok_law_number T) (hr.mono (by decide)) rfl T.law_number.m T.law_number.F.kp T.law_number.b .nil pass0 (pa_cons (pv 1) (pa_cons (pv 3) pa_nil)))))) pss_nil)
      (pss_cons (ps_set (i := 10) sc_law.nd rfl (by first | exact Or.inl rfl | exact Or.inr rfl) (pe_callTy (T := "list") call_list_of (by rfl) T.b_list (by decide +kernel) (pa_cons (pv 8) pa_nil)))
      (pss_cons (ps_set (i := 11) sc_law.nd rfl (by first | exact Or.inl rfl | exact Or.inr rfl) (pe_callTy (T := "list") call_list_of (by rfl) T.b_list (by decide +kernel) (pa_cons (pv 5) pa_nil)))
      (pss_cons (ps_for PassesOwn.never rfl (pi_list (pe_lst (pa_cons (pe_ix ix_list (pv 2) (pe_call (ok_law_take T) (hr.mono (by decide)) rfl T.law_take.m T.law_take.F.kp T.law_take.b .nil pass0 (pa_cons (pv 1) (pa_cons pe_int pa_nil))) (fun _ _ => rfl)) (pa_cons (pe_ix ix_list (pv 2) (pe_call (ok_law_take T) (hr.mono (by decide)) rfl T.law_take.m T.law_take.F.kp T.law_take.b .nil pass0 (pa_cons (pv 1) (pa_cons pe_int pa_nil))) (fun _ _ => rfl)) (pa_cons (pe_ix ix_list (pv 2) (pe_call (ok_law_take T) (hr.mono (by decide)) rfl T.law_take.m T.law_take.F.kp T.law_take.b .nil pass0 (pa_cons (pv 1) (pa_cons pe_int pa_nil))) (fun _ _ => rfl)) pa_nil))))) (pg_name (i := 12) sc_law.nd rfl (by first | exact Or.inl rfl | exact Or.inr rfl))
      (pss_one (ps_if (pt_not (pt_val (pe_call (ok_law_alike T) (hr.mono (by decide)) rfl T.law_alike.m T.law_alike.F.kp T.law_alike.b .nil pass0 (pa_cons (pe_callS (ok_is_way T) (hr.mono (by decide)) rfl T.is_way.m T.is_way.F.kp T.is_way.b (fun σ => passAt takes0 σ) (pa_cons (pv 4) (pa_cons (pv 12) (pa_cons (pv 11) (pa_cons (pv 10) pa_nil))))) (pa_cons (pe_call (ok_law_walks T) (hr.mono (by decide)) rfl T.law_walks.m T.law_walks.F.kp T.law_walks.b .nil pass0 (pa_cons (pv 3) (pa_cons (pv 12) (pa_cons (pv 5) (pa_cons (pv 8) pa_nil))))) pa_nil))))) (pss_one (ps_ret pe_bl)) pss_nil)))
      (pss_one (ps_if (PW.pt (pw_or (pt_cmpR (op_neD hr.units) (pv 10) (pv 8) (nomark _)) (pw_or1 (pt_cmpR (op_neD hr.units) (pv 11) (pv 5) (nomark _))))) (pss_one (ps_ret pe_bl)) pss_nil)))))))))
      (pss_one (ps_ret (pe_cmpR (op_eqD hr.units) (pe_call (ok_law_stranger T) (hr.mono (by decide)) rfl T.law_stranger.m T.law_stranger.F.kp T.law_stranger.b .nil pass0 (pa_cons (pv 4) (pa_cons (pe_ix ix_list (pv 2) pe_int (fun _ _ => rfl)) (pa_cons (pe_op op_cat (pv 5) (pe_lst (pa_cons (pe_ix ix_list (pv 2) pe_int (fun _ _ => rfl)) (pa_cons pe_str pa_nil)))) (pa_cons (pe_lst (pa_cons (pe_op op_sub pe_int pe_int) pa_nil)) pa_nil))))) (pe_ix ix_list (pv 2) pe_int (fun _ _ => rfl)) (nomark _))))))))))), ?_⟩
    show WS _ [some (scr _ _ _), none, none, none, none, none, none, none, none, none, none, none, none, none] _
    walk_at "z"
    intro p
    walk_at "z"
    intro ws hws
    walk_at "z"
    refine ⟨hws, by decide, fun p3 rs lr dr => ?_⟩
    have hok : ∀ r ∈ rs, RowOk r := fun r hr => (dr r hr).ok hws.2.2
    have rb : MB.RB rs := .of (by omega) hok
    have h8 : (ws.take 8).length ≤ 8 := by simp; omega
    have l14 : ws.length = 14 := hws.1
    refine ws_frz (i := 3) rfl frz_ml ?_
    show WS _ [some (scr _ _ _), some (bx p), some (fz (strsD ws)), some (fz (rowsD rs)), none, none, none, none, none, none, none, none, none, none] _
    walk_at "z"
    refine ⟨rb.body, fun q3 => ?_⟩
    walk_at "z"
    refine ⟨all_tellable h8 (by omega) hok (fun r hr => (dr r hr).g), fun a l => ?_⟩
    have n13 : ws[13] ∉ gsOf rs := MB.not_ground hws dr (by omega) (by omega)
    have at13 : atI (ws.map PyData.str) (13 : Int) = some (.str ws[13]) := DV.atI_nat (k := 13) (by simp [l14])
    have at0 : atI (ws.map PyData.str) (0 : Int) = some (.str ws[0]) := DV.atI_nat (k := 0) (by simp [l14])
    have glay : ∀ {rs' : List DV.Row}, MB.RB rs' → ∀ w ∈ gsOf rs', LayS w := fun rb w hw => rb.lay _ (MB.mem_gsOf.mp hw) w (by simp [rWords])
    have gle : (gsOf rs).length ≤ 8 := Nat.le_trans (MB.gs_le dr) h8
    have w13 : LayS ws[13] := layS_of (hws.2.2 _ (List.getElem_mem _))
    walk_at "z"
    refine ⟨glay rb, fun p5 ts lt ht => ws_frz (i := 5) rfl frz_ml ?_⟩
    have slay : ∀ w ∈ ts, LayS w := fun w hw => glay rb w (ht w hw)
    show WS _ [some (scr _ _ _), some (bx p), some (fz (strsD ws)), some (fz (rowsD rs)), some (bk T.C_Book a l rs), some (fz (strsD ts)), none, none, none, none, none, none, none, none] _
    refine ws_seq (ws_asg (fired_at (wa_cons (we_var (i := 3) rfl (wa_cons (we_var (i := 5) rfl (wa_nil ⟨rs, ts, _, rfl, .inl rfl, rb, by omega, by omega, fun ns0 p6 nl0 => ws_frz (i := 6) rfl frz_ml ?_⟩)))))))
    show WS _ [some (scr _ _ _), some (bx p), some (fz (strsD ws)), some (fz (rowsD rs)), some (bk T.C_Book a l rs), some (fz (strsD ts)), some (fz (.list (ns0.map .int))), none, none, none, none, none, none, none] _
    have ishp : ∀ ns : List Int, Sh 1 (.list (ns.map .int)) := fun ns => sh_list (n := 0) fun x hx => by
      obtain ⟨i, _, rfl⟩ := List.mem_map.mp hx
      exact sh_int i
    refine ws_seq (ws_forR (wa_cons (we_int (wa_nil ⟨6, rfl, by decide, by decide, fun k e => ∃ x7 x8 x9 x10 x11 x12, e = [some (scr K sa xs), some (bx p), some (fz (strsD ws)), some (fz (rowsD rs)), some (bk T.C_Book a l rs), some (fz (strsD ts)), some (fz (.list (ns0.map .int))), x7, x8, x9, x10, x11, x12, none], ⟨_, _, _, _, _, _, rfl⟩, fun k e hk ⟨x7, x8, x9, x10, x11, x12, ee⟩ => ?_, fun e ⟨x7, x8, x9, x10, x11, x12, ee⟩ => ?_⟩))))
    · subst ee
      walk_at "z"
      intro p8
      show WS _ [some (scr _ _ _), some (bx p), some (fz (strsD ws)), some (fz (rowsD rs)), some (bk T.C_Book a l rs), some (fz (strsD ts)), some (fz (.list (ns0.map .int))), some (fz (.int (k : Int))), some (ml p8 (ns0.map .int)), x9, x10, x11, x12, none] _
      refine ws_seq (ws_forR (wa_cons (take_at (i := 1) rfl (wa_cons (we_int (wa_nil ⟨3, rfl, rfl, by decide, by decide, fun n hn => wa_nil ⟨(n : Int), rfl, by omega, by omega, fun j e => ∃ p8 x9, ∃ ns : List Int, e = [some (scr K sa xs), some (bx p), some (fz (strsD ws)), some (fz (rowsD rs)), some (bk T.C_Book a l rs), some (fz (strsD ts)), some (fz (.list (ns0.map .int))), some (fz (.int (k : Int))), some (ml p8 (ns.map .int)), x9, x10, x11, x12, none] ∧ ns.length ≤ 3600 + j,
        ⟨p8, x9, ns0, rfl, nl0⟩, fun j e hj ⟨p8, x9, ns, ee, nl⟩ => ?_, fun e ⟨p8, x9, ns, ee, nl⟩ => ?_⟩⟩))))))
      · subst ee
        have hj' : j < 3 := by simp at hj; omega
        refine ws_frz (i := 8) rfl frz_ml ?_
        refine ws_asg (spoilt_at (i := 1) rfl (wa_cons (we_var (i := 3) rfl (wa_cons (we_var (i := 8) rfl (wa_nil ⟨rs, ns, rfl, rfl, by omega, by omega, fun b ms hm => ?_⟩))))))
        exact ⟨b, _, ms, rfl, by omega⟩
      subst ee
      have nl2 : ns.length ≤ 4000 := by simp at nl; omega
      clear nl
      refine ws_seq (ws_mono (E := { fin [scr K sa xs] Q with nx := fun e => ∃ p8 x9, ∃ ns : List Int, e = [some (scr K sa xs), some (bx p), some (fz (strsD ws)), some (fz (rowsD rs)), some (bk T.C_Book a l rs), some (fz (strsD ts)), some (fz (.list (ns0.map .int))), some (fz (.int (k : Int))), some (ml p8 (ns.map .int)), x9, x10, x11, x12, none] ∧ ns.length ≤ 4000, bk := fun _ => False, ct := fun _ => False }) ?_ (fun e ⟨p8, x9, ns, ee, nl⟩ => ?_) (fun _ _ h => h) (fun _ h => h.elim) (fun _ h => h.elim))
      · refine ws_if ?_
        walk_at "z"
        intro r hr
        walk_at "z"
        refine ⟨fun _ => ?_, fun _ => ws_nx ⟨p8, x9, ns, rfl, nl2⟩⟩
        walk_at "z"
        intro n hn
        refine wa_nil ?_
        refine ⟨(n : Int), rfl, by omega, by omega, ?_⟩
        refine lcI_all (fun y => ∃ z : Int, y = .int z) (by decide) rfl (by simp [upto]; omega) rfl (fun x hx => ?_) fun b acc la pa => ?_
        · walk_at "z"
          exact fun z => ⟨⟨z, rfl⟩, rfl⟩
        · have intsOf : ∀ acc : List PyData, (∀ y ∈ acc, ∃ z : Int, y = .int z) → ∃ ms : List Int, acc = ms.map .int := fun acc => by
            induction acc with
            | nil => exact fun _ => ⟨[], rfl⟩
            | cons y acc ih =>
              intro h
              obtain ⟨z, rfl⟩ := h y List.mem_cons_self
              obtain ⟨ms, rfl⟩ := ih fun y hy => h y (List.mem_cons_of_mem _ hy)
              exact ⟨z :: ms, rfl⟩
          obtain ⟨ms, rfl⟩ := intsOf acc pa
          exact ⟨b, x9, ms, rfl, by simp [upto] at la; omega⟩
      subst ee
      refine ws_frz (i := 8) rfl frz_ml ?_
      show WS _ [some (scr _ _ _), some (bx p), some (fz (strsD ws)), some (fz (rowsD rs)), some (bk T.C_Book a l rs), some (fz (strsD ts)), some (fz (.list (ns0.map .int))), some (fz (.int (k : Int))), some (fz (.list (ns.map .int))), x9, x10, x11, x12, none] _
      walk_at "z"
      refine fun p10 => ws_frz (i := 10) rfl frz_ml ?_
      show WS _ [some (scr _ _ _), some (bx p), some (fz (strsD ws)), some (fz (rowsD rs)), some (bk T.C_Book a l rs), some (fz (strsD ts)), some (fz (.list (ns0.map .int))), some (fz (.int (k : Int))), some (fz (.list (ns.map .int))), x9, some (fz (.list (ns.map .int))), x11, x12, none] _
      walk_at "z"
      refine fun p11 => ws_frz (i := 11) rfl frz_ml ?_
      show WS _ [some (scr _ _ _), some (bx p), some (fz (strsD ws)), some (fz (rowsD rs)), some (bk T.C_Book a l rs), some (fz (strsD ts)), some (fz (.list (ns0.map .int))), some (fz (.int (k : Int))), some (fz (.list (ns.map .int))), x9, some (fz (.list (ns.map .int))), some (fz (strsD ts)), x12, none] _
      have pick : ∀ {m : Int} {E1 : XK} {es : Es} {R : PyData → Es → Prop}, es[1]? = some (some (bx p)) → es[2]? = some (some (fz (strsD ws))) → 0 < m → m ≤ 14 → (∀ x : Str, R (.str x) es) → ∀ {K' : PySem.W.Frag},
          WE (tOp (rIxL K') (tVar 2) (tCall (spF sp_law_take) [] E1 (tCons (tVar 1) (tCons (tC (.int m)) tNil)))) es R := fun h1 h2 hm0 hm h =>
        we_ixL (we_var (i := 2) h2 ⟨_, rfl, take_at (i := 1) h1 (wa_cons (we_int (wa_nil ⟨_, rfl, rfl, hm0, by omega, fun r hr => by
          have hr' : r < ws.length := by omega
          exact ⟨_, _, rfl, DV.atI_nat (x := .str ws[r]) (by simp [hr']), h _⟩⟩)))⟩)
      refine ws_seq (ws_forL (we_wm (wm_lst (wa_cons (pick rfl rfl (by decide) (by decide) fun y1 => wa_cons (pick rfl rfl (by decide) (by decide) fun y2 => wa_cons (pick rfl rfl (by decide) (by decide) fun y3 => wa_nil ⟨_, rfl, by simp, fun pl => ⟨_, frz_ml, ?_⟩⟩)))))))
      refine ⟨_, rfl, fun j e => ∃ x12, e = [some (scr K sa xs), some (bx p), some (fz (strsD ws)), some (fz (rowsD rs)), some (bk T.C_Book a l rs), some (fz (strsD ts)), some (fz (.list (ns0.map .int))), some (fz (.int (k : Int))), some (fz (.list (ns.map .int))), x9, some (fz (.list (ns.map .int))), some (fz (strsD ts)), x12, none], ⟨_, rfl⟩, fun j x e hx ⟨x12, ee⟩ => ?_, fun e ⟨x12, ee⟩ => ?_⟩
      · subst ee
        obtain ⟨y, rfl⟩ : ∃ y, x = .str y := by
          have := List.mem_of_getElem? hx
          simp at this
          rcases this with h | h | h <;> exact ⟨_, h⟩
        show WS _ [some (scr _ _ _), some (bx p), some (fz (strsD ws)), some (fz (rowsD rs)), some (bk T.C_Book a l rs), some (fz (strsD ts)), some (fz (.list (ns0.map .int))), some (fz (.int (k : Int))), some (fz (.list (ns.map .int))), x9, some (fz (.list (ns.map .int))), some (fz (strsD ts)), some (fz (.str y)), none] _
        refine ws_if (wt_not (wt_B (alike_at ?_)))
        walk_at "z"
        refine ⟨a, l, rs, ts, _, y, ns, rfl, .inl rfl, rb, by omega, by omega, fun _ => ⟨_, frz_fz, ?_⟩, fun w hw => absurd hw (by rw [MB.strange_none ht]; simp)⟩
        refine law_walks_at ?_
        walk_at "z"
        refine ⟨rs, ts, _, y, ns, ⟨rfl, rfl, rfl, rfl, trivial⟩, .inl rfl, rb, by omega, by omega, rfl, ⟨rfl, Nat.zero_le _, by simp [longest]⟩, ?_⟩
        walk_at "z"
        exact ⟨_, rfl⟩
      · subst ee
        walk_at "z"
        refine ⟨(ishp ns).shaped, (ishp ns).shaped, ?_⟩
        rw [(ishp ns).refl]
        walk_at "z"
        refine ⟨strs_shaped slay, strs_shaped slay, ?_⟩
        rw [(sh_strs slay).refl]
        walk_at "z"
        exact ⟨_, _, _, _, _, _, rfl⟩
    · subst ee
      walk_at "z"
      have hst : MB.strangeOf rs (ts ++ [ws[13], ("zz" : Str)]) = some ws[13] := MB.strange_some (fun w hw => ht w hw) n13
      refine ⟨a, l, rs, ws[0], ts ++ [ws[13], ("zz" : Str)], [-1], ws[13], by simp [strsD], by decide, rb, by simp; omega, hst, ?_⟩
      walk_at "z"
      refine ⟨(sh_str w13).shaped, (sh_str w13).shaped, ?_⟩
      rw [(sh_str w13).refl]
      exact finS pin_scr q

end
end

end My
namespace My
open PySem PySem.Spec PyProof.Rows
open L2 hiding WE
open DV SX

theorem all_mk {l : PySem.W.OpenLaw} {w : World} {K : PySem.W.Frag} {h : Heap} {mg : Str → Option Value} {fa : Addr} (X : K.In h) (G : h.Ns mainGlobals mg) (hfa : mg "law" = some (.ref fa))
    {t_LETTERS : Tok}
    {t_MOST_ROWS : Tok}
    {t_MOST_GROUNDS : Tok}
    {t_MOST_IN_BODY : Tok}
    {C_Book : Addr}
    {C_NoGround : Addr}
    {C_GroundError : Addr}
    {C_BadText : Addr}
    {C_Clash : Addr}
    {C_BadRow : Addr}
    {C_NoRow : Addr}
    {C_Nothing : Addr}
    {nm_NoGround q_NoGround : Str} {N_NoGround : Addr} {bs_NoGround sub_NoGround : List Value} {sn_NoGround : List Str} {ab_NoGround : Bool} {col_NoGround : Option Bool} {dd_NoGround : Option Addr} {k0_NoGround k1_NoGround k2_NoGround k3_NoGround k5_NoGround : Option Value}
    {f_Book_all_grounds : Addr} {od_Book_all_grounds an_Book_all_grounds : Option Addr} {sl_Book_all_grounds : Array (Option Value)} {oc_Book_all_grounds kv_Book_all_grounds dc_Book_all_grounds pm_Book_all_grounds cd_Book_all_grounds ct_Book_all_grounds : Value}
    {f_Book_fault : Addr} {od_Book_fault an_Book_fault : Option Addr} {sl_Book_fault : Array (Option Value)} {oc_Book_fault kv_Book_fault dc_Book_fault pm_Book_fault cd_Book_fault ct_Book_fault : Value}
    {f_Book_init : Addr} {od_Book_init an_Book_init : Option Addr} {sl_Book_init : Array (Option Value)} {oc_Book_init kv_Book_init dc_Book_init pm_Book_init cd_Book_init ct_Book_init : Value}
    {f_Book_rows : Addr} {od_Book_rows an_Book_rows : Option Addr} {sl_Book_rows : Array (Option Value)} {oc_Book_rows kv_Book_rows dc_Book_rows pm_Book_rows cd_Book_rows ct_Book_rows : Value}
    {f_Book_tell : Addr} {od_Book_tell an_Book_tell : Option Addr} {sl_Book_tell : Array (Option Value)} {oc_Book_tell kv_Book_tell dc_Book_tell pm_Book_tell cd_Book_tell ct_Book_tell : Value}
    {f_NoGround_init : Addr} {od_NoGround_init an_NoGround_init : Option Addr} {sl_NoGround_init : Array (Option Value)} {oc_NoGround_init kv_NoGround_init dc_NoGround_init pm_NoGround_init cd_NoGround_init ct_NoGround_init : Value}
    {f_all_known : Addr} {od_all_known an_all_known : Option Addr} {sl_all_known : Array (Option Value)} {oc_all_known kv_all_known dc_all_known pm_all_known cd_all_known ct_all_known : Value}
    {f_body_of : Addr} {od_body_of an_body_of : Option Addr} {sl_body_of : Array (Option Value)} {oc_body_of kv_body_of dc_body_of pm_body_of cd_body_of ct_body_of : Value}
    {f_copied : Addr} {od_copied an_copied : Option Addr} {sl_copied : Array (Option Value)} {oc_copied kv_copied dc_copied pm_copied cd_copied ct_copied : Value}
    {f_is_way : Addr} {od_is_way an_is_way : Option Addr} {sl_is_way : Array (Option Value)} {oc_is_way kv_is_way dc_is_way pm_is_way cd_is_way ct_is_way : Value}
    {f_is_word : Addr} {od_is_word an_is_word : Option Addr} {sl_is_word : Array (Option Value)} {oc_is_word kv_is_word dc_is_word pm_is_word cd_is_word ct_is_word : Value}
    {f_law : Addr} {od_law an_law : Option Addr} {sl_law : Array (Option Value)} {oc_law kv_law dc_law pm_law cd_law ct_law : Value}
    {f_law_alike : Addr} {od_law_alike an_law_alike : Option Addr} {sl_law_alike : Array (Option Value)} {oc_law_alike kv_law_alike dc_law_alike pm_law_alike cd_law_alike ct_law_alike : Value}
    {f_law_begun : Addr} {od_law_begun an_law_begun : Option Addr} {sl_law_begun : Array (Option Value)} {oc_law_begun kv_law_begun dc_law_begun pm_law_begun cd_law_begun ct_law_begun : Value}
    {f_law_body : Addr} {od_law_body an_law_body : Option Addr} {sl_law_body : Array (Option Value)} {oc_law_body kv_law_body dc_law_body pm_law_body cd_law_body ct_law_body : Value}
    {f_law_copied : Addr} {od_law_copied an_law_copied : Option Addr} {sl_law_copied : Array (Option Value)} {oc_law_copied kv_law_copied dc_law_copied pm_law_copied cd_law_copied ct_law_copied : Value}
    {f_law_fired : Addr} {od_law_fired an_law_fired : Option Addr} {sl_law_fired : Array (Option Value)} {oc_law_fired kv_law_fired dc_law_fired pm_law_fired cd_law_fired ct_law_fired : Value}
    {f_law_grounds : Addr} {od_law_grounds an_law_grounds : Option Addr} {sl_law_grounds : Array (Option Value)} {oc_law_grounds kv_law_grounds dc_law_grounds pm_law_grounds cd_law_grounds ct_law_grounds : Value}
    {f_law_number : Addr} {od_law_number an_law_number : Option Addr} {sl_law_number : Array (Option Value)} {oc_law_number kv_law_number dc_law_number pm_law_number cd_law_number ct_law_number : Value}
    {f_law_row : Addr} {od_law_row an_law_row : Option Addr} {sl_law_row : Array (Option Value)} {oc_law_row kv_law_row dc_law_row pm_law_row cd_law_row ct_law_row : Value}
    {f_law_rows : Addr} {od_law_rows an_law_rows : Option Addr} {sl_law_rows : Array (Option Value)} {oc_law_rows kv_law_rows dc_law_rows pm_law_rows cd_law_rows ct_law_rows : Value}
    {f_law_spoilt : Addr} {od_law_spoilt an_law_spoilt : Option Addr} {sl_law_spoilt : Array (Option Value)} {oc_law_spoilt kv_law_spoilt dc_law_spoilt pm_law_spoilt cd_law_spoilt ct_law_spoilt : Value}
    {f_law_stranger : Addr} {od_law_stranger an_law_stranger : Option Addr} {sl_law_stranger : Array (Option Value)} {oc_law_stranger kv_law_stranger dc_law_stranger pm_law_stranger cd_law_stranger ct_law_stranger : Value}
    {f_law_take : Addr} {od_law_take an_law_take : Option Addr} {sl_law_take : Array (Option Value)} {oc_law_take kv_law_take dc_law_take pm_law_take cd_law_take ct_law_take : Value}
    {f_law_taken : Addr} {od_law_taken an_law_taken : Option Addr} {sl_law_taken : Array (Option Value)} {oc_law_taken kv_law_taken dc_law_taken pm_law_taken cd_law_taken ct_law_taken : Value}
    {f_law_walks : Addr} {od_law_walks an_law_walks : Option Addr} {sl_law_walks : Array (Option Value)} {oc_law_walks kv_law_walks dc_law_walks pm_law_walks cd_law_walks ct_law_walks : Value}
    {f_law_words : Addr} {od_law_words an_law_words : Option Addr} {sl_law_words : Array (Option Value)} {oc_law_words kv_law_words dc_law_words pm_law_words cd_law_words ct_law_words : Value}
    {f_must_be_grounds : Addr} {od_must_be_grounds an_must_be_grounds : Option Addr} {sl_must_be_grounds : Array (Option Value)} {oc_must_be_grounds kv_must_be_grounds dc_must_be_grounds pm_must_be_grounds cd_must_be_grounds ct_must_be_grounds : Value}
    {f_walked : Addr} {od_walked an_walked : Option Addr} {sl_walked : Array (Option Value)} {oc_walked kv_walked dc_walked pm_walked cd_walked ct_walked : Value}
    {f_words_of : Addr} {od_words_of an_words_of : Option Addr} {sl_words_of : Array (Option Value)} {oc_words_of kv_words_of dc_words_of pm_words_of cd_words_of ct_words_of : Value}
    (z_ValueError : PySem.W.nsIn K mainGlobals "ValueError" = some none)
    (z_all : PySem.W.nsIn K mainGlobals "all" = some none)
    (z_bool : PySem.W.nsIn K mainGlobals "bool" = some none)
    (z_int : PySem.W.nsIn K mainGlobals "int" = some none)
    (z_isinstance : PySem.W.nsIn K mainGlobals "isinstance" = some none)
    (z_len : PySem.W.nsIn K mainGlobals "len" = some none)
    (z_list : PySem.W.nsIn K mainGlobals "list" = some none)
    (z_min : PySem.W.nsIn K mainGlobals "min" = some none)
    (z_range : PySem.W.nsIn K mainGlobals "range" = some none)
    (z_set : PySem.W.nsIn K mainGlobals "set" = some none)
    (z_sorted : PySem.W.nsIn K mainGlobals "sorted" = some none)
    (z_str : PySem.W.nsIn K mainGlobals "str" = some none)
    (z_tuple : PySem.W.nsIn K mainGlobals "tuple" = some none)
    (g_LETTERS : PySem.W.nsIn K mainGlobals "LETTERS" = some (some (.str "abcdefghijklmnopqrstuvwxyz" t_LETTERS)))
    (g_MOST_ROWS : PySem.W.nsIn K mainGlobals "MOST_ROWS" = some (some (.int 60 t_MOST_ROWS)))
    (g_MOST_GROUNDS : PySem.W.nsIn K mainGlobals "MOST_GROUNDS" = some (some (.int 8 t_MOST_GROUNDS)))
    (g_MOST_IN_BODY : PySem.W.nsIn K mainGlobals "MOST_IN_BODY" = some (some (.int 5 t_MOST_IN_BODY)))
    (a_Book : PySem.W.nsIn K mainGlobals "Book" = some (some (.ref C_Book)))
    (pg_Book : PySem.W.plainGet K C_Book Str.empty = true)
    (hd_Book : PySem.W.hasDictIn K C_Book = true)
    (po_Book : PySem.W.plainOver K C_Book = true)
    (sa_Book : PySem.W.findIn K (.ref C_Book) "__setattr__" = some (some (.builtin "object.__setattr__")))
    (mk_Book : PySem.W.makesIn K C_Book = true)
    (kc_Book : PySem.W.keepIn K (.ref C_Book) = true)
    (n_told_rows : PySem.W.findIn K (.ref C_Book) "told_rows" = some none)
    (a_NoGround : PySem.W.nsIn K mainGlobals "NoGround" = some (some (.ref C_NoGround)))
    (a_GroundError : PySem.W.nsIn K mainGlobals "GroundError" = some (some (.ref C_GroundError)))
    (a_BadText : PySem.W.nsIn K mainGlobals "BadText" = some (some (.ref C_BadText)))
    (a_Clash : PySem.W.nsIn K mainGlobals "Clash" = some (some (.ref C_Clash)))
    (a_BadRow : PySem.W.nsIn K mainGlobals "BadRow" = some (some (.ref C_BadRow)))
    (a_NoRow : PySem.W.nsIn K mainGlobals "NoRow" = some (some (.ref C_NoRow)))
    (a_Nothing : PySem.W.nsIn K mainGlobals "Nothing" = some (some (.ref C_Nothing)))
    (gs_GroundError : PySem.W.specialIn K (.ref C_GroundError) "__getattribute__" = some (some (.builtin "type.__getattribute__")))
    (gr_GroundError : PySem.W.readsIn K C_GroundError (.type "type") = true)
    (gf_GroundError : PySem.W.findCls K (.ref C_GroundError) (.type "type") "__init__" = some (.val (.builtin "ValueError.__init__")))
    (xl_NoGround : K.lookup C_NoGround = some (PySem.excClassObj nm_NoGround q_NoGround C_NoGround N_NoGround bs_NoGround [.ref C_GroundError, .type "ValueError", .type "Exception", .type "BaseException", .type "object"] true sn_NoGround sub_NoGround ab_NoGround col_NoGround dd_NoGround k0_NoGround k1_NoGround k2_NoGround k3_NoGround k5_NoGround "ValueError.__new__"))
    (xs_NoGround : PySem.W.findIn K (.ref C_NoGround) "__setattr__" = some (some (.builtin "object.__setattr__")))
    (xb_NoGround : PySem.W.subIn K (.ref C_NoGround) (.type "BaseException") = some true)
    (xt_NoGround : PySem.W.typeIn K (.ref C_NoGround) = some (.type "type"))
    (xk_NoGround : PySem.W.keepIn K (.ref C_NoGround) = true)
    (xn_NoGround_word : PySem.W.findIn K (.ref C_NoGround) "word" = some none)
    (ehg_NoGround : PySem.W.findIn K (.ref C_NoGround) "__getattribute__" = some (some (.builtin "BaseException.__getattribute__")))
    (ehk_NoGround : PySem.W.findIn K (.ref C_NoGround) "__getattr__" = some none)
    (ehs_NoGround : PySem.W.subIn K (.ref C_NoGround) (.type "BaseException") = some true)
    (ehd_NoGround : PySem.W.hasDictIn K C_NoGround = true)
    (eha_NoGround : PySem.W.findIn K (.ref C_NoGround) "__class__" = some (some (.builtin "object.__class__")))
    (ehn_NoGround : PySem.W.specialIn K (.builtin "object.__class__") "__get__" = some (some (.builtin "getset_descriptor.__get__")))
    (eht_NoGround : PySem.W.takesIn K (.builtin "object.__class__") = some true)
    (ehm_NoGround : PySem.W.mroIn K C_NoGround (.type "object") = some true)
    (sb_NoGround_GroundError : PySem.W.subIn K (.ref C_NoGround) (.ref C_GroundError) = some true)
    (sb_NoGround_BadText : PySem.W.subIn K (.ref C_NoGround) (.ref C_BadText) = some false)
    (ne_NoGround_BadText : (Value.ref C_NoGround == Value.ref C_BadText) = false)
    (sb_NoGround_Clash : PySem.W.subIn K (.ref C_NoGround) (.ref C_Clash) = some false)
    (ne_NoGround_Clash : (Value.ref C_NoGround == Value.ref C_Clash) = false)
    (sb_NoGround_BadRow : PySem.W.subIn K (.ref C_NoGround) (.ref C_BadRow) = some false)
    (ne_NoGround_BadRow : (Value.ref C_NoGround == Value.ref C_BadRow) = false)
    (sb_NoGround_NoRow : PySem.W.subIn K (.ref C_NoGround) (.ref C_NoRow) = some false)
    (ne_NoGround_NoRow : (Value.ref C_NoGround == Value.ref C_NoRow) = false)
    (sb_NoGround_Nothing : PySem.W.subIn K (.ref C_NoGround) (.ref C_Nothing) = some false)
    (ne_NoGround_Nothing : (Value.ref C_NoGround == Value.ref C_Nothing) = false)
    (sv_NoGround_ValueError : PySem.W.subIn K (.ref C_NoGround) (.type "ValueError") = some true)
    (ic_GroundError : PySem.W.isClsIn K C_GroundError = true)
    (tt_GroundError : PySem.W.typeIn K (.ref C_GroundError) = some (.type "type"))
    (bx_GroundError : PySem.W.subIn K (.ref C_GroundError) (.type "BaseException") = some true)
    (ic_BadText : PySem.W.isClsIn K C_BadText = true)
    (tt_BadText : PySem.W.typeIn K (.ref C_BadText) = some (.type "type"))
    (ic_Clash : PySem.W.isClsIn K C_Clash = true)
    (tt_Clash : PySem.W.typeIn K (.ref C_Clash) = some (.type "type"))
    (ic_BadRow : PySem.W.isClsIn K C_BadRow = true)
    (tt_BadRow : PySem.W.typeIn K (.ref C_BadRow) = some (.type "type"))
    (ic_NoRow : PySem.W.isClsIn K C_NoRow = true)
    (tt_NoRow : PySem.W.typeIn K (.ref C_NoRow) = some (.type "type"))
    (ic_Nothing : PySem.W.isClsIn K C_Nothing = true)
    (tt_Nothing : PySem.W.typeIn K (.ref C_Nothing) = some (.type "type"))
    (ic_NoGround : PySem.W.isClsIn K C_NoGround = true)
    (tt_NoGround : PySem.W.typeIn K (.ref C_NoGround) = some (.type "type"))
    (a_Book_all_grounds : PySem.W.findIn K (.ref C_Book) "all_grounds" = some (some (.ref f_Book_all_grounds)))
    (i_Book_all_grounds : PySem.W.isFn K (.ref f_Book_all_grounds) = true)
    (l_Book_all_grounds : K.lookup f_Book_all_grounds = some ⟨oc_Book_all_grounds, od_Book_all_grounds, .func (PySem.W.fnOf "all_grounds" "Book.all_grounds" (defArgs s_Book_all_grounds) (defBody s_Book_all_grounds) (defScope s_Book_all_grounds) .none kv_Book_all_grounds dc_Book_all_grounds pm_Book_all_grounds an_Book_all_grounds cd_Book_all_grounds ct_Book_all_grounds), sl_Book_all_grounds⟩)
    (c_Book_all_grounds : PySem.W.codeIn K cd_Book_all_grounds "Book.all_grounds" = true)
    (k_Book_all_grounds : PySem.W.keepIn K (.ref f_Book_all_grounds) = true)
    (a_Book_fault : PySem.W.findIn K (.ref C_Book) "fault" = some (some (.ref f_Book_fault)))
    (i_Book_fault : PySem.W.isFn K (.ref f_Book_fault) = true)
    (l_Book_fault : K.lookup f_Book_fault = some ⟨oc_Book_fault, od_Book_fault, .func (PySem.W.fnOf "fault" "Book.fault" (defArgs s_Book_fault) (defBody s_Book_fault) (defScope s_Book_fault) .none kv_Book_fault dc_Book_fault pm_Book_fault an_Book_fault cd_Book_fault ct_Book_fault), sl_Book_fault⟩)
    (c_Book_fault : PySem.W.codeIn K cd_Book_fault "Book.fault" = true)
    (k_Book_fault : PySem.W.keepIn K (.ref f_Book_fault) = true)
    (a_Book_init : PySem.W.findIn K (.ref C_Book) "__init__" = some (some (.ref f_Book_init)))
    (i_Book_init : PySem.W.isFn K (.ref f_Book_init) = true)
    (l_Book_init : K.lookup f_Book_init = some ⟨oc_Book_init, od_Book_init, .func (PySem.W.fnOf "__init__" "Book.__init__" (defArgs s_Book_init) (defBody s_Book_init) (defScope s_Book_init) .none kv_Book_init dc_Book_init pm_Book_init an_Book_init cd_Book_init ct_Book_init), sl_Book_init⟩)
    (c_Book_init : PySem.W.codeIn K cd_Book_init "Book.__init__" = true)
    (k_Book_init : PySem.W.keepIn K (.ref f_Book_init) = true)
    (a_Book_rows : PySem.W.findIn K (.ref C_Book) "rows" = some (some (.ref f_Book_rows)))
    (i_Book_rows : PySem.W.isFn K (.ref f_Book_rows) = true)
    (l_Book_rows : K.lookup f_Book_rows = some ⟨oc_Book_rows, od_Book_rows, .func (PySem.W.fnOf "rows" "Book.rows" (defArgs s_Book_rows) (defBody s_Book_rows) (defScope s_Book_rows) .none kv_Book_rows dc_Book_rows pm_Book_rows an_Book_rows cd_Book_rows ct_Book_rows), sl_Book_rows⟩)
    (c_Book_rows : PySem.W.codeIn K cd_Book_rows "Book.rows" = true)
    (k_Book_rows : PySem.W.keepIn K (.ref f_Book_rows) = true)
    (a_Book_tell : PySem.W.findIn K (.ref C_Book) "tell" = some (some (.ref f_Book_tell)))
    (i_Book_tell : PySem.W.isFn K (.ref f_Book_tell) = true)
    (l_Book_tell : K.lookup f_Book_tell = some ⟨oc_Book_tell, od_Book_tell, .func (PySem.W.fnOf "tell" "Book.tell" (defArgs s_Book_tell) (defBody s_Book_tell) (defScope s_Book_tell) .none kv_Book_tell dc_Book_tell pm_Book_tell an_Book_tell cd_Book_tell ct_Book_tell), sl_Book_tell⟩)
    (c_Book_tell : PySem.W.codeIn K cd_Book_tell "Book.tell" = true)
    (k_Book_tell : PySem.W.keepIn K (.ref f_Book_tell) = true)
    (a_NoGround_init : PySem.W.findIn K (.ref C_NoGround) "__init__" = some (some (.ref f_NoGround_init)))
    (i_NoGround_init : PySem.W.isFn K (.ref f_NoGround_init) = true)
    (l_NoGround_init : K.lookup f_NoGround_init = some ⟨oc_NoGround_init, od_NoGround_init, .func (PySem.W.fnOf "__init__" "NoGround.__init__" (defArgs s_NoGround_init) (defBody s_NoGround_init) (defScope s_NoGround_init) .none kv_NoGround_init dc_NoGround_init pm_NoGround_init an_NoGround_init cd_NoGround_init ct_NoGround_init), sl_NoGround_init⟩)
    (c_NoGround_init : PySem.W.codeIn K cd_NoGround_init "NoGround.__init__" = true)
    (k_NoGround_init : PySem.W.keepIn K (.ref f_NoGround_init) = true)
    (ti_NoGround_init : PySem.W.typeIn K (.ref f_NoGround_init) = some (.type "function"))
    (a_all_known : PySem.W.nsIn K mainGlobals "all_known" = some (some (.ref f_all_known)))
    (l_all_known : K.lookup f_all_known = some ⟨oc_all_known, od_all_known, .func (PySem.W.fnOf "all_known" "all_known" (defArgs s_all_known) (defBody s_all_known) (defScope s_all_known) .none kv_all_known dc_all_known pm_all_known an_all_known cd_all_known ct_all_known), sl_all_known⟩)
    (c_all_known : PySem.W.codeIn K cd_all_known "all_known" = true)
    (k_all_known : PySem.W.keepIn K (.ref f_all_known) = true)
    (a_body_of : PySem.W.nsIn K mainGlobals "body_of" = some (some (.ref f_body_of)))
    (l_body_of : K.lookup f_body_of = some ⟨oc_body_of, od_body_of, .func (PySem.W.fnOf "body_of" "body_of" (defArgs s_body_of) (defBody s_body_of) (defScope s_body_of) .none kv_body_of dc_body_of pm_body_of an_body_of cd_body_of ct_body_of), sl_body_of⟩)
    (c_body_of : PySem.W.codeIn K cd_body_of "body_of" = true)
    (k_body_of : PySem.W.keepIn K (.ref f_body_of) = true)
    (a_copied : PySem.W.nsIn K mainGlobals "copied" = some (some (.ref f_copied)))
    (l_copied : K.lookup f_copied = some ⟨oc_copied, od_copied, .func (PySem.W.fnOf "copied" "copied" (defArgs s_copied) (defBody s_copied) (defScope s_copied) .none kv_copied dc_copied pm_copied an_copied cd_copied ct_copied), sl_copied⟩)
    (c_copied : PySem.W.codeIn K cd_copied "copied" = true)
    (k_copied : PySem.W.keepIn K (.ref f_copied) = true)
    (a_is_way : PySem.W.nsIn K mainGlobals "is_way" = some (some (.ref f_is_way)))
    (l_is_way : K.lookup f_is_way = some ⟨oc_is_way, od_is_way, .func (PySem.W.fnOf "is_way" "is_way" (defArgs s_is_way) (defBody s_is_way) (defScope s_is_way) .none kv_is_way dc_is_way pm_is_way an_is_way cd_is_way ct_is_way), sl_is_way⟩)
    (c_is_way : PySem.W.codeIn K cd_is_way "is_way" = true)
    (k_is_way : PySem.W.keepIn K (.ref f_is_way) = true)
    (a_is_word : PySem.W.nsIn K mainGlobals "is_word" = some (some (.ref f_is_word)))
    (l_is_word : K.lookup f_is_word = some ⟨oc_is_word, od_is_word, .func (PySem.W.fnOf "is_word" "is_word" (defArgs s_is_word) (defBody s_is_word) (defScope s_is_word) .none kv_is_word dc_is_word pm_is_word an_is_word cd_is_word ct_is_word), sl_is_word⟩)
    (c_is_word : PySem.W.codeIn K cd_is_word "is_word" = true)
    (k_is_word : PySem.W.keepIn K (.ref f_is_word) = true)
    (a_law : PySem.W.nsIn K mainGlobals "law" = some (some (.ref f_law)))
    (l_law : K.lookup f_law = some ⟨oc_law, od_law, .func (PySem.W.fnOf "law" "law" (defArgs s_law) (defBody s_law) (defScope s_law) .none kv_law dc_law pm_law an_law cd_law ct_law), sl_law⟩)
    (c_law : PySem.W.codeIn K cd_law "law" = true)
    (k_law : PySem.W.keepIn K (.ref f_law) = true)
    (a_law_alike : PySem.W.nsIn K mainGlobals "_law_alike" = some (some (.ref f_law_alike)))
    (l_law_alike : K.lookup f_law_alike = some ⟨oc_law_alike, od_law_alike, .func (PySem.W.fnOf "_law_alike" "_law_alike" (defArgs s_law_alike) (defBody s_law_alike) (defScope s_law_alike) .none kv_law_alike dc_law_alike pm_law_alike an_law_alike cd_law_alike ct_law_alike), sl_law_alike⟩)
    (c_law_alike : PySem.W.codeIn K cd_law_alike "_law_alike" = true)
    (k_law_alike : PySem.W.keepIn K (.ref f_law_alike) = true)
    (a_law_begun : PySem.W.nsIn K mainGlobals "_law_begun" = some (some (.ref f_law_begun)))
    (l_law_begun : K.lookup f_law_begun = some ⟨oc_law_begun, od_law_begun, .func (PySem.W.fnOf "_law_begun" "_law_begun" (defArgs s_law_begun) (defBody s_law_begun) (defScope s_law_begun) .none kv_law_begun dc_law_begun pm_law_begun an_law_begun cd_law_begun ct_law_begun), sl_law_begun⟩)
    (c_law_begun : PySem.W.codeIn K cd_law_begun "_law_begun" = true)
    (k_law_begun : PySem.W.keepIn K (.ref f_law_begun) = true)
    (a_law_body : PySem.W.nsIn K mainGlobals "_law_body" = some (some (.ref f_law_body)))
    (l_law_body : K.lookup f_law_body = some ⟨oc_law_body, od_law_body, .func (PySem.W.fnOf "_law_body" "_law_body" (defArgs s_law_body) (defBody s_law_body) (defScope s_law_body) .none kv_law_body dc_law_body pm_law_body an_law_body cd_law_body ct_law_body), sl_law_body⟩)
    (c_law_body : PySem.W.codeIn K cd_law_body "_law_body" = true)
    (k_law_body : PySem.W.keepIn K (.ref f_law_body) = true)
    (a_law_copied : PySem.W.nsIn K mainGlobals "_law_copied" = some (some (.ref f_law_copied)))
    (l_law_copied : K.lookup f_law_copied = some ⟨oc_law_copied, od_law_copied, .func (PySem.W.fnOf "_law_copied" "_law_copied" (defArgs s_law_copied) (defBody s_law_copied) (defScope s_law_copied) .none kv_law_copied dc_law_copied pm_law_copied an_law_copied cd_law_copied ct_law_copied), sl_law_copied⟩)
    (c_law_copied : PySem.W.codeIn K cd_law_copied "_law_copied" = true)
    (k_law_copied : PySem.W.keepIn K (.ref f_law_copied) = true)
    (a_law_fired : PySem.W.nsIn K mainGlobals "_law_fired" = some (some (.ref f_law_fired)))
    (l_law_fired : K.lookup f_law_fired = some ⟨oc_law_fired, od_law_fired, .func (PySem.W.fnOf "_law_fired" "_law_fired" (defArgs s_law_fired) (defBody s_law_fired) (defScope s_law_fired) .none kv_law_fired dc_law_fired pm_law_fired an_law_fired cd_law_fired ct_law_fired), sl_law_fired⟩)
    (c_law_fired : PySem.W.codeIn K cd_law_fired "_law_fired" = true)
    (k_law_fired : PySem.W.keepIn K (.ref f_law_fired) = true)
    (a_law_grounds : PySem.W.nsIn K mainGlobals "_law_grounds" = some (some (.ref f_law_grounds)))
    (l_law_grounds : K.lookup f_law_grounds = some ⟨oc_law_grounds, od_law_grounds, .func (PySem.W.fnOf "_law_grounds" "_law_grounds" (defArgs s_law_grounds) (defBody s_law_grounds) (defScope s_law_grounds) .none kv_law_grounds dc_law_grounds pm_law_grounds an_law_grounds cd_law_grounds ct_law_grounds), sl_law_grounds⟩)
    (c_law_grounds : PySem.W.codeIn K cd_law_grounds "_law_grounds" = true)
    (k_law_grounds : PySem.W.keepIn K (.ref f_law_grounds) = true)
    (a_law_number : PySem.W.nsIn K mainGlobals "_law_number" = some (some (.ref f_law_number)))
    (l_law_number : K.lookup f_law_number = some ⟨oc_law_number, od_law_number, .func (PySem.W.fnOf "_law_number" "_law_number" (defArgs s_law_number) (defBody s_law_number) (defScope s_law_number) .none kv_law_number dc_law_number pm_law_number an_law_number cd_law_number ct_law_number), sl_law_number⟩)
    (c_law_number : PySem.W.codeIn K cd_law_number "_law_number" = true)
    (k_law_number : PySem.W.keepIn K (.ref f_law_number) = true)
    (a_law_row : PySem.W.nsIn K mainGlobals "_law_row" = some (some (.ref f_law_row)))
    (l_law_row : K.lookup f_law_row = some ⟨oc_law_row, od_law_row, .func (PySem.W.fnOf "_law_row" "_law_row" (defArgs s_law_row) (defBody s_law_row) (defScope s_law_row) .none kv_law_row dc_law_row pm_law_row an_law_row cd_law_row ct_law_row), sl_law_row⟩)
    (c_law_row : PySem.W.codeIn K cd_law_row "_law_row" = true)
    (k_law_row : PySem.W.keepIn K (.ref f_law_row) = true)
    (a_law_rows : PySem.W.nsIn K mainGlobals "_law_rows" = some (some (.ref f_law_rows)))
    (l_law_rows : K.lookup f_law_rows = some ⟨oc_law_rows, od_law_rows, .func (PySem.W.fnOf "_law_rows" "_law_rows" (defArgs s_law_rows) (defBody s_law_rows) (defScope s_law_rows) .none kv_law_rows dc_law_rows pm_law_rows an_law_rows cd_law_rows ct_law_rows), sl_law_rows⟩)
    (c_law_rows : PySem.W.codeIn K cd_law_rows "_law_rows" = true)
    (k_law_rows : PySem.W.keepIn K (.ref f_law_rows) = true)
    (a_law_spoilt : PySem.W.nsIn K mainGlobals "_law_spoilt" = some (some (.ref f_law_spoilt)))
    (l_law_spoilt : K.lookup f_law_spoilt = some ⟨oc_law_spoilt, od_law_spoilt, .func (PySem.W.fnOf "_law_spoilt" "_law_spoilt" (defArgs s_law_spoilt) (defBody s_law_spoilt) (defScope s_law_spoilt) .none kv_law_spoilt dc_law_spoilt pm_law_spoilt an_law_spoilt cd_law_spoilt ct_law_spoilt), sl_law_spoilt⟩)
    (c_law_spoilt : PySem.W.codeIn K cd_law_spoilt "_law_spoilt" = true)
    (k_law_spoilt : PySem.W.keepIn K (.ref f_law_spoilt) = true)
    (a_law_stranger : PySem.W.nsIn K mainGlobals "_law_stranger" = some (some (.ref f_law_stranger)))
    (l_law_stranger : K.lookup f_law_stranger = some ⟨oc_law_stranger, od_law_stranger, .func (PySem.W.fnOf "_law_stranger" "_law_stranger" (defArgs s_law_stranger) (defBody s_law_stranger) (defScope s_law_stranger) .none kv_law_stranger dc_law_stranger pm_law_stranger an_law_stranger cd_law_stranger ct_law_stranger), sl_law_stranger⟩)
    (c_law_stranger : PySem.W.codeIn K cd_law_stranger "_law_stranger" = true)
    (k_law_stranger : PySem.W.keepIn K (.ref f_law_stranger) = true)
    (a_law_take : PySem.W.nsIn K mainGlobals "_law_take" = some (some (.ref f_law_take)))
    (l_law_take : K.lookup f_law_take = some ⟨oc_law_take, od_law_take, .func (PySem.W.fnOf "_law_take" "_law_take" (defArgs s_law_take) (defBody s_law_take) (defScope s_law_take) .none kv_law_take dc_law_take pm_law_take an_law_take cd_law_take ct_law_take), sl_law_take⟩)
    (c_law_take : PySem.W.codeIn K cd_law_take "_law_take" = true)
    (k_law_take : PySem.W.keepIn K (.ref f_law_take) = true)
    (a_law_taken : PySem.W.nsIn K mainGlobals "_law_taken" = some (some (.ref f_law_taken)))
    (l_law_taken : K.lookup f_law_taken = some ⟨oc_law_taken, od_law_taken, .func (PySem.W.fnOf "_law_taken" "_law_taken" (defArgs s_law_taken) (defBody s_law_taken) (defScope s_law_taken) .none kv_law_taken dc_law_taken pm_law_taken an_law_taken cd_law_taken ct_law_taken), sl_law_taken⟩)
    (c_law_taken : PySem.W.codeIn K cd_law_taken "_law_taken" = true)
    (k_law_taken : PySem.W.keepIn K (.ref f_law_taken) = true)
    (a_law_walks : PySem.W.nsIn K mainGlobals "_law_walks" = some (some (.ref f_law_walks)))
    (l_law_walks : K.lookup f_law_walks = some ⟨oc_law_walks, od_law_walks, .func (PySem.W.fnOf "_law_walks" "_law_walks" (defArgs s_law_walks) (defBody s_law_walks) (defScope s_law_walks) .none kv_law_walks dc_law_walks pm_law_walks an_law_walks cd_law_walks ct_law_walks), sl_law_walks⟩)
    (c_law_walks : PySem.W.codeIn K cd_law_walks "_law_walks" = true)
    (k_law_walks : PySem.W.keepIn K (.ref f_law_walks) = true)
    (a_law_words : PySem.W.nsIn K mainGlobals "_law_words" = some (some (.ref f_law_words)))
    (l_law_words : K.lookup f_law_words = some ⟨oc_law_words, od_law_words, .func (PySem.W.fnOf "_law_words" "_law_words" (defArgs s_law_words) (defBody s_law_words) (defScope s_law_words) .none kv_law_words dc_law_words pm_law_words an_law_words cd_law_words ct_law_words), sl_law_words⟩)
    (c_law_words : PySem.W.codeIn K cd_law_words "_law_words" = true)
    (k_law_words : PySem.W.keepIn K (.ref f_law_words) = true)
    (a_must_be_grounds : PySem.W.nsIn K mainGlobals "must_be_grounds" = some (some (.ref f_must_be_grounds)))
    (l_must_be_grounds : K.lookup f_must_be_grounds = some ⟨oc_must_be_grounds, od_must_be_grounds, .func (PySem.W.fnOf "must_be_grounds" "must_be_grounds" (defArgs s_must_be_grounds) (defBody s_must_be_grounds) (defScope s_must_be_grounds) .none kv_must_be_grounds dc_must_be_grounds pm_must_be_grounds an_must_be_grounds cd_must_be_grounds ct_must_be_grounds), sl_must_be_grounds⟩)
    (c_must_be_grounds : PySem.W.codeIn K cd_must_be_grounds "must_be_grounds" = true)
    (k_must_be_grounds : PySem.W.keepIn K (.ref f_must_be_grounds) = true)
    (a_walked : PySem.W.nsIn K mainGlobals "walked" = some (some (.ref f_walked)))
    (l_walked : K.lookup f_walked = some ⟨oc_walked, od_walked, .func (PySem.W.fnOf "walked" "walked" (defArgs s_walked) (defBody s_walked) (defScope s_walked) .none kv_walked dc_walked pm_walked an_walked cd_walked ct_walked), sl_walked⟩)
    (c_walked : PySem.W.codeIn K cd_walked "walked" = true)
    (k_walked : PySem.W.keepIn K (.ref f_walked) = true)
    (a_words_of : PySem.W.nsIn K mainGlobals "words_of" = some (some (.ref f_words_of)))
    (l_words_of : K.lookup f_words_of = some ⟨oc_words_of, od_words_of, .func (PySem.W.fnOf "words_of" "words_of" (defArgs s_words_of) (defBody s_words_of) (defScope s_words_of) .none kv_words_of dc_words_of pm_words_of an_words_of cd_words_of ct_words_of), sl_words_of⟩)
    (c_words_of : PySem.W.codeIn K cd_words_of "words_of" = true)
    (k_words_of : PySem.W.keepIn K (.ref f_words_of) = true) :
    ∃ fd : FuncData, (∀ (s : Shared) (v : Value), BindsTo s fd ⟨[v], []⟩ [("_law_script", v)]) ∧ ∀ base : Heap, K.In base → base.Ns mainGlobals mg → FnOk l.prog w K mg base CX0 8 fa fd ["_law_script"] (spF (sp_law K)) := by
  have e := hfa.symm.trans (PySem.W.mg_of X G a_law)
  cases e
  have F_Book_all_grounds := fun_mk (st := s_Book_all_grounds) l_Book_all_grounds c_Book_all_grounds k_Book_all_grounds
  have B_Book_all_grounds := F_Book_all_grounds.binds (ps := ["self"]) fun _ _ _ _ _ _ us hl => match us, hl with | [_], _ => rfl
  have F_Book_fault := fun_mk (st := s_Book_fault) l_Book_fault c_Book_fault k_Book_fault
  have B_Book_fault := F_Book_fault.binds (ps := ["self", "row"]) fun _ _ _ _ _ _ us hl => match us, hl with | [_, _], _ => rfl
  have F_Book_init := fun_mk (st := s_Book_init) l_Book_init c_Book_init k_Book_init
  have B_Book_init := F_Book_init.binds (ps := ["self", "rows"]) fun _ _ _ _ _ _ us hl => match us, hl with | [_, _], _ => rfl
  have F_Book_rows := fun_mk (st := s_Book_rows) l_Book_rows c_Book_rows k_Book_rows
  have B_Book_rows := F_Book_rows.binds (ps := ["self"]) fun _ _ _ _ _ _ us hl => match us, hl with | [_], _ => rfl
  have F_Book_tell := fun_mk (st := s_Book_tell) l_Book_tell c_Book_tell k_Book_tell
  have B_Book_tell := F_Book_tell.binds (ps := ["self", "row"]) fun _ _ _ _ _ _ us hl => match us, hl with | [_, _], _ => rfl
  have F_NoGround_init := fun_mk (st := s_NoGround_init) l_NoGround_init c_NoGround_init k_NoGround_init
  have B_NoGround_init := F_NoGround_init.binds (ps := ["self", "word"]) fun _ _ _ _ _ _ us hl => match us, hl with | [_, _], _ => rfl
  have F_all_known := fun_mk (st := s_all_known) l_all_known c_all_known k_all_known
  have B_all_known := F_all_known.binds (ps := ["body", "known"]) fun _ _ _ _ _ _ us hl => match us, hl with | [_, _], _ => rfl
  have F_body_of := fun_mk (st := s_body_of) l_body_of c_body_of k_body_of
  have B_body_of := F_body_of.binds (ps := ["row"]) fun _ _ _ _ _ _ us hl => match us, hl with | [_], _ => rfl
  have F_copied := fun_mk (st := s_copied) l_copied c_copied k_copied
  have B_copied := F_copied.binds (ps := ["row"]) fun _ _ _ _ _ _ us hl => match us, hl with | [_], _ => rfl
  have F_is_way := fun_mk (st := s_is_way) l_is_way c_is_way k_is_way
  have B_is_way := F_is_way.binds (ps := ["book", "thing", "taken", "numbers"]) fun _ _ _ _ _ _ us hl => match us, hl with | [_, _, _, _], _ => rfl
  have F_is_word := fun_mk (st := s_is_word) l_is_word c_is_word k_is_word
  have B_is_word := F_is_word.binds (ps := ["text"]) fun _ _ _ _ _ _ us hl => match us, hl with | [_], _ => rfl
  have F_law := fun_mk (st := s_law) l_law c_law k_law
  have B_law := F_law.binds (ps := ["_law_script"]) fun _ _ _ _ _ _ us hl => match us, hl with | [_], _ => rfl
  have F_law_alike := fun_mk (st := s_law_alike) l_law_alike c_law_alike k_law_alike
  have B_law_alike := F_law_alike.binds (ps := ["_law_found", "_law_due"]) fun _ _ _ _ _ _ us hl => match us, hl with | [_, _], _ => rfl
  have F_law_begun := fun_mk (st := s_law_begun) l_law_begun c_law_begun k_law_begun
  have B_law_begun := F_law_begun.binds (ps := ["_law_script"]) fun _ _ _ _ _ _ us hl => match us, hl with | [_], _ => rfl
  have F_law_body := fun_mk (st := s_law_body) l_law_body c_law_body k_law_body
  have B_law_body := F_law_body.binds (ps := ["_law_box", "_law_words_here", "_law_sizes"]) fun _ _ _ _ _ _ us hl => match us, hl with | [_, _, _], _ => rfl
  have F_law_copied := fun_mk (st := s_law_copied) l_law_copied c_law_copied k_law_copied
  have B_law_copied := F_law_copied.binds (ps := ["_law_rows_here"]) fun _ _ _ _ _ _ us hl => match us, hl with | [_], _ => rfl
  have F_law_fired := fun_mk (st := s_law_fired) l_law_fired c_law_fired k_law_fired
  have B_law_fired := F_law_fired.binds (ps := ["_law_rows_here", "_law_taken_here"]) fun _ _ _ _ _ _ us hl => match us, hl with | [_, _], _ => rfl
  have F_law_grounds := fun_mk (st := s_law_grounds) l_law_grounds c_law_grounds k_law_grounds
  have B_law_grounds := F_law_grounds.binds (ps := ["_law_rows_here"]) fun _ _ _ _ _ _ us hl => match us, hl with | [_], _ => rfl
  have F_law_number := fun_mk (st := s_law_number) l_law_number c_law_number k_law_number
  have B_law_number := F_law_number.binds (ps := ["_law_box", "_law_rows_here"]) fun _ _ _ _ _ _ us hl => match us, hl with | [_, _], _ => rfl
  have F_law_row := fun_mk (st := s_law_row) l_law_row c_law_row k_law_row
  have B_law_row := F_law_row.binds (ps := ["_law_box", "_law_words_here", "_law_many"]) fun _ _ _ _ _ _ us hl => match us, hl with | [_, _, _], _ => rfl
  have F_law_rows := fun_mk (st := s_law_rows) l_law_rows c_law_rows k_law_rows
  have B_law_rows := F_law_rows.binds (ps := ["_law_box", "_law_words_here", "_law_most"]) fun _ _ _ _ _ _ us hl => match us, hl with | [_, _, _], _ => rfl
  have F_law_spoilt := fun_mk (st := s_law_spoilt) l_law_spoilt c_law_spoilt k_law_spoilt
  have B_law_spoilt := F_law_spoilt.binds (ps := ["_law_box", "_law_rows_here", "_law_numbers"]) fun _ _ _ _ _ _ us hl => match us, hl with | [_, _, _], _ => rfl
  have F_law_stranger := fun_mk (st := s_law_stranger) l_law_stranger c_law_stranger k_law_stranger
  have B_law_stranger := F_law_stranger.binds (ps := ["_law_book", "_law_thing", "_law_taken_here", "_law_numbers"]) fun _ _ _ _ _ _ us hl => match us, hl with | [_, _, _, _], _ => rfl
  have F_law_take := fun_mk (st := s_law_take) l_law_take c_law_take k_law_take
  have B_law_take := F_law_take.binds (ps := ["_law_box", "_law_many"]) fun _ _ _ _ _ _ us hl => match us, hl with | [_, _], _ => rfl
  have F_law_taken := fun_mk (st := s_law_taken) l_law_taken c_law_taken k_law_taken
  have B_law_taken := F_law_taken.binds (ps := ["_law_box", "_law_grounds_here"]) fun _ _ _ _ _ _ us hl => match us, hl with | [_, _], _ => rfl
  have F_law_walks := fun_mk (st := s_law_walks) l_law_walks c_law_walks k_law_walks
  have B_law_walks := F_law_walks.binds (ps := ["_law_rows_here", "_law_thing", "_law_taken_here", "_law_numbers"]) fun _ _ _ _ _ _ us hl => match us, hl with | [_, _, _, _], _ => rfl
  have F_law_words := fun_mk (st := s_law_words) l_law_words c_law_words k_law_words
  have B_law_words := F_law_words.binds (ps := ["_law_box"]) fun _ _ _ _ _ _ us hl => match us, hl with | [_], _ => rfl
  have F_must_be_grounds := fun_mk (st := s_must_be_grounds) l_must_be_grounds c_must_be_grounds k_must_be_grounds
  have B_must_be_grounds := F_must_be_grounds.binds (ps := ["book", "taken"]) fun _ _ _ _ _ _ us hl => match us, hl with | [_, _], _ => rfl
  have F_walked := fun_mk (st := s_walked) l_walked c_walked k_walked
  have B_walked := F_walked.binds (ps := ["rows", "thing", "taken", "numbers"]) fun _ _ _ _ _ _ us hl => match us, hl with | [_, _, _, _], _ => rfl
  have F_words_of := fun_mk (st := s_words_of) l_words_of c_words_of k_words_of
  have B_words_of := F_words_of.binds (ps := ["row"]) fun _ _ _ _ _ _ us hl => match us, hl with | [_], _ => rfl
  exact ⟨PySem.W.fnOf "law" "law" (defArgs s_law) (defBody s_law) (defScope s_law) .none kv_law dc_law pm_law an_law cd_law ct_law, fun s v => .of_eq rfl, fun base _ _ => ok_law (P := l.prog) (w := w) (base := base) ({
    b_ValueError := PySem.W.mg_none_of X G z_ValueError,
    b_all := PySem.W.mg_none_of X G z_all,
    b_bool := PySem.W.mg_none_of X G z_bool,
    b_int := PySem.W.mg_none_of X G z_int,
    b_isinstance := PySem.W.mg_none_of X G z_isinstance,
    b_len := PySem.W.mg_none_of X G z_len,
    b_list := PySem.W.mg_none_of X G z_list,
    b_min := PySem.W.mg_none_of X G z_min,
    b_range := PySem.W.mg_none_of X G z_range,
    b_set := PySem.W.mg_none_of X G z_set,
    b_sorted := PySem.W.mg_none_of X G z_sorted,
    b_str := PySem.W.mg_none_of X G z_str,
    b_tuple := PySem.W.mg_none_of X G z_tuple,
    t_LETTERS := t_LETTERS,
    c_LETTERS := PySem.W.mg_of X G g_LETTERS,
    t_MOST_ROWS := t_MOST_ROWS,
    c_MOST_ROWS := PySem.W.mg_of X G g_MOST_ROWS,
    t_MOST_GROUNDS := t_MOST_GROUNDS,
    c_MOST_GROUNDS := PySem.W.mg_of X G g_MOST_GROUNDS,
    t_MOST_IN_BODY := t_MOST_IN_BODY,
    c_MOST_IN_BODY := PySem.W.mg_of X G g_MOST_IN_BODY,
    C_Book := C_Book,
    m_Book := PySem.W.mg_of X G a_Book,
    c_Book := ⟨pg_Book, hd_Book, po_Book, sa_Book⟩,
    n_told_rows := n_told_rows,
    C_NoGround := C_NoGround,
    m_NoGround := PySem.W.mg_of X G a_NoGround,
    C_GroundError := C_GroundError,
    m_GroundError := PySem.W.mg_of X G a_GroundError,
    C_BadText := C_BadText,
    m_BadText := PySem.W.mg_of X G a_BadText,
    C_Clash := C_Clash,
    m_Clash := PySem.W.mg_of X G a_Clash,
    C_BadRow := C_BadRow,
    m_BadRow := PySem.W.mg_of X G a_BadRow,
    C_NoRow := C_NoRow,
    m_NoRow := PySem.W.mg_of X G a_NoRow,
    C_Nothing := C_Nothing,
    m_Nothing := PySem.W.mg_of X G a_Nothing,
    g_GroundError := ⟨gs_GroundError, gr_GroundError, gf_GroundError⟩,
    x_NoGround := ⟨⟨⟨_, _, _, _, _, _, _, _, _, _, _, _, _, _, _, xl_NoGround, rfl⟩, xs_NoGround, xb_NoGround, xt_NoGround, xk_NoGround⟩, (fun f hf => by simp at hf; subst hf; exact xn_NoGround_word)⟩,
    e_NoGround := ⟨ehg_NoGround, ehk_NoGround, ehs_NoGround, ehd_NoGround, eha_NoGround, ehn_NoGround, eht_NoGround, ehm_NoGround⟩,
    ex_NoGround_GroundError := exm_ref bx_GroundError ic_GroundError tt_GroundError sb_NoGround_GroundError,
    kt_NoGround_BadText := kit_ref ic_BadText tt_BadText sb_NoGround_BadText ne_NoGround_BadText,
    kt_NoGround_Clash := kit_ref ic_Clash tt_Clash sb_NoGround_Clash ne_NoGround_Clash,
    kt_NoGround_BadRow := kit_ref ic_BadRow tt_BadRow sb_NoGround_BadRow ne_NoGround_BadRow,
    kt_NoGround_NoRow := kit_ref ic_NoRow tt_NoRow sb_NoGround_NoRow ne_NoGround_NoRow,
    kt_NoGround_Nothing := kit_ref ic_Nothing tt_Nothing sb_NoGround_Nothing ne_NoGround_Nothing,
    kt_NoGround_NoGround := kit_self,
    kt_NoGround_ValueError := kit_type sv_NoGround_ValueError (by decide +kernel),
    Book_all_grounds := { a := _, fd := _, F := F_Book_all_grounds, me := ⟨a_Book_all_grounds, i_Book_all_grounds, k_Book_all_grounds⟩, b := B_Book_all_grounds },
    Book_fault := { a := _, fd := _, F := F_Book_fault, me := ⟨a_Book_fault, i_Book_fault, k_Book_fault⟩, b := B_Book_fault },
    Book_init := { a := _, fd := _, F := F_Book_init, me := ⟨a_Book_init, i_Book_init, k_Book_init⟩, b := B_Book_init },
    Book_rows := { a := _, fd := _, F := F_Book_rows, me := ⟨a_Book_rows, i_Book_rows, k_Book_rows⟩, b := B_Book_rows },
    Book_tell := { a := _, fd := _, F := F_Book_tell, me := ⟨a_Book_tell, i_Book_tell, k_Book_tell⟩, b := B_Book_tell },
    ti_NoGround := ti_NoGround_init,
    NoGround_init := { a := _, fd := _, F := F_NoGround_init, me := ⟨a_NoGround_init, i_NoGround_init, k_NoGround_init⟩, b := B_NoGround_init },
    all_known := { a := _, fd := _, F := F_all_known, m := PySem.W.mg_of X G a_all_known, b := B_all_known },
    body_of := { a := _, fd := _, F := F_body_of, m := PySem.W.mg_of X G a_body_of, b := B_body_of },
    copied := { a := _, fd := _, F := F_copied, m := PySem.W.mg_of X G a_copied, b := B_copied },
    is_way := { a := _, fd := _, F := F_is_way, m := PySem.W.mg_of X G a_is_way, b := B_is_way },
    is_word := { a := _, fd := _, F := F_is_word, m := PySem.W.mg_of X G a_is_word, b := B_is_word },
    law := { a := _, fd := _, F := F_law, m := PySem.W.mg_of X G a_law, b := B_law },
    law_alike := { a := _, fd := _, F := F_law_alike, m := PySem.W.mg_of X G a_law_alike, b := B_law_alike },
    law_begun := { a := _, fd := _, F := F_law_begun, m := PySem.W.mg_of X G a_law_begun, b := B_law_begun },
    law_body := { a := _, fd := _, F := F_law_body, m := PySem.W.mg_of X G a_law_body, b := B_law_body },
    law_copied := { a := _, fd := _, F := F_law_copied, m := PySem.W.mg_of X G a_law_copied, b := B_law_copied },
    law_fired := { a := _, fd := _, F := F_law_fired, m := PySem.W.mg_of X G a_law_fired, b := B_law_fired },
    law_grounds := { a := _, fd := _, F := F_law_grounds, m := PySem.W.mg_of X G a_law_grounds, b := B_law_grounds },
    law_number := { a := _, fd := _, F := F_law_number, m := PySem.W.mg_of X G a_law_number, b := B_law_number },
    law_row := { a := _, fd := _, F := F_law_row, m := PySem.W.mg_of X G a_law_row, b := B_law_row },
    law_rows := { a := _, fd := _, F := F_law_rows, m := PySem.W.mg_of X G a_law_rows, b := B_law_rows },
    law_spoilt := { a := _, fd := _, F := F_law_spoilt, m := PySem.W.mg_of X G a_law_spoilt, b := B_law_spoilt },
    law_stranger := { a := _, fd := _, F := F_law_stranger, m := PySem.W.mg_of X G a_law_stranger, b := B_law_stranger },
    law_take := { a := _, fd := _, F := F_law_take, m := PySem.W.mg_of X G a_law_take, b := B_law_take },
    law_taken := { a := _, fd := _, F := F_law_taken, m := PySem.W.mg_of X G a_law_taken, b := B_law_taken },
    law_walks := { a := _, fd := _, F := F_law_walks, m := PySem.W.mg_of X G a_law_walks, b := B_law_walks },
    law_words := { a := _, fd := _, F := F_law_words, m := PySem.W.mg_of X G a_law_words, b := B_law_words },
    must_be_grounds := { a := _, fd := _, F := F_must_be_grounds, m := PySem.W.mg_of X G a_must_be_grounds, b := B_must_be_grounds },
    walked := { a := _, fd := _, F := F_walked, m := PySem.W.mg_of X G a_walked, b := B_walked },
    words_of := { a := _, fd := _, F := F_words_of, m := PySem.W.mg_of X G a_words_of, b := B_words_of },
    M_Book := ⟨mk_Book, a_Book_init, i_Book_init, kc_Book⟩ } : Txt K mg)⟩
theorem top_walk {l : PySem.W.OpenLaw} {q : Program} {loose : List Str} {XP : (Str → Option Value) → Heap → Prop} {YP : World → Heap → Prop} {d : DefRec} {K : Params → PySem.W.Frag} (hn : l.most = some 63) (hdf : d.params.defaults = [])
    (hY : ∀ (w : World) (h : Heap), YP w h → (K w.params).In h)
    (F : ∀ (w : World) (mg : Str → Option Value) (fa : Addr) (h : Heap), (K w.params).In h → h.Ns mainGlobals mg → mg d.name = some (.ref fa) →
      ∃ fd : FuncData, (∀ (s : Shared) (u : Value), BindsTo s fd ⟨[u], []⟩ [("_law_script", u)]) ∧ ∀ base : Heap, (K w.params).In base → base.Ns mainGlobals mg → FnOk l.prog w (K w.params) mg base CX0 8 fa fd ["_law_script"] (spF (sp_law (K w.params)))) :
    PySem.W.WalkO q loose XP YP l.row.toRowW d [] (fun f vs => PySem.call f vs) :=
  L2.walk_of (n := 63) (k := 8) (x := "_law_script") (CX := fun _ => CX0) (sp := fun w => spF (sp_law (K w.params))) hn (by decide) hdf ⟨rfl, by decide, by decide⟩ hY F (fun _ _ a ns hl _ hS => sp_top hS ⟨a, ns, rfl, hl, rfl⟩) fun _ _ _ _ _ z => z
end My
open PySem PySem.W PyProof.Rows in
set_option maxRecDepth 100000 in
set_option maxHeartbeats 0 in
theorem PySem.Challenge.cw_maybegrounds_k04_ways_looked_at_holds : PySem.Challenge.rw_maybegrounds_k04_ways_looked_at.Holds := by
  w_on; o_law; k_head; (case hw => w_witness2)
  k_fill
  refine My.top_walk (l := PySem.Challenge.rw_maybegrounds_k04_ways_looked_at) rfl rfl (fun w h Y => PySem.W.kIn_of Y) ?F
  case F =>
    intro w mg fa h KX G hmg
    refine' My.all_mk KX G hmg ?z_ValueError ?z_all ?z_bool ?z_int ?z_isinstance ?z_len ?z_list ?z_min ?z_range ?z_set ?z_sorted ?z_str ?z_tuple ?g_LETTERS ?g_MOST_ROWS ?g_MOST_GROUNDS ?g_MOST_IN_BODY ?a_Book ?pg_Book ?hd_Book ?po_Book ?sa_Book ?mk_Book ?kc_Book ?n_told_rows ?a_NoGround ?a_GroundError ?a_BadText ?a_Clash ?a_BadRow ?a_NoRow ?a_Nothing ?gs_GroundError ?gr_GroundError ?gf_GroundError ?xl_NoGround ?xs_NoGround ?xb_NoGround ?xt_NoGround ?xk_NoGround ?xn_NoGround_word ?ehg_NoGround ?ehk_NoGround ?ehs_NoGround ?ehd_NoGround ?eha_NoGround ?ehn_NoGround ?eht_NoGround ?ehm_NoGround ?sb_NoGround_GroundError ?sb_NoGround_BadText ?ne_NoGround_BadText ?sb_NoGround_Clash ?ne_NoGround_Clash ?sb_NoGround_BadRow ?ne_NoGround_BadRow ?sb_NoGround_NoRow ?ne_NoGround_NoRow ?sb_NoGround_Nothing ?ne_NoGround_Nothing ?sv_NoGround_ValueError ?ic_GroundError ?tt_GroundError ?bx_GroundError ?ic_BadText ?tt_BadText ?ic_Clash ?tt_Clash ?ic_BadRow ?tt_BadRow ?ic_NoRow ?tt_NoRow ?ic_Nothing ?tt_Nothing ?ic_NoGround ?tt_NoGround ?a_Book_all_grounds ?i_Book_all_grounds ?l_Book_all_grounds ?c_Book_all_grounds ?k_Book_all_grounds ?a_Book_fault ?i_Book_fault ?l_Book_fault ?c_Book_fault ?k_Book_fault ?a_Book_init ?i_Book_init ?l_Book_init ?c_Book_init ?k_Book_init ?a_Book_rows ?i_Book_rows ?l_Book_rows ?c_Book_rows ?k_Book_rows ?a_Book_tell ?i_Book_tell ?l_Book_tell ?c_Book_tell ?k_Book_tell ?a_NoGround_init ?i_NoGround_init ?l_NoGround_init ?c_NoGround_init ?k_NoGround_init ?ti_NoGround_init ?a_all_known ?l_all_known ?c_all_known ?k_all_known ?a_body_of ?l_body_of ?c_body_of ?k_body_of ?a_copied ?l_copied ?c_copied ?k_copied ?a_is_way ?l_is_way ?c_is_way ?k_is_way ?a_is_word ?l_is_word ?c_is_word ?k_is_word ?a_law ?l_law ?c_law ?k_law ?a_law_alike ?l_law_alike ?c_law_alike ?k_law_alike ?a_law_begun ?l_law_begun ?c_law_begun ?k_law_begun ?a_law_body ?l_law_body ?c_law_body ?k_law_body ?a_law_copied ?l_law_copied ?c_law_copied ?k_law_copied ?a_law_fired ?l_law_fired ?c_law_fired ?k_law_fired ?a_law_grounds ?l_law_grounds ?c_law_grounds ?k_law_grounds ?a_law_number ?l_law_number ?c_law_number ?k_law_number ?a_law_row ?l_law_row ?c_law_row ?k_law_row ?a_law_rows ?l_law_rows ?c_law_rows ?k_law_rows ?a_law_spoilt ?l_law_spoilt ?c_law_spoilt ?k_law_spoilt ?a_law_stranger ?l_law_stranger ?c_law_stranger ?k_law_stranger ?a_law_take ?l_law_take ?c_law_take ?k_law_take ?a_law_taken ?l_law_taken ?c_law_taken ?k_law_taken ?a_law_walks ?l_law_walks ?c_law_walks ?k_law_walks ?a_law_words ?l_law_words ?c_law_words ?k_law_words ?a_must_be_grounds ?l_must_be_grounds ?c_must_be_grounds ?k_must_be_grounds ?a_walked ?l_walked ?c_walked ?k_walked ?a_words_of ?l_words_of ?c_words_of ?k_words_of
    (case z_ValueError => k_is)
    (case z_all => k_is)
    (case z_bool => k_is)
    (case z_int => k_is)
    (case z_isinstance => k_is)
    (case z_len => k_is)
    (case z_list => k_is)
    (case z_min => k_is)
    (case z_range => k_is)
    (case z_set => k_is)
    (case z_sorted => k_is)
    (case z_str => k_is)
    (case z_tuple => k_is)
    (case g_LETTERS => k_is)
    (case g_MOST_ROWS => k_is)
    (case g_MOST_GROUNDS => k_is)
    (case g_MOST_IN_BODY => k_is)
    (case a_Book => k_is)
    (case pg_Book => k_is)
    (case hd_Book => k_is)
    (case po_Book => k_is)
    (case sa_Book => k_is)
    (case mk_Book => k_is)
    (case kc_Book => k_is)
    (case n_told_rows => k_is)
    (case a_NoGround => k_is)
    (case a_GroundError => k_is)
    (case a_BadText => k_is)
    (case a_Clash => k_is)
    (case a_BadRow => k_is)
    (case a_NoRow => k_is)
    (case a_Nothing => k_is)
    (case gs_GroundError => k_is)
    (case gr_GroundError => k_is)
    (case gf_GroundError => k_is)
    (case xl_NoGround => k_is)
    (case xs_NoGround => k_is)
    (case xb_NoGround => k_is)
    (case xt_NoGround => k_is)
    (case xk_NoGround => k_is)
    (case xn_NoGround_word => k_is)
    (case ehg_NoGround => k_is)
    (case ehk_NoGround => k_is)
    (case ehs_NoGround => k_is)
    (case ehd_NoGround => k_is)
    (case eha_NoGround => k_is)
    (case ehn_NoGround => k_is)
    (case eht_NoGround => k_is)
    (case ehm_NoGround => k_is)
    (case sb_NoGround_GroundError => k_is)
    (case sb_NoGround_BadText => k_is)
    (case ne_NoGround_BadText => first | rfl | decide +kernel)
    (case sb_NoGround_Clash => k_is)
    (case ne_NoGround_Clash => first | rfl | decide +kernel)
    (case sb_NoGround_BadRow => k_is)
    (case ne_NoGround_BadRow => first | rfl | decide +kernel)
    (case sb_NoGround_NoRow => k_is)
    (case ne_NoGround_NoRow => first | rfl | decide +kernel)
    (case sb_NoGround_Nothing => k_is)
    (case ne_NoGround_Nothing => first | rfl | decide +kernel)
    (case sv_NoGround_ValueError => k_is)
    (case ic_GroundError => k_is)
    (case tt_GroundError => k_is)
    (case bx_GroundError => k_is)
    (case ic_BadText => k_is)
    (case tt_BadText => k_is)
    (case ic_Clash => k_is)
    (case tt_Clash => k_is)
    (case ic_BadRow => k_is)
    (case tt_BadRow => k_is)
    (case ic_NoRow => k_is)
    (case tt_NoRow => k_is)
    (case ic_Nothing => k_is)
    (case tt_Nothing => k_is)
    (case ic_NoGround => k_is)
    (case tt_NoGround => k_is)
    (case a_Book_all_grounds => k_is)
    (case i_Book_all_grounds => k_is)
    (case l_Book_all_grounds => k_is)
    (case c_Book_all_grounds => k_is)
    (case k_Book_all_grounds => k_is)
    (case a_Book_fault => k_is)
    (case i_Book_fault => k_is)
    (case l_Book_fault => k_is)
    (case c_Book_fault => k_is)
    (case k_Book_fault => k_is)
    (case a_Book_init => k_is)
    (case i_Book_init => k_is)
    (case l_Book_init => k_is)
    (case c_Book_init => k_is)
    (case k_Book_init => k_is)
    (case a_Book_rows => k_is)
    (case i_Book_rows => k_is)
    (case l_Book_rows => k_is)
    (case c_Book_rows => k_is)
    (case k_Book_rows => k_is)
    (case a_Book_tell => k_is)
    (case i_Book_tell => k_is)
    (case l_Book_tell => k_is)
    (case c_Book_tell => k_is)
    (case k_Book_tell => k_is)
    (case a_NoGround_init => k_is)
    (case i_NoGround_init => k_is)
    (case l_NoGround_init => k_is)
    (case c_NoGround_init => k_is)
    (case k_NoGround_init => k_is)
    (case ti_NoGround_init => k_is)
    (case a_all_known => k_is)
    (case l_all_known => k_is)
    (case c_all_known => k_is)
    (case k_all_known => k_is)
    (case a_body_of => k_is)
    (case l_body_of => k_is)
    (case c_body_of => k_is)
    (case k_body_of => k_is)
    (case a_copied => k_is)
    (case l_copied => k_is)
    (case c_copied => k_is)
    (case k_copied => k_is)
    (case a_is_way => k_is)
    (case l_is_way => k_is)
    (case c_is_way => k_is)
    (case k_is_way => k_is)
    (case a_is_word => k_is)
    (case l_is_word => k_is)
    (case c_is_word => k_is)
    (case k_is_word => k_is)
    (case a_law => k_is)
    (case l_law => k_is)
    (case c_law => k_is)
    (case k_law => k_is)
    (case a_law_alike => k_is)
    (case l_law_alike => k_is)
    (case c_law_alike => k_is)
    (case k_law_alike => k_is)
    (case a_law_begun => k_is)
    (case l_law_begun => k_is)
    (case c_law_begun => k_is)
    (case k_law_begun => k_is)
    (case a_law_body => k_is)
    (case l_law_body => k_is)
    (case c_law_body => k_is)
    (case k_law_body => k_is)
    (case a_law_copied => k_is)
    (case l_law_copied => k_is)
    (case c_law_copied => k_is)
    (case k_law_copied => k_is)
    (case a_law_fired => k_is)
    (case l_law_fired => k_is)
    (case c_law_fired => k_is)
    (case k_law_fired => k_is)
    (case a_law_grounds => k_is)
    (case l_law_grounds => k_is)
    (case c_law_grounds => k_is)
    (case k_law_grounds => k_is)
    (case a_law_number => k_is)
    (case l_law_number => k_is)
    (case c_law_number => k_is)
    (case k_law_number => k_is)
    (case a_law_row => k_is)
    (case l_law_row => k_is)
    (case c_law_row => k_is)
    (case k_law_row => k_is)
    (case a_law_rows => k_is)
    (case l_law_rows => k_is)
    (case c_law_rows => k_is)
    (case k_law_rows => k_is)
    (case a_law_spoilt => k_is)
    (case l_law_spoilt => k_is)
    (case c_law_spoilt => k_is)
    (case k_law_spoilt => k_is)
    (case a_law_stranger => k_is)
    (case l_law_stranger => k_is)
    (case c_law_stranger => k_is)
    (case k_law_stranger => k_is)
    (case a_law_take => k_is)
    (case l_law_take => k_is)
    (case c_law_take => k_is)
    (case k_law_take => k_is)
    (case a_law_taken => k_is)
    (case l_law_taken => k_is)
    (case c_law_taken => k_is)
    (case k_law_taken => k_is)
    (case a_law_walks => k_is)
    (case l_law_walks => k_is)
    (case c_law_walks => k_is)
    (case k_law_walks => k_is)
    (case a_law_words => k_is)
    (case l_law_words => k_is)
    (case c_law_words => k_is)
    (case k_law_words => k_is)
    (case a_must_be_grounds => k_is)
    (case l_must_be_grounds => k_is)
    (case c_must_be_grounds => k_is)
    (case k_must_be_grounds => k_is)
    (case a_walked => k_is)
    (case l_walked => k_is)
    (case c_walked => k_is)
    (case k_walked => k_is)
    (case a_words_of => k_is)
    (case l_words_of => k_is)
    (case c_words_of => k_is)
    (case k_words_of => k_is)
