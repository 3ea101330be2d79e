import PyProof.Rows.All
import Wide.All
import OpenK.AllK
import Wide.FinOn
import HandS.ForMost
import HandS.WordsExc
import HandS.IsInst
import HandS.RevRange
import HandS.Style
import HandS.TupAny
import HandS.SortInts
import HandS.TryOnly
import HandS.TryMany
import HandS.TryElse
import KE.KRevIter
import HandS.More
import HandS.Rev
import HandS.RevTup
import PyProof.FactsAll.range_iterator_1
import HandS.ExcValue
import HandS.StrMore
import HandS.Text
import HandS.ExcIs
import KE.KDictCopyH
import HandS.ClsMeth
import PySem.Challenge.RW_braidcomb_k54_tables_of_both
set_option Elab.async false
set_option linter.all false
set_option maxRecDepth 100000
set_option maxHeartbeats 4000000
namespace BC
open PySem PySem.Spec PyProof.Rows L2

/-! ## values without a heap, and what they stand for -/
/-- how a list is held: frozen (nobody changes it any more), owned (by one holder alone), borrowed (read for a while), the script -/
inductive Kd | fz | ow | bo | sc
  deriving DecidableEq

inductive D
  | non | bl (b : Bool) | int (i : Int) | str (s : Str)
  | lst (k : Kd) (xs : List D) | tup (xs : List D) | exc (c : String) (a : Addr)

abbrev Env := List (Option D)

inductive R (α : Type)
  | ok (a : α) | er (c : String) | no
def R.bind {α β : Type} : R α → (α → R β) → R β
  | .ok a, f => f a
  | .er c, _ => .er c
  | .no, _ => .no
instance : Monad R where
  pure := R.ok
  bind := R.bind
@[simp] theorem R.bind_ok {α β : Type} (a : α) (f : α → R β) : (R.ok a >>= f) = f a := rfl
@[simp] theorem R.bind_er {α β : Type} (c : String) (f : α → R β) : ((R.er c : R α) >>= f) = R.er c := rfl
@[simp] theorem R.bind_no {α β : Type} (f : α → R β) : ((R.no : R α) >>= f) = R.no := rfl
@[simp] theorem R.bind_ok' {α β : Type} (a : α) (f : α → R β) : (R.ok a).bind f = f a := rfl
@[simp] theorem R.bind_er' {α β : Type} (c : String) (f : α → R β) : (R.er c : R α).bind f = R.er c := rfl
@[simp] theorem R.bind_no' {α β : Type} (f : α → R β) : (R.no : R α).bind f = R.no := rfl

/-- node of a list -/
def Nd (K : PySem.W.Frag) (B H : Hp) : Kd → Addr → List V → Prop
  | .fz, a, vs => B a = some (.lst vs)
  | .ow, a, vs => H a = some (.lst vs)
  | .bo, a, vs => H a = some (.lst vs)
  | .sc, a, vs => SqL K B a vs

/-- an exception of the class at C stands at a -/
def ExT (C a : Addr) : HO := .ext fun h => ∃ (oe : Obj) (vs : Array Value), h.get? a = some oe ∧ Zc (.ref C) none oe ∧ oe.data = .fields vs
mutual
def Rp (K : PySem.W.Frag) (B H : Hp) : D → V → List Addr → Prop
  | .non, v, ps => v = .non ∧ ps = []
  | .bl b, v, ps => v = .bl b ∧ ps = []
  | .int i, v, ps => v = .int i ∧ ps = []
  | .str s, v, ps => v = .str s ∧ ps = []
  | .lst k xs, v, ps => ∃ a vs qs, v = .ref a ∧ Nd K B H k a vs ∧ (match k with
      | .ow => ps = a :: qs
      | .bo => ps = qs
      | .fz => ps = [] ∧ qs = []
      | .sc => ps = [] ∧ qs = []) ∧ Rps K B H xs vs qs
  | .tup xs, v, ps => ∃ a vs, v = .ref a ∧ H a = some (.tup vs) ∧ Rps K B H xs vs ps
  | .exc _ C, v, ps => ∃ a, v = .ref a ∧ H a = some (ExT C a) ∧ ps = []
def Rps (K : PySem.W.Frag) (B H : Hp) : List D → List V → List Addr → Prop
  | [], vs, ps => vs = [] ∧ ps = []
  | d :: ds, vs, ps => ∃ v vr p q, vs = v :: vr ∧ ps = p ++ q ∧ Rp K B H d v p ∧ Rps K B H ds vr q
end

/-- from (B, H) on to (B', H'): nothing that stood is changed, nothing that stood is frozen -/
structure Step (B H B' H' : Hp) : Prop where
  b : Same B B'
  h : Same H H'
  i : Same B' H'
  n : ∀ p vs, B p = none → H p = some (.lst vs) → B' p = none
theorem Step.refl {B H : Hp} (i : Same B H) : Step B H B H := ⟨Same.refl _, Same.refl _, i, fun _ _ h _ => h⟩
theorem Step.trans {B H B1 H1 B2 H2 : Hp} (a : Step B H B1 H1) (b : Step B1 H1 B2 H2) : Step B H B2 H2 :=
  ⟨a.b.trans b.b, a.h.trans b.h, b.i, fun p vs h1 h2 => b.n p vs (a.n p vs h1 h2) (a.h p _ h2)⟩

theorem sqT_mono {K : PySem.W.Frag} {H H' : Hp} {a : Addr} {xs : List V} (e : Same H H') (h : SqT K H a xs) : SqT K H' a xs := by
  rcases h with (h | ⟨o, h⟩) | h
  · exact .inl (.inl (e _ _ h))
  · exact .inl (.inr ⟨o, e _ _ h⟩)
  · exact .inr h
theorem nd_mono {K : PySem.W.Frag} {B H B' H' : Hp} {k : Kd} {a : Addr} {vs : List V} (b : Same B B') (h : Same H H') (n : Nd K B H k a vs) : Nd K B' H' k a vs := by
  cases k with
  | fz => exact b _ _ n
  | ow => exact h _ _ n
  | bo => exact h _ _ n
  | sc => exact b.seq n
mutual
theorem rp_mono {K : PySem.W.Frag} {B H B' H' : Hp} (b : Same B B') (h : Same H H') : ∀ {d : D} {v : V} {ps : List Addr}, Rp K B H d v ps → Rp K B' H' d v ps
  | .non, _, _, r => r
  | .bl _, _, _, r => r
  | .int _, _, _, r => r
  | .str _, _, _, r => r
  | .exc _ _, _, _, ⟨a, e1, e2, e3⟩ => ⟨a, e1, h _ _ e2, e3⟩
  | .lst k xs, v, ps, r => by
    unfold Rp at r ⊢
    obtain ⟨a, vs, qs, e, n, q, r⟩ := r
    exact ⟨a, vs, qs, e, nd_mono b h n, q, rps_mono b h r⟩
  | .tup xs, v, ps, r => by
    unfold Rp at r ⊢
    obtain ⟨a, vs, e, n, r⟩ := r
    exact ⟨a, vs, e, h _ _ n, rps_mono b h r⟩
theorem rps_mono {K : PySem.W.Frag} {B H B' H' : Hp} (b : Same B B') (h : Same H H') : ∀ {ds : List D} {vs : List V} {ps : List Addr}, Rps K B H ds vs ps → Rps K B' H' ds vs ps
  | [], _, _, r => r
  | d :: ds, vs, ps, r => by
    unfold Rps at r ⊢
    obtain ⟨v, vr, p, q, e1, e2, r1, r2⟩ := r
    exact ⟨v, vr, p, q, e1, e2, rp_mono b h r1, rps_mono b h r2⟩
end

def Kd.bor : Kd → Kd
  | .ow => .bo
  | k => k
def Kd.frz : Kd → Kd
  | .sc => .sc
  | _ => .fz
def Kd.unf : Kd → Kd
  | .fz => .bo
  | k => k
mutual
def D.bor : D → D
  | .lst k xs => .lst k.bor (D.bors xs)
  | .tup xs => .tup (D.bors xs)
  | .non => .non
  | .bl b => .bl b
  | .int i => .int i
  | .str s => .str s
  | .exc c a => .exc c a
def D.bors : List D → List D
  | [] => []
  | d :: ds => d.bor :: D.bors ds
end
mutual
def D.frz : D → D
  | .lst k xs => .lst k.frz (D.frzs xs)
  | .tup xs => .tup (D.frzs xs)
  | .non => .non
  | .bl b => .bl b
  | .int i => .int i
  | .str s => .str s
  | .exc c a => .exc c a
def D.frzs : List D → List D
  | [] => []
  | d :: ds => d.frz :: D.frzs ds
end
mutual
/-- nothing borrowed in it -/
def D.sto : D → Bool
  | .lst .bo _ => false
  | .lst .ow xs => D.stos xs
  | .lst .fz xs => D.stos xs
  | .lst .sc xs => D.stos xs
  | .tup xs => D.stos xs
  | .non => true
  | .bl _ => true
  | .int _ => true
  | .str _ => true
  | .exc _ _ => true
def D.stos : List D → Bool
  | [] => true
  | d :: ds => d.sto && D.stos ds
end
mutual
/-- the script is not in it -/
def D.nsc : D → Bool
  | .lst .sc _ => false
  | .lst .ow xs => D.nscs xs
  | .lst .fz xs => D.nscs xs
  | .lst .bo xs => D.nscs xs
  | .tup xs => D.nscs xs
  | .non => true
  | .bl _ => true
  | .int _ => true
  | .str _ => true
  | .exc _ _ => true
def D.nscs : List D → Bool
  | [] => true
  | d :: ds => d.nsc && D.nscs ds
end
mutual
/-- frozen ones told as borrowed (what a call hands back where something borrowed went in) -/
def D.unf : D → D
  | .lst k xs => .lst k.unf (D.unfs xs)
  | .tup xs => .tup (D.unfs xs)
  | .non => .non
  | .bl b => .bl b
  | .int i => .int i
  | .str s => .str s
  | .exc c a => .exc c a
def D.unfs : List D → List D
  | [] => []
  | d :: ds => d.unf :: D.unfs ds
end

section
variable {K : PySem.W.Frag} {B H B' H' : Hp}
mutual
theorem rp_bor : ∀ {d : D} {v : V} {ps : List Addr}, Rp K B H d v ps → Rp K B H d.bor v []
  | .non, _, _, r => ⟨r.1, rfl⟩
  | .bl _, _, _, r => ⟨r.1, rfl⟩
  | .int _, _, _, r => ⟨r.1, rfl⟩
  | .str _, _, _, r => ⟨r.1, rfl⟩
  | .exc _ _, _, _, ⟨a, e1, e2, e3⟩ => ⟨a, e1, e2, rfl⟩
  | .lst k xs, v, ps, r => by
    unfold Rp at r
    obtain ⟨a, vs, qs, e, n, q, r⟩ := r
    unfold D.bor Rp
    refine ⟨a, vs, [], e, ?_, ?_, rps_bor r⟩
    · cases k <;> exact n
    · cases k with
      | ow => rfl
      | bo => rfl
      | fz => exact ⟨rfl, rfl⟩
      | sc => exact ⟨rfl, rfl⟩
  | .tup xs, v, ps, r => by
    unfold Rp at r
    unfold D.bor Rp
    obtain ⟨a, vs, e, n, r⟩ := r
    exact ⟨a, vs, e, n, rps_bor r⟩
theorem rps_bor : ∀ {ds : List D} {vs : List V} {ps : List Addr}, Rps K B H ds vs ps → Rps K B H (D.bors ds) vs []
  | [], _, _, r => ⟨r.1, rfl⟩
  | d :: ds, vs, ps, r => by
    unfold Rps at r
    unfold D.bors Rps
    obtain ⟨v, vr, p, q, e1, e2, r1, r2⟩ := r
    exact ⟨v, vr, [], [], e1, rfl, rp_bor r1, rps_bor r2⟩
end
mutual
/-- all frozen, told over the whole heap -/
theorem rp_all (i : Same B H) : ∀ {d : D} {v : V} {ps : List Addr}, Rp K B H d v ps → Rp K H H d.frz v []
  | .non, _, _, r => ⟨r.1, rfl⟩
  | .bl _, _, _, r => ⟨r.1, rfl⟩
  | .int _, _, _, r => ⟨r.1, rfl⟩
  | .str _, _, _, r => ⟨r.1, rfl⟩
  | .exc _ _, _, _, ⟨a, e1, e2, e3⟩ => ⟨a, e1, e2, rfl⟩
  | .lst k xs, v, ps, r => by
    unfold Rp at r
    obtain ⟨a, vs, qs, e, n, q, r⟩ := r
    unfold D.frz Rp
    refine ⟨a, vs, [], e, ?_, ?_, rps_all i r⟩
    · cases k with
      | ow => exact n
      | bo => exact n
      | fz => exact i _ _ n
      | sc => exact i.seq n
    · cases k <;> exact ⟨rfl, rfl⟩
  | .tup xs, v, ps, r => by
    unfold Rp at r
    unfold D.frz Rp
    obtain ⟨a, vs, e, n, r⟩ := r
    exact ⟨a, vs, e, n, rps_all i r⟩
theorem rps_all (i : Same B H) : ∀ {ds : List D} {vs : List V} {ps : List Addr}, Rps K B H ds vs ps → Rps K H H (D.frzs ds) vs []
  | [], _, _, r => ⟨r.1, rfl⟩
  | d :: ds, vs, ps, r => by
    unfold Rps at r
    unfold D.frzs Rps
    obtain ⟨v, vr, p, q, e1, e2, r1, r2⟩ := r
    exact ⟨v, vr, [], [], e1, rfl, rp_all i r1, rps_all i r2⟩
end
/-- the owned ones frozen as well -/
def ovr (B H : Hp) (ps : List Addr) : Hp := fun p => if p ∈ ps then H p else B p
theorem same_ovr {ps : List Addr} (i : Same B H) : Same B (ovr B H ps) := fun p o e => by
  unfold ovr
  split
  · exact i p o e
  · exact e
theorem ovr_same {ps : List Addr} (i : Same B H) : Same (ovr B H ps) H := fun p o e => by
  unfold ovr at e
  split at e
  · exact e
  · exact i p o e
theorem ovr_mem {ps : List Addr} {p : Addr} {o : HO} (h : p ∈ ps) (e : H p = some o) : ovr B H ps p = some o := by
  unfold ovr
  rw [if_pos h]
  exact e
theorem ovr_none {ps : List Addr} {p : Addr} (h : p ∉ ps) (e : B p = none) : ovr B H ps p = none := by
  unfold ovr
  rw [if_neg h]
  exact e
mutual
theorem rp_frz (b : Same B B') : ∀ {d : D} {v : V} {ps : List Addr}, d.sto = true → (∀ p ∈ ps, ∀ o, H p = some o → B' p = some o) → Rp K B H d v ps → Rp K B' H d.frz v []
  | .non, _, _, _, _, r => ⟨r.1, rfl⟩
  | .bl _, _, _, _, _, r => ⟨r.1, rfl⟩
  | .int _, _, _, _, _, r => ⟨r.1, rfl⟩
  | .str _, _, _, _, _, r => ⟨r.1, rfl⟩
  | .exc _ _, _, _, _, _, ⟨a, e1, e2, e3⟩ => ⟨a, e1, e2, rfl⟩
  | .lst k xs, v, ps, hs, h, r => by
    unfold Rp at r
    obtain ⟨a, vs, qs, e, n, q, r⟩ := r
    unfold D.frz Rp
    cases k with
    | ow =>
      subst q
      exact ⟨a, vs, [], e, h a (by simp) _ n, ⟨rfl, rfl⟩, rps_frz b (by simpa [D.sto] using hs) (fun p hp => h p (by simp [hp])) r⟩
    | bo => simp [D.sto] at hs
    | fz => exact ⟨a, vs, [], e, b _ _ n, ⟨rfl, rfl⟩, rps_frz b (by simpa [D.sto] using hs) (fun p hp => absurd hp (by rw [q.2]; simp)) r⟩
    | sc => exact ⟨a, vs, [], e, b.seq n, ⟨rfl, rfl⟩, rps_frz b (by simpa [D.sto] using hs) (fun p hp => absurd hp (by rw [q.2]; simp)) r⟩
  | .tup xs, v, ps, hs, h, r => by
    unfold Rp at r
    unfold D.frz Rp
    obtain ⟨a, vs, e, n, r⟩ := r
    exact ⟨a, vs, e, n, rps_frz b (by simpa [D.sto] using hs) h r⟩
theorem rps_frz (b : Same B B') : ∀ {ds : List D} {vs : List V} {ps : List Addr}, D.stos ds = true → (∀ p ∈ ps, ∀ o, H p = some o → B' p = some o) → Rps K B H ds vs ps → Rps K B' H (D.frzs ds) vs []
  | [], _, _, _, _, r => ⟨r.1, rfl⟩
  | d :: ds, vs, ps, hs, h, r => by
    unfold Rps at r
    unfold D.frzs Rps
    obtain ⟨v, vr, p, q, e1, e2, r1, r2⟩ := r
    subst e2
    simp only [D.stos, Bool.and_eq_true] at hs
    exact ⟨v, vr, [], [], e1, rfl, rp_frz b hs.1 (fun x hx => h x (by simp [hx])) r1, rps_frz b hs.2 (fun x hx => h x (by simp [hx])) r2⟩
end
mutual
/-- what was told as frozen over B' is borrowed over its heap -/
theorem rp_unf (i : Same B' H') : ∀ {d : D} {v : V} {ps : List Addr}, d.nsc = true → Rp K B' H' d v ps → Rp K B H' d.unf v ps
  | .non, _, _, _, r => r
  | .bl _, _, _, _, r => r
  | .int _, _, _, _, r => r
  | .str _, _, _, _, r => r
  | .exc _ _, _, _, _, r => r
  | .lst k xs, v, ps, hs, r => by
    unfold Rp at r
    obtain ⟨a, vs, qs, e, n, q, r⟩ := r
    unfold D.unf Rp
    cases k with
    | ow => exact ⟨a, vs, qs, e, n, q, rps_unf i (by simpa [D.nsc] using hs) r⟩
    | bo => exact ⟨a, vs, qs, e, n, q, rps_unf i (by simpa [D.nsc] using hs) r⟩
    | fz =>
      obtain ⟨q1, q2⟩ := q
      subst q1 q2
      exact ⟨a, vs, [], e, i _ _ n, rfl, rps_unf i (by simpa [D.nsc] using hs) r⟩
    | sc => simp [D.nsc] at hs
  | .tup xs, v, ps, hs, r => by
    unfold Rp at r
    unfold D.unf Rp
    obtain ⟨a, vs, e, n, r⟩ := r
    exact ⟨a, vs, e, n, rps_unf i (by simpa [D.nsc] using hs) r⟩
theorem rps_unf (i : Same B' H') : ∀ {ds : List D} {vs : List V} {ps : List Addr}, D.nscs ds = true → Rps K B' H' ds vs ps → Rps K B H' (D.unfs ds) vs ps
  | [], _, _, _, r => r
  | d :: ds, vs, ps, hs, r => by
    unfold Rps at r
    unfold D.unfs Rps
    obtain ⟨v, vr, p, q, e1, e2, r1, r2⟩ := r
    simp only [D.nscs, Bool.and_eq_true] at hs
    exact ⟨v, vr, p, q, e1, e2, rp_unf i hs.1 r1, rps_unf i hs.2 r2⟩
end
mutual
/-- owned addresses stand in the heap as lists -/
theorem rp_own : ∀ {d : D} {v : V} {ps : List Addr}, Rp K B H d v ps → ∀ p ∈ ps, ∃ vs, H p = some (.lst vs)
  | .non, _, _, r, p, hp => by rw [r.2] at hp; cases hp
  | .bl _, _, _, r, p, hp => by rw [r.2] at hp; cases hp
  | .int _, _, _, r, p, hp => by rw [r.2] at hp; cases hp
  | .str _, _, _, r, p, hp => by rw [r.2] at hp; cases hp
  | .exc _ _, _, _, ⟨_, _, _, e3⟩, p, hp => by rw [e3] at hp; cases hp
  | .lst k xs, v, ps, r, p, hp => by
    unfold Rp at r
    obtain ⟨a, vs, qs, e, n, q, r⟩ := r
    cases k with
    | ow =>
      subst q
      rcases List.mem_cons.mp hp with e | h
      · subst e; exact ⟨_, n⟩
      · exact rps_own r p h
    | bo => subst q; exact rps_own r p hp
    | fz => rw [q.1] at hp; cases hp
    | sc => rw [q.1] at hp; cases hp
  | .tup xs, v, ps, r, p, hp => by
    unfold Rp at r
    obtain ⟨a, vs, e, n, r⟩ := r
    exact rps_own r p hp
theorem rps_own : ∀ {ds : List D} {vs : List V} {ps : List Addr}, Rps K B H ds vs ps → ∀ p ∈ ps, ∃ vs, H p = some (.lst vs)
  | [], _, _, r, p, hp => by rw [r.2] at hp; cases hp
  | d :: ds, vs, ps, r, p, hp => by
    unfold Rps at r
    obtain ⟨v, vr, p1, q, e1, e2, r1, r2⟩ := r
    subst e2
    rcases List.mem_append.mp hp with h | h
    · exact rp_own r1 p h
    · exact rps_own r2 p h
end
mutual
/-- a list that nobody here holds is changed -/
theorem rp_upd {p : Addr} {xs0 ys : List V} (hp : H p = some (.lst xs0)) (hb : B p = none) : ∀ {d : D} {v : V} {ps : List Addr}, d.sto = true → p ∉ ps → Rp K B H d v ps → Rp K B (upd H p (.lst ys)) d v ps
  | .non, _, _, _, _, r => r
  | .bl _, _, _, _, _, r => r
  | .int _, _, _, _, _, r => r
  | .str _, _, _, _, _, r => r
  | .exc _ _, _, _, _, _, ⟨a, e1, e2, e3⟩ => ⟨a, e1, (upd_ne (fun z => by subst z; rw [hp] at e2; cases e2)).trans e2, e3⟩
  | .lst k xs, v, ps, hs, hn, r => by
    unfold Rp at r ⊢
    obtain ⟨a, vs, qs, e, n, q, r⟩ := r
    cases k with
    | ow =>
      subst q
      simp only [List.mem_cons, not_or] at hn
      exact ⟨a, vs, qs, e, (upd_ne (Ne.symm hn.1)).trans n, rfl, rps_upd hp hb (by simpa [D.sto] using hs) hn.2 r⟩
    | bo => simp [D.sto] at hs
    | fz => exact ⟨a, vs, qs, e, n, q, rps_upd hp hb (by simpa [D.sto] using hs) (by rw [q.2]; simp) r⟩
    | sc => exact ⟨a, vs, qs, e, n, q, rps_upd hp hb (by simpa [D.sto] using hs) (by rw [q.2]; simp) r⟩
  | .tup xs, v, ps, hs, hn, r => by
    unfold Rp at r ⊢
    obtain ⟨a, vs, e, n, r⟩ := r
    refine ⟨a, vs, e, ?_, rps_upd hp hb (by simpa [D.sto] using hs) hn r⟩
    have : a ≠ p := fun z => by subst z; rw [hp] at n; cases n
    exact (upd_ne this).trans n
theorem rps_upd {p : Addr} {xs0 ys : List V} (hp : H p = some (.lst xs0)) (hb : B p = none) : ∀ {ds : List D} {vs : List V} {ps : List Addr}, D.stos ds = true → p ∉ ps → Rps K B H ds vs ps → Rps K B (upd H p (.lst ys)) ds vs ps
  | [], _, _, _, _, r => r
  | d :: ds, vs, ps, hs, hn, r => by
    unfold Rps at r ⊢
    obtain ⟨v, vr, p1, q, e1, e2, r1, r2⟩ := r
    subst e2
    simp only [D.stos, Bool.and_eq_true] at hs
    simp only [List.mem_append, not_or] at hn
    exact ⟨v, vr, p1, q, e1, rfl, rp_upd hp hb hs.1 hn.1 r1, rps_upd hp hb hs.2 hn.2 r2⟩
end
theorem rps_len : ∀ {ds : List D} {vs : List V} {ps : List Addr}, Rps K B H ds vs ps → vs.length = ds.length
  | [], _, _, r => by rw [r.1]; rfl
  | d :: ds, vs, ps, r => by
    unfold Rps at r
    obtain ⟨v, vr, p1, q, e1, e2, r1, r2⟩ := r
    subst e1
    simp [rps_len r2]
/-- a list of any kind may be read -/
theorem rp_lst {k : Kd} {xs : List D} {v : V} {ps : List Addr} (i : Same B H) (r : Rp K B H (.lst k xs) v ps) : ∃ a vs qs, v = .ref a ∧ SqL K H a vs ∧ qs.Sublist ps ∧ Rps K B H xs vs qs := by
  unfold Rp at r
  obtain ⟨a, vs, qs, e, n, q, r⟩ := r
  refine ⟨a, vs, qs, e, ?_, ?_, r⟩
  · cases k with
    | ow => exact .of n
    | bo => exact .of n
    | fz => exact .of (i _ _ n)
    | sc => exact i.seq n
  · cases k with
    | ow => subst q; exact List.sublist_cons_self _ _
    | bo => subst q; exact List.Sublist.refl _
    | fz => rw [q.2]; exact List.nil_sublist _
    | sc => rw [q.2]; exact List.nil_sublist _
/-- a list that is not the script stands there as itself -/
theorem rp_lstX {k : Kd} {xs : List D} {v : V} {ps : List Addr} (i : Same B H) (hk : k ≠ .sc) (r : Rp K B H (.lst k xs) v ps) : ∃ a vs qs, v = .ref a ∧ H a = some (.lst vs) ∧ qs.Sublist ps ∧ Rps K B H xs vs qs := by
  unfold Rp at r
  obtain ⟨a, vs, qs, e, n, q, r⟩ := r
  refine ⟨a, vs, qs, e, ?_, ?_, r⟩
  · cases k with
    | ow => exact n
    | bo => exact n
    | fz => exact i _ _ n
    | sc => exact absurd rfl hk
  · cases k with
    | ow => subst q; exact List.sublist_cons_self _ _
    | bo => subst q; exact List.Sublist.refl _
    | fz => rw [q.2]; exact List.nil_sublist _
    | sc => rw [q.2]; exact List.nil_sublist _
theorem rps_at : ∀ {ds : List D} {vs : List V} {ps : List Addr} {j : Nat} {d : D}, Rps K B H ds vs ps → ds[j]? = some d → ∃ v p, vs[j]? = some v ∧ Rp K B H d v p ∧ p.Sublist ps
  | [], _, _, j, d, _, e => by simp at e
  | d0 :: ds, vs, ps, 0, d, r, e => by
    unfold Rps at r
    obtain ⟨v, vr, p1, q, e1, e2, r1, r2⟩ := r
    simp at e
    subst e e1 e2
    exact ⟨v, p1, by simp, r1, List.sublist_append_left _ _⟩
  | d0 :: ds, vs, ps, j + 1, d, r, e => by
    unfold Rps at r
    obtain ⟨v, vr, p1, q, e1, e2, r1, r2⟩ := r
    simp at e
    subst e1 e2
    obtain ⟨w, p, h1, h2, h3⟩ := rps_at r2 e
    exact ⟨w, p, by simpa using h1, h2, h3.trans (List.sublist_append_right _ _)⟩
theorem rps_at' : ∀ {ds : List D} {vs : List V} {ps : List Addr} {j : Nat} {v : V}, Rps K B H ds vs ps → vs[j]? = some v → ∃ d p, ds[j]? = some d ∧ Rp K B H d v p ∧ p.Sublist ps := fun {ds vs ps j v} r e => by
  have hj : j < ds.length := by
    rw [← rps_len r]
    exact (List.getElem?_eq_some_iff.mp e).1
  obtain ⟨w, p, h1, h2, h3⟩ := rps_at r (List.getElem?_eq_getElem hj)
  rw [e] at h1
  cases h1
  exact ⟨_, p, List.getElem?_eq_getElem hj, h2, h3⟩
theorem rps_app : ∀ {ds es : List D} {vs ws : List V} {ps qs : List Addr}, Rps K B H ds vs ps → Rps K B H es ws qs → Rps K B H (ds ++ es) (vs ++ ws) (ps ++ qs)
  | [], es, vs, ws, ps, qs, r, t => by
    rw [r.1, r.2]
    exact t
  | d :: ds, es, vs, ws, ps, qs, r, t => by
    unfold Rps at r
    obtain ⟨v, vr, p1, q, e1, e2, r1, r2⟩ := r
    subst e1 e2
    show Rps K B H (d :: (ds ++ es)) _ _
    unfold Rps
    exact ⟨v, vr ++ ws, p1, q ++ qs, rfl, by simp, r1, rps_app r2 t⟩
theorem rps_sub : ∀ {ds : List D} {vs : List V} {ps : List Addr} (n m : Nat), Rps K B H ds vs ps → ∃ qs, qs.Sublist ps ∧ Rps K B H ((ds.drop n).take m) ((vs.drop n).take m) qs
  | [], vs, ps, n, m, r => by
    rw [r.1]
    exact ⟨[], List.nil_sublist _, by simp [Rps]⟩
  | d :: ds, vs, ps, n + 1, m, r => by
    unfold Rps at r
    obtain ⟨v, vr, p1, q, e1, e2, r1, r2⟩ := r
    subst e1 e2
    obtain ⟨qs, h1, h2⟩ := rps_sub n m r2
    exact ⟨qs, h1.trans (List.sublist_append_right _ _), by simpa using h2⟩
  | d :: ds, vs, ps, 0, 0, r => ⟨[], List.nil_sublist _, by simp [Rps]⟩
  | d :: ds, vs, ps, 0, m + 1, r => by
    unfold Rps at r
    obtain ⟨v, vr, p1, q, e1, e2, r1, r2⟩ := r
    subst e1 e2
    obtain ⟨qs, h1, h2⟩ := rps_sub 0 m r2
    refine ⟨p1 ++ qs, List.Sublist.append (List.Sublist.refl _) h1, ?_⟩
    simp only [List.drop_zero, List.take_succ_cons] at h2 ⊢
    unfold Rps
    exact ⟨v, _, p1, qs, rfl, rfl, r1, h2⟩
end
end BC

namespace BC
open PySem PySem.Spec PyProof.Rows L2

/-! ## expressions as functions of the names' values -/
/-- what is wanted of an exception of a class -/
abbrev WC := String → L2.St → Hp → Prop
def W0 : WC := fun _ _ _ => False
def SlE (K : PySem.W.Frag) (B H : Hp) (env : Env) (σ : L2.St) : Prop := σ.length = env.length ∧ ∀ (i : Nat) (d : D), env[i]? = some (some d) → ∃ v, σ[i]? = some (some v) ∧ Rp K B H d.bor v []
def Fresh (H B' : Hp) (qs : List Addr) : Prop := ∀ q ∈ qs, H q = none ∧ B' q = none
def OkE (K : PySem.W.Frag) (B H : Hp) (d : D) (Q : VK) : Prop := ∀ v B' H' qs, Step B H B' H' → Rp K B' H' d v qs → qs.Nodup → Fresh H B' qs → Q v H'
def Pst (K : PySem.W.Frag) (W : WC) (B H : Hp) (σ : L2.St) (Q : VK) : R D → Prop
  | .ok d => OkE K B H d Q
  | .er c => ∀ H', Same H H' → W c σ H'
  | .no => False
/-- an expression's reading by its function -/
def tF (K : PySem.W.Frag) (W : WC) (f : Env → R D) : TE := fun σ H Q => ∃ env B, Same B H ∧ SlE K B H env σ ∧ Pst K W B H σ Q (f env)
def PstT (W : WC) (B H : Hp) (σ : L2.St) (Q : Bool → Hp → Prop) : R Bool → Prop
  | .ok b => ∀ B' H', Step B H B' H' → Q b H'
  | .er c => ∀ H', Same H H' → W c σ H'
  | .no => False
def tFT (K : PySem.W.Frag) (W : WC) (f : Env → R Bool) : TT := fun σ H Q => ∃ env B, Same B H ∧ SlE K B H env σ ∧ PstT W B H σ Q (f env)
def OkA (K : PySem.W.Frag) (B H : Hp) (ds : List D) (Q : List V → Hp → Prop) : Prop := ∀ vs B' H' qs, Step B H B' H' → Rps K B' H' ds vs qs → qs.Nodup → Fresh H B' qs → Q vs H'
def PstA (K : PySem.W.Frag) (W : WC) (B H : Hp) (σ : L2.St) (Q : List V → Hp → Prop) : R (List D) → Prop
  | .ok ds => OkA K B H ds Q
  | .er c => ∀ H', Same H H' → W c σ H'
  | .no => False
def tFA (K : PySem.W.Frag) (W : WC) (f : Env → R (List D)) : TA := fun σ H Q => ∃ env B, Same B H ∧ SlE K B H env σ ∧ PstA K W B H σ Q (f env)

theorem SlE.step {K : PySem.W.Frag} {B H B' H' : Hp} {env : Env} {σ : L2.St} (s : SlE K B H env σ) (t : Step B H B' H') : SlE K B' H' env σ := ⟨s.1, fun i d e => by
  obtain ⟨v, h1, h2⟩ := s.2 i d e
  exact ⟨v, h1, rp_mono t.b t.h h2⟩⟩
theorem Fresh.back {H H1 B : Hp} {qs : List Addr} (s : Same H H1) (f : Fresh H1 B qs) : Fresh H B qs := fun q hq => ⟨s.free (f q hq).1, (f q hq).2⟩
/-- owned addresses that came first are not among those that come later -/
theorem nodup_later {K : PySem.W.Frag} {B H B1 H1 B2 : Hp} {d : D} {v : V} {p q : List Addr} (r : Rp K B1 H1 d v p) (hp : p.Nodup) (hq : q.Nodup) (f : Fresh H1 B2 q) : (p ++ q).Nodup := by
  refine List.nodup_append.mpr ⟨hp, hq, fun x hx y hy e => ?_⟩
  subst e
  obtain ⟨vs, h⟩ := rp_own r x hx
  rw [(f x hy).1] at h
  cases h
theorem nodups_later {K : PySem.W.Frag} {B1 H1 B2 : Hp} {d : List D} {v : List V} {p q : List Addr} (r : Rps K B1 H1 d v p) (hp : p.Nodup) (hq : q.Nodup) (f : Fresh H1 B2 q) : (p ++ q).Nodup := by
  refine List.nodup_append.mpr ⟨hp, hq, fun x hx y hy e => ?_⟩
  subst e
  obtain ⟨vs, h⟩ := rps_own r x hx
  rw [(f x hy).1] at h
  cases h
/-- what was fresh stays off the frozen part -/
theorem Fresh.on {K : PySem.W.Frag} {H B1 H1 B2 H2 : Hp} {d : D} {v : V} {p : List Addr} (r : Rp K B1 H1 d v p) (f : Fresh H B1 p) (t : Step B1 H1 B2 H2) : Fresh H B2 p := fun q hq => by
  obtain ⟨vs, h⟩ := rp_own r q hq
  exact ⟨(f q hq).1, t.n q vs (f q hq).2 h⟩
theorem Fresh.ons {K : PySem.W.Frag} {H B1 H1 B2 H2 : Hp} {d : List D} {v : List V} {p : List Addr} (r : Rps K B1 H1 d v p) (f : Fresh H B1 p) (t : Step B1 H1 B2 H2) : Fresh H B2 p := fun q hq => by
  obtain ⟨vs, h⟩ := rps_own r q hq
  exact ⟨(f q hq).1, t.n q vs (f q hq).2 h⟩
theorem Fresh.app {H B : Hp} {p q : List Addr} (a : Fresh H B p) (b : Fresh H B q) : Fresh H B (p ++ q) := fun x hx => (List.mem_append.mp hx).elim (a x) (b x)

theorem peI {X : Cx} {e : Expr} {t t' : TE} (h : PE X e t) (i : ∀ σ H Q, t' σ H Q → t σ H Q) : PE X e t' := ⟨fun pins s σ H Q I hq => h.run pins s σ H Q I (i _ _ _ hq)⟩
theorem ptI {X : Cx} {e : Expr} {t t' : TT} (h : PT X e t) (i : ∀ σ H Q, t' σ H Q → t σ H Q) : PT X e t' := ⟨fun pins s σ H Q I hq => h.run pins s σ H Q I (i _ _ _ hq)⟩
theorem pwI {X : Cx} {e : Expr} {t t' : TT} (h : PW X e t) (i : ∀ σ H Q, t' σ H Q → t σ H Q) : PW X e t' := ⟨fun wh pins s σ H Q I hq => h.run wh pins s σ H Q I (i _ _ _ hq)⟩
theorem paI {X : Cx} {e : List Expr} {t t' : TA} (h : PA X e t) (i : ∀ σ H Q, t' σ H Q → t σ H Q) : PA X e t' := ⟨fun pos pins s σ H Q I hq => h.run pos pins s σ H Q I (i _ _ _ hq)⟩
theorem psI {X : Cx} {e : Stmt} {t t' : TS} (h : PS X e t) (i : ∀ D σ H, t' D σ H → t D σ H) : PS X e t' := ⟨fun pins s σ H D I hq => h.run pins s σ H D I (i _ _ _ hq)⟩
theorem pssI {X : Cx} {e : List Stmt} {t t' : TS} (h : PSs X e t) (i : ∀ D σ H, t' D σ H → t D σ H) : PSs X e t' := ⟨fun pins s σ H D I hq => h.run pins s σ H D I (i _ _ _ hq)⟩

/-! ### one after the other -/
section
variable {K : PySem.W.Frag} {W : WC} {B H : Hp} {env : Env} {σ : L2.St}
theorem tF_of {f : Env → R D} {Q : VK} (i : Same B H) (s : SlE K B H env σ) (h : Pst K W B H σ Q (f env)) : tF K W f σ H Q := ⟨env, B, i, s, h⟩
theorem tFT_of {f : Env → R Bool} {Q : Bool → Hp → Prop} (i : Same B H) (s : SlE K B H env σ) (h : PstT W B H σ Q (f env)) : tFT K W f σ H Q := ⟨env, B, i, s, h⟩
theorem tFA_of {f : Env → R (List D)} {Q : List V → Hp → Prop} (i : Same B H) (s : SlE K B H env σ) (h : PstA K W B H σ Q (f env)) : tFA K W f σ H Q := ⟨env, B, i, s, h⟩
theorem Pst.mono {r : R D} {Q Q' : VK} (h : Pst K W B H σ Q r) (i : ∀ v B' H', Step B H B' H' → Q v H' → Q' v H') : Pst K W B H σ Q' r := by
  cases r with
  | ok d => exact fun v B' H' qs st rp nd fr => i v B' H' st (h v B' H' qs st rp nd fr)
  | er c => exact h
  | no => exact h
/-- a value, then more: the value's representation is handed on -/
theorem seqE {β : Type} {f : Env → R D} {g : D → R β} {Q : VK} {P : R β → Prop} (i : Same B H) (s : SlE K B H env σ) (hP : P (f env >>= g)) (her : ∀ c, P (.er c) → ∀ H', Same H H' → W c σ H') (hno : ¬ P .no)
    (h : ∀ d v B' H' qs, f env = .ok d → P (g d) → Step B H B' H' → Rp K B' H' d v qs → qs.Nodup → Fresh H B' qs → Q v H') : tF K W f σ H Q := by
  refine tF_of i s ?_
  cases e : f env with
  | ok d =>
    rw [e] at hP
    exact fun v B' H' qs st rp nd fr => h d v B' H' qs e hP st rp nd fr
  | er c =>
    rw [e] at hP
    exact her c hP
  | no =>
    rw [e] at hP
    exact hno hP
theorem seqA {β : Type} {f : Env → R (List D)} {g : List D → R β} {Q : List V → Hp → Prop} {P : R β → Prop} (i : Same B H) (s : SlE K B H env σ) (hP : P (f env >>= g)) (her : ∀ c, P (.er c) → ∀ H', Same H H' → W c σ H') (hno : ¬ P .no)
    (h : ∀ ds vs B' H' qs, f env = .ok ds → P (g ds) → Step B H B' H' → Rps K B' H' ds vs qs → qs.Nodup → Fresh H B' qs → Q vs H') : tFA K W f σ H Q := by
  refine tFA_of i s ?_
  cases e : f env with
  | ok d =>
    rw [e] at hP
    exact fun v B' H' qs st rp nd fr => h d v B' H' qs e hP st rp nd fr
  | er c =>
    rw [e] at hP
    exact her c hP
  | no =>
    rw [e] at hP
    exact hno hP
theorem seqT {β : Type} {f : Env → R Bool} {g : Bool → R β} {Q : Bool → Hp → Prop} {P : R β → Prop} (i : Same B H) (s : SlE K B H env σ) (hP : P (f env >>= g)) (her : ∀ c, P (.er c) → ∀ H', Same H H' → W c σ H') (hno : ¬ P .no)
    (h : ∀ b B' H', f env = .ok b → P (g b) → Step B H B' H' → Q b H') : tFT K W f σ H Q := by
  refine tFT_of i s ?_
  cases e : f env with
  | ok d =>
    rw [e] at hP
    exact fun B' H' st => h d B' H' e hP st
  | er c =>
    rw [e] at hP
    exact her c hP
  | no =>
    rw [e] at hP
    exact hno hP
theorem erBack {H' : Hp} {c : String} {P : Prop} (t : Same H H') (h : ∀ H1, Same H H1 → W c σ H1) : ∀ H1, Same H' H1 → W c σ H1 := fun H1 s => h H1 (t.trans s)
end

/-! ### operations on values -/
def R.of {α : Type} : Option α → R α
  | some a => .ok a
  | none => .no
@[simp] theorem R.of_some {α : Type} (a : α) : R.of (some a) = R.ok a := (rfl)
@[simp] theorem R.of_none {α : Type} : R.of (none : Option α) = R.no := (rfl)
/-- what an operation may hand back: owned parts out of its operands, or new -/
def OkO (K : PySem.W.Frag) (B H : Hp) (ps : List Addr) (d : D) (Q : VK) : Prop := ∀ v B' H' qs, Step B H B' H' → Rp K B' H' d v qs → qs.Nodup → (∀ q ∈ qs, (q ∈ ps ∨ H q = none) ∧ B' q = none) → Q v H'
def Op2 (K : PySem.W.Frag) (r : R2) (op : D → D → Option D) : Prop := ∀ a b d x y B H p q Q, op a b = some d → Same B H → Rp K B H a x p → Rp K B H b y q → (p ++ q).Nodup → (∀ t ∈ p ++ q, B t = none) → OkO K B H (p ++ q) d Q → r x y H Q
def Op1 (K : PySem.W.Frag) (r : V → Hp → VK → Prop) (op : D → Option D) : Prop := ∀ a d x B H p Q, op a = some d → Same B H → Rp K B H a x p → p.Nodup → (∀ t ∈ p, B t = none) → OkO K B H p d Q → r x H Q
def OpA (K : PySem.W.Frag) (r : List V → Hp → VK → Prop) (op : List D → Option D) : Prop := ∀ as d xs B H p Q, op as = some d → Same B H → Rps K B H as xs p → p.Nodup → (∀ t ∈ p, B t = none) → OkO K B H p d Q → r xs H Q
def x2 (op : D → D → Option D) (f g : Env → R D) : Env → R D := fun env => do
  let a ← f env
  let b ← g env
  R.of (op a b)
def x1 (op : D → Option D) (f : Env → R D) : Env → R D := fun env => do
  let a ← f env
  R.of (op a)
def xA (op : List D → Option D) (f : Env → R (List D)) : Env → R D := fun env => do
  let a ← f env
  R.of (op a)
section
variable {K : PySem.W.Frag} {W : WC} {σ : L2.St} {H : Hp} {Q : VK}
theorem of_ok {B : Hp} {o : Option D} (h : Pst K W B H σ Q (R.of o)) : ∃ d, o = some d ∧ OkE K B H d Q := by
  cases o with
  | some d => exact ⟨d, rfl, h⟩
  | none => exact h.elim
/-- the end: from what the operation hands back -/
theorem okO_end {B0 H0 B : Hp} {ps : List Addr} {d : D} (t : Step B0 H0 B H) (f : Fresh H0 B ps) (h : OkE K B0 H0 d Q) : OkO K B H ps d Q := fun v B' H' qs st rp nd fr =>
  h v B' H' qs (t.trans st) rp nd fun q hq => ⟨(fr q hq).1.elim (fun z => (f q z).1) fun z => t.h.free z, (fr q hq).2⟩
theorem tOp_of {r : R2} {op : D → D → Option D} {f g : Env → R D} (ho : Op2 K r op) (h : tF K W (x2 op f g) σ H Q) : tOp r (tF K W f) (tF K W g) σ H Q := by
  obtain ⟨env, B, i, s, h⟩ := h
  refine seqE (P := Pst K W B H σ Q) (g := fun a => g env >>= fun b => R.of (op a b)) i s h (fun c z => z) (fun z => z) fun a x B1 H1 p e1 h1 st1 r1 nd1 fr1 => ?_
  refine seqE (P := Pst K W B H σ Q) (g := fun b => R.of (op a b)) st1.i (s.step st1) h1 (fun c z => erBack (P := True) st1.h z) (fun z => z) fun b y B2 H2 q e2 h2 st2 r2 nd2 fr2 => ?_
  obtain ⟨d, ed, hd⟩ := of_ok h2
  have fa : Fresh H B2 (p ++ q) := (Fresh.on r1 fr1 st2).app (fr2.back st1.h)
  exact ho a b d x y B2 H2 p q Q ed st2.i (rp_mono st2.b st2.h r1) r2 (nodup_later (B := B) (H := H) r1 nd1 nd2 fr2) (fun t ht => (fa t ht).2) (okO_end (st1.trans st2) fa hd)
theorem tUn_of {r : V → Hp → VK → Prop} {op : D → Option D} {f : Env → R D} (ho : Op1 K r op) (h : tF K W (x1 op f) σ H Q) : tUn r (tF K W f) σ H Q := by
  obtain ⟨env, B, i, s, h⟩ := h
  refine seqE (P := Pst K W B H σ Q) (g := fun a => R.of (op a)) i s h (fun c z => z) (fun z => z) fun a x B1 H1 p e1 h1 st1 r1 nd1 fr1 => ?_
  obtain ⟨d, ed, hd⟩ := of_ok h1
  exact ho a d x B1 H1 p Q ed st1.i r1 nd1 (fun t ht => (fr1 t ht).2) (okO_end st1 fr1 hd)
theorem tCB_of {r : List V → Hp → VK → Prop} {op : List D → Option D} {f : Env → R (List D)} (ho : OpA K r op) (h : tF K W (xA op f) σ H Q) : tCB r (tFA K W f) σ H Q := by
  obtain ⟨env, B, i, s, h⟩ := h
  refine seqA (P := Pst K W B H σ Q) (g := fun a => R.of (op a)) i s h (fun c z => z) (fun z => z) fun a x B1 H1 p e1 h1 st1 r1 nd1 fr1 => ?_
  obtain ⟨d, ed, hd⟩ := of_ok h1
  exact ho a d x B1 H1 p Q ed st1.i r1 nd1 (fun t ht => (fr1 t ht).2) (okO_end st1 fr1 hd)
end

/-! ### the leaves, argument lists -/
def xC (d : D) : Env → R D := fun _ => .ok d
def xVar (i : Nat) : Env → R D := fun env => match env[i]? with
  | some (some d) => .ok d.bor
  | _ => .no
def xNil : Env → R (List D) := fun _ => .ok []
def xCons (f : Env → R D) (g : Env → R (List D)) : Env → R (List D) := fun env => do
  let a ← f env
  let as ← g env
  R.ok (a :: as)
section
variable {X : Cx} {W : WC}
theorem okE_plain {K : PySem.W.Frag} {B H : Hp} {d : D} {v : V} {Q : VK} (i : Same B H) (r : Rp K B H d v []) (h : OkE K B H d Q) : Q v H := h v B H [] (.refl i) r .nil (by intro q hq; cases hq)
theorem se_c {e : Expr} {v : V} {d : D} (h : PE X e (tC v)) (r : ∀ B H, Rp X.K B H d v []) : PE X e (tF X.K W (xC d)) := peI h fun σ H Q ⟨env, B, i, s, h⟩ => okE_plain i (r B H) h
theorem se_int {i j pos} : PE X (.Constant (.int i) j pos) (tF X.K W (xC (.int i))) := se_c pe_int fun _ _ => ⟨rfl, rfl⟩
theorem se_bl {b j pos} : PE X (.Constant (.bool b) j pos) (tF X.K W (xC (.bl b))) := se_c pe_bl fun _ _ => ⟨rfl, rfl⟩
theorem se_non {j pos} : PE X (.Constant .none j pos) (tF X.K W (xC .non)) := se_c pe_non fun _ _ => ⟨rfl, rfl⟩
theorem se_str {x j pos} : PE X (.Constant (.str x) j pos) (tF X.K W (xC (.str x))) := se_c pe_str fun _ _ => ⟨rfl, rfl⟩
theorem se_var (i : Nat) {x : Str} {pos : Pos} (hN : X.N[i]? = some x := by rfl) (hv : Vis X.env.scope x := by first | exact Or.inl rfl | exact Or.inr (Or.inl rfl) | exact Or.inr (Or.inr rfl)) (hd : (x == ("__debug__" : Str)) = false := by decide)
    (hcd : (x == ("__classdict__" : Str)) = false := by decide) : PE X (.Name x pos) (tF X.K W (xVar i)) := peI (pe_var hN hv hd hcd) fun σ H Q ⟨env, B, ii, s, h⟩ => by
  unfold xVar at h
  cases e : env[i]? with
  | none => rw [e] at h; exact h.elim
  | some o =>
    cases o with
    | none => rw [e] at h; exact h.elim
    | some d =>
      rw [e] at h
      obtain ⟨v, h1, h2⟩ := s.2 i d e
      exact ⟨v, h1, okE_plain ii h2 h⟩
/-- a module's constant -/
theorem se_globI {x : Str} {i : Int} {pos : Pos} (hg : Gl X x) (hm : ∃ t, X.mg x = some (.int i t)) (hd : (x == ("__debug__" : Str)) = false := by decide) : PE X (.Name x pos) (tF X.K W (xC (.int i))) := by
  obtain ⟨t, hm⟩ := hm
  exact se_c (pe_glob (v := .int i) hg hm ⟨t, rfl⟩ hd) fun _ _ => ⟨rfl, rfl⟩
theorem se_globS {x : Str} {i : Str} {pos : Pos} (hg : Gl X x) (hm : ∃ t, X.mg x = some (.str i t)) (hd : (x == ("__debug__" : Str)) = false := by decide) : PE X (.Name x pos) (tF X.K W (xC (.str i))) := by
  obtain ⟨t, hm⟩ := hm
  exact se_c (pe_glob (v := .str i) hg hm ⟨t, rfl⟩ hd) fun _ _ => ⟨rfl, rfl⟩
theorem sa_nil : PA X [] (tFA X.K W xNil) := paI pa_nil fun σ H Q ⟨env, B, i, s, h⟩ => h [] B H [] (.refl i) ⟨rfl, rfl⟩ .nil (by intro q hq; cases hq)
theorem sa_cons {e : Expr} {es : List Expr} {f : Env → R D} {g : Env → R (List D)} (ha : PE X e (tF X.K W f)) (hr : PA X es (tFA X.K W g)) (hs : starEach (e :: es) X.env = (false, eval e X.env) :: starEach es X.env := by rfl) : PA X (e :: es) (tFA X.K W (xCons f g)) := by
  refine paI (pa_cons ha hr hs) fun σ H Q ⟨env, B, i, s, h⟩ => ?_
  refine seqE (P := PstA X.K W B H σ Q) (g := fun a => g env >>= fun as => R.ok (a :: as)) i s h (fun c z => z) (fun z => z) fun a x B1 H1 p e1 h1 st1 r1 nd1 fr1 => ?_
  refine seqA (P := PstA X.K W B H σ Q) (g := fun as => R.ok (a :: as)) st1.i (s.step st1) h1 (fun c z => erBack (P := True) st1.h z) (fun z => z) fun as xs B2 H2 q e2 h2 st2 r2 nd2 fr2 => ?_
  refine h2 (x :: xs) B2 H2 (p ++ q) (st1.trans st2) ?_ (nodup_later (B := B) (H := H) r1 nd1 nd2 fr2) ((Fresh.on r1 fr1 st2).app (fr2.back st1.h))
  unfold Rps
  exact ⟨x, xs, p, q, rfl, rfl, rp_mono st2.b st2.h r1, r2⟩
end
end BC

namespace BC
open PySem PySem.Spec PyProof.Rows L2

/-! ## the operations -/
theorem sz_line {n : Nat} (h : n ≤ 16777216) : n ≤ sizeLine := by rw [sizeLine_eq]; exact h
theorem same_upd {H : Hp} {p : Addr} {o : HO} (h : H p = none) : Same H (upd H p o) := fun b x e => by
  rw [upd_ne (ne_of_none e h)]
  exact e
/-- a new object that nothing frozen is -/
theorem step_new {B H : Hp} {p : Addr} {o : HO} (i : Same B H) (h : H p = none) : Step B H B (upd H p o) := ⟨.refl _, same_upd h, i.trans (same_upd h), fun _ _ h _ => h⟩
theorem noB {B H : Hp} {p : Addr} (i : Same B H) (h : H p = none) : B p = none := i.free h
section
variable {K : PySem.W.Frag} {B H : Hp} {ps : List Addr} {Q : VK}
theorem okO_plain {d : D} {v : V} (i : Same B H) (r : Rp K B H d v []) (h : OkO K B H ps d Q) : Q v H := h v B H [] (.refl i) r .nil (by intro q hq; cases hq)
theorem okO_int {n : Int} (i : Same B H) (h : OkO K B H ps (.int n) Q) : Q (.int n) H := okO_plain i (by unfold Rp; exact ⟨rfl, rfl⟩) h
theorem okO_bl {n : Bool} (i : Same B H) (h : OkO K B H ps (.bl n) Q) : Q (.bl n) H := okO_plain i (by unfold Rp; exact ⟨rfl, rfl⟩) h
theorem okO_str {n : Str} (i : Same B H) (h : OkO K B H ps (.str n) Q) : Q (.str n) H := okO_plain i (by unfold Rp; exact ⟨rfl, rfl⟩) h
/-- a new list of parts that are at hand -/
theorem okO_lst {xs : List D} {vs : List V} {qs : List Addr} (i : Same B H) (nd : ps.Nodup) (nb : ∀ q ∈ ps, B q = none) (r : Rps K B H xs vs qs) (sub : qs.Sublist ps) (h : OkO K B H ps (.lst .ow xs) Q) :
    ∀ p, H p = none → Q (.ref p) (upd H p (.lst vs)) := fun p hp => by
  refine h (.ref p) B (upd H p (.lst vs)) (p :: qs) (step_new i hp) ?_ ?_ ?_
  · unfold Rp
    exact ⟨p, vs, qs, rfl, upd_same, rfl, rps_mono (.refl _) (same_upd hp) r⟩
  · refine List.nodup_cons.mpr ⟨fun z => ?_, nd.sublist sub⟩
    obtain ⟨ws, e⟩ := rps_own r p z
    rw [hp] at e
    cases e
  · intro q hq
    rcases List.mem_cons.mp hq with e | z
    · subst e
      exact ⟨.inr hp, noB i hp⟩
    · exact ⟨.inl (sub.subset z), nb q (sub.subset z)⟩
theorem okO_tup {xs : List D} {vs : List V} {qs : List Addr} (i : Same B H) (nd : ps.Nodup) (nb : ∀ q ∈ ps, B q = none) (r : Rps K B H xs vs qs) (sub : qs.Sublist ps) (h : OkO K B H ps (.tup xs) Q) :
    ∀ p, H p = none → Q (.ref p) (upd H p (.tup vs)) := fun p hp => by
  refine h (.ref p) B (upd H p (.tup vs)) qs (step_new i hp) ?_ (nd.sublist sub) fun q z => ⟨.inl (sub.subset z), nb q (sub.subset z)⟩
  unfold Rp
  exact ⟨p, vs, rfl, upd_same, rps_mono (.refl _) (same_upd hp) r⟩
/-- a part of an operand -/
theorem okO_part {d : D} {v : V} {q : List Addr} (i : Same B H) (nd : ps.Nodup) (nb : ∀ q ∈ ps, B q = none) (r : Rp K B H d v q) (sub : q.Sublist ps) (h : OkO K B H ps d Q) : Q v H := h v B H q (.refl i) r (nd.sublist sub) fun t ht => ⟨.inl (sub.subset ht), nb t (sub.subset ht)⟩
theorem rp_int {i : Int} {v : V} {p : List Addr} (r : Rp K B H (.int i) v p) : v = .int i := r.1
theorem rp_bl {i : Bool} {v : V} {p : List Addr} (r : Rp K B H (.bl i) v p) : v = .bl i := r.1
theorem rp_str {i : Str} {v : V} {p : List Addr} (r : Rp K B H (.str i) v p) : v = .str i := r.1
theorem rp_tup {xs : List D} {v : V} {p : List Addr} (r : Rp K B H (.tup xs) v p) : ∃ a vs, v = .ref a ∧ SqT K H a vs ∧ Rps K B H xs vs p := by
  unfold Rp at r
  obtain ⟨a, vs, e, n, r⟩ := r
  exact ⟨a, vs, e, .of n, r⟩
theorem rp_tupX {xs : List D} {v : V} {p : List Addr} (r : Rp K B H (.tup xs) v p) : ∃ a vs, v = .ref a ∧ H a = some (.tup vs) ∧ Rps K B H xs vs p := by
  unfold Rp at r
  exact r
theorem nodup_sub {α : Type} {p q : List α} (h : p.Sublist q) (n : q.Nodup) : p.Nodup := n.sublist h
end

/-! ### + -/
def rCatS (K : PySem.W.Frag) : R2 := fun x y H Q => ∃ l b xs zs, x = .ref l ∧ y = .ref b ∧ SqL K H l xs ∧ SqL K H b zs ∧ xs.length + zs.length ≤ sizeLine ∧ ∀ p, H p = none → Q (.ref p) (upd H p (.lst (xs ++ zs)))
theorem op_catS {X : Cx} : OpR X (binaryOp .Add) (rCatS X.K) := by
  intro pins s σ H x y v u Q I rx ry h
  obtain ⟨l, b, xs, zs, e1, e2, hl, hb, hz, q⟩ := h
  subst e1 e2
  cases rx
  cases ry
  obtain ⟨i1, r1, ⟨⟨c1, d1, t1, s1⟩, n1, g1, k1, _, m1⟩, _⟩ := I.list hl
  obtain ⟨i2, r2, ⟨⟨c2, d2, t2, s2⟩, n2, g2, k2, _, m2⟩, _⟩ := I.list hb
  simp only at k1 m1 k2 m2
  subst k1 m1 k2 m2
  refine concat_meets ⟨_, g1, rfl⟩ ⟨_, g2, rfl⟩ noFill_list_add seq_list_add PySem.F.slot_list_add PySem.F.entry_list_add (PySem.F.args_list_add_2 _ _) (list_addW l b i1.toArray i2.toArray n1 n2 d1 d2 s1 s2 (by rw [List.size_toArray, List.size_toArray, ← r1.length, ← r2.length]; exact hz)) ⟨g1, g2, ?_⟩
  have ea : i1.toArray ++ i2.toArray = (i1 ++ i2).toArray := by simp
  rw [ea]
  exact ⟨.ref _, _, I.lnew (t' := s.toks) (r1.append r2) (by rw [List.length_append]; exact hz), rfl, q _ I.fresh⟩
def addD : D → D → Option D
  | .int i, .int j => some (.int (i + j))
  | .str s, .str t => if s.length + t.length ≤ 16777216 then some (.str (s ++ t)) else none
  | .lst _ xs, .lst _ ys => if xs.length + ys.length ≤ 16777216 then some (.lst .ow (xs ++ ys)) else none
  | .tup xs, .tup ys => if xs.length + ys.length ≤ 16777216 then some (.tup (xs ++ ys)) else none
  | _, _ => none
def rAddD (K : PySem.W.Frag) : R2 := fun x y H Q => (∃ i j, x = .int i ∧ y = .int j ∧ Q (.int (i + j)) H) ∨ ((∃ i j, x = .str i ∧ y = .str j ∧ i.length + j.length ≤ sizeLine ∧ Q (.str (i ++ j)) H) ∨ (rCatS K x y H Q ∨ rCatA K x y H Q))
theorem op_addD {X : Cx} : OpR X (binaryOp .Add) (rAddD X.K) := op_add.or (op_add_str.or (op_catS.or op_catA))
theorem o2_add {K : PySem.W.Frag} : Op2 K (rAddD K) addD := by
  intro a b d x y B H p q Q e i ra rb nd fb h
  unfold addD at e
  split at e
  · cases e
    exact .inl ⟨_, _, rp_int ra, rp_int rb, okO_int i h⟩
  · split at e
    · cases e
      rename_i hz
      exact .inr (.inl ⟨_, _, rp_str ra, rp_str rb, sz_line hz, okO_str i h⟩)
    · cases e
  · split at e
    · cases e
      rename_i hz
      obtain ⟨l, vs, qs, e1, s1, u1, r1⟩ := rp_lst i ra
      obtain ⟨m, ws, rs, e2, s2, u2, r2⟩ := rp_lst i rb
      exact .inr (.inr (.inl ⟨l, m, vs, ws, e1, e2, s1, s2, by rw [rps_len r1, rps_len r2]; exact sz_line hz, okO_lst i nd fb (rps_app r1 r2) (u1.append u2) h⟩))
    · cases e
  · split at e
    · cases e
      rename_i hz
      obtain ⟨l, vs, e1, s1, r1⟩ := rp_tupX ra
      obtain ⟨m, ws, e2, s2, r2⟩ := rp_tupX rb
      refine .inr (.inr (.inr ⟨l, m, vs, ws, e1, e2, .of s1, .of s2, by rw [rps_len r1, rps_len r2]; exact sz_line hz, fun z => ?_, fun _ z => ?_, fun _ _ => okO_tup i nd fb (rps_app r1 r2) (.refl _) h⟩))
      · subst z
        have r := rps_app r1 r2
        exact okO_part i nd fb (by unfold Rp; exact ⟨m, _, rfl, s2, r⟩) (.refl _) h
      · subst z
        have r := rps_app r1 r2
        rw [List.append_nil] at r
        exact okO_part i nd fb (by unfold Rp; exact ⟨l, _, rfl, s1, r⟩) (.refl _) h
    · cases e
  · cases e

/-! ### other arithmetic -/
def subD : D → D → Option D
  | .int i, .int j => some (.int (i - j))
  | _, _ => none
theorem o2_sub {K : PySem.W.Frag} : Op2 K (rI0 fun i j => .int (i - j)) subD := by
  intro a b d x y B H p q Q e i ra rb nd fb h
  unfold subD at e
  split at e
  · cases e
    exact ⟨_, _, rp_int ra, rp_int rb, okO_int i h⟩
  · cases e
def smallM (i : Int) : Bool := decide (-18446744073709551616 < i) && decide (i < 18446744073709551616)
theorem small_ok {i : Int} (h : smallM i = true) : -(2 ^ 64) < i ∧ i < 2 ^ 64 := by
  simp [smallM] at h
  exact ⟨by have := h.1; omega, by have := h.2; omega⟩
def mulD : D → D → Option D
  | .int i, .int j => if smallM i || smallM j then some (.int (i * j)) else none
  | .lst k xs, .int j => if k ≠ .sc ∧ -9223372036854775808 ≤ j ∧ j < 9223372036854775808 ∧ xs.length * j.toNat ≤ 16777216 ∧ xs.all (fun d => match d with | .int _ => true | .str _ => true | .bl _ => true | .non => true | _ => false) = true then some (.lst .ow (List.replicate j.toNat xs).flatten) else none
  | _, _ => none
theorem rps_flat {K : PySem.W.Frag} {B H : Hp} : ∀ {xs : List D} {vs : List V} {ps : List Addr}, xs.all (fun d => match d with | .int _ => true | .str _ => true | .bl _ => true | .non => true | _ => false) = true → Rps K B H xs vs ps → Rps K B H xs vs []
  | [], _, _, _, r => ⟨r.1, rfl⟩
  | d :: ds, vs, ps, h, r => by
    unfold Rps at r ⊢
    obtain ⟨v, vr, p, q, e1, e2, r1, r2⟩ := r
    rw [List.all_cons, Bool.and_eq_true] at h
    refine ⟨v, vr, [], [], e1, rfl, ?_, rps_flat h.2 r2⟩
    cases d <;> first | exact ⟨r1.1, rfl⟩ | (exact absurd h.1 (by simp))
theorem rps_rep {K : PySem.W.Frag} {B H : Hp} {xs : List D} {vs : List V} (r : Rps K B H xs vs []) : ∀ n : Nat, Rps K B H (List.replicate n xs).flatten (List.replicate n vs).flatten []
  | 0 => ⟨rfl, rfl⟩
  | n + 1 => by
    rw [List.replicate_succ, List.replicate_succ, List.flatten_cons, List.flatten_cons]
    exact rps_app (ps := []) (qs := []) r (rps_rep r n)
theorem op_mulD {X : Cx} : OpR X (binaryOp .Mult) (fun x y H Q => rI CMul (fun i j => .int (i * j)) x y H Q ∨ rRep x y H Q) := op_mul.or op_rep
theorem o2_mul {K : PySem.W.Frag} : Op2 K (fun x y H Q => rI CMul (fun i j => .int (i * j)) x y H Q ∨ rRep x y H Q) mulD := by
  intro a b d x y B H p q Q e i ra rb nd fb h
  unfold mulD at e
  split at e
  · split at e
    · cases e
      rename_i hz
      refine .inl ⟨_, _, rp_int ra, rp_int rb, ?_, okO_int i h⟩
      rcases Bool.or_eq_true _ _ ▸ hz with z | z
      · exact .inl (small_ok z)
      · exact .inr (small_ok z)
    · cases e
  · split at e
    · cases e
      rename_i hz
      obtain ⟨z1, z2, z3, z4, z5⟩ := hz
      obtain ⟨l, vs, qs, e1, s1, u1, r1⟩ := rp_lstX i z1 ra
      exact .inr ⟨l, _, vs, e1, rp_int rb, s1, by omega, by omega, by rw [rps_len r1]; exact sz_line z4, okO_lst i nd fb (rps_rep (rps_flat z5 r1) _) (List.nil_sublist _) h⟩
    · cases e
  · cases e
def divD : D → D → Option D
  | .int i, .int j => if 0 < j ∧ j < 1073741824 then some (.int (i / j)) else none
  | _, _ => none
theorem o2_div {K : PySem.W.Frag} : Op2 K (rI CDiv fun i j => .int (i / j)) divD := by
  intro a b d x y B H p q Q e i ra rb nd fb h
  unfold divD at e
  split at e
  · split at e
    · cases e
      rename_i hz
      exact ⟨_, _, rp_int ra, rp_int rb, hz, okO_int i h⟩
    · cases e
  · cases e
def modD : D → D → Option D
  | .int i, .int j => if 0 < j then some (.int (i % j)) else none
  | _, _ => none
theorem o2_mod {K : PySem.W.Frag} : Op2 K (rI (fun _ j => 0 < j) fun i j => .int (i % j)) modD := by
  intro a b d x y B H p q Q e i ra rb nd fb h
  unfold modD at e
  split at e
  · split at e
    · cases e
      rename_i hz
      exact ⟨_, _, rp_int ra, rp_int rb, hz, okO_int i h⟩
    · cases e
  · cases e
def powD : D → D → Option D
  | .int i, .int j => if 0 ≤ j ∧ j ≤ 1000000 ∧ i.natAbs < 18446744073709551616 then some (.int (i ^ j.toNat)) else none
  | _, _ => none
theorem o2_pow {K : PySem.W.Frag} : Op2 K (rI CPow fun i j => .int (i ^ j.toNat)) powD := by
  intro a b d x y B H p q Q e i ra rb nd fb h
  unfold powD at e
  split at e
  · split at e
    · cases e
      rename_i hz
      exact ⟨_, _, rp_int ra, rp_int rb, ⟨hz.1, hz.2.1, by have := hz.2.2; omega⟩, okO_int i h⟩
    · cases e
  · cases e
def negD : D → Option D
  | .int i => some (.int (-i))
  | _ => none
theorem o1_neg {K : PySem.W.Frag} : Op1 K (rU fun i => .int (-i)) negD := by
  intro a d x B H p Q e i ra nd fb h
  unfold negD at e
  split at e
  · cases e
    exact ⟨_, rp_int ra, okO_int i h⟩
  · cases e

/-! ### comparisons -/
def cmpD (g : Int → Int → Bool) : D → D → Option D
  | .int i, .int j => some (.bl (g i j))
  | _, _ => none
theorem o2_cmp {K : PySem.W.Frag} {g : Int → Int → Bool} : Op2 K (rI0 fun i j => .bl (g i j)) (cmpD g) := by
  intro a b d x y B H p q Q e i ra rb nd fb h
  unfold cmpD at e
  split at e
  · cases e
    exact ⟨_, _, rp_int ra, rp_int rb, okO_bl i h⟩
  · cases e
abbrev ltD := cmpD fun i j => decide (i < j)
abbrev leD := cmpD fun i j => decide (i ≤ j)
abbrev gtD := cmpD fun i j => decide (j < i)
abbrev geD := cmpD fun i j => decide (j ≤ i)
mutual
def D.py : D → PyData
  | .lst _ xs => .list (D.pys xs)
  | .tup xs => .tuple (D.pys xs)
  | .non => .none
  | .bl b => .bool b
  | .int i => .int i
  | .str s => .str s
  | .exc _ _ => .none
def D.pys : List D → List PyData
  | [] => []
  | d :: ds => d.py :: D.pys ds
end
mutual
def D.dat : D → Bool
  | .lst _ xs => D.dats xs
  | .tup xs => D.dats xs
  | .non => true
  | .bl _ => true
  | .int _ => true
  | .str _ => true
  | .exc _ _ => false
def D.dats : List D → Bool
  | [] => true
  | d :: ds => d.dat && D.dats ds
end
section
variable {K : PySem.W.Frag} {B H : Hp}
mutual
theorem rp_dp (i : Same B H) : ∀ {d : D} {v : V} {ps : List Addr}, d.dat = true → Rp K B H d v ps → Dp K H v d.py
  | .non, _, _, _, r => by rw [r.1]; exact .non
  | .bl _, _, _, _, r => by rw [r.1]; exact .bl _
  | .int _, _, _, _, r => by rw [r.1]; exact .int _
  | .str _, _, _, _, r => by rw [r.1]; exact .str _
  | .exc _ _, _, _, h, _ => by simp [D.dat] at h
  | .lst k xs, v, ps, h, r => by
    obtain ⟨a, vs, qs, e, s, u, r2⟩ := rp_lst i r
    subst e
    unfold D.py
    exact .lst s (rps_dp i (by simpa [D.dat] using h) r2)
  | .tup xs, v, ps, h, r => by
    obtain ⟨a, vs, e, s, r2⟩ := rp_tup r
    subst e
    unfold D.py
    exact .tup s (rps_dp i (by simpa [D.dat] using h) r2)
theorem rps_dp (i : Same B H) : ∀ {ds : List D} {vs : List V} {ps : List Addr}, D.dats ds = true → Rps K B H ds vs ps → DpAll K H vs (D.pys ds)
  | [], _, _, _, r => by rw [r.1]; exact .nil
  | d :: ds, vs, ps, h, r => by
    unfold Rps at r
    obtain ⟨v, vr, p, q, e1, e2, r1, r2⟩ := r
    subst e1
    simp only [D.dats, Bool.and_eq_true] at h
    unfold D.pys
    exact .cons (rp_dp i h.1 r1) (rps_dp i h.2 r2)
end
end
def D.cmpOk (d : D) : Bool := d.dat && SeqAt.shaped d.py
def D.eqv (a b : D) : Bool := PyData.eqv a.py b.py
def eqD (a b : D) : Option D := if a.cmpOk && b.cmpOk then some (.bl (a.eqv b)) else none
def neD (a b : D) : Option D := if a.cmpOk && b.cmpOk then some (.bl (!a.eqv b)) else none
theorem o2_eq {K : PySem.W.Frag} : Op2 K (rEqD K) eqD := by
  intro a b d x y B H p q Q e i ra rb nd fb h
  unfold eqD at e
  split at e
  · cases e
    rename_i hz
    simp only [D.cmpOk, Bool.and_eq_true] at hz
    exact ⟨_, _, rp_dp i hz.1.1 ra, rp_dp i hz.2.1 rb, hz.1.2, hz.2.2, okO_bl i h⟩
  · cases e
theorem o2_ne {K : PySem.W.Frag} : Op2 K (rNeD K) neD := by
  intro a b d x y B H p q Q e i ra rb nd fb h
  unfold neD at e
  split at e
  · cases e
    rename_i hz
    simp only [D.cmpOk, Bool.and_eq_true] at hz
    exact ⟨_, _, rp_dp i hz.1.1 ra, rp_dp i hz.2.1 rb, hz.1.2, hz.2.2, okO_bl i h⟩
  · cases e
def D.isNon : D → Bool
  | .non => true
  | _ => false
theorem rp_non {K : PySem.W.Frag} {B H : Hp} : ∀ {a : D} {v : V} {p : List Addr}, Rp K B H a v p → decide (v = .non) = a.isNon
  | .non, _, _, r => by rw [r.1]; rfl
  | .bl _, _, _, r => by rw [r.1]; rfl
  | .int _, _, _, r => by rw [r.1]; rfl
  | .str _, _, _, r => by rw [r.1]; rfl
  | .exc _ _, _, _, ⟨_, e, _, _⟩ => by rw [e]; rfl
  | .lst _ _, _, _, r => by
    unfold Rp at r
    obtain ⟨_, _, _, e, _⟩ := r
    rw [e]
    rfl
  | .tup _, _, _, r => by
    unfold Rp at r
    obtain ⟨_, _, e, _⟩ := r
    rw [e]
    rfl
/-- is None | is True, is False -/
def isD : D → D → Option D
  | a, .non => some (.bl a.isNon)
  | .bl a, .bl b => some (.bl (a == b))
  | _, _ => none
def notisD : D → D → Option D
  | a, .non => some (.bl (!a.isNon))
  | .bl a, .bl b => some (.bl (!(a == b)))
  | _, _ => none
def rIsD : R2 := fun x y H Q => (y = .non ∧ Q (.bl (decide (x = .non))) H) ∨ rIsB x y H Q
def rNotIsD : R2 := fun x y H Q => (y = .non ∧ Q (.bl (!decide (x = .non))) H) ∨ rNotB x y H Q
theorem op_isD {X : Cx} : OpR X (compareOp .Is) rIsD := op_isN.or op_isBl
theorem op_notisD {X : Cx} : OpR X (compareOp .IsNot) rNotIsD := op_notN.or op_notBl
theorem o2_is {K : PySem.W.Frag} : Op2 K rIsD isD := by
  intro a b d x y B H p q Q e i ra rb nd fb h
  unfold isD at e
  split at e
  · cases e
    refine .inl ⟨rb.1, ?_⟩
    rw [rp_non ra]
    exact okO_bl i h
  · cases e
    refine .inr ⟨_, _, rp_bl ra, rp_bl rb, ?_⟩
    rw [← Bool.beq_eq_decide_eq]
    exact okO_bl i h
  · cases e
theorem o2_notis {K : PySem.W.Frag} : Op2 K rNotIsD notisD := by
  intro a b d x y B H p q Q e i ra rb nd fb h
  unfold notisD at e
  split at e
  · cases e
    refine .inl ⟨rb.1, ?_⟩
    rw [rp_non ra]
    exact okO_bl i h
  · cases e
    refine .inr ⟨_, _, rp_bl ra, rp_bl rb, ?_⟩
    rw [← Bool.beq_eq_decide_eq]
    exact okO_bl i h
  · cases e
end BC

namespace BC
open PySem PySem.Spec PyProof.Rows L2

/-! ## in, subscripts, slices, displays, built-ins -/
def D.flat : D → Bool
  | .non => true
  | .bl _ => true
  | .int _ => true
  | .str _ => true
  | _ => false
def D.toV : D → V
  | .non => .non
  | .bl b => .bl b
  | .int i => .int i
  | .str s => .str s
  | _ => .non
section
variable {K : PySem.W.Frag} {B H : Hp}
theorem rp_flat : ∀ {a : D} {v : V} {p : List Addr}, a.flat = true → Rp K B H a v p → v = a.toV ∧ flatV v = true
  | .non, _, _, _, r => by rw [r.1]; exact ⟨rfl, rfl⟩
  | .bl _, _, _, _, r => by rw [r.1]; exact ⟨rfl, rfl⟩
  | .int _, _, _, _, r => by rw [r.1]; exact ⟨rfl, rfl⟩
  | .str _, _, _, _, r => by rw [r.1]; exact ⟨rfl, rfl⟩
  | .exc _ _, _, _, h, _ => by simp [D.flat] at h
  | .lst _ _, _, _, h, _ => by simp [D.flat] at h
  | .tup _, _, _, h, _ => by simp [D.flat] at h
theorem rps_flats : ∀ {ds : List D} {vs : List V} {p : List Addr}, ds.all D.flat = true → Rps K B H ds vs p → vs = ds.map D.toV ∧ vs.all flatV = true
  | [], _, _, _, r => by rw [r.1]; exact ⟨rfl, rfl⟩
  | d :: ds, vs, p, h, r => by
    unfold Rps at r
    obtain ⟨v, vr, p1, q, e1, e2, r1, r2⟩ := r
    rw [List.all_cons, Bool.and_eq_true] at h
    obtain ⟨h1, h2⟩ := rp_flat h.1 r1
    obtain ⟨h3, h4⟩ := rps_flats h.2 r2
    subst e1
    exact ⟨by rw [h1, h3]; rfl, by rw [List.all_cons, h2, h4]; rfl⟩
end
def inD (neg : Bool) : D → D → Option D
  | x, .lst _ xs => if x.flat && xs.all D.flat then some (.bl (if neg then !inV x.toV (xs.map D.toV) else inV x.toV (xs.map D.toV))) else none
  | x, .tup xs => if x.flat && xs.all D.flat then some (.bl (if neg then !inV x.toV (xs.map D.toV) else inV x.toV (xs.map D.toV))) else none
  | _, _ => none
theorem o2_in {K : PySem.W.Frag} {neg : Bool} : Op2 K (rIn K neg) (inD neg) := by
  intro a b d x y B H p q Q e i ra rb nd fb h
  unfold inD at e
  split at e
  · split at e
    · cases e
      rename_i hz
      rw [Bool.and_eq_true] at hz
      obtain ⟨l, vs, qs, e1, s1, u1, r1⟩ := rp_lst i rb
      obtain ⟨h1, h2⟩ := rp_flat hz.1 ra
      obtain ⟨h3, h4⟩ := rps_flats hz.2 r1
      refine ⟨l, vs, e1, .inl s1, h2, h4, ?_⟩
      rw [h1, h3]
      exact okO_bl i h
    · cases e
  · split at e
    · cases e
      rename_i hz
      rw [Bool.and_eq_true] at hz
      obtain ⟨l, vs, e1, s1, r1⟩ := rp_tup rb
      obtain ⟨h1, h2⟩ := rp_flat hz.1 ra
      obtain ⟨h3, h4⟩ := rps_flats hz.2 r1
      refine ⟨l, vs, e1, .inr s1, h2, h4, ?_⟩
      rw [h1, h3]
      exact okO_bl i h
    · cases e
  · cases e
/-- the place of the first one that is equal -/
def idxD : List D → D → Option D
  | [.lst _ xs], y => if y.flat && xs.all D.flat then ((xs.map D.toV).findIdx? (fun z => eqV z y.toV)).map fun j => .int j else none
  | _, _ => none
def ixD : D → D → Option D
  | .lst _ xs, .int i => L2.atI xs i
  | .tup xs, .int i => L2.atI xs i
  | .str z, .int i => if z.length ≤ 16777216 then (L2.atI z.cps.toList i).map fun c => .str ⟨#[c]⟩ else none
  | _, _ => none
theorem rps_atI {K : PySem.W.Frag} {B H : Hp} {ds : List D} {vs : List V} {ps : List Addr} {i : Int} {d : D} (r : Rps K B H ds vs ps) (e : L2.atI ds i = some d) : ∃ v p, L2.atI vs i = some v ∧ Rp K B H d v p ∧ p.Sublist ps := by
  unfold L2.atI at e ⊢
  rw [rps_len r]
  cases h : L2.ixN ds.length i with
  | none => rw [h] at e; cases e
  | some j =>
    rw [h] at e
    exact rps_at r e
theorem o2_ix {K : PySem.W.Frag} : Op2 K (rIx K) ixD := by
  intro a b d x y B H p q Q e i ra rb nd fb h
  unfold ixD at e
  split at e
  · obtain ⟨l, vs, qs, e1, s1, u1, r1⟩ := rp_lst i ra
    obtain ⟨v, t, h1, h2, h3⟩ := rps_atI r1 e
    exact .inl ⟨l, vs, _, v, e1, rp_int rb, s1, h1, okO_part i nd fb h2 ((h3.trans u1).trans (List.sublist_append_left _ _)) h⟩
  · obtain ⟨l, vs, e1, s1, r1⟩ := rp_tup ra
    obtain ⟨v, t, h1, h2, h3⟩ := rps_atI r1 e
    exact .inr (.inl ⟨l, vs, _, v, e1, rp_int rb, s1, h1, okO_part i nd fb h2 (h3.trans (List.sublist_append_left _ _)) h⟩)
  · split at e
    · rename_i hz
      rw [Option.map_eq_some_iff] at e
      obtain ⟨c, e, e2⟩ := e
      subst e2
      exact .inr (.inr ⟨_, _, c, rp_str ra, rp_int rb, sz_line hz, e, okO_str i h⟩)
    · cases e
  · cases e
/-! slices -/
def PstO (W : WC) (B H : Hp) (σ : L2.St) (Q : Option Int → Hp → Prop) : R (Option Int) → Prop
  | .ok b => ∀ B' H', Step B H B' H' → Q b H'
  | .er c => ∀ H', Same H H' → W c σ H'
  | .no => False
def tFO (K : PySem.W.Frag) (W : WC) (f : Env → R (Option Int)) : TO := fun σ H Q => ∃ env B, Same B H ∧ SlE K B H env σ ∧ PstO W B H σ Q (f env)
def xP0 : Env → R (Option Int) := fun _ => .ok none
def xP1 (f : Env → R D) : Env → R (Option Int) := fun env => do
  let d ← f env
  match d with
  | .int i => .ok (some i)
  | _ => .no
def cutL {α : Type} (xs : List α) (lo hi : Option Int) : List α := (xs.drop (HT.sIx xs.length 0 lo)).take (HT.sIx xs.length xs.length hi - HT.sIx xs.length 0 lo)
theorem cutL_all {α : Type} {xs : List α} {lo hi : Option Int} (z : HT.sIx xs.length 0 lo = 0 ∧ HT.sIx xs.length xs.length hi = xs.length) : cutL xs lo hi = xs := by
  unfold cutL
  rw [z.1, z.2]
  simp
def slD : D → Option Int → Option Int → Option D
  | .lst _ xs, lo, hi => some (.lst .ow (cutL xs lo hi))
  | .tup xs, lo, hi => some (.tup (cutL xs lo hi))
  | .str z, lo, hi => if z.length ≤ 16777216 then some (.str (cutS z lo hi)) else none
  | _, _, _ => none
def xSl (f : Env → R D) (l u : Env → R (Option Int)) : Env → R D := fun env => do
  let a ← f env
  let lo ← l env
  let hi ← u env
  R.of (slD a lo hi)
def rSlD (K : PySem.W.Frag) : V → Option Int → Option Int → Hp → VK → Prop := fun x lo hi H Q => rSlL K x lo hi H Q ∨ (rSlA K x lo hi H Q ∨ rSlS x lo hi H Q)
theorem sl_D {X : Cx} : SlR X (rSlD X.K) := sl_list.or (sl_tupA.or sl_str)
theorem seqO {K : PySem.W.Frag} {W : WC} {B H : Hp} {env : Env} {σ : L2.St} {β : Type} {f : Env → R (Option Int)} {g : Option Int → R β} {Q : Option Int → Hp → Prop} {P : R β → Prop} (i : Same B H) (s : SlE K B H env σ) (hP : P (f env >>= g)) (her : ∀ c, P (.er c) → ∀ H', Same H H' → W c σ H') (hno : ¬ P .no)
    (h : ∀ b B' H', P (g b) → Step B H B' H' → Q b H') : tFO K W f σ H Q := by
  refine ⟨env, B, i, s, ?_⟩
  cases e : f env with
  | ok d =>
    rw [e] at hP
    exact fun B' H' st => h d B' H' hP st
  | er c =>
    rw [e] at hP
    exact her c hP
  | no =>
    rw [e] at hP
    exact hno hP
theorem sl_end {K : PySem.W.Frag} {a : D} {lo hi : Option Int} {d : D} {x : V} {B H : Hp} {p : List Addr} {Q : VK} (e : slD a lo hi = some d) (i : Same B H) (ra : Rp K B H a x p) (nd : p.Nodup) (fb : ∀ t ∈ p, B t = none) (h : OkO K B H p d Q) : rSlD K x lo hi H Q := by
  unfold slD at e
  split at e
  · cases e
    obtain ⟨l, vs, qs, e1, s1, u1, r1⟩ := rp_lst i ra
    obtain ⟨t, h1, h2⟩ := rps_sub _ _ r1
    refine .inl ⟨l, vs, e1, s1, okO_lst i nd fb (vs := cutV vs lo hi) ?_ (h1.trans u1) h⟩
    unfold cutV
    rw [rps_len r1]
    exact h2
  · cases e
    obtain ⟨l, vs, e1, s1, r1⟩ := rp_tupX ra
    subst e1
    obtain ⟨t, h1, h2⟩ := rps_sub _ _ r1
    refine .inr (.inl ⟨l, vs, rfl, .of s1, fun z => ?_, fun _ => okO_tup i nd fb (vs := cutV vs lo hi) ?_ h1 h⟩)
    · rw [rps_len r1] at z
      have ez := cutL_all z
      rw [ez] at h
      refine okO_part i nd fb (q := p) ?_ (.refl _) h
      unfold Rp
      exact ⟨l, vs, rfl, s1, r1⟩
    · unfold cutV
      rw [rps_len r1]
      exact h2
  · split at e
    · cases e
      rename_i hz
      exact .inr (.inr ⟨_, rp_str ra, sz_line hz, okO_str i h⟩)
    · cases e
  · cases e
section
variable {X : Cx} {W : WC} {e a b : Expr} {f g : Env → R D} {pos : Pos}
theorem so_none : PO X none (tFO X.K W xP0) := by
  refine ⟨fun pins s σ H Q I h => ?_⟩
  obtain ⟨env, B, i, sl, h⟩ := h
  exact po_none.run pins s σ H Q I (h B H (.refl i))
theorem so_some (ha : PE X e (tF X.K W f)) : PO X (some e) (tFO X.K W (xP1 f)) := by
  refine ⟨fun pins s σ H Q I h => (po_some ha).run pins s σ H Q I ?_⟩
  obtain ⟨env, B, i, sl, h⟩ := h
  refine seqE (P := PstO W B H σ Q) i sl h (fun c z => z) (fun z => z) fun d v B1 H1 q e1 h1 st r nd fr => ?_
  cases d with
  | int n => exact ⟨n, rp_int r, h1 B1 H1 st⟩
  | _ => exact h1.elim
theorem se_slice {lo hi : Option Expr} {l u : Env → R (Option Int)} {p2 : Pos} (ha : PE X e (tF X.K W f)) (hl : PO X lo (tFO X.K W l)) (hu : PO X hi (tFO X.K W u)) : PE X (.Subscript e (.Slice lo hi none p2) pos) (tF X.K W (xSl f l u)) := by
  refine peI (pe_slice sl_D ha hl hu) fun σ H Q ⟨env, B, i, s, h⟩ => ?_
  refine seqE (P := Pst X.K W B H σ Q) i s h (fun c z => z) (fun z => z) fun d v B1 H1 q e1 h1 st1 r nd fr => ?_
  refine seqO (P := Pst X.K W B H σ Q) st1.i (s.step st1) h1 (fun c z => erBack (P := True) st1.h z) (fun z => z) fun o1 B2 H2 h2 st2 => ?_
  refine seqO (P := Pst X.K W B H σ Q) st2.i ((s.step st1).step st2) h2 (fun c z => erBack (P := True) (st1.trans st2).h z) (fun z => z) fun o2 B3 H3 h3 st3 => ?_
  obtain ⟨d2, ed, hd⟩ := of_ok h3
  have st := st2.trans st3
  have fr3 : Fresh H B3 q := Fresh.on r fr st
  exact sl_end ed st3.i (rp_mono st.b st.h r) nd (fun t ht => (fr3 t ht).2) (okO_end (st1.trans st) fr3 hd)
/-! operations as expressions -/
theorem se_bin {op : Operator} {r : R2} {o : D → D → Option D} (ho : OpR X (binaryOp op) r) (h2 : Op2 X.K r o) (ha : PE X a (tF X.K W f)) (hb : PE X b (tF X.K W g)) : PE X (.BinOp a op b pos) (tF X.K W (x2 o f g)) := peI (pe_op ho ha hb) fun _ _ _ h => tOp_of h2 h
theorem se_add (ha : PE X a (tF X.K W f)) (hb : PE X b (tF X.K W g)) : PE X (.BinOp a .Add b pos) (tF X.K W (x2 addD f g)) := se_bin op_addD o2_add ha hb
theorem se_sub (ha : PE X a (tF X.K W f)) (hb : PE X b (tF X.K W g)) : PE X (.BinOp a .Sub b pos) (tF X.K W (x2 subD f g)) := se_bin op_sub o2_sub ha hb
theorem se_mul (ha : PE X a (tF X.K W f)) (hb : PE X b (tF X.K W g)) : PE X (.BinOp a .Mult b pos) (tF X.K W (x2 mulD f g)) := se_bin op_mulD o2_mul ha hb
theorem se_div (ha : PE X a (tF X.K W f)) (hb : PE X b (tF X.K W g)) : PE X (.BinOp a .FloorDiv b pos) (tF X.K W (x2 divD f g)) := se_bin op_fdiv o2_div ha hb
theorem se_mod (ha : PE X a (tF X.K W f)) (hb : PE X b (tF X.K W g)) : PE X (.BinOp a .Mod b pos) (tF X.K W (x2 modD f g)) := se_bin op_mod o2_mod ha hb
theorem se_pow (ha : PE X a (tF X.K W f)) (hb : PE X b (tF X.K W g)) : PE X (.BinOp a .Pow b pos) (tF X.K W (x2 powD f g)) := se_bin op_pow o2_pow ha hb
theorem se_neg (ha : PE X a (tF X.K W f)) : PE X (.UnaryOp .USub a pos) (tF X.K W (x1 negD f)) := peI (pe_un un_neg ha) fun _ _ _ h => tUn_of o1_neg h
theorem se_ix (ha : PE X a (tF X.K W f)) (hb : PE X b (tF X.K W g)) (hs : PlainIx b := by intro _ _; rfl) : PE X (.Subscript a b pos) (tF X.K W (x2 ixD f g)) := peI (pe_ix ix_seq ha hb hs) fun _ _ _ h => tOp_of o2_ix h
/-- which comparison; hu: room for deep ones -/
theorem se_cmp {op : CmpOp} {r : R2} {o : D → D → Option D} (ho : OpR X (compareOp op) r) (h2 : Op2 X.K r o) (ha : PE X a (tF X.K W f)) (hb : PE X b (tF X.K W g)) (hm : behindInMarks op b = false := by first | exact nomark _ | rfl) : PE X (.Compare a [op] [b] pos) (tF X.K W (x2 o f g)) :=
  peI (pe_cmpR ho ha hb hm) fun _ _ _ h => tOp_of h2 h
/-! tests -/
def xB (f : Env → R D) : Env → R Bool := fun env => do
  let d ← f env
  match d with
  | .bl b => .ok b
  | _ => .no
theorem tB_of {K : PySem.W.Frag} {σ : L2.St} {H : Hp} {Q : Bool → Hp → Prop} (h : tFT K W (xB f) σ H Q) : tF K W f σ H fun x H1 => ∃ c, x = .bl c ∧ Q c H1 := by
  obtain ⟨env, B, i, s, h⟩ := h
  refine seqE (P := PstT W B H σ Q) i s h (fun c z => z) (fun z => z) fun d v B1 H1 q e1 h1 st1 r nd fr => ?_
  cases d with
  | bl n => exact ⟨n, rp_bl r, h1 B1 H1 st1⟩
  | _ => exact h1.elim
theorem st_val (ha : PE X e (tF X.K W f)) (he : ∀ whole, isTrue e X.env whole = (do let v ← whole; standAt e.pos; holding [v] (truthy v)) := by intro _; rfl) : PT X e (tFT X.K W (xB f)) := ptI (pt_val ha he) fun _ _ _ h => tB_of h
theorem tTestOp_of {K : PySem.W.Frag} {r : R2} {o : D → D → Option D} (h2 : Op2 K r o) {σ : L2.St} {H : Hp} {Q : Bool → Hp → Prop} (h : tFT K W (xB (x2 o f g)) σ H Q) : tTest (tOp r (tF K W f) (tF K W g)) σ H Q := tOp_of h2 (tB_of h)
theorem st_cmp {op : CmpOp} {r : R2} {o : D → D → Option D} (ho : OpR X (compareOp op) r) (h2 : Op2 X.K r o) (ha : PE X a (tF X.K W f)) (hb : PE X b (tF X.K W g)) (hm : behindInMarks op b = false := by first | exact nomark _ | rfl) : PT X (.Compare a [op] [b] pos) (tFT X.K W (xB (x2 o f g))) :=
  ptI (pt_cmpR ho ha hb hm) fun _ _ _ h => tTestOp_of h2 h
variable {t u : Env → R Bool} {rest : List Expr}
def xTAnd (t u : Env → R Bool) : Env → R Bool := fun env => do
  let c ← t env
  if c = true then u env else R.ok false
def xTOr (t u : Env → R Bool) : Env → R Bool := fun env => do
  let c ← t env
  if c = true then R.ok true else u env
def xTNot (t : Env → R Bool) : Env → R Bool := fun env => do
  let c ← t env
  R.ok (!c)
theorem sw_one {op : BoolOp} {tt : TT} (h : PW X (.BoolOp op [a] pos) tt) : PW X (.BoolOp op [a] pos) tt := h
theorem sw_and1 (ha : PT X a (tFT X.K W t)) : PW X (.BoolOp .And [a] pos) (tFT X.K W t) := pw_and1 ha
theorem sw_or1 (ha : PT X a (tFT X.K W t)) : PW X (.BoolOp .Or [a] pos) (tFT X.K W t) := pw_or1 ha
theorem sw_and (ha : PT X a (tFT X.K W t)) (hb : PW X (.BoolOp .And (b :: rest) pos) (tFT X.K W u)) : PW X (.BoolOp .And (a :: b :: rest) pos) (tFT X.K W (xTAnd t u)) := by
  refine pwI (pw_and ha hb) fun σ H Q ⟨env, B, i, s, h⟩ => ?_
  refine seqT (P := PstT W B H σ Q) i s h (fun c z => z) (fun z => z) fun c B1 H1 e1 h1 st1 => ?_
  cases c with
  | false => exact h1 B1 H1 st1
  | true =>
    refine tFT_of st1.i (s.step st1) ?_
    have h2 : PstT W B H σ Q (u env) := h1
    cases eu : u env with
    | ok d => rw [eu] at h2; exact fun B2 H2 st2 => h2 B2 H2 (st1.trans st2)
    | er c => rw [eu] at h2; exact fun H2 z => h2 H2 (st1.h.trans z)
    | no => rw [eu] at h2; exact h2
theorem sw_or (ha : PT X a (tFT X.K W t)) (hb : PW X (.BoolOp .Or (b :: rest) pos) (tFT X.K W u)) : PW X (.BoolOp .Or (a :: b :: rest) pos) (tFT X.K W (xTOr t u)) := by
  refine pwI (pw_or ha hb) fun σ H Q ⟨env, B, i, s, h⟩ => ?_
  refine seqT (P := PstT W B H σ Q) i s h (fun c z => z) (fun z => z) fun c B1 H1 e1 h1 st1 => ?_
  cases c with
  | true => exact h1 B1 H1 st1
  | false =>
    refine tFT_of st1.i (s.step st1) ?_
    have h2 : PstT W B H σ Q (u env) := h1
    cases eu : u env with
    | ok d => rw [eu] at h2; exact fun B2 H2 st2 => h2 B2 H2 (st1.trans st2)
    | er c => rw [eu] at h2; exact fun H2 z => h2 H2 (st1.h.trans z)
    | no => rw [eu] at h2; exact h2
theorem st_not (ha : PT X a (tFT X.K W t)) : PT X (.UnaryOp .Not a pos) (tFT X.K W (xTNot t)) := by
  refine ptI (pt_not ha) fun σ H Q ⟨env, B, i, s, h⟩ => ?_
  exact seqT (P := PstT W B H σ Q) i s h (fun c z => z) (fun z => z) fun c B1 H1 e1 h1 st1 => h1 B1 H1 st1
/-! chains -/
def xChain (o o' : D → D → Option D) (f g h : Env → R D) : Env → R D := fun env => do
  let a ← f env
  let b ← g env
  let k ← R.of (o a b)
  match k with
  | .bl true => do
    let c ← h env
    R.of (o' b c)
  | .bl false => R.ok (.bl false)
  | _ => R.no
def NoOwn (o : D → D → Option D) : Prop := ∀ a b d, o a b = some d → ∃ k, d = .bl k
theorem tChain_of {K : PySem.W.Frag} {r r' : R2} {o o' : D → D → Option D} {hh : Env → R D} (h2 : Op2 K r o) (h2' : Op2 K r' o') {σ : L2.St} {H : Hp} {Q : VK} (h : tF K W (xChain o o' f g hh) σ H Q) : tChain r r' (tF K W f) (tF K W g) (tF K W hh) σ H Q := by
  obtain ⟨env, B, i, s, h⟩ := h
  refine seqE (P := Pst K W B H σ Q) i s h (fun c z => z) (fun z => z) fun a x B1 H1 p e1 h1 st1 r1 nd1 fr1 => ?_
  refine seqE (P := Pst K W B H σ Q) st1.i (s.step st1) h1 (fun c z => erBack (P := True) st1.h z) (fun z => z) fun b y B2 H2 q e2 h3 st2 r2 nd2 fr2 => ?_
  have fa : Fresh H B2 (p ++ q) := (Fresh.on r1 fr1 st2).app (fr2.back st1.h)
  have st12 := st1.trans st2
  cases eo : o a b with
  | none => rw [eo] at h3; exact h3.elim
  | some k =>
    rw [eo] at h3
    refine h2 a b k x y B2 H2 p q _ eo st2.i (rp_mono st2.b st2.h r1) r2 (nodup_later (B := B) (H := H) r1 nd1 nd2 fr2) (fun t ht => (fa t ht).2) fun v B3 H3 q3 st3 r3 nd3 fr3 => ?_
    cases k with
    | bl k =>
      refine ⟨k, rp_bl r3, ?_⟩
      cases k with
      | false => exact okE_plain st3.i (by unfold Rp; exact ⟨rfl, rfl⟩) fun v4 B4 H4 q4 st4 r4 nd4 fr4 => h3 v4 B4 H4 q4 ((st12.trans st3).trans st4) r4 nd4 fun t ht => ⟨(st12.trans st3).h.free (fr4 t ht).1, (fr4 t ht).2⟩
      | true =>
        refine seqE (P := Pst K W B H σ Q) st3.i (s.step (st12.trans st3)) h3 (fun c z => erBack (P := True) (st12.trans st3).h z) (fun z => z) fun c z B4 H4 q4 e4 h5 st4 r4 nd4 fr4 => ?_
        obtain ⟨d, ed, hd⟩ := of_ok h5
        have st34 := st3.trans st4
        have r2' := rp_mono st34.b st34.h r2
        have fq : Fresh H B4 q := Fresh.on r2 (fr2.back st1.h) st34
        have nd5 : (q ++ q4).Nodup := nodup_later (B := B) (H := H) (rp_mono st3.b st3.h r2) nd2 nd4 fr4
        have fr5 : Fresh H B4 (q ++ q4) := fq.app (fr4.back (st12.trans st3).h)
        exact h2' b c d y z B4 H4 q q4 Q ed st4.i r2' r4 nd5 (fun t ht => (fr5 t ht).2) (okO_end ((st12.trans st3).trans st4) fr5 hd)
    | _ => exact h3.elim
theorem se_chain {c : Expr} {op op' : CmpOp} {r r' : R2} {o o' : D → D → Option D} {hh : Env → R D} (ho : OpR X (compareOp op) r) (h2 : Op2 X.K r o) (ho' : OpR X (compareOp op') r') (h2' : Op2 X.K r' o') (ha : PE X a (tF X.K W f)) (hb : PE X b (tF X.K W g)) (hc : PE X c (tF X.K W hh))
    (hm : lastMarks [op, op'] [b, c] = false := by with_unfolding_all rfl) : PE X (.Compare a [op, op'] [b, c] pos) (tF X.K W (xChain o o' f g hh)) := peI (pe_chain ho ho' ha hb hc hm) fun _ _ _ h => tChain_of h2 h2' h
theorem st_chain {c : Expr} {op op' : CmpOp} {r r' : R2} {o o' : D → D → Option D} {hh : Env → R D} (ho : OpR X (compareOp op) r) (h2 : Op2 X.K r o) (ho' : OpR X (compareOp op') r') (h2' : Op2 X.K r' o') (ha : PE X a (tF X.K W f)) (hb : PE X b (tF X.K W g)) (hc : PE X c (tF X.K W hh))
    (hm : lastMarks [op, op'] [b, c] = false := by with_unfolding_all rfl) : PT X (.Compare a [op, op'] [b, c] pos) (tFT X.K W (xB (xChain o o' f g hh))) := ptI (pt_chain ho ho' ha hb hc hm) fun _ _ _ h => tChain_of h2 h2' (tB_of h)
/-! and, or, not as values; a if t else b -/
def xAnd (f g : Env → R D) : Env → R D := fun env => do
  let d ← f env
  match d with
  | .bl true => g env
  | .bl false => R.ok (.bl false)
  | _ => R.no
def xOr (f g : Env → R D) : Env → R D := fun env => do
  let d ← f env
  match d with
  | .bl false => g env
  | .bl true => R.ok (.bl true)
  | _ => R.no
def xNot (f : Env → R D) : Env → R D := fun env => do
  let d ← f env
  match d with
  | .bl b => R.ok (.bl (!b))
  | _ => R.no
def xIf (t : Env → R Bool) (f g : Env → R D) : Env → R D := fun env => do
  let c ← t env
  if c = true then f env else g env
theorem pst_on {K : PySem.W.Frag} {B H B1 H1 : Hp} {σ : L2.St} {Q : VK} {r : R D} (st : Step B H B1 H1) (h : Pst K W B H σ Q r) : Pst K W B1 H1 σ Q r := by
  cases r with
  | ok d => exact fun v B2 H2 q st2 r nd fr => h v B2 H2 q (st.trans st2) r nd (fr.back st.h)
  | er c => exact fun H2 z => h H2 (st.h.trans z)
  | no => exact h
theorem okE_bl {K : PySem.W.Frag} {B H B1 H1 : Hp} {b : Bool} {Q : VK} (st : Step B H B1 H1) (h : OkE K B H (.bl b) Q) : Q (.bl b) H1 := h (.bl b) B1 H1 [] st (by unfold Rp; exact ⟨rfl, rfl⟩) .nil (by intro q hq; cases hq)
theorem se_one {op : BoolOp} (ha : PE X a (tF X.K W f)) : PE X (.BoolOp op [a] pos) (tF X.K W f) := pe_one ha
theorem se_and (ha : PE X a (tF X.K W f)) (hb : PE X (.BoolOp .And (b :: rest) pos) (tF X.K W g)) : PE X (.BoolOp .And (a :: b :: rest) pos) (tF X.K W (xAnd f g)) := by
  refine peI (pe_and ha hb) fun σ H Q ⟨env, B, i, s, h⟩ => ?_
  refine seqE (P := Pst X.K W B H σ Q) i s h (fun c z => z) (fun z => z) fun d x B1 H1 p e1 h1 st1 r1 nd1 fr1 => ?_
  cases d with
  | bl k =>
    refine ⟨k, rp_bl r1, ?_⟩
    cases k with
    | true => exact tF_of st1.i (s.step st1) (pst_on st1 h1)
    | false => exact okE_bl st1 h1
  | _ => exact h1.elim
theorem se_or (ha : PE X a (tF X.K W f)) (hb : PE X (.BoolOp .Or (b :: rest) pos) (tF X.K W g)) : PE X (.BoolOp .Or (a :: b :: rest) pos) (tF X.K W (xOr f g)) := by
  refine peI (pe_or ha hb) fun σ H Q ⟨env, B, i, s, h⟩ => ?_
  refine seqE (P := Pst X.K W B H σ Q) i s h (fun c z => z) (fun z => z) fun d x B1 H1 p e1 h1 st1 r1 nd1 fr1 => ?_
  cases d with
  | bl k =>
    refine ⟨k, rp_bl r1, ?_⟩
    cases k with
    | false => exact tF_of st1.i (s.step st1) (pst_on st1 h1)
    | true => exact okE_bl st1 h1
  | _ => exact h1.elim
theorem se_not (ha : PE X a (tF X.K W f)) : PE X (.UnaryOp .Not a pos) (tF X.K W (xNot f)) := by
  refine peI (pe_not ha) fun σ H Q ⟨env, B, i, s, h⟩ => ?_
  refine seqE (P := Pst X.K W B H σ Q) i s h (fun c z => z) (fun z => z) fun d x B1 H1 p e1 h1 st1 r1 nd1 fr1 => ?_
  cases d with
  | bl k => exact ⟨k, rp_bl r1, okE_bl st1 h1⟩
  | _ => exact h1.elim
theorem se_ifExp {c : Expr} (hc : PT X c (tFT X.K W t)) (ha : PE X a (tF X.K W f)) (hb : PE X b (tF X.K W g)) : PE X (.IfExp c a b pos) (tF X.K W (xIf t f g)) := by
  refine peI (pe_ifExp hc ha hb) fun σ H Q ⟨env, B, i, s, h⟩ => ?_
  refine seqT (P := Pst X.K W B H σ Q) i s h (fun c z => z) (fun z => z) fun k B1 H1 e1 h1 st1 => ?_
  cases k with
  | true => exact tF_of st1.i (s.step st1) (pst_on st1 h1)
  | false => exact tF_of st1.i (s.step st1) (pst_on st1 h1)
end
end BC

namespace BC
open PySem PySem.Spec PyProof.Rows L2

/-! ## displays, built-in functions, calls of own defs -/
def xTup (f : Env → R (List D)) : Env → R D := fun env => do
  let ds ← f env
  if ds.length ≤ 16777216 then R.ok (.tup ds) else R.no
def xLst (f : Env → R (List D)) : Env → R D := fun env => do
  let ds ← f env
  if ds.length ≤ 16777216 then R.ok (.lst .ow ds) else R.no
section
variable {X : Cx} {W : WC} {e a b : Expr} {es : List Expr} {f g : Env → R D} {fs : Env → R (List D)} {pos : Pos}
theorem se_tup {k : Nat} (h : PA X es (tFA X.K W fs)) : PE X (.Tuple es k pos) (tF X.K W (xTup fs)) := by
  refine peI (pe_tup h) fun σ H Q ⟨env, B, i, s, h⟩ => ?_
  refine seqA (P := Pst X.K W B H σ Q) i s h (fun c z => z) (fun z => z) fun ds vs B1 H1 q e1 h1 st1 r1 nd1 fr1 => ?_
  by_cases hz : ds.length ≤ 16777216
  · simp only [hz, if_true] at h1
    refine ⟨by rw [rps_len r1]; exact sz_line hz, ?_⟩
    exact okO_tup st1.i nd1 (fun t ht => (fr1 t ht).2) r1 (.refl _) (okO_end st1 fr1 h1)
  · simp only [hz, if_false] at h1
    exact h1.elim
theorem se_lst (h : PA X es (tFA X.K W fs)) : PE X (.List es pos) (tF X.K W (xLst fs)) := by
  refine peI (pe_lst h) fun σ H Q ⟨env, B, i, s, h⟩ => ?_
  refine seqA (P := Pst X.K W B H σ Q) i s h (fun c z => z) (fun z => z) fun ds vs B1 H1 q e1 h1 st1 r1 nd1 fr1 => ?_
  by_cases hz : ds.length ≤ 16777216
  · simp only [hz, if_true] at h1
    refine ⟨by rw [rps_len r1]; exact sz_line hz, ?_⟩
    exact okO_lst st1.i nd1 (fun t ht => (fr1 t ht).2) r1 (.refl _) (okO_end st1 fr1 h1)
  · simp only [hz, if_false] at h1
    exact h1.elim
/-! built-in functions -/
theorem se_blt {x : Str} {id : String} {r : List V → Hp → VK → Prop} {op : List D → Option D} {p : Pos} (hc : CallR X (.builtin id) r) (ho : OpA X.K r op) (hg : Gl X x) (hm : X.mg x = none) (hv : bootBuiltins x = some (.builtin id)) (ha : PA X (e :: es) (tFA X.K W fs)) (hn : x ≠ "__name__" := by decide)
    (hdb : (x == ("__debug__" : Str)) = false := by decide) (he : starEach (e :: es) X.env = (false, eval e X.env) :: starEach es X.env := by rfl) (hpl : (backTo pos (starEach es X.env)).any (·.1) = false := by rfl) : PE X (.Call (.Name x p) (e :: es) [] pos) (tF X.K W (xA op fs)) :=
  peI (pe_callB hc hg hm hv ha hn hdb he hpl) fun _ _ _ h => tCB_of ho h
theorem se_bty {x : Str} {T : String} {r : List V → Hp → VK → Prop} {op : List D → Option D} {p : Pos} (hc : CallR X (.type T) r) (ho : OpA X.K r op) (hg : Gl X x) (hm : X.mg x = none) (hv : bootBuiltins x = some (.type T)) (ha : PA X (e :: es) (tFA X.K W fs)) (hn : x ≠ "__name__" := by decide)
    (hdb : (x == ("__debug__" : Str)) = false := by decide) (he : starEach (e :: es) X.env = (false, eval e X.env) :: starEach es X.env := by rfl) (hpl : (backTo pos (starEach es X.env)).any (·.1) = false := by rfl) : PE X (.Call (.Name x p) (e :: es) [] pos) (tF X.K W (xA op fs)) :=
  peI (pe_callTy hc hg hm hv ha hn hdb he hpl) fun _ _ _ h => tCB_of ho h
end
section
variable {K : PySem.W.Frag} {B H : Hp}
theorem rps1 {a : D} {vs : List V} {p : List Addr} (r : Rps K B H [a] vs p) : ∃ v, vs = [v] ∧ Rp K B H a v p := by
  unfold Rps at r
  obtain ⟨v, vr, p1, q, e1, e2, r1, r2⟩ := r
  unfold Rps at r2
  obtain ⟨r2, r3⟩ := r2
  subst e1 e2 r2 r3
  exact ⟨v, rfl, by rw [List.append_nil]; exact r1⟩
theorem rps2 {a b : D} {vs : List V} {p : List Addr} (r : Rps K B H [a, b] vs p) : ∃ v w p1 p2, vs = [v, w] ∧ p = p1 ++ p2 ∧ Rp K B H a v p1 ∧ Rp K B H b w p2 := by
  unfold Rps at r
  obtain ⟨v, vr, p1, q, e1, e2, r1, r2⟩ := r
  obtain ⟨w, e3, r3⟩ := rps1 r2
  subst e1 e3
  exact ⟨v, w, p1, q, rfl, e2, r1, r3⟩
theorem rps_ints : ∀ {ns : List Int} {vs : List V} {p : List Addr}, Rps K B H (ns.map D.int) vs p → vs = ns.map V.int
  | [], _, _, r => r.1
  | n :: ns, vs, p, r => by
    rw [List.map_cons] at r
    unfold Rps at r
    obtain ⟨v, vr, p1, q, e1, e2, r1, r2⟩ := r
    subst e1
    rw [rp_int r1, rps_ints r2]
    rfl
theorem rps_of_ints (ns : List Int) : Rps K B H (ns.map D.int) (ns.map V.int) [] := by
  induction ns with
  | nil => exact ⟨rfl, rfl⟩
  | cons n ns ih =>
    rw [List.map_cons, List.map_cons]
    unfold Rps
    exact ⟨_, _, [], [], rfl, rfl, ⟨rfl, rfl⟩, ih⟩
end
/-- the ints of a list, where it holds nothing else -/
def D.ints? : List D → Option (List Int)
  | [] => some []
  | .int i :: ds => (D.ints? ds).map fun is => i :: is
  | _ => none
theorem ints?_some : ∀ {ds : List D} {ns : List Int}, D.ints? ds = some ns → ds = ns.map D.int
  | [], ns, h => by cases h; rfl
  | .int i :: ds, ns, h => by
    unfold D.ints? at h
    rw [Option.map_eq_some_iff] at h
    obtain ⟨is, h1, h2⟩ := h
    subst h2
    rw [ints?_some h1]
    rfl
  | .non :: _, _, h => by cases h
  | .bl _ :: _, _, h => by cases h
  | .str _ :: _, _, h => by cases h
  | .lst _ _ :: _, _, h => by cases h
  | .tup _ :: _, _, h => by cases h
  | .exc _ _ :: _, _, h => by cases h
@[simp] theorem ints?_map (ns : List Int) : D.ints? (ns.map D.int) = some ns := by
  induction ns with
  | nil => rfl
  | cons n ns ih => simp [D.ints?, ih]
def D.bls? : List D → Option (List Bool)
  | [] => some []
  | .bl i :: ds => (D.bls? ds).map fun is => i :: is
  | _ => none
theorem bls?_some : ∀ {ds : List D} {ns : List Bool}, D.bls? ds = some ns → ds = ns.map D.bl
  | [], ns, h => by cases h; rfl
  | .bl i :: ds, ns, h => by
    unfold D.bls? at h
    rw [Option.map_eq_some_iff] at h
    obtain ⟨is, h1, h2⟩ := h
    subst h2
    rw [bls?_some h1]
    rfl
  | .non :: _, _, h => by cases h
  | .int _ :: _, _, h => by cases h
  | .str _ :: _, _, h => by cases h
  | .lst _ _ :: _, _, h => by cases h
  | .tup _ :: _, _, h => by cases h
  | .exc _ _ :: _, _, h => by cases h
@[simp] theorem bls?_map (ns : List Bool) : D.bls? (ns.map D.bl) = some ns := by
  induction ns with
  | nil => rfl
  | cons n ns ih => simp [D.bls?, ih]
theorem rps_bls {K : PySem.W.Frag} {B H : Hp} : ∀ {ns : List Bool} {vs : List V} {p : List Addr}, Rps K B H (ns.map D.bl) vs p → vs = ns.map V.bl
  | [], _, _, r => r.1
  | n :: ns, vs, p, r => by
    rw [List.map_cons] at r
    unfold Rps at r
    obtain ⟨v, vr, p1, q, e1, e2, r1, r2⟩ := r
    subst e1
    rw [rp_bl r1, rps_bls r2]
    rfl
def lenD : List D → Option D
  | [.lst _ xs] => some (.int xs.length)
  | [.tup xs] => some (.int xs.length)
  | [.str s] => if s.length ≤ 16777216 then some (.int s.length) else none
  | _ => none
theorem oa_len {K : PySem.W.Frag} : OpA K (fun xs H Q => ∃ x n, xs = [x] ∧ LenV K x H n ∧ Q (.int n) H) lenD := by
  intro as d xs B H p Q e i r nd fb h
  unfold lenD at e
  split at e
  · cases e
    obtain ⟨v, e1, r1⟩ := rps1 r
    obtain ⟨l, vs, qs, e2, s1, u1, r2⟩ := rp_lst i r1
    subst e1 e2
    exact ⟨_, _, rfl, .inl ⟨vs, s1, (rps_len r2).symm⟩, okO_int i h⟩
  · cases e
    obtain ⟨v, e1, r1⟩ := rps1 r
    obtain ⟨l, vs, e2, s1, r2⟩ := rp_tup r1
    subst e1 e2
    exact ⟨_, _, rfl, .inr ⟨vs, s1, (rps_len r2).symm⟩, okO_int i h⟩
  · split at e
    · cases e
      rename_i hz
      obtain ⟨v, e1, r1⟩ := rps1 r
      have e2 := rp_str r1
      subst e1 e2
      exact ⟨_, _, rfl, ⟨sz_line hz, rfl⟩, okO_int i h⟩
    · cases e
  · cases e
def absD : List D → Option D
  | [.int i] => some (.int (if i < 0 then -i else i))
  | _ => none
theorem oa_abs {K : PySem.W.Frag} : OpA K (fun xs H Q => ∃ i, xs = [.int i] ∧ Q (.int (if i < 0 then -i else i)) H) absD := by
  intro as d xs B H p Q e i r nd fb h
  unfold absD at e
  split at e
  · cases e
    obtain ⟨v, e1, r1⟩ := rps1 r
    have e2 := rp_int r1
    subst e1 e2
    exact ⟨_, rfl, okO_int i h⟩
  · cases e
def max2D : List D → Option D
  | [.int i, .int j] => some (.int (if j > i then j else i))
  | _ => none
def min2D : List D → Option D
  | [.int i, .int j] => some (.int (if j < i then j else i))
  | _ => none
theorem oa_max2 {K : PySem.W.Frag} : OpA K (fun xs H Q => ∃ i j, xs = [.int i, .int j] ∧ Q (.int (if j > i then j else i)) H) max2D := by
  intro as d xs B H p Q e i r nd fb h
  unfold max2D at e
  split at e
  · cases e
    obtain ⟨v, w, p1, p2, e1, e2, r1, r2⟩ := rps2 r
    have e3 := rp_int r1
    have e4 := rp_int r2
    subst e1 e3 e4
    exact ⟨_, _, rfl, okO_int i h⟩
  · cases e
theorem oa_min2 {K : PySem.W.Frag} : OpA K (fun xs H Q => ∃ i j, xs = [.int i, .int j] ∧ Q (.int (if j < i then j else i)) H) min2D := by
  intro as d xs B H p Q e i r nd fb h
  unfold min2D at e
  split at e
  · cases e
    obtain ⟨v, w, p1, p2, e1, e2, r1, r2⟩ := rps2 r
    have e3 := rp_int r1
    have e4 := rp_int r2
    subst e1 e3 e4
    exact ⟨_, _, rfl, okO_int i h⟩
  · cases e
/-- int(x) of an int, a bool -/
def int1D : List D → Option D
  | [.int i] => some (.int i)
  | [.bl k] => some (.int (if k then 1 else 0))
  | [.str a] => if a.length ≤ 640 then (PySem.intText? a).map fun n => .int n else none
  | _ => none
theorem op_int1 {X : Cx} : CallR X (.type "int") (fun xs H Q => ((∃ i, xs = [.int i] ∧ Q (.int i) H) ∨ ∃ k, xs = [.bl k] ∧ Q (.int (if k then 1 else 0)) H) ∨ ∃ a n, xs = [.str a] ∧ PySem.intText? a = some n ∧ a.length ≤ 640 ∧ Q (.int n) H) := call_int1.or call_int_str
theorem oa_int1 {K : PySem.W.Frag} : OpA K (fun xs H Q => ((∃ i, xs = [.int i] ∧ Q (.int i) H) ∨ ∃ k, xs = [.bl k] ∧ Q (.int (if k then 1 else 0)) H) ∨ ∃ a n, xs = [.str a] ∧ PySem.intText? a = some n ∧ a.length ≤ 640 ∧ Q (.int n) H) int1D := by
  intro as d xs B H p Q e i r nd fb h
  unfold int1D at e
  split at e
  · cases e
    obtain ⟨v, e1, r1⟩ := rps1 r
    have e2 := rp_int r1
    subst e1 e2
    exact .inl (.inl ⟨_, rfl, okO_int i h⟩)
  · cases e
    obtain ⟨v, e1, r1⟩ := rps1 r
    have e2 := rp_bl r1
    subst e1 e2
    exact .inl (.inr ⟨_, rfl, okO_int i h⟩)
  · split at e
    · rename_i hz
      rw [Option.map_eq_some_iff] at e
      obtain ⟨n, e3, e4⟩ := e
      subst e4
      obtain ⟨v, e1, r1⟩ := rps1 r
      have e2 := rp_str r1
      subst e1 e2
      exact .inr ⟨_, _, rfl, e3, hz, okO_int i h⟩
    · cases e
  · cases e
def str1D : List D → Option D
  | [.int i] => if i.natAbs.log2 < 1920 then some (.str (Str.ofString (toString i))) else none
  | _ => none
theorem oa_str1 {K : PySem.W.Frag} : OpA K (fun xs H Q => ∃ i, xs = [.int i] ∧ i.natAbs.log2 < 1920 ∧ Q (.str (toString i)) H) str1D := by
  intro as d xs B H p Q e i r nd fb h
  unfold str1D at e
  split at e
  · split at e
    · cases e
      rename_i hz
      obtain ⟨v, e1, r1⟩ := rps1 r
      have e2 := rp_int r1
      subst e1 e2
      exact ⟨_, rfl, hz, okO_str i h⟩
    · cases e
  · cases e
def listD : List D → Option D
  | [.lst _ xs] => some (.lst .ow xs)
  | [.tup xs] => some (.lst .ow xs)
  | _ => none
theorem oa_list {K : PySem.W.Frag} : OpA K (fun xs H Q => ∃ p ys, xs = [.ref p] ∧ (SqL K H p ys ∨ SqT K H p ys) ∧ ∀ l, H l = none → Q (.ref l) (upd H l (.lst ys))) listD := by
  intro as d xs B H p Q e i r nd fb h
  unfold listD at e
  split at e
  · cases e
    obtain ⟨v, e1, r1⟩ := rps1 r
    obtain ⟨l, vs, qs, e2, s1, u1, r2⟩ := rp_lst i r1
    subst e1 e2
    exact ⟨_, _, rfl, .inl s1, okO_lst i nd fb r2 u1 h⟩
  · cases e
    obtain ⟨v, e1, r1⟩ := rps1 r
    obtain ⟨l, vs, e2, s1, r2⟩ := rp_tup r1
    subst e1 e2
    exact ⟨_, _, rfl, .inr s1, okO_lst i nd fb r2 (.refl _) h⟩
  · cases e
def tupleD : List D → Option D
  | [.lst _ xs] => some (.tup xs)
  | [.tup xs] => some (.tup xs)
  | _ => none
theorem oa_tuple {K : PySem.W.Frag} : OpA K (fun xs H Q => ∃ p ys, xs = [.ref p] ∧ ((SqL K H p ys ∧ ∀ l, H l = none → Q (.ref l) (upd H l (.tup ys))) ∨ (SqT K H p ys ∧ Q (.ref p) H))) tupleD := by
  intro as d xs B H p Q e i r nd fb h
  unfold tupleD at e
  split at e
  · cases e
    obtain ⟨v, e1, r1⟩ := rps1 r
    obtain ⟨l, vs, qs, e2, s1, u1, r2⟩ := rp_lst i r1
    subst e1 e2
    exact ⟨_, _, rfl, .inl ⟨s1, okO_tup i nd fb r2 u1 h⟩⟩
  · cases e
    obtain ⟨v, e1, r1⟩ := rps1 r
    obtain ⟨l, vs, e2, s1, r2⟩ := rp_tup r1
    subst e1 e2
    exact ⟨_, _, rfl, .inr ⟨s1, okO_part i nd fb r1 (.refl _) h⟩⟩
  · cases e
def sumD : List D → Option D
  | [.lst _ xs] => (D.ints? xs).map fun ns => .int ns.sum
  | _ => none
theorem oa_sum {K : PySem.W.Frag} : OpA K (rSum K) sumD := by
  intro as d xs B H p Q e i r nd fb h
  unfold sumD at e
  split at e
  · rw [Option.map_eq_some_iff] at e
    obtain ⟨ns, e3, e4⟩ := e
    subst e4
    have e5 := ints?_some e3
    subst e5
    obtain ⟨v, e1, r1⟩ := rps1 r
    obtain ⟨l, vs, qs, e2, s1, u1, r2⟩ := rp_lst i r1
    subst e1 e2
    rw [rps_ints r2] at s1
    exact ⟨l, ns, rfl, s1, okO_int i h⟩
  · cases e
def allD : List D → Option D
  | [.lst _ xs] => (D.bls? xs).map fun ns => .bl (ns.all id)
  | _ => none
theorem oa_all {K : PySem.W.Frag} : OpA K (rAll K) allD := by
  intro as d xs B H p Q e i r nd fb h
  unfold allD at e
  split at e
  · rw [Option.map_eq_some_iff] at e
    obtain ⟨ns, e3, e4⟩ := e
    subst e4
    have e5 := bls?_some e3
    subst e5
    obtain ⟨v, e1, r1⟩ := rps1 r
    obtain ⟨l, vs, qs, e2, s1, u1, r2⟩ := rp_lst i r1
    subst e1 e2
    rw [rps_bls r2] at s1
    exact ⟨l, ns, rfl, s1, okO_bl i h⟩
  · cases e
/-- the rising list of the same numbers -/
def sortI (ns : List Int) : List Int := ns.mergeSort (fun a b => decide (a ≤ b))
theorem sortI_perm (ns : List Int) : (sortI ns).Perm ns := List.mergeSort_perm _ _
theorem sortI_sorted (ns : List Int) : (sortI ns).Pairwise (· ≤ ·) := by
  have h := List.pairwise_mergeSort (le := fun a b : Int => decide (a ≤ b)) (fun a b c h1 h2 => by simp at h1 h2 ⊢; omega) (fun a b => by simp; omega) ns
  exact h.imp fun h => by simpa using h
theorem sorted_unique : ∀ {l1 l2 : List Int}, l1.Perm l2 → l1.Pairwise (· ≤ ·) → l2.Pairwise (· ≤ ·) → l1 = l2 := fun p h1 h2 => p.eq_of_pairwise (fun a b _ _ h3 h4 => Int.le_antisymm h3 h4) h1 h2
def sortedD : List D → Option D
  | [.lst _ xs] => (D.ints? xs).map fun ns => .lst .ow ((sortI ns).map D.int)
  | _ => none
theorem oa_sorted {K : PySem.W.Frag} : OpA K (rSortedI K) sortedD := by
  intro as d xs B H p Q e i r nd fb h
  unfold sortedD at e
  split at e
  · rw [Option.map_eq_some_iff] at e
    obtain ⟨ns, e3, e4⟩ := e
    subst e4
    have e5 := ints?_some e3
    subst e5
    obtain ⟨v, e1, r1⟩ := rps1 r
    obtain ⟨l, vs, qs, e2, s1, u1, r2⟩ := rp_lst i r1
    subst e1 e2
    rw [rps_ints r2] at s1
    refine ⟨l, ns, rfl, s1, fun ns' q hp hs hq => ?_⟩
    rw [sorted_unique (hp.trans (sortI_perm ns).symm) hs (sortI_sorted ns)]
    exact okO_lst i nd fb (rps_of_ints _) (List.nil_sublist _) h q hq
  · cases e
def maxLD : List D → Option D
  | [.lst _ xs] => (D.ints? xs).bind fun ns => (ns.max?).map D.int
  | _ => none
def minLD : List D → Option D
  | [.lst _ xs] => (D.ints? xs).bind fun ns => (ns.min?).map D.int
  | _ => none
theorem max_is {ns : List Int} {m : Int} (hm : m ∈ ns) (h : ∀ y, y ∈ ns → y ≤ m) : ns.max? = some m := (List.max?_eq_some_iff (xs := ns)).mpr ⟨hm, h⟩
theorem min_is {ns : List Int} {m : Int} (hm : m ∈ ns) (h : ∀ y, y ∈ ns → m ≤ y) : ns.min? = some m := (List.min?_eq_some_iff (xs := ns)).mpr ⟨hm, h⟩
theorem oa_maxL {K : PySem.W.Frag} : OpA K (rMax K) maxLD := by
  intro as d xs B H p Q e i r nd fb h
  unfold maxLD at e
  split at e
  · rw [Option.bind_eq_some_iff] at e
    obtain ⟨ns, e3, e4⟩ := e
    have e5 := ints?_some e3
    subst e5
    obtain ⟨v, e1, r1⟩ := rps1 r
    obtain ⟨l, vs, qs, e2, s1, u1, r2⟩ := rp_lst i r1
    subst e1 e2
    rw [rps_ints r2] at s1
    refine ⟨l, ns, rfl, s1, ?_, fun m hm hy => ?_⟩
    · cases ns with
      | nil => simp at e4
      | cons a b => simp
    · rw [max_is hm hy] at e4
      cases e4
      exact okO_int i h
  · cases e
theorem oa_minL {K : PySem.W.Frag} : OpA K (rMin K) minLD := by
  intro as d xs B H p Q e i r nd fb h
  unfold minLD at e
  split at e
  · rw [Option.bind_eq_some_iff] at e
    obtain ⟨ns, e3, e4⟩ := e
    have e5 := ints?_some e3
    subst e5
    obtain ⟨v, e1, r1⟩ := rps1 r
    obtain ⟨l, vs, qs, e2, s1, u1, r2⟩ := rp_lst i r1
    subst e1 e2
    rw [rps_ints r2] at s1
    refine ⟨l, ns, rfl, s1, ?_, fun m hm hy => ?_⟩
    · cases ns with
      | nil => simp at e4
      | cons a b => simp
    · rw [min_is hm hy] at e4
      cases e4
      exact okO_int i h
  · cases e
/-! isinstance against one built-in type -/
inductive Ty5 | list | int | bool | tuple | str
def Ty5.nm : Ty5 → String
  | .list => "list"
  | .int => "int"
  | .bool => "bool"
  | .tuple => "tuple"
  | .str => "str"
def isiD : Ty5 → D → Option D
  | .list, .lst _ _ => some (.bl true)
  | .tuple, .tup _ => some (.bl true)
  | .int, .int _ => some (.bl true)
  | .int, .bl _ => some (.bl true)
  | .bool, .bl _ => some (.bl true)
  | .str, .str _ => some (.bl true)
  | _, .exc _ _ => none
  | _, _ => some (.bl false)
def D.tyN : D → String
  | .non => "NoneType"
  | .bl _ => "bool"
  | .int _ => "int"
  | .str _ => "str"
  | .lst _ _ => "list"
  | .tup _ => "tuple"
  | .exc _ _ => "exc"
theorem kit_all : ∀ T : Ty5, (kitB "NoneType" T.nm = some false) ∧ (kitB "bool" T.nm = some (match T with | .bool => true | .int => true | _ => false)) ∧ (kitB "int" T.nm = some (match T with | .int => true | _ => false)) ∧ (kitB "str" T.nm = some (match T with | .str => true | _ => false))
    ∧ (kitB "list" T.nm = some (match T with | .list => true | _ => false)) ∧ (kitB "tuple" T.nm = some (match T with | .tuple => true | _ => false)) := by
  intro T
  cases T <;> decide +kernel
theorem rp_ty {K : PySem.W.Frag} {B H : Hp} (i : Same B H) : ∀ {a : D} {v : V} {p : List Addr}, (∀ c b, a ≠ .exc c b) → Rp K B H a v p → TyX K H v (.type a.tyN)
  | .non, _, _, _, r => by rw [r.1]; exact .base .non
  | .bl _, _, _, _, r => by rw [r.1]; exact .base (.bl _)
  | .int _, _, _, _, r => by rw [r.1]; exact .base (.int _)
  | .str _, _, _, _, r => by rw [r.1]; exact .base (.str _)
  | .exc c b, _, _, h, r => absurd rfl (h c b)
  | .lst _ _, _, _, _, r => by
    obtain ⟨l, vs, qs, e2, s1, u1, r2⟩ := rp_lst i r
    subst e2
    rcases s1 with (s1 | ⟨o, s1⟩) | ⟨o, its, n, s1, s2, _⟩
    · exact .base (.lst s1)
    · exact .base (.frz s1)
    · exact .kList s1 s2
  | .tup _, _, _, _, r => by
    obtain ⟨l, vs, e2, s1, r2⟩ := rp_tup r
    subst e2
    rcases s1 with (s1 | ⟨o, s1⟩) | ⟨o, its, n, s1, s2, _⟩
    · exact .base (.tup s1)
    · exact .fTuple s1
    · exact .kTuple s1 s2
theorem isi_kit {T : Ty5} {a d : D} (e : isiD T a = some d) : (∀ c b, a ≠ .exc c b) ∧ ∃ k, d = .bl k ∧ kitB a.tyN T.nm = some k := by
  obtain ⟨k1, k2, k3, k4, k5, k6⟩ := kit_all T
  cases a <;> cases T <;> simp only [isiD] at e <;> first | (cases e; done) | (cases e; exact ⟨(fun c b z => by cases z), _, rfl, by first | exact k1 | exact k2 | exact k3 | exact k4 | exact k5 | exact k6⟩)
theorem o1_isi {K : PySem.W.Frag} {T : Ty5} : Op1 K (fun x H Q => rIsi K [x, .ty T.nm] H Q) (isiD T) := by
  intro a d x B H p Q e i r nd fb h
  obtain ⟨h1, k, e1, h2⟩ := isi_kit e
  subst e1
  exact ⟨x, .ty T.nm, .type a.tyN, .type T.nm, k, rfl, .ty _, rp_ty i h1 r, kit_ty h2, okO_bl i h⟩
section
variable {X : Cx} {W : WC} {e a b : Expr} {es : List Expr} {f g : Env → R D} {fs : Env → R (List D)} {pos : Pos}
theorem se_isi (T : Ty5) {p p2 : Pos} {x y : Str} (hx : x = "isinstance") (hg : Gl X x) (hm : X.mg x = none) (hy : y = Str.ofString T.nm) (hg2 : Gl X y) (hm2 : X.mg y = none) (hv : bootBuiltins x = some (.builtin "isinstance")) (hv2 : bootBuiltins y = some (.type T.nm)) (ha : PE X a (tF X.K W f))
    (hn : x ≠ "__name__" := by decide) (hdb : (x == ("__debug__" : Str)) = false := by decide) (hn2 : y ≠ "__name__" := by decide) (hdb2 : (y == ("__debug__" : Str)) = false := by decide)
    (he1 : starEach [a, .Name y p2] X.env = (false, eval a X.env) :: starEach [.Name y p2] X.env := by rfl) (he2 : starEach [.Name y p2] X.env = (false, eval (.Name y p2) X.env) :: starEach [] X.env := by rfl)
    (hpl : (backTo pos (starEach [.Name y p2] X.env)).any (·.1) = false := by rfl) : PE X (.Call (.Name x p) [a, .Name y p2] [] pos) (tF X.K W (x1 (isiD T) f)) := by
  refine peI (pe_callB call_isi hg hm hv (pa_cons ha (pa_cons (pe_bltn (v := .ty T.nm) hg2 hm2 hv2 rfl hn2 hdb2) pa_nil he2) he1) hn hdb he1 hpl) fun σ H Q h => ?_
  exact tUn_of (r := fun x H Q => rIsi X.K [x, .ty T.nm] H Q) o1_isi h
end

/-! own defs -/
/-- the address of each exception class -/
def wx (cl : String → Addr) (W : WC) : WX := fun cls d σ H => ∃ c, cls = .ref (cl c) ∧ d = none ∧ W c σ H
/-- a def's contract -/
def Ctr (K : PySem.W.Frag) (cl : String → Addr) (n : Nat) (m : List D → R D) : Sp := fun vs H Q E => ∃ B ds, Same B H ∧ Rps K B H ds vs [] ∧ D.stos ds = true ∧ vs.length = n ∧ Pst K (fun c _ H' => E (.ref (cl c)) none H') B H [] Q (m ds)
theorem stos_frzs : ∀ ds : List D, D.stos (D.frzs ds) = true := by
  have h : ∀ d : D, d.frz.sto = true ∧ True := fun d => D.rec (motive_1 := fun d => d.frz.sto = true ∧ True) (motive_2 := fun ds => D.stos (D.frzs ds) = true)
    ⟨rfl, trivial⟩ (fun _ => ⟨rfl, trivial⟩) (fun _ => ⟨rfl, trivial⟩) (fun _ => ⟨rfl, trivial⟩) (fun k xs ih => by cases k <;> exact ⟨by simpa [D.frz, D.sto, Kd.frz] using ih, trivial⟩) (fun xs ih => ⟨by simpa [D.frz, D.sto] using ih, trivial⟩) (fun _ _ => ⟨rfl, trivial⟩) rfl (fun d ds h1 h2 => by simp only [D.frzs, D.stos, h1.1, h2]; rfl) d
  intro ds
  induction ds with
  | nil => rfl
  | cons d ds ih => simp only [D.frzs, D.stos, (h d).1, ih]; rfl
def xCall (m : List D → R D) (fs : Env → R (List D)) : Env → R D := fun env => do
  let ds ← fs env
  if D.stos ds = true then m (D.frzs ds) else do
    let r ← m (D.frzs ds)
    if r.nsc = true then R.ok r.unf else R.no
section
variable {X : Cx} {W : WC} {cl : String → Addr} {e : Expr} {es : List Expr} {fs : Env → R (List D)} {pos : Pos}
theorem tCallS_of {m : List D → R D} {n : Nat} {σ : L2.St} {H : Hp} {Q : VK} (h : tF X.K W (xCall m fs) σ H Q) (hn : ∀ env ds, fs env = .ok ds → ds.length = n) : tCallS (Ctr X.K cl n m) (WE (wx cl W)) (tFA X.K W fs) σ H Q := by
  obtain ⟨env, B, i, s, h⟩ := h
  refine seqA (P := Pst X.K W B H σ Q) i s h (fun c z => z) (fun z => z) fun ds vs B1 H1 q e1 h1 st1 r1 nd1 fr1 => ?_
  by_cases hs : D.stos ds = true
  · simp only [hs, if_true] at h1
    have k1 : Same B1 (ovr B1 H1 q) := same_ovr st1.i
    have r2 : Rps X.K (ovr B1 H1 q) H1 (D.frzs ds) vs [] := rps_frz k1 hs (fun p hp o ho => ovr_mem hp ho) r1
    have st2 : Step B H (ovr B1 H1 q) H1 := ⟨st1.b.trans k1, st1.h, ovr_same st1.i, fun p xs hb hh => ovr_none (fun z => by rw [(fr1 p z).1] at hh; cases hh) (st1.n p xs hb hh)⟩
    refine ⟨ovr B1 H1 q, D.frzs ds, ovr_same st1.i, r2, stos_frzs ds, by rw [rps_len r1]; exact hn env ds e1, ?_⟩
    cases em : m (D.frzs ds) with
    | ok d =>
      rw [em] at h1
      exact fun v B3 H3 q3 st3 r3 nd3 fr3 => h1 v B3 H3 q3 (st2.trans st3) r3 nd3 (fr3.back st1.h)
    | er c =>
      rw [em] at h1
      exact fun H3 z => ⟨c, rfl, rfl, h1 H3 (st1.h.trans z)⟩
    | no => rw [em] at h1; exact h1
  · simp only [hs] at h1
    have r2 : Rps X.K H1 H1 (D.frzs ds) vs [] := rps_all st1.i r1
    refine ⟨H1, D.frzs ds, .refl _, r2, stos_frzs ds, by rw [rps_len r1]; exact hn env ds e1, ?_⟩
    cases em : m (D.frzs ds) with
    | ok d =>
      rw [em] at h1
      have h2 : Pst X.K W B H σ Q (if d.nsc = true then R.ok d.unf else R.no) := h1
      by_cases hk : d.nsc = true
      · rw [if_pos hk] at h2
        refine fun v B3 H3 q3 st3 r3 nd3 fr3 => h2 v B1 H3 q3 ⟨st1.b, st1.h.trans st3.h, st1.i.trans st3.h, fun p xs hb hh => st1.n p xs hb hh⟩ (rp_unf st3.i hk r3) nd3 fun t ht => ⟨st1.h.free (fr3 t ht).1, st1.i.free (fr3 t ht).1⟩
      · rw [if_neg hk] at h2
        exact h2.elim
    | er c =>
      rw [em] at h1
      exact fun H3 z => ⟨c, rfl, rfl, h1 H3 (st1.h.trans z)⟩
    | no => rw [em] at h1; exact h1
theorem se_call {x : Str} {k j : Nat} {f : Addr} {fd : FuncData} {ps : List Str} {m : List D → R D} {n : Nat} {p : Pos} (F : FnOk X.prog X.w X.K X.mg X.base (L2.CX X.prog X.w) k f fd ps (Ctr X.K cl n m)) (hr : Room j X.A) (hj : k ≤ j) (hg : Gl X x) (hm : X.mg x = some (.ref f)) (hk : PySem.W.keepIn X.K (.ref f) = true) (hb : Binds X.K fd ps []) (tk : Takes X (wx cl W))
    (ha : PA X (e :: es) (tFA X.K W fs)) (hn : ∀ env ds, fs env = .ok ds → ds.length = n) (hdb : (x == ("__debug__" : Str)) = false := by decide) (he : starEach (e :: es) X.env = (false, eval e X.env) :: starEach es X.env := by rfl) (hpl : (backTo pos (starEach es X.env)).any (·.1) = false := by rfl) :
    PE X (.Call (.Name x p) (e :: es) [] pos) (tF X.K W (xCall m fs)) := peI (pe_callS F (hr.mono hj) hg hm hk hb (fun σ => passAt tk σ) ha hdb he hpl) fun _ _ _ h => tCallS_of h hn
theorem takesW0 : Takes X (wx cl W0) := takes0.imp fun _ _ _ _ ⟨_, _, _, z⟩ => z
end
/-- as many arguments as written -/
theorem xa0 : ∀ env ds, xNil env = .ok ds → ds.length = 0 := fun env ds e => by cases e; rfl
theorem xa1 {f : Env → R D} {g : Env → R (List D)} {n : Nat} (h : ∀ env ds, g env = .ok ds → ds.length = n) : ∀ env ds, xCons f g env = .ok ds → ds.length = n + 1 := fun env ds e => by
  unfold xCons at e
  cases ef : f env with
  | ok a =>
    rw [ef] at e
    cases eg : g env with
    | ok as =>
      have e' : (do let as ← g env; R.ok (a :: as)) = R.ok ds := e
      rw [eg] at e'
      cases e'
      rw [List.length_cons, h env as eg]
    | er c =>
      have e' : (do let as ← g env; R.ok (a :: as)) = R.ok ds := e
      rw [eg] at e'
      cases e'
    | no =>
      have e' : (do let as ← g env; R.ok (a :: as)) = R.ok ds := e
      rw [eg] at e'
      cases e'
  | er c => rw [ef] at e; cases e
  | no => rw [ef] at e; cases e
end BC

namespace BC
open PySem PySem.Spec PyProof.Rows L2

/-! ## what is walked -/
/-- the heap without the lists that are not frozen -/
def kp (B H : Hp) : Hp := fun p => match H p with
  | some (.lst _) => B p
  | o => o
theorem kp_same {B H : Hp} (i : Same B H) : Same (kp B H) H := fun p o e => by
  unfold kp at e
  split at e
  · exact i p o e
  · exact e
theorem kp_none {B H : Hp} {p : Addr} {vs : List V} (h : H p = some (.lst vs)) (b : B p = none) : kp B H p = none := by
  unfold kp
  rw [h]
  exact b
theorem kp_b {B H : Hp} {p : Addr} {vs : List V} (i : Same B H) (b : B p = some (.lst vs)) : kp B H p = some (.lst vs) := by
  unfold kp
  rw [i p _ b]
  exact b
theorem kp_h {B H : Hp} {p : Addr} {o : HO} (h : H p = some o) (n : ∀ vs, o ≠ .lst vs) : kp B H p = some o := by
  unfold kp
  rw [h]
  cases o with
  | lst vs => exact absurd rfl (n vs)
  | _ => rfl
theorem kp_up {B B' H : Hp} (k : Same B B') : Same (kp B H) (kp B' H) := fun p o e => by
  unfold kp at e ⊢
  split
  · rename_i vs hv
    rw [hv] at e
    exact k p o e
  · rename_i o' hv
    split at e
    · rename_i ws hw
      exact absurd hw (hv ws)
    · exact e
def hs (b : Bool) (B H : Hp) : Hp := if b = true then H else kp B H
theorem hs_same {b : Bool} {B H : Hp} (i : Same B H) : Same (hs b B H) H := by
  unfold hs
  split
  · exact .refl _
  · exact kp_same i
section
variable {K : PySem.W.Frag} {B H : Hp}
theorem sqT_kp {a : Addr} {vs : List V} (h : SqT K H a vs) : SqT K (kp B H) a vs := by
  rcases h with (h | ⟨o, h⟩) | h
  · exact .inl (.inl (kp_h h fun vs z => by cases z))
  · exact .inl (.inr ⟨o, kp_h h fun vs z => by cases z⟩)
  · exact .inr h
theorem sqL_kp {a : Addr} {vs : List V} (i : Same B H) (h : SqL K B a vs) : SqL K (kp B H) a vs := by
  rcases h with (h | ⟨o, h⟩) | h
  · exact .inl (.inl (kp_b i h))
  · exact .inl (.inr ⟨o, kp_h (i _ _ h) fun vs z => by cases z⟩)
  · exact .inr h
mutual
theorem rp_kp (i : Same B H) : ∀ {d : D} {v : V}, d.sto = true → Rp K B H d v [] → Rp K B (kp B H) d v []
  | .non, _, _, r => r
  | .bl _, _, _, r => r
  | .int _, _, _, r => r
  | .str _, _, _, r => r
  | .exc _ _, _, _, ⟨a, e1, e2, e3⟩ => ⟨a, e1, kp_h e2 (fun vs z => by cases z), e3⟩
  | .lst k xs, v, hs, r => by
    unfold Rp at r ⊢
    obtain ⟨a, vs, qs, e, n, q, r⟩ := r
    cases k with
    | ow => cases q
    | bo => simp [D.sto] at hs
    | fz => rw [q.2] at r; exact ⟨a, vs, [], e, n, ⟨rfl, rfl⟩, rps_kp i (by simpa [D.sto] using hs) r⟩
    | sc => rw [q.2] at r; exact ⟨a, vs, [], e, n, ⟨rfl, rfl⟩, rps_kp i (by simpa [D.sto] using hs) r⟩
  | .tup xs, v, hs, r => by
    unfold Rp at r ⊢
    obtain ⟨a, vs, e, n, r⟩ := r
    exact ⟨a, vs, e, kp_h n (fun vs z => by cases z), rps_kp i (by simpa [D.sto] using hs) r⟩
theorem rps_kp (i : Same B H) : ∀ {ds : List D} {vs : List V}, D.stos ds = true → Rps K B H ds vs [] → Rps K B (kp B H) ds vs []
  | [], _, _, r => r
  | d :: ds, vs, hs, r => by
    unfold Rps at r ⊢
    obtain ⟨v, vr, p, q, e1, e2, r1, r2⟩ := r
    simp only [D.stos, Bool.and_eq_true] at hs
    have e3 : p = [] ∧ q = [] := by simpa using e2.symm
    rw [e3.1] at r1
    rw [e3.2] at r2
    exact ⟨v, vr, [], [], e1, rfl, rp_kp i hs.1 r1, rps_kp i hs.2 r2⟩
end
end
/-- the iterator J gives the items xs as long as B is frozen and Hs stands -/
def Wk (K : PySem.W.Frag) (B Hs : Hp) (J : It) (xs : List D) : Prop := ∀ (i : Nat) (B1 H : Hp), Same B B1 → Same B1 H → Same Hs H →
  (∀ d, xs[i]? = some d → J.go i H ∧ ∀ x H', J.yld i H x H' → ∃ B', Step B1 H B' H' ∧ Rp K B' H' d x []) ∧ (xs[i]? = none → J.stop i H)
def PstI (K : PySem.W.Frag) (W : WC) (B H : Hp) (σ : L2.St) (R' : It → Hp → Prop) : R (Bool × List D) → Prop
  | .ok (b, xs) => ∀ J B' H', Step B H B' H' → Wk K B' (hs b B' H') J xs → R' J H'
  | .er c => ∀ H', Same H H' → W c σ H'
  | .no => False
def tI (K : PySem.W.Frag) (W : WC) (f : Env → R (Bool × List D)) : TI := fun σ H R' => ∃ env B, Same B H ∧ SlE K B H env σ ∧ PstI K W B H σ R' (f env)
theorem piI {X : Cx} {tg e : Expr} {t t' : TI} (h : PI X tg e t) (i : ∀ σ H Q, t' σ H Q → t σ H Q) : PI X tg e t' := ⟨fun pins s σ H Q I hq => h.run pins s σ H Q I (i _ _ _ hq)⟩
/-- a list as a source: is it borrowed, its items -/
def srcL : D → Option (Bool × List D)
  | .lst .fz xs => if D.stos xs = true then some (false, xs) else none
  | .lst .sc xs => if D.stos xs = true then some (false, xs) else none
  | .lst .bo xs => some (true, D.bors xs)
  | .lst .ow xs => if D.stos xs = true then some (false, D.frzs xs) else some (true, D.bors xs)
  | _ => none
def srcT : D → Option (Bool × List D)
  | .tup xs => if D.stos xs = true then some (false, D.frzs xs) else some (true, D.bors xs)
  | _ => none
theorem rps_get {K : PySem.W.Frag} {B H : Hp} {ds : List D} {vs : List V} {i : Nat} {d : D} (r : Rps K B H ds vs []) (e : ds[i]? = some d) : ∃ v, vs[i]? = some v ∧ Rp K B H d v [] := by
  obtain ⟨v, p, h1, h2, h3⟩ := rps_at r e
  have : p = [] := List.sublist_nil.mp h3
  subst this
  exact ⟨v, h1, h2⟩
theorem stos_at : ∀ {ds : List D} {i : Nat} {d : D}, D.stos ds = true → ds[i]? = some d → d.sto = true
  | [], i, d, _, e => by simp at e
  | a :: ds, 0, d, h, e => by
    simp at e
    subst e
    simp only [D.stos, Bool.and_eq_true] at h
    exact h.1
  | a :: ds, i + 1, d, h, e => by
    simp only [D.stos, Bool.and_eq_true] at h
    exact stos_at h.2 (by simpa using e)
/-- a list that stands is walked -/
theorem wk_list {K : PySem.W.Frag} {B Hs : Hp} {a : Addr} {xs : List D} {vs : List V} (hq : SqL K Hs a vs) (hr : Rps K B Hs xs vs []) : Wk K B Hs (Itl K a) xs := fun i B1 H e1 e2 e3 => by
  have s1 : SqL K H a vs := e3.seq hq
  refine ⟨fun d hd => ?_, fun hn => ⟨vs, s1, ?_⟩⟩
  · obtain ⟨v, h1, h2⟩ := rps_get hr hd
    refine ⟨⟨vs, v, s1, h1⟩, fun x H' hy => ?_⟩
    obtain ⟨eH, hx⟩ := hy
    subst eH
    have := hx vs s1
    rw [h1] at this
    cases this
    exact ⟨B1, .refl e2, rp_mono e1 e3 h2⟩
  · rw [rps_len hr]
    exact List.getElem?_eq_none_iff.mp hn
theorem wk_tup {K : PySem.W.Frag} {B Hs : Hp} {a : Addr} {xs : List D} {vs : List V} (hq : SqT K Hs a vs) (hr : Rps K B Hs xs vs []) : Wk K B Hs (Itt K a) xs := fun i B1 H e1 e2 e3 => by
  have s1 : SqT K H a vs := sqT_mono e3 hq
  refine ⟨fun d hd => ?_, fun hn => ⟨vs, s1, ?_⟩⟩
  · obtain ⟨v, h1, h2⟩ := rps_get hr hd
    refine ⟨⟨vs, v, s1, h1⟩, fun x H' hy => ?_⟩
    obtain ⟨eH, hx⟩ := hy
    subst eH
    have := hx vs s1
    rw [h1] at this
    cases this
    exact ⟨B1, .refl e2, rp_mono e1 e3 h2⟩
  · rw [rps_len hr]
    exact List.getElem?_eq_none_iff.mp hn
theorem wk_rev {K : PySem.W.Frag} {B Hs : Hp} {a : Addr} {xs : List D} {vs : List V} (hq : SqL K Hs a vs) (hr : Rps K B Hs xs vs []) : Wk K B Hs (Itv K a vs.length) xs.reverse := fun i B1 H e1 e2 e3 => by
  have s1 : SqL K H a vs := e3.seq hq
  have hl := rps_len hr
  refine ⟨fun d hd => ?_, fun hn => ?_⟩
  · have hi : i < xs.length := by simpa using (List.getElem?_eq_some_iff.mp hd).1
    rw [List.getElem?_reverse hi] at hd
    obtain ⟨v, h1, h2⟩ := rps_get hr hd
    rw [← hl] at h1
    refine ⟨⟨by omega, vs, v, s1, h1⟩, fun x H' hy => ?_⟩
    obtain ⟨eH, hx⟩ := hy
    subst eH
    have := hx vs s1
    rw [h1] at this
    cases this
    exact ⟨B1, .refl e2, rp_mono e1 e3 h2⟩
  · have := List.getElem?_eq_none_iff.mp hn
    simp at this
    show vs.length ≤ i
    omega
theorem rp_pair {K : PySem.W.Frag} {B H : Hp} {x y : V} {d e : D} {T : Addr} (i : Same B H) (hT : H T = none) (r1 : Rp K B H d x []) (r2 : Rp K B H e y []) : Step B H B (upd H T (.tup [x, y])) ∧ Rp K B (upd H T (.tup [x, y])) (.tup [d, e]) (.ref T) [] := by
  have st : Step B H B (upd H T (.tup [x, y])) := step_new i hT
  refine ⟨st, ?_⟩
  unfold Rp
  refine ⟨T, _, rfl, upd_same, ?_⟩
  unfold Rps
  refine ⟨_, _, [], [], rfl, rfl, rp_mono st.b st.h r1, ?_⟩
  unfold Rps
  exact ⟨_, _, [], [], rfl, rfl, rp_mono st.b st.h r2, ⟨rfl, rfl⟩⟩
def enumL : Nat → List D → List D
  | _, [] => []
  | n, d :: ds => .tup [.int n, d] :: enumL (n + 1) ds
theorem enumL_at : ∀ (n : Nat) (ds : List D) (i : Nat), (enumL n ds)[i]? = ds[i]?.map fun d => .tup [.int ((n + i : Nat) : Int), d]
  | _, [], i => by simp [enumL]
  | n, d :: ds, 0 => by simp [enumL]
  | n, d :: ds, i + 1 => by
    simp only [enumL, List.getElem?_cons_succ]
    rw [enumL_at (n + 1) ds i]
    congr 2
    funext d
    rw [show n + 1 + i = n + (i + 1) by omega]
theorem wk_enum {K : PySem.W.Frag} {B Hs : Hp} {a : Addr} {xs : List D} {vs : List V} (hq : SqL K Hs a vs) (hr : Rps K B Hs xs vs []) : Wk K B Hs (Ite K a) (enumL 0 xs) := fun i B1 H e1 e2 e3 => by
  have s1 : SqL K H a vs := e3.seq hq
  rw [enumL_at]
  refine ⟨fun d hd => ?_, fun hn => ⟨vs, s1, ?_⟩⟩
  · rw [Option.map_eq_some_iff] at hd
    obtain ⟨d0, hd, e⟩ := hd
    subst e
    obtain ⟨v, h1, h2⟩ := rps_get hr hd
    refine ⟨⟨vs, v, s1, h1⟩, fun x H' hy => ?_⟩
    obtain ⟨T, y, ex, hT, eH, hx⟩ := hy
    subst ex eH
    have := hx vs s1
    rw [h1] at this
    cases this
    obtain ⟨st, r⟩ := rp_pair (K := K) (d := .int i) (e := d0) e2 hT (x := .int i) ⟨rfl, rfl⟩ (rp_mono e1 e3 h2)
    exact ⟨B1, st, by rw [Nat.zero_add]; exact r⟩
  · rw [Option.map_eq_none_iff] at hn
    rw [rps_len hr]
    exact List.getElem?_eq_none_iff.mp hn
def zipL : List D → List D → List D
  | d :: ds, e :: es => .tup [d, e] :: zipL ds es
  | _, _ => []
theorem zipL_at : ∀ (ds es : List D) (i : Nat), (zipL ds es)[i]? = (ds[i]?).bind fun d => (es[i]?).map fun e => .tup [d, e]
  | [], es, i => by simp [zipL]
  | d :: ds, [], i => by
    simp only [zipL, List.getElem?_nil, Option.map_none]
    cases (d :: ds)[i]? <;> rfl
  | d :: ds, e :: es, 0 => by simp [zipL]
  | d :: ds, e :: es, i + 1 => by
    simp only [zipL, List.getElem?_cons_succ]
    exact zipL_at ds es i
theorem wk_zip {K : PySem.W.Frag} {B Hs : Hp} {a b : Addr} {xs ys : List D} {vs ws : List V} (hq : SqL K Hs a vs) (hr : Rps K B Hs xs vs []) (hq2 : SqL K Hs b ws) (hr2 : Rps K B Hs ys ws []) : Wk K B Hs (Itz K a b) (zipL xs ys) := fun i B1 H e1 e2 e3 => by
  have s1 : SqL K H a vs := e3.seq hq
  have s2 : SqL K H b ws := e3.seq hq2
  rw [zipL_at]
  refine ⟨fun d hd => ?_, fun hn => ⟨vs, ws, s1, s2, ?_⟩⟩
  · rw [Option.bind_eq_some_iff] at hd
    obtain ⟨d0, hd0, hd⟩ := hd
    rw [Option.map_eq_some_iff] at hd
    obtain ⟨e0, he0, e⟩ := hd
    subst e
    obtain ⟨v, h1, h2⟩ := rps_get hr hd0
    obtain ⟨w, h3, h4⟩ := rps_get hr2 he0
    refine ⟨⟨vs, ws, v, w, s1, s2, h1, h3⟩, fun x H' hy => ?_⟩
    obtain ⟨T, x1, y1, ex, hT, eH, hx, hy⟩ := hy
    subst ex eH
    have e5 := hx vs s1
    rw [h1] at e5
    cases e5
    have e6 := hy ws s2
    rw [h3] at e6
    cases e6
    obtain ⟨st, r⟩ := rp_pair e2 hT (rp_mono e1 e3 h2) (rp_mono e1 e3 h4)
    exact ⟨B1, st, r⟩
  · rw [rps_len hr, rps_len hr2]
    cases h1 : xs[i]? with
    | none => exact .inl (List.getElem?_eq_none_iff.mp h1)
    | some d =>
      rw [h1] at hn
      have : (ys[i]?) = none := by simpa using hn
      exact .inr (List.getElem?_eq_none_iff.mp this)
/-- lo, lo + c, .. -/
def rngL (lo c : Int) (n : Nat) : List D := (List.range n).map fun (i : Nat) => .int (lo + (i : Int) * c)
theorem rngL_at (lo c : Int) (n i : Nat) : (rngL lo c n)[i]? = if i < n then some (.int (lo + (i : Int) * c)) else none := by
  unfold rngL
  rw [List.getElem?_map]
  split
  · rename_i h
    rw [List.getElem?_range h]
    rfl
  · rename_i h
    rw [List.getElem?_eq_none (by simpa using h)]
    rfl
theorem wk_rng {K : PySem.W.Frag} {B Hs : Hp} {lo : Int} {n : Nat} : Wk K B Hs (Itr lo n) (rngL lo 1 n) := fun i B1 H e1 e2 e3 => by
  rw [rngL_at]
  refine ⟨fun d hd => ?_, fun hn => ?_⟩
  · split at hd
    · rename_i hi
      cases hd
      refine ⟨hi, fun x H' hy => ?_⟩
      obtain ⟨e4, e5⟩ := hy
      subst e4 e5
      exact ⟨B1, .refl e2, by unfold Rp; exact ⟨by rw [Int.mul_one], rfl⟩⟩
    · cases hd
  · split at hn
    · cases hn
    · rename_i h
      exact Nat.le_of_not_lt h
theorem wk_rngC {K : PySem.W.Frag} {B Hs : Hp} {lo c : Int} {n : Nat} : Wk K B Hs (Itc lo c n) (rngL lo c n) := fun i B1 H e1 e2 e3 => by
  rw [rngL_at]
  refine ⟨fun d hd => ?_, fun hn => ?_⟩
  · split at hd
    · rename_i hi
      cases hd
      refine ⟨hi, fun x H' hy => ?_⟩
      obtain ⟨e4, e5⟩ := hy
      subst e4 e5
      exact ⟨B1, .refl e2, by unfold Rp; exact ⟨rfl, rfl⟩⟩
    · cases hd
  · split at hn
    · cases hn
    · rename_i h
      exact Nat.le_of_not_lt h
/-- what a value gives as a source: where it stands -/
theorem srcL_of {K : PySem.W.Frag} {d : D} {b : Bool} {xs : List D} {B0 H0 B H : Hp} {v : V} {q : List Addr} (e : srcL d = some (b, xs)) (st : Step B0 H0 B H) (r : Rp K B H d v q) (fr : ∀ p ∈ q, H0 p = none) :
    ∃ a vs B', v = .ref a ∧ Step B0 H0 B' H ∧ Same B B' ∧ SqL K (hs b B' H) a vs ∧ Rps K B' (hs b B' H) xs vs [] := by
  have fz : ∀ {a : Addr} {vs : List V} {ys : List D}, Nd K B H .fz a vs ∨ Nd K B H .sc a vs → D.stos ys = true → Rps K B H ys vs [] → v = .ref a → b = false → xs = ys → ∃ a vs B', v = .ref a ∧ Step B0 H0 B' H ∧ Same B B' ∧ SqL K (hs b B' H) a vs ∧ Rps K B' (hs b B' H) xs vs [] := fun {a vs ys} n h1 r e1 e2 e3 => by
    subst e2 e3
    refine ⟨a, vs, B, e1, st, .refl _, ?_, rps_kp st.i h1 r⟩
    rcases n with n | n
    · exact sqL_kp st.i (.of n)
    · exact sqL_kp st.i n
  unfold srcL at e
  split at e
  · split at e
    · cases e
      rename_i hz
      unfold Rp at r
      obtain ⟨a, vs, qs, e1, n, q2, r⟩ := r
      rw [q2.2] at r
      exact fz (.inl n) hz r e1 rfl rfl
    · cases e
  · split at e
    · cases e
      rename_i hz
      unfold Rp at r
      obtain ⟨a, vs, qs, e1, n, q2, r⟩ := r
      rw [q2.2] at r
      exact fz (.inr n) hz r e1 rfl rfl
    · cases e
  · cases e
    unfold Rp at r
    obtain ⟨a, vs, qs, e1, n, q2, r⟩ := r
    exact ⟨a, vs, B, e1, st, .refl _, .of n, rps_bor r⟩
  · unfold Rp at r
    obtain ⟨a, vs, qs, e1, n, q2, r⟩ := r
    split at e
    · cases e
      rename_i hz
      subst q2
      have k1 : Same B (ovr B H (a :: qs)) := same_ovr st.i
      have r2 := rps_frz k1 hz (fun p hp o ho => ovr_mem (ps := a :: qs) (by simp [hp]) ho) r
      have st2 : Step B0 H0 (ovr B H (a :: qs)) H := ⟨st.b.trans k1, st.h, ovr_same st.i, fun p ys hb hh => ovr_none (fun z => by rw [fr p z] at hh; cases hh) (st.n p ys hb hh)⟩
      exact ⟨a, vs, _, e1, st2, k1, sqL_kp st2.i (.of (ovr_mem (by simp) n)), rps_kp st2.i (stos_frzs _) r2⟩
    · cases e
      exact ⟨a, vs, B, e1, st, .refl _, .of n, rps_bor r⟩
  · cases e
theorem srcT_of {K : PySem.W.Frag} {d : D} {b : Bool} {xs : List D} {B0 H0 B H : Hp} {v : V} {q : List Addr} (e : srcT d = some (b, xs)) (st : Step B0 H0 B H) (r : Rp K B H d v q) (fr : ∀ p ∈ q, H0 p = none) :
    ∃ a vs B', v = .ref a ∧ Step B0 H0 B' H ∧ SqT K (hs b B' H) a vs ∧ Rps K B' (hs b B' H) xs vs [] := by
  unfold srcT at e
  split at e
  · unfold Rp at r
    obtain ⟨a, vs, e1, n, r⟩ := r
    split at e
    · cases e
      rename_i hz
      have k1 : Same B (ovr B H q) := same_ovr st.i
      have r2 := rps_frz k1 hz (fun p hp o ho => ovr_mem hp ho) r
      have st2 : Step B0 H0 (ovr B H q) H := ⟨st.b.trans k1, st.h, ovr_same st.i, fun p ys hb hh => ovr_none (fun z => by rw [fr p z] at hh; cases hh) (st.n p ys hb hh)⟩
      exact ⟨a, vs, _, e1, st2, sqT_kp (.of n), rps_kp st2.i (stos_frzs _) r2⟩
    · cases e
      exact ⟨a, vs, B, e1, st, .of n, rps_bor r⟩
  · cases e
def R.src (o : Option (Bool × List D)) (k : List D → List D) : R (Bool × List D) := match o with
  | some (b, xs) => .ok (b, k xs)
  | none => .no
def xSrc (f : Env → R D) : Env → R (Bool × List D) := fun env => do
  let d ← f env
  R.of (srcL d)
def xSrcT (f : Env → R D) : Env → R (Bool × List D) := fun env => do
  let d ← f env
  R.of (srcT d)
def xSrcRev (f : Env → R D) : Env → R (Bool × List D) := fun env => do
  let d ← f env
  let s ← R.of (srcL d)
  R.ok (s.1, s.2.reverse)
def xSrcEnum (f : Env → R D) : Env → R (Bool × List D) := fun env => do
  let d ← f env
  let s ← R.of (srcL d)
  R.ok (s.1, enumL 0 s.2)
def xSrcZip (f g : Env → R D) : Env → R (Bool × List D) := fun env => do
  let d ← f env
  let e ← g env
  let s ← R.of (srcL d)
  let t ← R.of (srcL e)
  R.ok (s.1 || t.1, zipL s.2 t.2)
def intR : D → R Int
  | .int i => if -4611686018427387904 ≤ i ∧ i < 4611686018427387904 then .ok i else .no
  | _ => .no
def xRng1 (f : Env → R D) : Env → R (Bool × List D) := fun env => do
  let d ← f env
  let n ← intR d
  R.ok (false, rngL 0 1 n.toNat)
def xRng2 (f g : Env → R D) : Env → R (Bool × List D) := fun env => do
  let d ← f env
  let e ← g env
  let lo ← intR d
  let hi ← intR e
  R.ok (false, rngL lo 1 (hi - lo).toNat)
/-- range(a, b, -1) -/
def xRng3 (f g : Env → R D) : Env → R (Bool × List D) := fun env => do
  let d ← f env
  let e ← g env
  let lo ← intR d
  let hi ← intR e
  R.ok (false, rngL lo (-1) (lo - hi).toNat)
def xRevRng1 (f : Env → R D) : Env → R (Bool × List D) := fun env => do
  let d ← f env
  let n ← intR d
  R.ok (false, rngL ((n.toNat : Int) - 1) (-1) n.toNat)
theorem intR_ok {W : WC} {K : PySem.W.Frag} {d : D} {B H : Hp} {σ : L2.St} {R' : It → Hp → Prop} {g : Int → R (Bool × List D)} (h : PstI K W B H σ R' (intR d >>= g)) : ∃ i, d = .int i ∧ -(2 ^ 62) ≤ i ∧ i < 2 ^ 62 ∧ PstI K W B H σ R' (g i) := by
  cases d with
  | int i =>
    by_cases hz : -4611686018427387904 ≤ i ∧ i < 4611686018427387904
    · have e : intR (.int i) = .ok i := if_pos hz
      rw [e] at h
      exact ⟨i, rfl, by omega, by omega, h⟩
    · have e : intR (.int i) = .no := if_neg hz
      rw [e] at h
      exact h.elim
  | _ => exact h.elim
section
variable {X : Cx} {W : WC} {tg e a b : Expr} {f g : Env → R D} {pos : Pos}
theorem of_src {K : PySem.W.Frag} {B H : Hp} {σ : L2.St} {R' : It → Hp → Prop} {o : Option (Bool × List D)} {g : Bool × List D → R (Bool × List D)} (h : PstI K W B H σ R' (R.of o >>= g)) : ∃ b xs, o = some (b, xs) ∧ PstI K W B H σ R' (g (b, xs)) := by
  cases o with
  | some s => exact ⟨s.1, s.2, rfl, h⟩
  | none => exact h.elim
theorem of_src' {K : PySem.W.Frag} {B H : Hp} {σ : L2.St} {R' : It → Hp → Prop} {o : Option (Bool × List D)} (h : PstI K W B H σ R' (R.of o)) : ∃ b xs, o = some (b, xs) ∧ PstI K W B H σ R' (.ok (b, xs)) := by
  cases o with
  | some s => exact ⟨s.1, s.2, rfl, h⟩
  | none => exact h.elim
theorem si_list (h : PE X e (tF X.K W f)) : PI X tg e (tI X.K W (xSrc f)) := by
  refine piI (pi_list h) fun σ H R' ⟨env, B, i, s, h⟩ => ?_
  refine seqE (P := PstI X.K W B H σ R') i s h (fun c z => z) (fun z => z) fun d v B1 H1 q e1 h1 st1 r nd fr => ?_
  obtain ⟨b, xs, e2, h2⟩ := of_src' h1
  obtain ⟨a, vs, B2, ev, st2, _, s2, r2⟩ := srcL_of e2 st1 r fun t ht => (fr t ht).1
  exact ⟨a, ev, ⟨vs, (hs_same st2.i).seq s2⟩, h2 (Itl X.K a) B2 H1 st2 (wk_list s2 r2)⟩
theorem si_tup (h : PE X e (tF X.K W f)) : PI X tg e (tI X.K W (xSrcT f)) := by
  refine piI (pi_tup h) fun σ H R' ⟨env, B, i, s, h⟩ => ?_
  refine seqE (P := PstI X.K W B H σ R') i s h (fun c z => z) (fun z => z) fun d v B1 H1 q e1 h1 st1 r nd fr => ?_
  obtain ⟨b, xs, e2, h2⟩ := of_src' h1
  obtain ⟨a, vs, B2, ev, st2, s2, r2⟩ := srcT_of e2 st1 r fun t ht => (fr t ht).1
  exact ⟨a, ev, ⟨vs, sqT_mono (hs_same st2.i) s2⟩, h2 (Itt X.K a) B2 H1 st2 (wk_tup s2 r2)⟩
theorem si_rev {p : Pos} {x : Str} (hx : x = "reversed") (hg : Gl X "reversed") (hm : X.mg "reversed" = none) (ha : PE X e (tF X.K W f)) (hs1 : starEach [e] X.env = [(false, eval e X.env)] := by rfl) : PI X tg (.Call (.Name "reversed" p) [e] [] pos) (tI X.K W (xSrcRev f)) := by
  refine piI (pi_reversed hg hm (pa_cons ha pa_nil hs1) hs1) fun σ H R' ⟨env, B, i, s, h⟩ => ?_
  refine seqE (P := PstI X.K W B H σ R') i s h (fun c z => z) (fun z => z) fun d v B1 H1 q e1 h1 st1 r nd fr => ?_
  obtain ⟨b, xs, e2, h2⟩ := of_src h1
  obtain ⟨a, vs, B2, ev, st2, _, s2, r2⟩ := srcL_of e2 st1 r fun t ht => (fr t ht).1
  subst ev
  exact ⟨a, vs, rfl, (hs_same st2.i).seq s2, h2 (Itv X.K a vs.length) B2 H1 st2 (wk_rev s2 r2)⟩
theorem si_enum {p tpos : Pos} {elts : List Expr} {kk : Nat} (hg : Gl X "enumerate") (hm : X.mg "enumerate" = none) (ha : PE X e (tF X.K W f)) (hs1 : starEach [e] X.env = [(false, eval e X.env)] := by rfl) : PI X (.Tuple elts kk tpos) (.Call (.Name "enumerate" p) [e] [] pos) (tI X.K W (xSrcEnum f)) := by
  refine piI (pi_enum hg hm (pa_cons ha pa_nil hs1) hs1) fun σ H R' ⟨env, B, i, s, h⟩ => ?_
  refine seqE (P := PstI X.K W B H σ R') i s h (fun c z => z) (fun z => z) fun d v B1 H1 q e1 h1 st1 r nd fr => ?_
  obtain ⟨b, xs, e2, h2⟩ := of_src h1
  obtain ⟨a, vs, B2, ev, st2, _, s2, r2⟩ := srcL_of e2 st1 r fun t ht => (fr t ht).1
  subst ev
  exact ⟨a, vs, rfl, (hs_same st2.i).seq s2, h2 (Ite X.K a) B2 H1 st2 (wk_enum s2 r2)⟩
theorem si_zip {e2 : Expr} {p tpos : Pos} {elts : List Expr} {kk : Nat} (hg : Gl X "zip") (hm : X.mg "zip" = none) (ha : PE X e (tF X.K W f)) (hb : PE X e2 (tF X.K W g))
    (hs1 : starEach [e, e2] X.env = (false, eval e X.env) :: starEach [e2] X.env := by rfl) (hs2 : starEach [e2] X.env = (false, eval e2 X.env) :: starEach [] X.env := by rfl) (hpl : (backTo pos (starEach [e2] X.env)).any (·.1) = false := by rfl) : PI X (.Tuple elts kk tpos) (.Call (.Name "zip" p) [e, e2] [] pos) (tI X.K W (xSrcZip f g)) := by
  refine piI (pi_zip hg hm (pa_cons ha (pa_cons hb pa_nil hs2) hs1) hs1 hpl) fun σ H R' ⟨env, B, i, s, h⟩ => ?_
  refine seqE (P := PstI X.K W B H σ R') i s h (fun c z => z) (fun z => z) fun d v B1 H1 q e1 h1 st1 r nd fr => ?_
  refine seqE (P := PstI X.K W B H σ R') st1.i (s.step st1) h1 (fun c z => erBack (P := True) st1.h z) (fun z => z) fun d2 w B2 H2 q2 e2 h2 st2 r2 nd2 fr2 => ?_
  obtain ⟨b1, xs1, e3, h3⟩ := of_src h2
  obtain ⟨b2, xs2, e4, h4⟩ := of_src h3
  have st := st1.trans st2
  obtain ⟨a, vs, B3, ev, st3, k3, s3, r3⟩ := srcL_of e3 st (rp_mono st2.b st2.h r) fun t ht => (fr t ht).1
  obtain ⟨a', vs', B4, ev', st4, k4, s4, r4⟩ := srcL_of e4 st3 (rp_mono k3 (.refl _) r2) fun t ht => st1.h.free (fr2 t ht).1
  subst ev ev'
  have q3 : Same (hs b1 B3 H2) (hs (b1 || b2) B4 H2) := by
    cases b1 with
    | true => exact .refl _
    | false =>
      cases b2 with
      | true => exact kp_same st3.i
      | false => exact kp_up k4
  have q4 : Same (hs b2 B4 H2) (hs (b1 || b2) B4 H2) := by
    cases b2 with
    | true => rw [Bool.or_true]; exact .refl _
    | false =>
      cases b1 with
      | true => exact kp_same st4.i
      | false => exact .refl _
  exact ⟨a, a', vs, vs', rfl, (hs_same st3.i).seq s3, (hs_same st4.i).seq s4, h4 (Itz X.K a a') B4 H2 st4 (wk_zip (q3.seq s3) (rps_mono k4 q3 r3) (q4.seq s4) (rps_mono (.refl _) q4 r4))⟩
theorem si_rng1 {p : Pos} (hg : Gl X "range") (hm : X.mg "range" = none) (ha : PE X a (tF X.K W f)) (hs1 : starEach [a] X.env = [(false, eval a X.env)] := by rfl) : PI X tg (.Call (.Name "range" p) [a] [] pos) (tI X.K W (xRng1 f)) := by
  refine piI (pi_range1 hg hm (pa_cons ha pa_nil hs1) hs1) fun σ H R' ⟨env, B, i, s, h⟩ => ?_
  refine seqE (P := PstI X.K W B H σ R') i s h (fun c z => z) (fun z => z) fun d v B1 H1 q e1 h1 st1 r nd fr => ?_
  obtain ⟨n, e2, b1, b2, h2⟩ := intR_ok h1
  subst e2
  rw [rp_int r]
  exact ⟨n, rfl, b1, b2, h2 (Itr 0 n.toNat) B1 H1 st1 wk_rng⟩
theorem si_rng2 {p : Pos} (hg : Gl X "range") (hm : X.mg "range" = none) (ha : PE X a (tF X.K W f)) (hb : PE X b (tF X.K W g)) (hs1 : starEach [a, b] X.env = [(false, eval a X.env), (false, eval b X.env)] := by rfl) (hs2 : starEach [b] X.env = [(false, eval b X.env)] := by rfl) : PI X tg (.Call (.Name "range" p) [a, b] [] pos) (tI X.K W (xRng2 f g)) := by
  refine piI (pi_range2 hg hm (pa_cons ha (pa_cons hb pa_nil hs2) (by rw [hs1, hs2])) hs1 hs2) fun σ H R' ⟨env, B, i, s, h⟩ => ?_
  refine seqE (P := PstI X.K W B H σ R') i s h (fun c z => z) (fun z => z) fun d v B1 H1 q e1 h1 st1 r nd fr => ?_
  refine seqE (P := PstI X.K W B H σ R') st1.i (s.step st1) h1 (fun c z => erBack (P := True) st1.h z) (fun z => z) fun d2 w B2 H2 q2 e2 h2 st2 r2 nd2 fr2 => ?_
  obtain ⟨n, e3, b1, b2, h3⟩ := intR_ok h2
  obtain ⟨m, e4, b3, b4, h4⟩ := intR_ok h3
  subst e3 e4
  rw [rp_int r, rp_int r2]
  exact ⟨n, m, rfl, ⟨b1, b2, b3, b4⟩, h4 (Itr n (m - n).toNat) B2 H2 (st1.trans st2) wk_rng⟩
theorem si_rng3 {p p2 p3 : Pos} {kc : Nat} (hg : Gl X "range") (hm : X.mg "range" = none) (ha : PE X a (tF X.K W f)) (hb : PE X b (tF X.K W g)) (hs1 : starEach [a, b, .UnaryOp .USub (.Constant (.int 1) kc p2) p3] X.env = (false, eval a X.env) :: starEach [b, .UnaryOp .USub (.Constant (.int 1) kc p2) p3] X.env := by rfl)
    (hs2 : starEach [b, .UnaryOp .USub (.Constant (.int 1) kc p2) p3] X.env = (false, eval b X.env) :: starEach [.UnaryOp .USub (.Constant (.int 1) kc p2) p3] X.env := by rfl) (hs3 : starEach [.UnaryOp .USub (.Constant (.int 1) kc p2) p3] X.env = (false, eval (.UnaryOp .USub (.Constant (.int 1) kc p2) p3) X.env) :: starEach [] X.env := by rfl)
    (hi : ∀ ta : TA, PA X [a, b, .UnaryOp .USub (.Constant (.int 1) kc p2) p3] ta → PI X tg (.Call (.Name "range" p) [a, b, .UnaryOp .USub (.Constant (.int 1) kc p2) p3] [] pos) (iRng3 ta)) : PI X tg (.Call (.Name "range" p) [a, b, .UnaryOp .USub (.Constant (.int 1) kc p2) p3] [] pos) (tI X.K W (xRng3 f g)) := by
  refine piI (hi _ (pa_cons ha (pa_cons hb (pa_cons (pe_un un_neg pe_int) pa_nil hs3) hs2) hs1)) fun σ H R' ⟨env, B, i, s, h⟩ => ?_
  refine seqE (P := PstI X.K W B H σ R') i s h (fun c z => z) (fun z => z) fun d v B1 H1 q e1 h1 st1 r nd fr => ?_
  refine seqE (P := PstI X.K W B H σ R') st1.i (s.step st1) h1 (fun c z => erBack (P := True) st1.h z) (fun z => z) fun d2 w B2 H2 q2 e2 h2 st2 r2 nd2 fr2 => ?_
  obtain ⟨n, e3, b1, b2, h3⟩ := intR_ok h2
  obtain ⟨m, e4, b3, b4, h4⟩ := intR_ok h3
  subst e3 e4
  rw [rp_int r, rp_int r2]
  exact ⟨1, rfl, n, m, -1, (n - m).toNat, rfl, RgC.neg b1 b2 b3 b4, h4 (Itc n (-1) (n - m).toNat) B2 H2 (st1.trans st2) wk_rngC⟩
theorem si_revRng1 {p p2 pos2 : Pos} (hg : Gl X "reversed") (hm : X.mg "reversed" = none) (hg2 : Gl X "range") (hm2 : X.mg "range" = none) (ha : PE X a (tF X.K W f)) (hs1 : starEach [.Call (.Name "range" p2) [a] [] pos2] X.env = (false, eval (.Call (.Name "range" p2) [a] [] pos2) X.env) :: starEach [] X.env := by rfl)
    (hs2 : starEach [a] X.env = (false, eval a X.env) :: starEach [] X.env := by rfl) : PI X tg (.Call (.Name "reversed" p) [.Call (.Name "range" p2) [a] [] pos2] [] pos) (tI X.K W (xRevRng1 f)) := by
  refine piI (pi_revR hg hm (prg_1 hg2 hm2 ha hs2) hs1) fun σ H R' ⟨env, B, i, s, h⟩ => ?_
  refine seqE (P := PstI X.K W B H σ R') i s h (fun c z => z) (fun z => z) fun d v B1 H1 q e1 h1 st1 r nd fr => ?_
  obtain ⟨n, e2, b1, b2, h2⟩ := intR_ok h1
  subst e2
  rw [rp_int r]
  refine ⟨n, rfl, by omega, by omega, b1, b2, ?_⟩
  rw [show (n - 0).toNat = n.toNat by omega, show (0 : Int) + (n.toNat : Int) - 1 = (n.toNat : Int) - 1 by omega]
  exact h2 (Itc ((n.toNat : Int) - 1) (-1) n.toNat) B1 H1 st1 wk_rngC
end
end BC

namespace BC
open PySem PySem.Spec PyProof.Rows L2

/-! ## list comprehensions -/
def wipeE (env : Env) : List Nat → Env
  | [] => env
  | v :: vs => (wipeE env vs).set v none
theorem wipeE_length (env : Env) : ∀ vs : List Nat, (wipeE env vs).length = env.length
  | [] => rfl
  | v :: vs => by unfold wipeE; rw [List.length_set, wipeE_length env vs]
theorem wipeE_some {env : Env} {i : Nat} {x : D} : ∀ {vs : List Nat}, (wipeE env vs)[i]? = some (some x) → env[i]? = some (some x) ∧ i ∉ vs
  | [], h => ⟨h, by simp⟩
  | v :: vs, h => by
    unfold wipeE at h
    by_cases hi : v = i
    · subst hi
      by_cases hv : v < (wipeE env vs).length
      · rw [List.getElem?_set_self hv] at h; cases h
      · rw [List.getElem?_eq_none (by simpa using hv)] at h; cases h
    · rw [List.getElem?_set_ne hi] at h
      obtain ⟨h1, h2⟩ := wipeE_some h
      exact ⟨h1, by simp only [List.mem_cons, not_or]; exact ⟨fun e => hi e.symm, h2⟩⟩
theorem wipe_same {σ : L2.St} {j : Nat} {x : Option V} : ∀ {vs : List Nat}, j ∈ vs → wipe (σ.set j x) vs = wipe σ vs
  | [], h => by cases h
  | v :: vs, h => by
    unfold wipe
    by_cases hv : v = j
    · subst hv
      by_cases hm : v ∈ vs
      · rw [wipe_same hm]
      · rw [wipe_set_out hm, List.set_set]
    · have hm : j ∈ vs := by
        rcases List.mem_cons.mp h with z | z
        · exact absurd z.symm hv
        · exact z
      rw [wipe_same hm]
where
  wipe_set_out {σ : L2.St} {j : Nat} {x : Option V} : ∀ {vs : List Nat}, j ∉ vs → wipe (σ.set j x) vs = (wipe σ vs).set j x
    | [], _ => rfl
    | v :: vs, h => by
      simp only [List.mem_cons, not_or] at h
      unfold wipe
      rw [wipe_set_out h.2, List.set_comm _ _ h.1]
theorem wipe_wipe {σ : L2.St} : ∀ {vs us : List Nat}, (∀ v ∈ vs, v ∈ us) → wipe (wipe σ vs) us = wipe σ us
  | [], us, _ => rfl
  | v :: vs, us, h => by
    show wipe ((wipe σ vs).set v none) us = _
    rw [wipe_same (h v (by simp)), wipe_wipe fun x hx => h x (by simp [hx])]
section
variable {K : PySem.W.Frag} {W : WC} {B H : Hp} {env : Env} {σ : L2.St}
theorem SlE.wipe (s : SlE K B H env σ) (vs : List Nat) : SlE K B H (wipeE env vs) (L2.wipe σ vs) := ⟨by rw [L2.wipe_length, wipeE_length, s.1], fun i d e => by
  obtain ⟨e1, e2⟩ := wipeE_some e
  obtain ⟨v, h1, h2⟩ := s.2 i d e1
  exact ⟨v, by rw [wipe_out e2]; exact h1, h2⟩⟩
theorem SlE.set (s : SlE K B H env σ) {d : D} {v : V} {p : List Addr} (r : Rp K B H d v p) (j : Nat) : SlE K B H (env.set j (some d)) (σ.set j (some v)) := ⟨by simp [s.1], fun i d' e => by
  by_cases h : j = i
  · subst h
    have hj : j < env.length := by
      have := (List.getElem?_eq_some_iff.mp e).1
      simpa using this
    rw [List.getElem?_set_self hj] at e
    cases e
    exact ⟨v, List.getElem?_set_self (by rw [s.1]; exact hj), rp_bor r⟩
  · rw [List.getElem?_set_ne h] at e
    obtain ⟨w, h1, h2⟩ := s.2 i d' e
    exact ⟨w, by rw [List.getElem?_set_ne h]; exact h1, h2⟩⟩
end
/-- a target, told by what it does to the names' values -/
abbrev Tgt := D → Env → Option Env
def tgN (j : Nat) : Tgt := fun d env => some (env.set j (some d))
def setAll : List Nat → List D → Env → Option Env
  | [], [], env => some env
  | j :: js, d :: ds, env => setAll js ds (env.set j (some d))
  | _, _, _ => none
def tgT (js : List Nat) : Tgt := fun d env => match d with
  | .tup ds => setAll js ds env
  | _ => none
def gAll : List Nat → TGs
  | [] => gNil
  | j :: js => gCons (gName j) (gAll js)
def TgE (K : PySem.W.Frag) (g : TG) (tg : Tgt) (vs : List Nat) : Prop := ∀ d v env env' σ B H Q, tg d env = some env' → Same B H → SlE K B H env σ → Rp K B H d v [] → (∀ σ', SlE K B H env' σ' → wipe σ' vs = wipe σ vs → Q σ' H) → g v σ H Q
theorem te_name {K : PySem.W.Frag} {j : Nat} {vs : List Nat} (h : j ∈ vs) : TgE K (gName j) (tgN j) vs := fun d v env env' σ B H Q e i s r k => by
  cases e
  exact k _ (s.set r j) (wipe_same h)
theorem te_all {K : PySem.W.Frag} {vs us : List Nat} {B H : Hp} : ∀ {js : List Nat} {ds : List D} {ws : List V} {env env' : Env} {σ : L2.St} {Q : L2.St → Hp → Prop}, (∀ j ∈ js, j ∈ vs) → setAll js ds env = some env' → SlE K B H env σ → Rps K B H ds ws [] →
    (∀ σ', SlE K B H env' σ' → wipe σ' vs = wipe σ vs → Q σ' H) → gAll js ws σ H Q
  | [], [], ws, env, env', σ, Q, _, e, s, r, k => by
    cases e
    exact ⟨r.1, k σ s rfl⟩
  | j :: js, d :: ds, ws, env, env', σ, Q, hj, e, s, r, k => by
    unfold Rps at r
    obtain ⟨w, wr, p, q, e1, e2, r1, r2⟩ := r
    have e3 : p = [] ∧ q = [] := by simpa using e2.symm
    rw [e3.1] at r1
    rw [e3.2] at r2
    refine ⟨w, wr, e1, ?_⟩
    exact te_all (us := us) (fun x hx => hj x (by simp [hx])) e (s.set r1 j) r2 fun σ' s' hw => k σ' s' (hw.trans (wipe_same (hj j (by simp))))
  | [], _ :: _, _, _, _, _, _, _, e, _, _, _ => by cases e
  | _ :: _, [], _, _, _, _, _, _, e, _, _, _ => by cases e
theorem setAll_len : ∀ {js : List Nat} {ds : List D} {env env' : Env}, setAll js ds env = some env' → js.length = ds.length
  | [], [], _, _, _ => rfl
  | j :: js, d :: ds, env, env', e => by simp [setAll_len (show setAll js ds (env.set j (some d)) = some env' from e)]
  | [], _ :: _, _, _, e => by cases e
  | _ :: _, [], _, _, e => by cases e
theorem te_tup {K : PySem.W.Frag} {js vs : List Nat} {n : Nat} (h : ∀ j ∈ js, j ∈ vs) (hn : n = js.length) : TgE K (gTup K n (gAll js)) (tgT js) vs := fun d v env env' σ B H Q e i s r k => by
  cases d with
  | tup ds =>
    obtain ⟨a, ws, ev, s1, r1⟩ := rp_tup r
    refine ⟨a, ws, ev, s1, ?_, te_all (us := []) h e s r1 k⟩
    rw [rps_len r1, hn]
    exact (setAll_len e).symm
  | _ => cases e
def lcGo (tg : Tgt) (c : Env → R Bool) (f : Env → R D) (env : Env) : List D → R (List D)
  | [] => .ok []
  | d :: ds => match tg d env with
    | none => .no
    | some e => do
      let b ← c e
      if b = true then do
        let y ← f e
        if y.sto = true then do
          let ys ← lcGo tg c f env ds
          R.ok (y :: ys)
        else R.no
      else lcGo tg c f env ds
def xLc (src : Env → R (Bool × List D)) (tg : Tgt) (c : Env → R Bool) (f : Env → R D) (vs : List Nat) : Env → R D := fun env => do
  let s ← src env
  match lcGo tg c f (wipeE env vs) s.2 with
  | .ok ys => if s.2.length ≤ 16777216 then R.ok (.lst .ow ys) else R.no
  | _ => R.no
theorem stos_app : ∀ {xs ys : List D}, D.stos xs = true → D.stos ys = true → D.stos (xs ++ ys) = true
  | [], _, _, h => h
  | x :: xs, ys, h1, h2 => by
    simp only [D.stos, Bool.and_eq_true] at h1
    show (x.sto && D.stos (xs ++ ys)) = true
    rw [h1.1, stos_app h1.2 h2]
    rfl
theorem tLc_of {K : PySem.W.Frag} {W : WC} {src : Env → R (Bool × List D)} {g : TG} {tg : Tgt} {c : Env → R Bool} {f : Env → R D} {vs : List Nat} {σ : L2.St} {H : Hp} {Q : VK} (hg : TgE K g tg vs) (h : tF K W (xLc src tg c f vs) σ H Q) :
    tLc (tI K W src) g (tFT K W0 c) (tF K W0 f) vs σ H Q := by
  obtain ⟨env, B, i0, s0, h⟩ := h
  refine ⟨env, B, i0, s0, ?_⟩
  unfold xLc at h
  cases es : src env with
  | er cc => rw [es] at h; exact h
  | no => rw [es] at h; exact h.elim
  | ok bx =>
    rw [es] at h
    obtain ⟨bb, xs⟩ := bx
    replace h : Pst K W B H σ Q (match lcGo tg c f (wipeE env vs) xs with | .ok ys => if xs.length ≤ 16777216 then R.ok (.lst .ow ys) else R.no | _ => R.no) := h
    cases el : lcGo tg c f (wipeE env vs) xs with
    | er cc => rw [el] at h; exact h.elim
    | no => rw [el] at h; exact h.elim
    | ok total =>
      rw [el] at h
      by_cases hz : xs.length ≤ 16777216
      · replace h : Pst K W B H σ Q (if xs.length ≤ 16777216 then R.ok (.lst .ow total) else R.no) := h
        rw [if_pos hz] at h
        intro J B1 H1 st1 wk Dl hD
        refine ⟨fun i m Hc => ∃ B2 ys ws qs zs, m = xs.length - i ∧ i ≤ xs.length ∧ Step B1 H1 B2 Hc ∧ Hc Dl = some (.lst ws) ∧ B2 Dl = none ∧ Rps K B2 Hc ys ws qs ∧ D.stos ys = true ∧ qs.Nodup ∧ Dl ∉ qs ∧ (∀ q ∈ qs, H1 q = none ∧ B2 q = none) ∧ ys.length ≤ i ∧
          lcGo tg c f (wipeE env vs) (xs.drop i) = .ok zs ∧ total = ys ++ zs, ⟨xs.length, B1, [], [], [], total, rfl, Nat.zero_le _, step_new st1.i hD, upd_same, noB st1.i hD, ⟨rfl, rfl⟩, rfl, .nil, by simp, (by intro q hq; cases hq), Nat.le_refl _, el, rfl⟩, ?_⟩
        rintro i m Hc ⟨B2, ys, ws, qs, zs, rfl, hi, st2, hDl, hBl, ry, hst, nd, nDl, fr, hly, egl, etot⟩
        have wki := wk i B2 Hc st2.b st2.i ((hs_same st1.i).trans st2.h)
        cases ex : xs[i]? with
        | none =>
          refine .inl ⟨wki.2 ex, ?_⟩
          have hlen := List.getElem?_eq_none_iff.mp ex
          rw [List.drop_of_length_le hlen] at egl
          cases egl
          rw [List.append_nil] at etot
          subst etot
          refine h (.ref Dl) B2 Hc (Dl :: qs) (st1.trans st2) ?_ (List.nodup_cons.mpr ⟨nDl, nd⟩) fun q hq => ?_
          · unfold Rp
            exact ⟨Dl, ws, qs, rfl, hDl, rfl, ry⟩
          · rcases List.mem_cons.mp hq with e | e
            · subst e
              exact ⟨st1.h.free hD, hBl⟩
            · exact ⟨st1.h.free (fr q e).1, (fr q e).2⟩
        | some d =>
          obtain ⟨hgo, hy⟩ := wki.1 d ex
          have hlt := (List.getElem?_eq_some_iff.mp ex).1
          have edrop : xs.drop i = d :: xs.drop (i + 1) := by
            rw [List.drop_eq_getElem_cons hlt]
            congr 1
            exact (List.getElem?_eq_some_iff.mp ex).2
          rw [edrop] at egl
          refine .inr ⟨hgo, fun H' => ∃ m', m' < xs.length - i ∧ ∃ B2 ys ws qs zs, m' = xs.length - (i + 1) ∧ i + 1 ≤ xs.length ∧ Step B1 H1 B2 H' ∧ H' Dl = some (.lst ws) ∧ B2 Dl = none ∧ Rps K B2 H' ys ws qs ∧ D.stos ys = true ∧ qs.Nodup ∧ Dl ∉ qs ∧ (∀ q ∈ qs, H1 q = none ∧ B2 q = none) ∧ ys.length ≤ i + 1 ∧
            lcGo tg c f (wipeE env vs) (xs.drop (i + 1)) = .ok zs ∧ total = ys ++ zs, fun H' z => z, fun x H' hx => ?_⟩
          obtain ⟨B3, st3, rx⟩ := hy x H' hx
          have st23 := st2.trans st3
          have sl := (s0.step (st1.trans st23)).wipe vs
          unfold lcGo at egl
          cases et : tg d (wipeE env vs) with
          | none => rw [et] at egl; cases egl
          | some e1 =>
            rw [et] at egl
            refine hg d x (wipeE env vs) e1 (wipe σ vs) B3 H' _ et st3.i sl rx fun σ2 sl2 hw => ?_
            refine ⟨hw.trans (wipe_wipe fun _ z => z), ?_⟩
            refine ⟨e1, B3, st3.i, sl2, ?_⟩
            cases ec : c e1 with
            | er cc => simp only [ec, R.bind_er] at egl; cases egl
            | no => simp only [ec, R.bind_no] at egl; cases egl
            | ok b =>
              simp only [ec, R.bind_ok] at egl
              intro B4 H4 st4
              cases b with
              | false =>
                simp only [Bool.false_eq_true, if_false] at egl
                have st24 := st3.trans st4
                show ∃ m', _
                refine ⟨xs.length - (i + 1), by omega, B4, ys, ws, qs, zs, rfl, hlt, st2.trans st24, st24.h _ _ hDl, st24.n _ _ hBl hDl, rps_mono st24.b st24.h ry, hst, nd, nDl, fun q hq => ⟨(fr q hq).1, ?_⟩, by omega, egl, etot⟩
                obtain ⟨us, hu⟩ := rps_own ry q hq
                exact st24.n q us (fr q hq).2 hu
              | true =>
                simp only [if_true] at egl
                show tF K W0 f σ2 H4 _
                have sl4 := sl2.step st4
                refine ⟨e1, B4, st4.i, sl4, ?_⟩
                cases ef : f e1 with
                | er cc => simp only [ef, R.bind_er] at egl; cases egl
                | no => simp only [ef, R.bind_no] at egl; cases egl
                | ok y =>
                  simp only [ef, R.bind_ok] at egl
                  by_cases hys : y.sto = true
                  · simp only [hys, if_true] at egl
                    cases eg2 : lcGo tg c f (wipeE env vs) (xs.drop (i + 1)) with
                    | er cc => simp only [eg2, R.bind_er] at egl; cases egl
                    | no => simp only [eg2, R.bind_no] at egl; cases egl
                    | ok zs2 =>
                      simp only [eg2, R.bind_ok] at egl
                      cases egl
                      intro v B5 H5 q5 st5 r5 nd5 fr5
                      have st24 := st3.trans st4
                      have st25 := st24.trans st5
                      have hD5 := st25.h _ _ hDl
                      have hD4 := st24.h _ _ hDl
                      refine ⟨ws, hD5, by rw [rps_len ry, sizeLine_eq]; omega, ?_⟩
                      have nq5 : Dl ∉ q5 := fun z => by rw [(fr5 Dl z).1] at hD4; cases hD4
                      have nall : Dl ∉ qs ++ q5 := by simp only [List.mem_append, not_or]; exact ⟨nDl, nq5⟩
                      have hB5 : B5 Dl = none := st25.n _ _ hBl hDl
                      have ry5 := rps_mono st25.b st25.h ry
                      have rall : Rps K B5 H5 (ys ++ [y]) (ws ++ [v]) (qs ++ q5) := rps_app ry5 (by
                        unfold Rps
                        exact ⟨v, [], q5, [], rfl, by simp, r5, ⟨rfl, rfl⟩⟩)
                      have sall : D.stos (ys ++ [y]) = true := stos_app hst (by simp [D.stos, hys])
                      have hH1 : H1 Dl = none := hD
                      refine ⟨xs.length - (i + 1), by omega, B5, ys ++ [y], ws ++ [v], qs ++ q5, zs2, rfl, hlt, ?_, upd_same, hB5, rps_upd hD5 hB5 sall nall rall, sall, ?_, nall, ?_, by simp; omega, rfl, by simp [etot]⟩
                      · have stt := st2.trans st25
                        refine ⟨stt.b, fun p o e => ?_, fun p o e => ?_, stt.n⟩
                        · have : p ≠ Dl := fun z => by subst z; rw [hH1] at e; cases e
                          rw [upd_ne this]
                          exact stt.h p o e
                        · have : p ≠ Dl := fun z => by subst z; rw [hB5] at e; cases e
                          rw [upd_ne this]
                          exact stt.i p o e
                      · refine List.nodup_append.mpr ⟨nd, nd5, fun a ha b hb e => ?_⟩
                        subst e
                        obtain ⟨us, hu⟩ := rps_own ry a ha
                        have := st24.h _ _ hu
                        rw [(fr5 a hb).1] at this
                        cases this
                      · intro q hq
                        rcases List.mem_append.mp hq with z | z
                        · obtain ⟨us, hu⟩ := rps_own ry q z
                          exact ⟨(fr q z).1, st25.n q us (fr q z).2 hu⟩
                        · exact ⟨(st2.trans st24).h.free (fr5 q z).1, (fr5 q z).2⟩
                  · simp only [hys] at egl
                    cases egl
      · replace h : Pst K W B H σ Q (if xs.length ≤ 16777216 then R.ok (.lst .ow total) else R.no) := h
        rw [if_neg hz] at h
        exact h.elim
def xYes : Env → R Bool := fun _ => .ok true
section
variable {X : Cx} {W : WC} {f : Env → R D} {c : Env → R Bool} {src : Env → R (Bool × List D)}
theorem spt_nil {X : Cx} {K : PySem.W.Frag} : PTs X [] (tFT K W0 xYes) := ⟨fun pins s σ H Q I h => by
  obtain ⟨env, B, i, sl, h⟩ := h
  exact pts_nil.run pins s σ H Q I (h B H (.refl i))⟩
theorem spt_one {X : Cx} {e : Expr} {K : PySem.W.Frag} (h : PT X e (tFT K W0 c)) : PTs X [e] (tFT K W0 c) := pts_one h
theorem se_lc {elt tgx iter : Expr} {ifs : List Expr} {scope : Scope} (own : List (Str × Nat)) {pos : Pos} {g : TG} {tg : Tgt} (hc : X.calm = true) (hN : X.N.Nodup) (hi : PI X tgx iter (tI X.K W src)) (ok : BlkOk X.N X.env.scope scope own)
    (hg : ∀ (s : Shared) (H : Hp) (C : Addr) (cl : List (Str × Addr)) (fp : List Addr), PG (X.blk s H scope (compEnvC scope cl C X.env) fp) tgx g) (ht : ∀ (s : Shared) (H : Hp) (C : Addr) (cl : List (Str × Addr)) (fp : List Addr), PTs (X.blk s H scope (compEnvC scope cl C X.env) fp) ifs (tFT X.K W0 c))
    (he : ∀ (s : Shared) (H : Hp) (C : Addr) (cl : List (Str × Addr)) (fp : List Addr), PE (X.blk s H scope (compEnvC scope cl C X.env) fp) elt (tF X.K W0 f)) (tgo : TgE X.K g tg (own.map (·.2))) (hs : ∀ x, foldedSetIterable iter X.env x = pure x := by intro _; rfl) :
    PE X (.ListComp elt [⟨tgx, iter, ifs, 0⟩] scope pos) (tF X.K W (xLc src tg c f (own.map (·.2)))) := peI (pe_lc hc hN hi ok hg ht he hs) fun _ _ _ h => tLc_of tgo h
end

/-! ## list(range(n)), list(reversed(x)) -/
def ofR (r : R Int) (k : Int → Option D) : Option D := match r with
  | .ok i => k i
  | _ => none
def lrngD : D → Option D
  | .int n => if -4611686018427387904 ≤ n ∧ n ≤ 16777216 then some (.lst .ow (rngL 0 1 n.toNat)) else none
  | _ => none
theorem rps_rng {K : PySem.W.Frag} {B H : Hp} (n : Nat) (f : Nat → Int) : Rps K B H ((List.range n).map fun i => .int (f i)) ((List.range n).map fun i => .int (f i)) [] := by
  have : ∀ l : List Nat, Rps K B H (l.map fun i => D.int (f i)) (l.map fun i => V.int (f i)) [] := fun l => by
    induction l with
    | nil => exact ⟨rfl, rfl⟩
    | cons a l ih =>
      rw [List.map_cons, List.map_cons]
      unfold Rps
      exact ⟨_, _, [], [], rfl, rfl, ⟨rfl, rfl⟩, ih⟩
  exact this _
section
variable {X : Cx} {W : WC} {f : Env → R D} {a : Expr} {pos : Pos}
theorem se_listRng {p p2 pos2 : Pos} (hc : X.calm = true) (hg : Gl X "list") (hm : X.mg "list" = none) (hg2 : Gl X "range") (hm2 : X.mg "range" = none) (ha : PE X a (tF X.K W f)) (na : starEach [a] X.env = (false, eval a X.env) :: starEach [] X.env := by rfl)
    (nb : starEach [.Call (.Name "range" p2) [a] [] pos2] X.env = (false, eval (.Call (.Name "range" p2) [a] [] pos2) X.env) :: starEach [] X.env := by rfl) : PE X (.Call (.Name "list" p) [.Call (.Name "range" p2) [a] [] pos2] [] pos) (tF X.K W (x1 lrngD f)) := by
  refine peI (pe_listRg hc hg hm (prg_1 hg2 hm2 ha na) nb) fun σ H Q ⟨env, B, i, s, h⟩ => ?_
  refine seqE (P := Pst X.K W B H σ Q) i s h (fun c z => z) (fun z => z) fun d v B1 H1 q e1 h1 st1 r nd fr => ?_
  obtain ⟨d2, ed, hd⟩ := of_ok h1
  unfold lrngD at ed
  split at ed
  · split at ed
    · cases ed
      rename_i n hz
      refine ⟨n, rp_int r, ⟨by decide, by decide, by omega, by omega, by omega⟩, ?_⟩
      refine okO_lst st1.i nd (fun t ht => (fr t ht).2) (vs := rgV 0 n) (qs := []) ?_ (List.nil_sublist _) (okO_end st1 fr hd)
      unfold rngL rgV
      rw [show (n - 0).toNat = n.toNat by omega]
      have := rps_rng (K := X.K) (B := B1) (H := H1) n.toNat (fun i => (0 : Int) + (i : Nat) * 1)
      simpa using this
    · cases ed
  · cases ed
/-- list(reversed(x)), x a list -/
def lrevD : D → Option D
  | .lst _ xs => some (.lst .ow xs.reverse)
  | _ => none
theorem rps_revE {K : PySem.W.Frag} {B H : Hp} : ∀ {ds : List D} {vs : List V} {ps : List Addr}, Rps K B H ds vs ps → ∃ qs, qs.Perm ps ∧ Rps K B H ds.reverse vs.reverse qs
  | [], vs, ps, r => ⟨[], by rw [r.2], by rw [r.1]; exact ⟨rfl, rfl⟩⟩
  | d :: ds, vs, ps, r => by
    unfold Rps at r
    obtain ⟨v, vr, p, q, e1, e2, r1, r2⟩ := r
    subst e1 e2
    obtain ⟨qs, h1, h2⟩ := rps_revE r2
    refine ⟨qs ++ p, (List.perm_append_comm.trans (List.Perm.append_left p h1)), ?_⟩
    rw [List.reverse_cons, List.reverse_cons]
    refine rps_app h2 ?_
    unfold Rps
    exact ⟨v, [], p, [], rfl, by simp, r1, ⟨rfl, rfl⟩⟩
end
end BC

namespace BC
open PySem PySem.Spec PyProof.Rows L2

/-! ## statements -/
inductive Ou
  | nx (e : Env) | rt (d : D) | bk (e : Env) | ct (e : Env) | rz (c : String) (e : Env)
/-- what a statement does: what is wanted of each way it may end -/
abbrev G := Env → (Ou → Prop) → Prop
/-- a run's state: Bf, Hf: a floor that stays; B0, H0: the entry of the def -/
structure SRb (K : PySem.W.Frag) (Bf Hf B0 H0 : Hp) (σ : L2.St) (H : Hp) (env : Env) (B : Hp) (ps : Nat → List Addr) : Prop where
  fb : Same Bf B
  fh : Same Hf H
  st : Step B0 H0 B H
  len : σ.length = env.length
  sl : ∀ (i : Nat) (d : D), env[i]? = some (some d) → d.sto = true ∧ ∃ v, σ[i]? = some (some v) ∧ Rp K B H d v (ps i)
  nd : ∀ i, (ps i).Nodup
  dj : ∀ i j p, p ∈ ps i → p ∈ ps j → i = j
  ow : ∀ i p, p ∈ ps i → H0 p = none ∧ Hf p = none ∧ B p = none ∧ ∃ vs, H p = some (.lst vs)
def SR (K : PySem.W.Frag) (Bf Hf B0 H0 : Hp) (σ : L2.St) (H : Hp) (env : Env) : Prop := ∃ B ps, SRb K Bf Hf B0 H0 σ H env B ps
def RetOk (K : PySem.W.Frag) (B0 H0 H : Hp) (d : D) (v : V) : Prop := ∃ B qs, Step B0 H0 B H ∧ Rp K B H d v qs ∧ qs.Nodup ∧ ∀ q ∈ qs, H0 q = none ∧ B q = none
structure EOk (K : PySem.W.Frag) (W : WC) (Bf Hf B0 H0 : Hp) (D : Ends) (Q : Ou → Prop) : Prop where
  nx : ∀ e, Q (.nx e) → ∀ σ H, SR K Bf Hf B0 H0 σ H e → D.nx σ H
  bk : ∀ e, Q (.bk e) → ∀ σ H, SR K Bf Hf B0 H0 σ H e → D.bk σ H
  ct : ∀ e, Q (.ct e) → ∀ σ H, SR K Bf Hf B0 H0 σ H e → D.ct σ H
  rt : ∀ d, Q (.rt d) → ∀ v H, RetOk K B0 H0 H d v → D.rt v H
  rz : ∀ c e, Q (.rz c e) → ∀ σ H, SR K Bf Hf B0 H0 σ H e → W c σ H
def tG (K : PySem.W.Frag) (W : WC) (g : G) : TS := fun D σ H => ∃ Bf Hf B0 H0 env Q, SR K Bf Hf B0 H0 σ H env ∧ g env Q ∧ EOk K W Bf Hf B0 H0 D Q

section
variable {K : PySem.W.Frag} {W : WC} {Bf Hf B0 H0 B H B' H' : Hp} {σ : L2.St} {env : Env} {ps : Nat → List Addr}
theorem SRb.sle (s : SRb K Bf Hf B0 H0 σ H env B ps) : SlE K B H env σ := ⟨s.len, fun i d e => by
  obtain ⟨_, v, h1, h2⟩ := s.sl i d e
  exact ⟨v, h1, rp_bor h2⟩⟩
theorem SRb.step (s : SRb K Bf Hf B0 H0 σ H env B ps) (t : Step B H B' H') : SRb K Bf Hf B0 H0 σ H' env B' ps where
  fb := s.fb.trans t.b
  fh := s.fh.trans t.h
  st := s.st.trans t
  len := s.len
  sl := fun i d e => by
    obtain ⟨h0, v, h1, h2⟩ := s.sl i d e
    exact ⟨h0, v, h1, rp_mono t.b t.h h2⟩
  nd := s.nd
  dj := s.dj
  ow := fun i p hp => by
    obtain ⟨h1, h2, h3, vs, h4⟩ := s.ow i p hp
    exact ⟨h1, h2, t.n p vs h3 h4, vs, t.h _ _ h4⟩
theorem SRb.same (s : SRb K Bf Hf B0 H0 σ H env B ps) (t : Same H H') : SRb K Bf Hf B0 H0 σ H' env B ps := s.step ⟨.refl _, t, s.st.i.trans t, fun _ _ h _ => h⟩
/-- a name's slot takes a value that nobody else holds -/
theorem SRb.set (s : SRb K Bf Hf B0 H0 σ H env B ps) {d : D} {v : V} {qs : List Addr} (hd : d.sto = true) (r : Rp K B H d v qs) (nd : qs.Nodup) (fr : ∀ q ∈ qs, H0 q = none ∧ Hf q = none ∧ B q = none ∧ ∀ i, i ≠ j → q ∉ ps i) : SRb K Bf Hf B0 H0 (σ.set j (some v)) H (env.set j (some d)) B (fun i => if i = j then qs else ps i) where
  fb := s.fb
  fh := s.fh
  st := s.st
  len := by simp [s.len]
  sl := fun i d' e => by
    by_cases h : j = i
    · subst h
      have hj : j < env.length := by
        have := (List.getElem?_eq_some_iff.mp e).1
        simpa using this
      rw [List.getElem?_set_self hj] at e
      cases e
      exact ⟨hd, v, List.getElem?_set_self (by rw [s.len]; exact hj), by simp only [if_true]; exact r⟩
    · rw [List.getElem?_set_ne h] at e
      obtain ⟨h0, w, h1, h2⟩ := s.sl i d' e
      exact ⟨h0, w, by rw [List.getElem?_set_ne h]; exact h1, by rw [if_neg (Ne.symm h)]; exact h2⟩
  nd := fun i => by
    split
    · exact nd
    · exact s.nd i
  dj := fun i k p h1 h2 => by
    by_cases hi : i = j
    · rw [if_pos hi] at h1
      by_cases hk : k = j
      · exact hi.trans hk.symm
      · rw [if_neg hk] at h2
        exact absurd h2 ((fr p h1).2.2.2 k hk)
    · rw [if_neg hi] at h1
      by_cases hk : k = j
      · rw [if_pos hk] at h2
        exact absurd h1 ((fr p h2).2.2.2 i hi)
      · rw [if_neg hk] at h2
        exact s.dj i k p h1 h2
  ow := fun i p hp => by
    by_cases hi : i = j
    · rw [if_pos hi] at hp
      obtain ⟨h1, h2, h3, _⟩ := fr p hp
      exact ⟨h1, h2, h3, rp_own r p hp⟩
    · rw [if_neg hi] at hp
      exact s.ow i p hp
/-- what an expression made is nobody else's -/
theorem SRb.fresh (s : SRb K Bf Hf B0 H0 σ H env B ps) (t : Step B H B' H') {qs : List Addr} (fr : Fresh H B' qs) : ∀ q ∈ qs, H0 q = none ∧ Hf q = none ∧ B' q = none ∧ ∀ i, q ∉ ps i := fun q hq => by
  obtain ⟨h1, h2⟩ := fr q hq
  refine ⟨s.st.h.free h1, s.fh.free h1, h2, fun i hp => ?_⟩
  obtain ⟨_, _, _, vs, h⟩ := s.ow i q hp
  rw [h1] at h
  cases h
/-- a slot's owned parts become frozen -/
theorem SRb.frz (s : SRb K Bf Hf B0 H0 σ H env B ps) (j : Nat) : ∃ B2 ps2, SRb K Bf Hf B0 H0 σ H (env.modify j (Option.map D.frz)) B2 ps2 := by
  have k1 : Same B (ovr B H (ps j)) := same_ovr s.st.i
  refine ⟨ovr B H (ps j), fun i => if i = j then [] else ps i, s.fb.trans k1, s.fh, ⟨s.st.b.trans k1, s.st.h, ovr_same s.st.i, fun p vs hb hh => ovr_none (fun z => by rw [(s.ow j p z).1] at hh; cases hh) (s.st.n p vs hb hh)⟩, by simp [s.len], fun i d e => ?_, fun i => ?_, fun i k p h1 h2 => ?_, fun i p hp => ?_⟩
  · by_cases h : j = i
    · subst h
      rw [List.getElem?_modify_eq] at e
      cases e2 : env[j]? with
      | none => rw [e2] at e; cases e
      | some o =>
        rw [e2] at e
        cases o with
        | none => cases e
        | some d0 =>
          cases e
          obtain ⟨h0, v, h1, h2⟩ := s.sl j d0 e2
          refine ⟨by have := stos_frzs [d0]; simpa [D.frzs, D.stos] using this, v, h1, ?_⟩
          rw [if_pos rfl]
          exact rp_frz k1 h0 (fun p hp o ho => ovr_mem hp ho) h2
    · rw [List.getElem?_modify_ne (h := h)] at e
      obtain ⟨h0, v, h1, h2⟩ := s.sl i d e
      refine ⟨h0, v, h1, ?_⟩
      rw [if_neg (Ne.symm h)]
      exact rp_mono k1 (.refl _) h2
  · split
    · exact .nil
    · exact s.nd i
  · by_cases hi : i = j
    · rw [if_pos hi] at h1; cases h1
    · by_cases hk : k = j
      · rw [if_pos hk] at h2; cases h2
      · rw [if_neg hi] at h1
        rw [if_neg hk] at h2
        exact s.dj i k p h1 h2
  · by_cases hi : i = j
    · rw [if_pos hi] at hp; cases hp
    · rw [if_neg hi] at hp
      obtain ⟨h1, h2, h3, h4⟩ := s.ow i p hp
      exact ⟨h1, h2, ovr_none (fun z => hi (s.dj i j p hp z)) h3, h4⟩
end
/-- the value of an expression, then more -/
def gEv {α : Type} (r : R α) (env : Env) (Q : Ou → Prop) (k : α → Prop) : Prop := match r with
  | .ok a => k a
  | .er c => Q (.rz c env)
  | .no => False
@[simp] theorem gEv_ok {α : Type} (a : α) (env : Env) (Q : Ou → Prop) (k : α → Prop) : gEv (.ok a) env Q k = k a := rfl
@[simp] theorem gEv_er {α : Type} (c : String) (env : Env) (Q : Ou → Prop) (k : α → Prop) : gEv (.er c : R α) env Q k = Q (.rz c env) := rfl
@[simp] theorem gEv_no {α : Type} (env : Env) (Q : Ou → Prop) (k : α → Prop) : gEv (.no : R α) env Q k = False := rfl
def gNext : G := fun env Q => Q (.nx env)
def gSeq (g h : G) : G := fun env Q => g env fun o => match o with
  | .nx e => h e Q
  | o => Q o
def gAsg (i : Nat) (f : Env → R D) : G := fun env Q => gEv (f env) env Q fun d => d.sto = true ∧ Q (.nx (env.set i (some d)))
def gUnp (is : List Nat) (f : Env → R D) : G := fun env Q => gEv (f env) env Q fun d => d.sto = true ∧ match d with
  | .tup ds => ∃ e, setAll is ds env = some e ∧ Q (.nx e)
  | _ => False
def gRet (f : Env → R D) : G := fun env Q => gEv (f env) env Q fun d => Q (.rt d)
def gRetV (i : Nat) : G := fun env Q => match env[i]? with
  | some (some d) => Q (.rt d)
  | _ => False
def gRetN : G := fun _ Q => Q (.rt .non)
def gIf (c : Env → R Bool) (g h : G) : G := fun env Q => gEv (c env) env Q fun b => if b = true then g env Q else h env Q
def gDrop (f : Env → R D) : G := fun env Q => gEv (f env) env Q fun _ => Q (.nx env)
def gBreak : G := fun env Q => Q (.bk env)
def gCont : G := fun env Q => Q (.ct env)
def gFrz (i : Nat) (g : G) : G := fun env Q => g (env.modify i (Option.map D.frz)) Q
def gForL (tg : Tgt) (body : G) : List D → G
  | [], env, Q => Q (.nx env)
  | d :: ds, env, Q => d.sto = true ∧ ∃ e, tg d env = some e ∧ body e fun o => match o with
    | .nx e => gForL tg body ds e Q
    | .ct e => gForL tg body ds e Q
    | .bk e => Q (.nx e)
    | o => Q o
def gFor (src : Env → R (Bool × List D)) (tg : Tgt) (body : G) : G := fun env Q => gEv (src env) env Q fun s => s.1 = false ∧ gForL tg body s.2 env Q
def gWhile (c : Env → R Bool) (body : G) : G := fun env Q => ∃ Wv : Nat → Env → Prop, (∃ m, Wv m env) ∧ ∀ m env, Wv m env → gEv (c env) env Q fun b => if b = true then body env fun o => match o with
    | .nx e => ∃ m', m' < m ∧ Wv m' e
    | .ct e => ∃ m', m' < m ∧ Wv m' e
    | .bk e => Q (.nx e)
    | o => Q o
  else Q (.nx env)
section
variable {K : PySem.W.Frag} {W : WC} {Bf Hf B0 H0 : Hp} {σ : L2.St} {H : Hp} {env : Env} {De : Ends} {Q : Ou → Prop}
theorem EOk.withNx {R' : L2.St → Hp → Prop} {Q' : Ou → Prop} (e : EOk K W Bf Hf B0 H0 De Q) (h : ∀ o, (∀ x, o ≠ .nx x) → Q' o → Q o) (k : ∀ e, Q' (.nx e) → ∀ σ H, SR K Bf Hf B0 H0 σ H e → R' σ H) : EOk K W Bf Hf B0 H0 { De with nx := R' } Q' :=
  ⟨k, fun e1 q => e.bk e1 (h _ (fun x z => by cases z) q), fun e1 q => e.ct e1 (h _ (fun x z => by cases z) q), fun d q => e.rt d (h _ (fun x z => by cases z) q), fun c e1 q => e.rz c e1 (h _ (fun x z => by cases z) q)⟩
/-- an expression is read in a state of a run -/
theorem runE {f : Env → R D} {k : D → Prop} {R' : VK} (s : SR K Bf Hf B0 H0 σ H env) (h : gEv (f env) env Q k) (er : ∀ c, Q (.rz c env) → ∀ σ H, SR K Bf Hf B0 H0 σ H env → W c σ H)
    (kk : ∀ d v B B' H' qs ps, k d → SRb K Bf Hf B0 H0 σ H env B ps → SRb K Bf Hf B0 H0 σ H' env B' ps → Step B H B' H' → Rp K B' H' d v qs → qs.Nodup → Fresh H B' qs → R' v H') : tF K W f σ H R' := by
  obtain ⟨B, ps, s⟩ := s
  refine tF_of s.st.i s.sle ?_
  cases e : f env with
  | ok d =>
    rw [e] at h
    exact fun v B' H' qs st rp nd fr => kk d v B B' H' qs ps h s (s.step st) st rp nd fr
  | er c =>
    rw [e] at h
    exact fun H' hs => er c h σ H' ⟨B, ps, s.same hs⟩
  | no => rw [e] at h; exact h.elim
theorem runT {f : Env → R Bool} {k : Bool → Prop} {R' : Bool → Hp → Prop} (s : SR K Bf Hf B0 H0 σ H env) (h : gEv (f env) env Q k) (er : ∀ c, Q (.rz c env) → ∀ σ H, SR K Bf Hf B0 H0 σ H env → W c σ H)
    (kk : ∀ b H', k b → SR K Bf Hf B0 H0 σ H' env → R' b H') : tFT K W f σ H R' := by
  obtain ⟨B, ps, s⟩ := s
  refine tFT_of s.st.i s.sle ?_
  cases e : f env with
  | ok d =>
    rw [e] at h
    exact fun B' H' st => kk d H' h ⟨B', ps, s.step st⟩
  | er c =>
    rw [e] at h
    exact fun H' hs => er c h σ H' ⟨B, ps, s.same hs⟩
  | no => rw [e] at h; exact h.elim
theorem SRb.sets : ∀ {is : List Nat} {ds : List D} {vs : List V} {env env' : Env} {σ : L2.St} {B : Hp} {ps : Nat → List Addr} {qs : List Addr} {R' : L2.St → Hp → Prop}, setAll is ds env = some env' → SRb K Bf Hf B0 H0 σ H env B ps → D.stos ds = true → Rps K B H ds vs qs → qs.Nodup →
    (∀ q ∈ qs, H0 q = none ∧ Hf q = none ∧ B q = none ∧ ∀ i, q ∉ ps i) → (∀ σ' ps', SRb K Bf Hf B0 H0 σ' H env' B ps' → R' σ' H) → gAll is vs σ H R'
  | [], [], vs, env, env', σ, B, ps, qs, R', e, s, _, r, _, _, k => by
    cases e
    exact ⟨r.1, k σ ps s⟩
  | i :: is, d :: ds, vs, env, env', σ, B, ps, qs, R', e, s, hst, r, nd, fr, k => by
    unfold Rps at r
    obtain ⟨v, vr, p, q, e1, e2, r1, r2⟩ := r
    subst e2
    simp only [D.stos, Bool.and_eq_true] at hst
    obtain ⟨n1, n2, n3⟩ := List.nodup_append.mp nd
    have s2 := s.set (j := i) hst.1 r1 n1 fun x hx => by
      obtain ⟨a, b, c, dd⟩ := fr x (by simp [hx])
      exact ⟨a, b, c, fun k _ => dd k⟩
    refine ⟨v, vr, e1, ?_⟩
    refine SRb.sets (ps := fun k => if k = i then p else ps k) e s2 hst.2 r2 n2 (fun x hx => ?_) k
    obtain ⟨a, b, c, dd⟩ := fr x (by simp [hx])
    refine ⟨a, b, c, fun k => ?_⟩
    split
    · exact fun z => n3 x z x hx rfl
    · exact dd k
  | [], _ :: _, _, _, _, _, _, _, _, _, e, _, _, _, _, _, _ => by cases e
  | _ :: _, [], _, _, _, _, _, _, _, _, e, _, _, _, _, _, _ => by cases e
end
section
variable {X : Cx} {W : WC} {st : Stmt} {rest a b : List Stmt} {e c : Expr} {f : Env → R D} {t : Env → R Bool} {g h : G} {pos : Pos}
theorem sss_nil : PSs X [] (tG X.K W gNext) := pssI pss_nil fun D σ H ⟨Bf, Hf, B0, H0, env, Q, s, h, eo⟩ => eo.nx env h σ H s
theorem sss_cons (h1 : PS X st (tG X.K W g)) (h2 : PSs X rest (tG X.K W h)) : PSs X (st :: rest) (tG X.K W (gSeq g h)) := by
  refine pssI (pss_cons h1 h2) fun D σ H ⟨Bf, Hf, B0, H0, env, Q, s, hh, eo⟩ => ?_
  refine ⟨Bf, Hf, B0, H0, env, _, s, hh, eo.withNx (fun o ho q => ?_) fun e q σ' H' s' => ⟨Bf, Hf, B0, H0, e, Q, s', q, eo⟩⟩
  cases o with
  | nx x => exact absurd rfl (ho x)
  | _ => exact q
theorem sss_one (h1 : PS X st (tG X.K W g)) : PSs X [st] (tG X.K W g) := pss_one h1
/-- at any place of a block a name's list may be frozen -/
theorem sss_frz (i : Nat) (h1 : PSs X rest (tG X.K W g)) : PSs X rest (tG X.K W (gFrz i g)) := pssI h1 fun D σ H ⟨Bf, Hf, B0, H0, env, Q, ⟨B, ps, s⟩, hh, eo⟩ => by
  obtain ⟨B2, ps2, s2⟩ := s.frz i
  exact ⟨Bf, Hf, B0, H0, _, Q, ⟨B2, ps2, s2⟩, hh, eo⟩
theorem ss_pass : PS X (.Pass pos) (tG X.K W gNext) := psI ps_pass fun D σ H ⟨Bf, Hf, B0, H0, env, Q, s, h, eo⟩ => eo.nx env h σ H s
theorem ss_break : PS X (.Break pos) (tG X.K W gBreak) := psI ps_break fun D σ H ⟨Bf, Hf, B0, H0, env, Q, s, h, eo⟩ => eo.bk env h σ H s
theorem ss_cont : PS X (.Continue pos) (tG X.K W gCont) := psI ps_continue fun D σ H ⟨Bf, Hf, B0, H0, env, Q, s, h, eo⟩ => eo.ct env h σ H s
theorem asg_of {K : PySem.W.Frag} {i : Nat} {D : Ends} {σ : L2.St} {H : Hp} (hh : tG K W (gAsg i f) D σ H) : tAsg (tF K W f) (gName i) D σ H := by
  obtain ⟨Bf, Hf, B0, H0, env, Q, s, h, eo⟩ := hh
  refine runE s h (fun c q => eo.rz c env q) fun d v B B' H' qs ps k s0 s1 st rp nd fr => ?_
  have f1 := s0.fresh st fr
  exact eo.nx _ k.2 _ H' ⟨B', _, s1.set (j := i) k.1 rp nd fun q hq => ⟨(f1 q hq).1, (f1 q hq).2.1, (f1 q hq).2.2.1, fun i _ => (f1 q hq).2.2.2 i⟩⟩
/-- name = e -/
theorem ss_set (i : Nat) {x : Str} {pos' : Pos} (hN : X.N.Nodup) (he : PE X e (tF X.K W f)) (hi : X.N[i]? = some x := by rfl) (hx : Loc X.env.scope x := by first | exact Or.inl rfl | exact Or.inr rfl) (hs : swapsWith e (some (.Name x pos')) pos.line X.env = pure false := by rfl) (hf : X.fn x = true ∨ X.env.scope.names.lookup x = some .local := by first | exact .inl rfl | exact .inr rfl | assumption) :
    PS X (.Assign [.Name x pos'] e pos) (tG X.K W (gAsg i f)) := psI (ps_set hN hi hx he hs hf) fun D σ H hh => asg_of hh
/-- name = [.. for ..] on one line -/
theorem ss_setLc (i : Nat) {y : Str} {py : Pos} {elt tgx iter : Expr} {ifs : List Expr} {scope : Scope} (own : List (Str × Nat)) {pos spos : Pos} {gt : TG} {tg : Tgt} {cc : Env → R Bool} {src : Env → R (Bool × List D)} (hc : X.calm = true) (hN : X.N.Nodup) (hsw : swapsWith (.ListComp elt [⟨tgx, iter, ifs, 0⟩] scope pos) (some (.Name y py)) spos.line X.env = pure true) (hi : PI X tgx iter (tI X.K W src)) (ok : BlkOk X.N X.env.scope scope own)
    (hg : ∀ (s : Shared) (H : Hp) (C : Addr) (cl : List (Str × Addr)) (fp : List Addr), PG (X.blk s H scope (compEnvC scope cl C X.env) fp) tgx gt) (ht : ∀ (s : Shared) (H : Hp) (C : Addr) (cl : List (Str × Addr)) (fp : List Addr), PTs (X.blk s H scope (compEnvC scope cl C X.env) fp) ifs (tFT X.K W0 cc))
    (he : ∀ (s : Shared) (H : Hp) (C : Addr) (cl : List (Str × Addr)) (fp : List Addr), PE (X.blk s H scope (compEnvC scope cl C X.env) fp) elt (tF X.K W0 f)) (tgo : TgE X.K gt tg (own.map (·.2))) (hy : X.N[i]? = some y := by rfl) (hyl : X.env.scope.names.lookup y = some .local := by rfl) (hs : ∀ x, foldedSetIterable iter X.env x = pure x := by intro _; rfl) :
    PS X (.Assign [.Name y py] (.ListComp elt [⟨tgx, iter, ifs, 0⟩] scope pos) spos) (tG X.K W (gAsg i (xLc src tg cc f (own.map (·.2))))) := by
  refine psI (ps_setLc hc hN hy hyl hsw hi ok hg ht he hs) fun D σ H hh => ?_
  have h1 := asg_of hh
  exact tLc_of tgo h1
theorem ss_unp {es : List Expr} {k : Nat} {pos' : Pos} (is : List Nat) (hc : X.calm = true) (he : PE X e (tF X.K W f)) (hg : PGs X es (gAll is)) (hs : swapsWithSole [.Tuple es k pos'] e pos.line X.env = pure false := by rfl) (hw : swappedStores [.Tuple es k pos'] e X.env = pure none := by rfl)
    (h1 : (assignEach [.Tuple es k pos'] X.env).map (·.2) = [assign (.Tuple es k pos') X.env] := by rfl) (hn : (assignEach es X.env).length = is.length := by rfl) (hst : (assignEach es X.env).findIdx? (·.1) = none := by rfl) : PS X (.Assign [.Tuple es k pos'] e pos) (tG X.K W (gUnp is f)) := by
  refine psI (ps_asg he (pg_tup hc hg hn hst) hs hw h1) fun De σ H ⟨Bf, Hf, B0, H0, env, Q, s, h, eo⟩ => ?_
  refine runE s h (fun c q => eo.rz c env q) fun d v B B' H' qs ps k s0 s1 st rp nd fr => ?_
  obtain ⟨hd, k⟩ := k
  cases d with
  | tup ds =>
    obtain ⟨env', e1, q⟩ := k
    obtain ⟨a, vs, ev, sq, r⟩ := rp_tup rp
    refine ⟨a, vs, ev, sq, by rw [rps_len r]; exact (setAll_len e1).symm, ?_⟩
    have f1 := s0.fresh st fr
    exact SRb.sets e1 s1 (by simpa [BC.D.sto] using hd) r nd f1 fun σ' ps' s' => eo.nx _ q _ _ ⟨B', ps', s'⟩
  | _ => exact k.elim
def gPar (i j : Nat) (fs : Env → R (List D)) : G := fun env Q => gEv (fs env) env Q fun ds => D.stos ds = true ∧ ∃ e, setAll [i, j] ds env = some e ∧ Q (.nx e)
/-- a, b = e1, e2 -/
theorem ss_par (i j : Nat) {x y : Str} {e1 e2 : Expr} {fs : Env → R (List D)} {px py pt : Pos} {kt k2 pt2} (hc : X.calm = true) (hN : X.N.Nodup) (hij : i ≠ j) (ha : PA X [e1, e2] (tFA X.K W fs))
    (hw : swappedStores [.Tuple [.Name x px, .Name y py] kt pt] (.Tuple [e1, e2] k2 pt2) X.env = pure (some [x, y])) (hi : X.N[i]? = some x := by rfl) (hj : X.N[j]? = some y := by rfl)
    (hx : X.env.scope.names.lookup x = some .local := by rfl) (hy : X.env.scope.names.lookup y = some .local := by rfl)
    (hs : swapsWithSole [.Tuple [.Name x px, .Name y py] kt pt] (.Tuple [e1, e2] k2 pt2) pos.line X.env = pure false := by rfl) :
    PS X (.Assign [.Tuple [.Name x px, .Name y py] kt pt] (.Tuple [e1, e2] k2 pt2) pos) (tG X.K W (gPar i j fs)) := by
  refine psI (ps_par hc hN hi hj hij hx hy ha hw hs) fun D σ H ⟨Bf, Hf, B0, H0, env, Q, ⟨B, ps, s⟩, h, eo⟩ => ?_
  refine tFA_of s.st.i s.sle ?_
  have h' : gEv (fs env) env Q _ := h
  cases e : fs env with
  | er c =>
    rw [e] at h'
    exact fun H' hs => eo.rz c env h' σ H' ⟨B, ps, s.same hs⟩
  | no => rw [e] at h'; exact h'.elim
  | ok ds =>
    rw [e] at h'
    obtain ⟨hst, env', e3, q⟩ := h'
    intro vs B' H' qs st rp nd fr
    have f1 := s.fresh st fr
    obtain ⟨v, vr, ev, v2, vr2, ev2, ee, hq⟩ : gAll [i, j] vs σ H' (fun σ' H' => D.nx σ' H') := SRb.sets e3 (s.step st) hst rp nd f1 fun σ' ps' s' => eo.nx _ q _ _ ⟨B', ps', s'⟩
    subst ev ev2 ee
    exact ⟨v, v2, rfl, hq⟩
theorem ss_ret (he : PE X e (tF X.K W f)) : PS X (.Return (some e) pos) (tG X.K W (gRet f)) := by
  refine psI (ps_ret he) fun D σ H ⟨Bf, Hf, B0, H0, env, Q, s, h, eo⟩ => ?_
  refine runE s h (fun c q => eo.rz c env q) fun d v B B' H' qs ps k s0 s1 st rp nd fr => ?_
  exact eo.rt d k v H' ⟨B', qs, s1.st, rp, nd, fun q hq => ⟨s0.st.h.free (fr q hq).1, (fr q hq).2⟩⟩
/-- return of a name's own value -/
theorem ss_retV (i : Nat) {x : Str} {pos' : Pos} (he : PE X (.Name x pos') (tVar i)) : PS X (.Return (some (.Name x pos')) pos) (tG X.K W (gRetV i)) := by
  refine psI (ps_ret he) fun D σ H ⟨Bf, Hf, B0, H0, env, Q, ⟨B, ps, s⟩, h, eo⟩ => ?_
  unfold gRetV at h
  cases e : env[i]? with
  | none => rw [e] at h; exact h.elim
  | some o =>
    rw [e] at h
    cases o with
    | none => exact h.elim
    | some d =>
      obtain ⟨_, v, h1, h2⟩ := s.sl i d e
      exact ⟨v, h1, eo.rt d h v H ⟨B, ps i, s.st, h2, s.nd i, fun q hq => ⟨(s.ow i q hq).1, (s.ow i q hq).2.2.1⟩⟩⟩
theorem ss_retN : PS X (.Return none pos) (tG X.K W gRetN) := psI ps_retN fun D σ H ⟨Bf, Hf, B0, H0, env, Q, ⟨B, ps, s⟩, h, eo⟩ => eo.rt .non h .non H ⟨B, [], s.st, by unfold Rp; exact ⟨rfl, rfl⟩, .nil, by intro q hq; cases hq⟩
theorem ss_if (hc : PT X c (tFT X.K W t)) (ha : PSs X a (tG X.K W g)) (hb : PSs X b (tG X.K W h)) : PS X (.If c a b pos) (tG X.K W (gIf t g h)) := by
  refine psI (ps_if hc ha hb) fun D σ H ⟨Bf, Hf, B0, H0, env, Q, s, hh, eo⟩ => ?_
  refine runT s hh (fun c q => eo.rz c env q) fun k H' hk s' => ?_
  cases k with
  | true => exact ⟨Bf, Hf, B0, H0, env, Q, s', hk, eo⟩
  | false => exact ⟨Bf, Hf, B0, H0, env, Q, s', hk, eo⟩
theorem ss_drop (he : PE X e (tF X.K W f)) (hs : swapsWith e none pos.line X.env = pure false := by rfl) : PS X (.Expr e pos) (tG X.K W (gDrop f)) := by
  refine psI (ps_expr he hs) fun D σ H ⟨Bf, Hf, B0, H0, env, Q, s, h, eo⟩ => ?_
  exact runE s h (fun c q => eo.rz c env q) fun d v B B' H' qs ps k s0 s1 st rp nd fr => eo.nx env k σ H' ⟨B', ps, s1⟩
theorem ss_doc {x j pos pos'} : PS X (.Expr (.Constant (.str x) j pos) pos') (tG X.K W gNext) := psI ps_doc fun D σ H ⟨Bf, Hf, B0, H0, env, Q, s, h, eo⟩ => eo.nx env h σ H s
/-- two parts of one heap together -/
def uni (A C : Hp) : Hp := fun p => match A p with
  | some o => some o
  | none => C p
theorem uni_l {A C : Hp} : Same A (uni A C) := fun p o e => by unfold uni; rw [e]
theorem uni_r {A C H : Hp} (a : Same A H) (c : Same C H) : Same C (uni A C) := fun p o e => by
  unfold uni
  cases q : A p with
  | none => exact e
  | some u =>
    have h1 := a p u q
    have h2 := c p o e
    rw [h1] at h2
    exact h2
theorem uni_in {A C H : Hp} (a : Same A H) (c : Same C H) : Same (uni A C) H := fun p o e => by
  unfold uni at e
  cases q : A p with
  | none => rw [q] at e; exact c p o e
  | some u => rw [q] at e; cases e; exact a p _ q
theorem uni_none {A C : Hp} {p : Addr} (a : A p = none) (c : C p = none) : uni A C p = none := by unfold uni; rw [a]; exact c
theorem none_uni {A C : Hp} {p : Addr} (h : uni A C p = none) : A p = none ∧ C p = none := by
  unfold uni at h
  cases q : A p with
  | none => rw [q] at h; exact ⟨rfl, h⟩
  | some u => rw [q] at h; cases h
/-- a target of a for -/
def TgS (K : PySem.W.Frag) (g : TG) (tg : Tgt) : Prop := ∀ (Bf Hf B0 H0 : Hp) (d : D) (v : V) (env env' : Env) (σ : L2.St) (H B : Hp) (ps : Nat → List Addr) (R' : L2.St → Hp → Prop), tg d env = some env' → d.sto = true → SRb K Bf Hf B0 H0 σ H env B ps → Rp K B H d v [] → (∀ σ' ps', SRb K Bf Hf B0 H0 σ' H env' B ps' → R' σ' H) → g v σ H R'
theorem ts_name {K : PySem.W.Frag} {j : Nat} : TgS K (gName j) (tgN j) := fun Bf Hf B0 H0 d v env env' σ H B ps R' e hd s r k => by
  cases e
  exact k _ _ (s.set hd r .nil (by intro q hq; cases hq))
theorem ts_tup {K : PySem.W.Frag} {js : List Nat} {n : Nat} (hn : n = js.length) : TgS K (gTup K n (gAll js)) (tgT js) := fun Bf Hf B0 H0 d v env env' σ H B ps R' e hd s r k => by
  cases d with
  | tup ds =>
    obtain ⟨a, ws, ev, s1, r1⟩ := rp_tup r
    refine ⟨a, ws, ev, s1, ?_, SRb.sets e s (by simpa [D.sto] using hd) r1 .nil (by intro q hq; cases hq) k⟩
    rw [rps_len r1, hn]
    exact (setAll_len e).symm
  | _ => cases e
theorem SRb.floor {K : PySem.W.Frag} {Bf Hf B0 H0 B H Bg Hg : Hp} {σ : L2.St} {env : Env} {ps : Nat → List Addr} (s : SRb K Bf Hf B0 H0 σ H env B ps) (b : Same Bg B) (h : Same Hg H) (n : ∀ i p, p ∈ ps i → Hg p = none) : SRb K Bg Hg B0 H0 σ H env B ps :=
  ⟨b, h, s.st, s.len, s.sl, s.nd, s.dj, fun i p hp => ⟨(s.ow i p hp).1, n i p hp, (s.ow i p hp).2.2.1, (s.ow i p hp).2.2.2⟩⟩
theorem ss_for {tgx iter : Expr} {body : List Stmt} {src : Env → R (Bool × List D)} {gt : TG} {tg : Tgt} (hp : PassesOwn (model X.prog X.w) X.A X.env X.xe) (hc : X.calm = true) (hi : PI X tgx iter (tI X.K W src)) (hg : PG X tgx gt) (htg : TgS X.K gt tg) (hb : PSs X body (tG X.K W g))
    (hs : ∀ x, foldedSetIterable iter X.env x = pure x := by intro _; rfl) : PS X (.For tgx iter body [] pos) (tG X.K W (gFor src tg g)) := by
  refine psI (ps_for hp hc hi hg hb hs) fun De σ H ⟨Bf, Hf, B0, H0, env, Q, ⟨B, ps, s⟩, h, eo⟩ => ?_
  refine ⟨env, B, s.st.i, s.sle, ?_⟩
  have h' : gEv (src env) env Q _ := h
  cases es : src env with
  | er cc => rw [es] at h'; exact fun H' hs => eo.rz cc env h' σ H' ⟨B, ps, s.same hs⟩
  | no => rw [es] at h'; exact h'.elim
  | ok bx =>
    rw [es] at h'
    obtain ⟨bb, xs⟩ := bx
    obtain ⟨hbb, h'⟩ := h'
    replace hbb : bb = false := hbb
    subst hbb
    intro J B1 H1 st1 wk
    have s1 := s.step st1
    -- the floor of the loop: what the source leans on
    refine ⟨fun i m σ' H' => ∃ B' env' ps', m = xs.length - i ∧ i ≤ xs.length ∧ SRb X.K Bf Hf B0 H0 σ' H' env' B' ps' ∧ Same B1 B' ∧ Same (kp B1 H1) H' ∧ (∀ j p, p ∈ ps' j → kp B1 H1 p = none) ∧ gForL tg g (xs.drop i) env' Q,
      ⟨xs.length, B1, env, ps, rfl, Nat.zero_le _, s1, .refl _, kp_same st1.i, fun j p hp => by
        obtain ⟨_, _, h3, vs, h4⟩ := s1.ow j p hp
        exact kp_none h4 h3, h'⟩, ?_⟩
    rintro i m σ' H' ⟨B', env', ps', rfl, hi2, s2, kb, kh, kn, hf⟩
    have wki := wk i B' H' kb s2.st.i kh
    cases ex : xs[i]? with
    | none =>
      refine .inl ⟨wki.2 ex, ?_⟩
      rw [List.drop_of_length_le (List.getElem?_eq_none_iff.mp ex)] at hf
      exact eo.nx env' hf σ' H' ⟨B', ps', s2⟩
    | some d =>
      obtain ⟨hgo, hy⟩ := wki.1 d ex
      have hlt := (List.getElem?_eq_some_iff.mp ex).1
      have edrop : xs.drop i = d :: xs.drop (i + 1) := by
        rw [List.drop_eq_getElem_cons hlt]
        congr 1
        exact (List.getElem?_eq_some_iff.mp ex).2
      rw [edrop] at hf
      obtain ⟨hd, e1, et, hbody⟩ := hf
      refine .inr ⟨hgo, fun σ3 H3 => ∃ m', m' < xs.length - i ∧ ∃ B' env' ps', m' = xs.length - (i + 1) ∧ i + 1 ≤ xs.length ∧ SRb X.K Bf Hf B0 H0 σ3 H3 env' B' ps' ∧ Same B1 B' ∧ Same (kp B1 H1) H3 ∧ (∀ j p, p ∈ ps' j → kp B1 H1 p = none) ∧ gForL tg g (xs.drop (i + 1)) env' Q, fun _ _ z => z, fun x H3 hx => ?_⟩
      obtain ⟨B3, st3, rx⟩ := hy x H3 hx
      have s3 := s2.step st3
      refine htg Bf Hf B0 H0 d x env' e1 σ' H3 B3 ps' _ et hd s3 rx fun σ4 ps4 s4 => ?_
      -- the body's run, over the loop's floor
      have kb4 : Same B1 B3 := kb.trans st3.b
      have kh4 : Same (kp B1 H1) H3 := kh.trans st3.h
      have q1 : Same Hf H1 := s.fh.trans st1.h
      have q2 : Same (kp B1 H1) H1 := kp_same st1.i
      have s5 : SRb X.K B1 (uni Hf (kp B1 H1)) B0 H0 σ4 H3 e1 B3 ps4 := s4.floor kb4 (uni_in s4.fh kh4) fun j p hp => by
        refine uni_none (s4.ow j p hp).2.1 ?_
        -- what is owned is in no frozen list
        obtain ⟨_, _, h3, vs, h4⟩ := s4.ow j p hp
        cases ek : kp B1 H1 p with
        | none => rfl
        | some o =>
          have e5 := kh4 p o ek
          rw [h4] at e5
          cases e5
          have e6 := q2 p _ ek
          have : kp B1 H1 p = B1 p := by unfold kp; rw [e6]
          rw [this] at ek
          rw [kb4 p _ ek] at h3
          cases h3
      have back : ∀ {σ5 H5 e5}, SR X.K B1 (uni Hf (kp B1 H1)) B0 H0 σ5 H5 e5 → ∃ B' ps', SRb X.K Bf Hf B0 H0 σ5 H5 e5 B' ps' ∧ Same B1 B' ∧ Same (kp B1 H1) H5 ∧ ∀ j p, p ∈ ps' j → kp B1 H1 p = none := fun {σ5 H5 e5} ⟨B5, ps5, s5⟩ =>
        ⟨B5, ps5, s5.floor (s1.fb.trans s5.fb) ((uni_l).trans s5.fh) fun j p hp => (none_uni (s5.ow j p hp).2.1).1, s5.fb, (uni_r q1 q2).trans s5.fh, fun j p hp => (none_uni (s5.ow j p hp).2.1).2⟩
      have again : ∀ {σ5 H5 e5}, gForL tg g (xs.drop (i + 1)) e5 Q → SR X.K B1 (uni Hf (kp B1 H1)) B0 H0 σ5 H5 e5 → ∃ m', m' < xs.length - i ∧ ∃ B' env' ps', m' = xs.length - (i + 1) ∧ i + 1 ≤ xs.length ∧ SRb X.K Bf Hf B0 H0 σ5 H5 env' B' ps' ∧ Same B1 B' ∧ Same (kp B1 H1) H5 ∧ (∀ j p, p ∈ ps' j → kp B1 H1 p = none) ∧ gForL tg g (xs.drop (i + 1)) env' Q := fun {σ5 H5 e5} hq s5 => by
        obtain ⟨B', ps', a1, a2, a3, a4⟩ := back s5
        exact ⟨_, by omega, B', e5, ps', rfl, hlt, a1, a2, a3, a4, hq⟩
      refine ⟨B1, uni Hf (kp B1 H1), B0, H0, e1, _, ⟨B3, ps4, s5⟩, hbody, ⟨fun e q σ5 H5 s6 => again q s6, fun e q σ5 H5 s6 => ?_, fun e q σ5 H5 s6 => again q s6, fun d q v H5 r => eo.rt d q v H5 r, fun c e q σ5 H5 s6 => ?_⟩⟩
      · obtain ⟨B', ps', a1, _⟩ := back s6
        exact eo.nx e q σ5 H5 ⟨B', ps', a1⟩
      · obtain ⟨B', ps', a1, _⟩ := back s6
        exact eo.rz c e q σ5 H5 ⟨B', ps', a1⟩
theorem ss_while {body : List Stmt} (hp : PassesOwn (model X.prog X.w) X.A X.env X.xe) (hc : PT X c (tFT X.K W t)) (hb : PSs X body (tG X.K W g)) : PS X (.While c body [] pos) (tG X.K W (gWhile t g)) := by
  refine psI (ps_while hp hc hb) fun De σ H ⟨Bf, Hf, B0, H0, env, Q, s, h, eo⟩ => ?_
  obtain ⟨Wv, ⟨m0, w0⟩, turn⟩ := h
  refine ⟨fun m σ' H' => ∃ env', SR X.K Bf Hf B0 H0 σ' H' env' ∧ Wv m env', ⟨m0, env, s, w0⟩, ?_⟩
  rintro m σ' H' ⟨env', s', w'⟩
  refine runT s' (turn m env' w') (fun c q => eo.rz c env' q) fun b H2 hk s2 => ?_
  cases b with
  | false => exact eo.nx env' hk σ' H2 s2
  | true =>
    refine ⟨fun σ3 H3 => ∃ m', m' < m ∧ ∃ env', SR X.K Bf Hf B0 H0 σ3 H3 env' ∧ Wv m' env', fun _ _ z => z, Bf, Hf, B0, H0, env', _, s2, hk, ⟨fun e q σ5 H5 s6 => ?_, fun e q σ5 H5 s6 => eo.nx e q σ5 H5 s6, fun e q σ5 H5 s6 => ?_, fun d q v H5 r => eo.rt d q v H5 r, fun c e q σ5 H5 s6 => eo.rz c e q σ5 H5 s6⟩⟩
    · obtain ⟨m', h1, h2⟩ := q
      exact ⟨m', h1, e, s6, h2⟩
    · obtain ⟨m', h1, h2⟩ := q
      exact ⟨m', h1, e, s6, h2⟩
end
end BC

namespace BC
open PySem PySem.Spec PyProof.Rows L2

/-! ## lists changed at a place: a name, then indices -/
def getP : D → List Int → Option D
  | d, [] => some d
  | .lst .sc _, _ :: _ => none
  | .lst .ow xs, i :: π => (L2.atI xs i).bind fun d => getP d π
  | .lst .fz xs, i :: π => (L2.atI xs i).bind fun d => getP d π
  | .lst .bo xs, i :: π => (L2.atI xs i).bind fun d => getP d π
  | .tup xs, i :: π => (L2.atI xs i).bind fun d => getP d π
  | _, _ :: _ => none
/-- the value at a place, read off the heap -/
def sel (H : Hp) : V → List Int → Option V
  | v, [] => some v
  | .ref a, i :: π => match H a with
    | some (.lst vs) => (L2.atI vs i).bind fun v => sel H v π
    | some (.tup vs) => (L2.atI vs i).bind fun v => sel H v π
    | _ => none
  | _, _ :: _ => none
theorem getP_lst {k : Kd} {xs : List D} {i : Int} {π : List Int} {e : D} (h : getP (.lst k xs) (i :: π) = some e) : k ≠ .sc ∧ (L2.atI xs i).bind (fun d => getP d π) = some e := by
  cases k with
  | sc => cases h
  | ow => exact ⟨by decide, h⟩
  | fz => exact ⟨by decide, h⟩
  | bo => exact ⟨by decide, h⟩
theorem sel_lst {H : Hp} {a : Addr} {vs : List V} {i : Int} {π : List Int} (h : H a = some (.lst vs)) : sel H (.ref a) (i :: π) = (L2.atI vs i).bind fun v => sel H v π := by
  show (match H a with | some (.lst vs) => (L2.atI vs i).bind fun v => sel H v π | some (.tup vs) => (L2.atI vs i).bind fun v => sel H v π | _ => none) = _
  rw [h]
theorem sel_tup {H : Hp} {a : Addr} {vs : List V} {i : Int} {π : List Int} (h : H a = some (.tup vs)) : sel H (.ref a) (i :: π) = (L2.atI vs i).bind fun v => sel H v π := by
  show (match H a with | some (.lst vs) => (L2.atI vs i).bind fun v => sel H v π | some (.tup vs) => (L2.atI vs i).bind fun v => sel H v π | _ => none) = _
  rw [h]
theorem sel_snoc {H : Hp} : ∀ {π : List Int} {v : V} {i : Int}, sel H v (π ++ [i]) = (sel H v π).bind fun w => sel H w [i]
  | [], v, i => rfl
  | j :: π, .ref a, i => by
    cases e : H a with
    | none => simp [sel, e]
    | some o =>
      cases o with
      | lst vs =>
        rw [List.cons_append, sel_lst e, sel_lst e]
        cases L2.atI vs j with
        | none => rfl
        | some w => exact sel_snoc
      | tup vs =>
        rw [List.cons_append, sel_tup e, sel_tup e]
        cases L2.atI vs j with
        | none => rfl
        | some w => exact sel_snoc
      | _ => simp [sel, e]
  | j :: π, .non, i => rfl
  | j :: π, .bl _, i => rfl
  | j :: π, .int _, i => rfl
  | j :: π, .str _, i => rfl
  | j :: π, .byt _, i => rfl
  | j :: π, .flt _, i => rfl
  | j :: π, .ty _, i => rfl
theorem sel_mono {H H' : Hp} (h : Same H H') : ∀ {π : List Int} {v w : V}, sel H v π = some w → sel H' v π = some w
  | [], v, w, e => e
  | j :: π, .ref a, w, e => by
    cases q : H a with
    | none => simp [sel, q] at e
    | some o =>
      cases o with
      | lst vs =>
        rw [sel_lst q, Option.bind_eq_some_iff] at e
        obtain ⟨x, e1, e2⟩ := e
        rw [sel_lst (h _ _ q), e1]
        exact sel_mono h e2
      | tup vs =>
        rw [sel_tup q, Option.bind_eq_some_iff] at e
        obtain ⟨x, e1, e2⟩ := e
        rw [sel_tup (h _ _ q), e1]
        exact sel_mono h e2
      | _ => simp [sel, q] at e
  | j :: π, .non, _, e => by cases e
  | j :: π, .bl _, _, e => by cases e
  | j :: π, .int _, _, e => by cases e
  | j :: π, .str _, _, e => by cases e
  | j :: π, .byt _, _, e => by cases e
  | j :: π, .flt _, _, e => by cases e
  | j :: π, .ty _, _, e => by cases e
def setP : D → List Int → D → D
  | _, [], e => e
  | .lst k xs, i :: π, e => match L2.ixN xs.length i with
    | some j => .lst k (xs.set j (setP (xs.getD j .non) π e))
    | none => .lst k xs
  | .tup xs, i :: π, e => match L2.ixN xs.length i with
    | some j => .tup (xs.set j (setP (xs.getD j .non) π e))
    | none => .tup xs
  | d, _ :: _, _ => d
section
variable {K : PySem.W.Frag} {B H : Hp}
theorem rps_split : ∀ {ds : List D} {vs : List V} {ps : List Addr} {j : Nat} {d : D}, Rps K B H ds vs ps → D.stos ds = true → ds[j]? = some d → ∃ v l m r, vs[j]? = some v ∧ ps = l ++ m ++ r ∧ Rp K B H d v m ∧
    ∀ (p : Addr) (vs0 ws : List V) (d' : D) (m' : List Addr), H p = some (.lst vs0) → B p = none → p ∉ l → p ∉ r → Rp K B (upd H p (.lst ws)) d' v m' → Rps K B (upd H p (.lst ws)) (ds.set j d') vs (l ++ m' ++ r)
  | [], _, _, j, d, _, _, e => by simp at e
  | d0 :: ds, vs, ps, 0, d, r, hs, e => by
    unfold Rps at r
    obtain ⟨v, vr, p1, q, e1, e2, r1, r2⟩ := r
    simp only [D.stos, Bool.and_eq_true] at hs
    simp at e
    subst e e1 e2
    refine ⟨v, [], p1, q, rfl, rfl, r1, fun p vs0 ws d' m' hp hb nl nr rr => ?_⟩
    show Rps K B _ (d' :: ds) _ _
    unfold Rps
    exact ⟨v, vr, m', q, rfl, rfl, rr, rps_upd hp hb hs.2 nr r2⟩
  | d0 :: ds, vs, ps, j + 1, d, r, hs, e => by
    unfold Rps at r
    obtain ⟨v, vr, p1, q, e1, e2, r1, r2⟩ := r
    simp only [D.stos, Bool.and_eq_true] at hs
    simp at e
    subst e1 e2
    obtain ⟨w, l, m, rr, h1, h2, h3, h4⟩ := rps_split r2 hs.2 e
    refine ⟨w, p1 ++ l, m, rr, by simpa using h1, by rw [h2]; simp, h3, fun p vs0 ws d' m' hp hb nl nr rp => ?_⟩
    simp only [List.mem_append, not_or] at nl
    show Rps K B _ (d0 :: ds.set j d') _ _
    unfold Rps
    exact ⟨v, vr, p1, l ++ m' ++ rr, rfl, by simp, rp_upd hp hb hs.1 nl.1 r1, h4 p vs0 ws d' m' hp hb nl.2 nr rp⟩
theorem atI_ix {α : Type} {xs : List α} {i : Int} {d : α} (h : L2.atI xs i = some d) : ∃ j, L2.ixN xs.length i = some j ∧ xs[j]? = some d := by
  unfold L2.atI at h
  rw [Option.bind_eq_some_iff] at h
  exact h
theorem place (ib : Same B H) : ∀ {π : List Int} {d : D} {v : V} {ps : List Addr} {xs : List D}, Rp K B H d v ps → ps.Nodup → d.sto = true → (∀ t ∈ ps, B t = none) → getP d π = some (.lst .ow xs) →
    ∃ p vs qs a c, ps = a ++ (p :: qs) ++ c ∧ H p = some (.lst vs) ∧ Rps K B H xs vs qs ∧ sel H v π = some (.ref p) ∧
      ∀ (xs' : List D) (ws : List V) (qs' : List Addr), Rps K B (upd H p (.lst ws)) xs' ws qs' → Rp K B (upd H p (.lst ws)) (setP d π (.lst .ow xs')) v (a ++ (p :: qs') ++ c)
  | [], d, v, ps, xs, r, nd, hs, fb, e => by
    cases e
    unfold Rp at r
    obtain ⟨a, vs, qs, e1, n, q, r⟩ := r
    subst e1 q
    refine ⟨a, vs, qs, [], [], by simp, n, r, rfl, fun xs' ws qs' rr => ?_⟩
    unfold setP Rp
    exact ⟨a, ws, qs', rfl, upd_same, by simp, rr⟩
  | i :: π, .lst k ys, v, ps, xs, r, nd, hs, fb, e => by
    obtain ⟨hk, e⟩ := getP_lst e
    rw [Option.bind_eq_some_iff] at e
    obtain ⟨d, e1, e2⟩ := e
    obtain ⟨j, e3, e4⟩ := atI_ix e1
    unfold Rp at r
    obtain ⟨a0, vs0, qs0, ev, n, q, r⟩ := r
    have hsy : D.stos ys = true := by cases k <;> simpa [D.sto] using hs
    obtain ⟨w, l, m, rr, h1, h2, h3, h4⟩ := rps_split r hsy e4
    have hsub : qs0.Sublist ps := by
      cases k with
      | ow => rw [q]; exact List.sublist_cons_self _ _
      | bo => rw [q]; exact .refl _
      | fz => rw [q.2]; exact List.nil_sublist _
      | sc => rw [q.2]; exact List.nil_sublist _
    have hm : m.Sublist ps := ((List.sublist_append_right l m).trans (List.sublist_append_left _ rr)).trans (h2 ▸ hsub)
    obtain ⟨p, vs, qs, a, c, g1, g2, g3, gs, g4⟩ := place ib (π := π) h3 (nd.sublist hm) (stos_at hsy e4) (fun t ht => fb t (hm.subset ht)) e2
    have hpm : p ∈ m := by rw [g1]; simp
    cases k with
    | ow =>
      subst q
      obtain ⟨na, nq⟩ := List.nodup_cons.mp nd
      rw [h2] at nq na
      obtain ⟨n1, n2, n3⟩ := List.nodup_append.mp nq
      obtain ⟨n4, n5, n6⟩ := List.nodup_append.mp n1
      have nl : p ∉ l := fun z => n6 p z p hpm rfl
      have nr : p ∉ rr := fun z => n3 p (by simp [hpm]) p z rfl
      have npa : p ≠ a0 := fun z => na (by rw [← z]; simp [hpm])
      have gsel : sel H v (i :: π) = some (.ref p) := by
        rw [ev, sel_lst (show H a0 = some (.lst vs0) from n)]
        unfold L2.atI
        rw [rps_len r, e3]
        show (vs0[j]?).bind _ = _
        rw [h1]
        exact gs
      refine ⟨p, vs, qs, a0 :: (l ++ a), c ++ rr, by rw [h2, g1]; simp, g2, g3, gsel, fun xs' ws qs' rq => ?_⟩
      have r5 := g4 xs' ws qs' rq
      have r6 := h4 p vs ws _ _ g2 (fb p (hm.subset hpm)) nl nr r5
      unfold setP
      rw [e3]
      have eg : ys.getD j .non = d := by rw [List.getD_eq_getElem?_getD, e4]; rfl
      show Rp K B _ (.lst .ow (ys.set j (setP (ys.getD j .non) π (.lst .ow xs')))) _ _
      rw [eg]
      unfold Rp
      refine ⟨a0, vs0, _, ev, (upd_ne (Ne.symm npa)).trans n, ?_, r6⟩
      simp
    | bo => simp [D.sto] at hs
    | fz =>
      rw [q.2] at h2
      simp at h2
      rw [h2.2.1] at hpm
      cases hpm
    | sc =>
      rw [q.2] at h2
      simp at h2
      rw [h2.2.1] at hpm
      cases hpm
  | i :: π, .tup ys, v, ps, xs, r, nd, hs, fb, e => by
    replace e : (L2.atI ys i).bind (fun d => getP d π) = some (.lst .ow xs) := e
    rw [Option.bind_eq_some_iff] at e
    obtain ⟨d, e1, e2⟩ := e
    obtain ⟨j, e3, e4⟩ := atI_ix e1
    unfold Rp at r
    obtain ⟨a0, vs0, ev, n, r⟩ := r
    have hsy : D.stos ys = true := by simpa [D.sto] using hs
    obtain ⟨w, l, m, rr, h1, h2, h3, h4⟩ := rps_split r hsy e4
    have hm : m.Sublist ps := ((List.sublist_append_right l m).trans (List.sublist_append_left _ rr)).trans (h2 ▸ .refl _)
    obtain ⟨p, vs, qs, a, c, g1, g2, g3, gs, g4⟩ := place ib (π := π) h3 (nd.sublist hm) (stos_at hsy e4) (fun t ht => fb t (hm.subset ht)) e2
    have hpm : p ∈ m := by rw [g1]; simp
    rw [h2] at nd
    obtain ⟨n1, n2, n3⟩ := List.nodup_append.mp nd
    obtain ⟨n4, n5, n6⟩ := List.nodup_append.mp n1
    have nl : p ∉ l := fun z => n6 p z p hpm rfl
    have nr : p ∉ rr := fun z => n3 p (by simp [hpm]) p z rfl
    have gsel : sel H v (i :: π) = some (.ref p) := by
      rw [ev, sel_tup n]
      unfold L2.atI
      rw [rps_len r, e3]
      show (vs0[j]?).bind _ = _
      rw [h1]
      exact gs
    refine ⟨p, vs, qs, l ++ a, c ++ rr, by rw [h2, g1]; simp, g2, g3, gsel, fun xs' ws qs' rq => ?_⟩
    have r5 := g4 xs' ws qs' rq
    have r6 := h4 p vs ws _ _ g2 (fb p (hm.subset hpm)) nl nr r5
    unfold setP
    rw [e3]
    have eg : ys.getD j .non = d := by rw [List.getD_eq_getElem?_getD, e4]; rfl
    show Rp K B _ (.tup (ys.set j (setP (ys.getD j .non) π (.lst .ow xs')))) _ _
    rw [eg]
    unfold Rp
    refine ⟨a0, vs0, ev, ?_, by simpa using r6⟩
    have : a0 ≠ p := fun z => by subst z; rw [g2] at n; cases n
    exact (upd_ne this).trans n
  | i :: π, .non, _, _, _, _, _, _, _, e => by cases e
  | i :: π, .bl _, _, _, _, _, _, _, _, e => by cases e
  | i :: π, .int _, _, _, _, _, _, _, _, e => by cases e
  | i :: π, .str _, _, _, _, _, _, _, _, e => by cases e
  | i :: π, .exc _ _, _, _, _, _, _, _, _, e => by cases e
end
theorem stos_set : ∀ {xs : List D} {j : Nat} {d : D}, D.stos xs = true → d.sto = true → D.stos (xs.set j d) = true
  | [], j, d, _, _ => rfl
  | a :: xs, 0, d, h, hd => by
    simp only [D.stos, Bool.and_eq_true] at h
    show (d.sto && D.stos xs) = true
    rw [hd, h.2]
    rfl
  | a :: xs, j + 1, d, h, hd => by
    simp only [D.stos, Bool.and_eq_true] at h
    show (a.sto && D.stos (xs.set j d)) = true
    rw [h.1, stos_set h.2 hd]
    rfl
theorem sto_getD {xs : List D} {j : Nat} (h : D.stos xs = true) : (xs.getD j .non).sto = true := by
  rw [List.getD_eq_getElem?_getD]
  cases e : xs[j]? with
  | none => rfl
  | some d => exact stos_at h e
theorem sto_setP : ∀ {π : List Int} {d e : D}, d.sto = true → e.sto = true → (setP d π e).sto = true
  | [], _, _, _, h => by unfold setP; exact h
  | i :: π, .lst k xs, e, h, he => by
    have hx : D.stos xs = true := by cases k <;> first | (simpa [D.sto] using h) | (simp [D.sto] at h)
    unfold setP
    split
    · rename_i j hj
      have := stos_set (j := j) hx (sto_setP (π := π) (sto_getD (j := j) hx) he)
      cases k <;> first | (simpa [D.sto] using this) | (simp [D.sto] at h)
    · exact h
  | i :: π, .tup xs, e, h, he => by
    have hx : D.stos xs = true := by simpa [D.sto] using h
    unfold setP
    split
    · rename_i j hj
      have := stos_set (j := j) hx (sto_setP (π := π) (sto_getD (j := j) hx) he)
      simpa [D.sto] using this
    · exact h
  | i :: π, .non, e, h, _ => h
  | i :: π, .bl _, e, h, _ => h
  | i :: π, .int _, e, h, _ => h
  | i :: π, .str _, e, h, _ => h
  | i :: π, .exc _ _, e, h, _ => h
section
variable {K : PySem.W.Frag} {W : WC} {Bf Hf B0 H0 B H : Hp} {σ : L2.St} {env : Env} {ps : Nat → List Addr}
theorem SRb.place (s : SRb K Bf Hf B0 H0 σ H env B ps) {i : Nat} {d : D} {π : List Int} {xs : List D} (e : env[i]? = some (some d)) (hp : getP d π = some (.lst .ow xs)) :
    ∃ v p vs qs, σ[i]? = some (some v) ∧ sel H v π = some (.ref p) ∧ H p = some (.lst vs) ∧ Rps K B H xs vs qs ∧ (∀ t ∈ p :: qs, t ∈ ps i) ∧ qs.Nodup ∧ ∀ (xs' : List D) (ws : List V) (qs' : List Addr), D.stos xs' = true → Rps K B H xs' ws qs' → qs'.Nodup → (∀ q ∈ qs', q ∈ qs ∨ (H0 q = none ∧ Hf q = none ∧ B q = none ∧ ∀ j, q ∉ ps j)) →
      SR K Bf Hf B0 H0 σ (upd H p (.lst ws)) (env.set i (some (setP d π (.lst .ow xs')))) := by
  obtain ⟨hd, v, hv, r⟩ := s.sl i d e
  have fb : ∀ t ∈ ps i, B t = none := fun t ht => (s.ow i t ht).2.2.1
  obtain ⟨p, vs, qs, a, c, g1, g2, g3, gs, g4⟩ := BC.place s.st.i r (s.nd i) hd fb hp
  have hpi : p ∈ ps i := by rw [g1]; simp
  have nd := s.nd i
  rw [g1] at nd
  obtain ⟨m1, m2, m3⟩ := List.nodup_append.mp nd
  obtain ⟨m4, m5, m6⟩ := List.nodup_append.mp m1
  obtain ⟨m7, m8⟩ := List.nodup_cons.mp m5
  have sub : ∀ t ∈ p :: qs, t ∈ ps i := fun t ht => by rw [g1]; simp only [List.mem_append]; exact .inl (.inr ht)
  refine ⟨v, p, vs, qs, hv, gs, g2, g3, sub, m8, fun xs' ws qs' hst rr ndq hq => ?_⟩
  obtain ⟨o1, o2, o3, _⟩ := s.ow i p hpi
  have npq : p ∉ qs' := fun z => by
    rcases hq p z with h | h
    · exact m7 h
    · exact h.2.2.2 i hpi
  have r2 : Rps K B (upd H p (.lst ws)) xs' ws qs' := rps_upd g2 o3 hst npq rr
  have r3 := g4 xs' ws qs' r2
  have nw : ∀ q ∈ qs', q ∉ a ∧ q ∉ c ∧ (∀ j, j ≠ i → q ∉ ps j) := fun q hqm => by
    rcases hq q hqm with h | h
    · have hi : q ∈ ps i := sub q (by simp [h])
      exact ⟨fun z => m6 q z q (by simp [h]) rfl, fun z => m3 q (by simp [h]) q z rfl, fun j hj z => hj (s.dj j i q z hi)⟩
    · have ni := h.2.2.2 i
      rw [g1] at ni
      simp only [List.mem_append, not_or] at ni
      exact ⟨ni.1.1, ni.2, fun j _ => h.2.2.2 j⟩
  refine ⟨B, fun j => if j = i then a ++ (p :: qs') ++ c else ps j, s.fb, fun t o e => ?_, ⟨s.st.b, fun t o e => ?_, fun t o e => ?_, s.st.n⟩, by simp [s.len], fun j d' e' => ?_, fun j => ?_, fun j k t h1 h2 => ?_, fun j t ht => ?_⟩
  · rw [upd_ne (fun z => by subst z; rw [o2] at e; cases e)]
    exact s.fh t o e
  · rw [upd_ne (fun z => by subst z; rw [o1] at e; cases e)]
    exact s.st.h t o e
  · rw [upd_ne (fun z => by subst z; rw [o3] at e; cases e)]
    exact s.st.i t o e
  · by_cases h : j = i
    · subst h
      have hj : j < env.length := by
        have := (List.getElem?_eq_some_iff.mp e).1
        simpa using this
      rw [List.getElem?_set_self hj] at e'
      cases e'
      refine ⟨sto_setP hd (by simpa [D.sto] using hst), v, hv, ?_⟩
      rw [if_pos rfl]
      exact r3
    · rw [List.getElem?_set_ne (Ne.symm h)] at e'
      obtain ⟨h0, w, h1, h2⟩ := s.sl j d' e'
      refine ⟨h0, w, h1, ?_⟩
      rw [if_neg h]
      exact rp_upd g2 o3 h0 (fun z => h (s.dj j i p z hpi)) h2
  · split
    · refine List.nodup_append.mpr ⟨List.nodup_append.mpr ⟨m4, List.nodup_cons.mpr ⟨npq, ndq⟩, fun x hx y hy z => ?_⟩, m2, fun x hx y hy z => ?_⟩
      · subst z
        rcases List.mem_cons.mp hy with z | z
        · subst z
          exact m6 x hx x (by simp) rfl
        · exact (nw x z).1 hx
      · subst z
        rcases List.mem_append.mp hx with z | z
        · exact m3 x (by simp [z]) x hy rfl
        · rcases List.mem_cons.mp z with z | z
          · subst z
            exact m3 x (by simp) x hy rfl
          · exact (nw x z).2.1 hy
    · exact s.nd j
  · have key : ∀ t, t ∈ a ++ (p :: qs') ++ c → ∀ k, k ≠ i → t ∉ ps k := fun t ht k hk => by
      simp only [List.mem_append, List.mem_cons] at ht
      rcases ht with (ht | ht | ht) | ht
      · exact fun z => hk (s.dj k i t z (by rw [g1]; simp [ht]))
      · subst ht
        exact fun z => hk (s.dj k i t z hpi)
      · exact (nw t ht).2.2 k hk
      · exact fun z => hk (s.dj k i t z (by rw [g1]; simp [ht]))
    by_cases hj : j = i
    · rw [if_pos hj] at h1
      by_cases hk : k = i
      · exact hj.trans hk.symm
      · rw [if_neg hk] at h2
        exact absurd h2 (key t h1 k hk)
    · rw [if_neg hj] at h1
      by_cases hk : k = i
      · rw [if_pos hk] at h2
        exact absurd h1 (key t h2 j hj)
      · rw [if_neg hk] at h2
        exact s.dj j k t h1 h2
  · by_cases hj : j = i
    · rw [if_pos hj] at ht
      have old : ∀ t, t ∈ ps i → H0 t = none ∧ Hf t = none ∧ B t = none ∧ ∃ vs, upd H p (.lst ws) t = some (.lst vs) := fun t hti => by
        obtain ⟨q1, q2, q3, us, q4⟩ := s.ow i t hti
        refine ⟨q1, q2, q3, ?_⟩
        by_cases htp : t = p
        · subst htp
          exact ⟨ws, upd_same⟩
        · exact ⟨us, (upd_ne htp).trans q4⟩
      simp only [List.mem_append, List.mem_cons] at ht
      rcases ht with (ht | ht | ht) | ht
      · exact old t (by rw [g1]; simp [ht])
      · exact old t (by rw [ht]; exact hpi)
      · rcases hq t ht with h | h
        · exact old t (sub t (by simp [h]))
        · exact ⟨h.1, h.2.1, h.2.2.1, rps_own r2 t ht⟩
      · exact old t (by rw [g1]; simp [ht])
    · rw [if_neg hj] at ht
      obtain ⟨q1, q2, q3, us, q4⟩ := s.ow j t ht
      exact ⟨q1, q2, q3, us, (upd_ne (fun z => hj (s.dj j i t ht (by rw [z]; exact hpi)))).trans q4⟩
end
/-! places as expressions -/
def tPl (K : PySem.W.Frag) (W : WC) (i : Nat) : List (Env → R D) → TE
  | [] => tVar i
  | g :: gs => tOp (rIx K) (tPl K W i gs) (tF K W g)
def xPath : List (Env → R D) → Env → Option (List Int)
  | [], _ => some []
  | g :: gs, env => match xPath gs env, g env with
    | some π, .ok (.int i) => some (π ++ [i])
    | _, _ => none
theorem getP_snoc : ∀ {π : List Int} {d : D} {i : Int}, getP d (π ++ [i]) = (getP d π).bind fun e => getP e [i]
  | [], d, i => rfl
  | j :: π, .lst k xs, i => by
    cases k with
    | sc => rfl
    | _ =>
      show ((L2.atI xs j).bind fun d => getP d (π ++ [i])) = ((L2.atI xs j).bind fun d => getP d π).bind _
      cases L2.atI xs j with
      | none => rfl
      | some d => exact getP_snoc
  | j :: π, .tup xs, i => by
    show ((L2.atI xs j).bind fun d => getP d (π ++ [i])) = ((L2.atI xs j).bind fun d => getP d π).bind _
    cases L2.atI xs j with
    | none => rfl
    | some d => exact getP_snoc
  | j :: π, .non, i => rfl
  | j :: π, .bl _, i => rfl
  | j :: π, .int _, i => rfl
  | j :: π, .str _, i => rfl
  | j :: π, .exc _ _, i => rfl
theorem atI_sel {H : Hp} {a : Addr} {vs : List V} {n : Int} {v : V} (h : H a = some (.lst vs) ∨ H a = some (.tup vs)) (e : L2.atI vs n = some v) : sel H (.ref a) [n] = some v := by
  rcases h with h | h
  · rw [sel_lst h, e]; rfl
  · rw [sel_tup h, e]; rfl
section
variable {K : PySem.W.Frag} {W : WC} {Bf Hf B0 H0 : Hp} {σ : L2.St} {env : Env} {ps : Nat → List Addr} {i : Nat} {d : D}
theorem runP (he : env[i]? = some (some d)) : ∀ {gs : List (Env → R D)} {π : List Int} {e : D} {H B : Hp} {R' : VK}, xPath gs env = some π → getP d π = some e → SRb K Bf Hf B0 H0 σ H env B ps →
    (∀ v0 v B' H' p, σ[i]? = some (some v0) → sel H' v0 π = some v → Step B H B' H' → SRb K Bf Hf B0 H0 σ H' env B' ps → Rp K B' H' e v p → R' v H') → tPl K W i gs σ H R'
  | [], π, e, H, B, R', hx, hg, s, k => by
    cases hx
    cases hg
    obtain ⟨_, v, h1, h2⟩ := s.sl i d he
    exact ⟨v, h1, k v v B H (ps i) h1 rfl (.refl s.st.i) s h2⟩
  | g :: gs, π, e, H, B, R', hx, hg, s, k => by
    unfold xPath at hx
    split at hx
    · rename_i π0 n h1 h2
      cases hx
      rw [getP_snoc, Option.bind_eq_some_iff] at hg
      obtain ⟨e0, h3, h4⟩ := hg
      refine runP he (gs := gs) h1 h3 s fun v0 x B1 H1 p1 hv0 hsel st1 s1 r1 => ?_
      refine tF_of s1.st.i s1.sle ?_
      rw [h2]
      intro y B2 H2 q2 st2 r2 nd2 fr2
      have ey := rp_int r2
      have r12 := rp_mono st2.b st2.h r1
      have s2 := s1.step st2
      have hsel2 := sel_mono st2.h hsel
      cases e0 with
      | lst kk xs =>
        obtain ⟨hk, h4⟩ := getP_lst h4
        have h5 : L2.atI xs n = some e := by
          rw [Option.bind_eq_some_iff] at h4
          obtain ⟨d1, q1, q2⟩ := h4
          cases q2
          exact q1
        obtain ⟨l, vs, qs, e1, sq, u1, rr⟩ := rp_lstX s2.st.i hk r12
        obtain ⟨v, t, g1, g2, g3⟩ := rps_atI rr h5
        refine .inl ⟨l, vs, n, v, e1, ey, .of sq, g1, k v0 v B2 H2 t hv0 ?_ (st1.trans st2) s2 g2⟩
        rw [sel_snoc, hsel2, e1]
        exact atI_sel (.inl sq) g1
      | tup xs =>
        have h5 : L2.atI xs n = some e := by
          have : (L2.atI xs n).bind (fun d => getP d []) = some e := h4
          rw [Option.bind_eq_some_iff] at this
          obtain ⟨d1, q1, q2⟩ := this
          cases q2
          exact q1
        obtain ⟨l, vs, e1, sq, rr⟩ := rp_tupX r12
        obtain ⟨v, t, g1, g2, g3⟩ := rps_atI rr h5
        refine .inr (.inl ⟨l, vs, n, v, e1, ey, .of sq, g1, k v0 v B2 H2 t hv0 ?_ (st1.trans st2) s2 g2⟩)
        rw [sel_snoc, hsel2, e1]
        exact atI_sel (.inr sq) g1
      | _ => cases h4
    · cases hx
end
/-- the owned list at a place -/
def gPl (i : Nat) (gs : List (Env → R D)) (k : D → List Int → List D → G) : G := fun env Q => match env[i]? with
  | some (some d) => match xPath gs env with
    | some π => match getP d π with
      | some (.lst .ow xs) => k d π xs env Q
      | _ => False
    | none => False
  | _ => False
theorem gPl_of {i : Nat} {gs : List (Env → R D)} {k : D → List Int → List D → G} {env : Env} {Q : Ou → Prop} (h : gPl i gs k env Q) : ∃ d π xs, env[i]? = some (some d) ∧ xPath gs env = some π ∧ getP d π = some (.lst .ow xs) ∧ k d π xs env Q := by
  unfold gPl at h
  split at h
  · split at h
    · split at h
      · exact ⟨_, _, _, by assumption, by assumption, by assumption, h⟩
      · exact h.elim
    · exact h.elim
  · exact h.elim
def gApp (i : Nat) (gs : List (Env → R D)) (f : Env → R D) : G := gPl i gs fun d π xs env Q => gEv (f env) env Q fun y => y.sto = true ∧ xs.length < 16777216 ∧ Q (.nx (env.set i (some (setP d π (.lst .ow (xs ++ [y]))))))
def gPop (i : Nat) (gs : List (Env → R D)) : G := gPl i gs fun d π xs env Q => xs ≠ [] ∧ Q (.nx (env.set i (some (setP d π (.lst .ow xs.dropLast)))))
def gIns (i : Nat) (gs : List (Env → R D)) (f g : Env → R D) : G := gPl i gs fun d π xs env Q => gEv (f env) env Q fun n => gEv (g env) env Q fun y => y.sto = true ∧ xs.length < 16777216 ∧ match n with
  | .int n => 0 ≤ n ∧ n < 9223372036854775808 ∧ Q (.nx (env.set i (some (setP d π (.lst .ow (xs.take n.toNat ++ [y] ++ xs.drop n.toNat))))))
  | _ => False
def gExt (i : Nat) (gs : List (Env → R D)) (f : Env → R D) : G := gPl i gs fun d π xs env Q => gEv (f env) env Q fun y => match y with
  | .lst k ys => k ≠ .sc ∧ D.stos ys = true ∧ xs.length + ys.length ≤ 16777216 ∧ Q (.nx (env.set i (some (setP d π (.lst .ow (xs ++ ys))))))
  | _ => False
def gSetI (i : Nat) (gs : List (Env → R D)) (g f : Env → R D) : G := gPl i gs fun d π xs env Q => gEv (f env) env Q fun y => gEv (g env) env Q fun n => y.sto = true ∧ match n with
  | .int n => match L2.ixN xs.length n with
    | some j => Q (.nx (env.set i (some (setP d π (.lst .ow (xs.set j y))))))
    | none => False
  | _ => False
def gAugI (i : Nat) (gs : List (Env → R D)) (op : Int → Int → Int) (g f : Env → R D) : G := gPl i gs fun d π xs env Q => gEv (g env) env Q fun n => match n, f env with
  | .int n, .ok (.int y) => match L2.ixN xs.length n with
    | some j => match xs[j]? with
      | some (.int x) => Q (.nx (env.set i (some (setP d π (.lst .ow (xs.set j (.int (op x y))))))))
      | _ => False
    | none => False
  | _, _ => False
def gAug (i : Nat) (op : Int → Int → Int) (f : Env → R D) : G := fun env Q => match env[i]? with
  | some (some (.int x)) => gEv (f env) env Q fun y => match y with
    | .int y => Q (.nx (env.set i (some (.int (op x y)))))
    | _ => False
  | _ => False
theorem pget_list {X : Cx} : PGet X (rIxL X.K) := by
  intro pins s σ H o i ov iv Q I ro ri h
  obtain ⟨p, xs, n, z, e1, e2, hq, he, q⟩ := h
  subst e1 e2
  cases ro
  obtain ⟨t, e3⟩ := ri
  subst e3
  obtain ⟨its, r, pl, hz⟩ := I.list hq
  obtain ⟨j, h1, h2, h3, h4, h5⟩ := atI_get he
  obtain ⟨u, ew, ru⟩ := r.get h2
  have hl := r.length
  have hn := line63
  have fin : EP X pins σ Q u s := ⟨z, H, I, ru, q⟩
  by_cases h0 : 0 ≤ n
  · have hj : n.toNat = j := by
      rw [seqIndex_of h0 h5] at h1
      exact Option.some.inj h1
    exact wpAny_getItem_list pl.isList h0 (by omega) (by rw [hj]; simpa using ew) fin
  · have hj : (n + (its.toArray.size : Int)).toNat = j := by
      rw [seqIndex_neg (by omega) h4] at h1
      rw [List.size_toArray, ← hl]
      exact Option.some.inj h1
    exact wpAny_getItem_list_neg pl.isList (by omega) (by rw [List.size_toArray] <;> omega) (by omega) (by rw [hj]; simpa using ew) fin
theorem stos_of {K : PySem.W.Frag} {Bf Hf B0 H0 B H : Hp} {σ : L2.St} {env : Env} {ps : Nat → List Addr} {i : Nat} {d : D} (s : SRb K Bf Hf B0 H0 σ H env B ps) (e : env[i]? = some (some d)) : d.sto = true := (s.sl i d e).1
theorem sto_getP : ∀ {π : List Int} {d e : D}, d.sto = true → getP d π = some e → e.sto = true
  | [], _, _, h, e => by cases e; exact h
  | i :: π, .lst k xs, e, h, he => by
    have hx : D.stos xs = true := by cases k <;> first | (simpa [D.sto] using h) | (simp [D.sto] at h)
    obtain ⟨_, he⟩ := getP_lst he
    rw [Option.bind_eq_some_iff] at he
    obtain ⟨d, e1, e2⟩ := he
    obtain ⟨j, e3, e4⟩ := atI_ix e1
    exact sto_getP (stos_at hx e4) e2
  | i :: π, .tup xs, e, h, he => by
    have hx : D.stos xs = true := by simpa [D.sto] using h
    replace he : (L2.atI xs i).bind (fun d => getP d π) = some e := he
    rw [Option.bind_eq_some_iff] at he
    obtain ⟨d, e1, e2⟩ := he
    obtain ⟨j, e3, e4⟩ := atI_ix e1
    exact sto_getP (stos_at hx e4) e2
  | i :: π, .non, e, h, he => by cases he
  | i :: π, .bl _, e, h, he => by cases he
  | i :: π, .int _, e, h, he => by cases he
  | i :: π, .str _, e, h, he => by cases he
  | i :: π, .exc _ _, e, h, he => by cases he
section
variable {X : Cx} {W : WC} {e o b : Expr} {f g : Env → R D} {gs : List (Env → R D)} {i : Nat} {pos apos cpos : Pos}
theorem sp_var (i : Nat) {x : Str} {pos : Pos} (hN : X.N[i]? = some x := by rfl) (hv : Vis X.env.scope x := by first | exact Or.inl rfl | exact Or.inr (Or.inl rfl) | exact Or.inr (Or.inr rfl)) (hd : (x == ("__debug__" : Str)) = false := by decide)
    (hcd : (x == ("__classdict__" : Str)) = false := by decide) : PE X (.Name x pos) (tPl X.K W i []) := pe_var hN hv hd hcd
theorem sp_ix (h : PE X o (tPl X.K W i gs)) (hb : PE X b (tF X.K W g)) (hs : PlainIx b := by intro _ _; rfl) : PE X (.Subscript o b pos) (tPl X.K W i (g :: gs)) := pe_ix ix_seq h hb hs
/-- an expression read in a run's state, the state kept -/
theorem runE2 {K : PySem.W.Frag} {Bf Hf B0 H0 B H : Hp} {σ : L2.St} {env : Env} {ps : Nat → List Addr} {Q : Ou → Prop} {f : Env → R D} {k : D → Prop} {R' : VK} (s : SRb K Bf Hf B0 H0 σ H env B ps) (h : gEv (f env) env Q k) (er : ∀ c, Q (.rz c env) → ∀ σ H, SR K Bf Hf B0 H0 σ H env → W c σ H)
    (kk : ∀ d v B' H' qs, k d → SRb K Bf Hf B0 H0 σ H' env B' ps → Step B H B' H' → Rp K B' H' d v qs → qs.Nodup → Fresh H B' qs → R' v H') : tF K W f σ H R' := by
  refine tF_of s.st.i s.sle ?_
  cases e : f env with
  | ok d =>
    rw [e] at h
    exact fun v B' H' qs st rp nd fr => kk d v B' H' qs h (s.step st) st rp nd fr
  | er c =>
    rw [e] at h
    exact fun H' hs => er c h σ H' ⟨B, ps, s.same hs⟩
  | no => rw [e] at h; exact h.elim
/-- the node at a place, told again in a later state -/
theorem SRb.node {K : PySem.W.Frag} {Bf Hf B0 H0 B H : Hp} {σ : L2.St} {env : Env} {ps : Nat → List Addr} {v : V} {xs : List D} {p : List Addr} (r : Rp K B H (.lst .ow xs) v p) : ∃ a vs qs, v = .ref a ∧ H a = some (.lst vs) ∧ p = a :: qs ∧ Rps K B H xs vs qs := by
  unfold Rp at r
  obtain ⟨a, vs, qs, e, n, q, r⟩ := r
  exact ⟨a, vs, qs, e, n, q, r⟩
end
end BC

namespace BC
open PySem PySem.Spec PyProof.Rows L2

/-! ## statements that change a list -/
section
variable {K : PySem.W.Frag} {Bf Hf B0 H0 B H : Hp} {σ : L2.St} {env : Env} {ps : Nat → List Addr} {i : Nat} {d : D} {π : List Int} {xs : List D} {v0 v : V}
theorem SRb.at (s : SRb K Bf Hf B0 H0 σ H env B ps) (e : env[i]? = some (some d)) (hp : getP d π = some (.lst .ow xs)) (h0 : σ[i]? = some (some v0)) (hv : sel H v0 π = some v) :
    ∃ p vs qs, v = .ref p ∧ H p = some (.lst vs) ∧ Rps K B H xs vs qs ∧ qs.Nodup ∧ (∀ t ∈ qs, t ∈ ps i) ∧ ∀ (xs' : List D) (ws : List V) (qs' : List Addr), D.stos xs' = true → Rps K B H xs' ws qs' → qs'.Nodup → (∀ q ∈ qs', q ∈ qs ∨ (H0 q = none ∧ Hf q = none ∧ B q = none ∧ ∀ j, q ∉ ps j)) →
      SR K Bf Hf B0 H0 σ (upd H p (.lst ws)) (env.set i (some (setP d π (.lst .ow xs')))) := by
  obtain ⟨w, p, vs, qs, h1, h2, h3, h4, h5, h6, h7⟩ := s.place e hp
  rw [h0] at h1
  cases h1
  rw [hv] at h2
  cases h2
  exact ⟨p, vs, qs, rfl, h3, h4, h6, fun t ht => h5 t (by simp [ht]), h7⟩
end
theorem stos_sub {xs ys : List D} (h : D.stos ys = true) (s : xs.Sublist ys) : D.stos xs = true := by
  induction s with
  | slnil => rfl
  | cons a _ ih =>
    simp only [D.stos, Bool.and_eq_true] at h
    exact ih h.2
  | cons_cons a _ ih =>
    simp only [D.stos, Bool.and_eq_true] at h ⊢
    exact ⟨h.1, ih h.2⟩
theorem nodup_new {K : PySem.W.Frag} {B H Ho B' : Hp} {ds : List D} {vs : List V} {p q : List Addr} (r : Rps K B H ds vs p) (hp : p.Nodup) (hq : q.Nodup) (f : ∀ t ∈ q, ∀ i, t ∉ (fun _ : Nat => p) i) : (p ++ q).Nodup :=
  List.nodup_append.mpr ⟨hp, hq, fun x hx y hy e => by subst e; exact f x hy 0 hx⟩
section
variable {X : Cx} {W : WC} {e o b : Expr} {f g : Env → R D} {gs : List (Env → R D)} {i : Nat} {pos apos cpos : Pos}
theorem ss_app {pos' : Pos} (ho : PE X o (tPl X.K W i gs)) (he : PE X e (tF X.K W f)) (hbase : attributeBase o "append" X.env (eval o X.env) = eval o X.env := by rfl)
    (hfew : ((backTo cpos (starEach [e] X.env)).all (fun x => !x.1) && (backToKw cpos (keywordEach [] X.env)).all (fun x => x.1.isSome)
      && decide ([e].length + ([] : List Keyword).length + (if ([] : List Keyword).isEmpty then 0 else 1) < 30)) = true := by rfl)
    (hline : (apos.endLine == cpos.line) = true := by rfl) (hs : starEach [e] X.env = (false, eval e X.env) :: starEach [] X.env := by rfl) (hplain : (backTo cpos (starEach [] X.env)).any (·.1) = false := by rfl)
    (hsw : swapsWith (.Call (.Attribute o "append" apos) [e] [] cpos) none pos'.line X.env = pure false := by rfl) : PS X (.Expr (.Call (.Attribute o "append" apos) [e] [] cpos) pos') (tG X.K W (gApp i gs f)) := by
  refine psI (ps_expr (pe_bm PySem.F.plainAttrs_list PySem.F.slot_list_append PySem.F.type_list_append mt_append ho (pa_cons he pa_nil hs) hbase hfew hline hs hplain) hsw) fun De σ H ⟨Bf, Hf, B0, H0, env, Q, ⟨B, ps, s⟩, h, eo⟩ => ?_
  obtain ⟨d, π, xs, e0, hx, hg, hk⟩ := gPl_of h
  refine runP e0 hx hg s fun v0 v B1 H1 p1 hv0 hsel st1 s1 r1 => ?_
  obtain ⟨a, vs1, qs1, ev, h1, _, _⟩ := SRb.node (Bf := Bf) (Hf := Hf) (B0 := B0) (H0 := H0) (σ := σ) (env := env) (ps := ps) r1
  subst ev
  refine ⟨.inl ⟨rfl, vs1, .of h1⟩, ?_⟩
  refine runE2 (Q := Q) s1 hk (fun c q => eo.rz c env q) fun y w B2 H2 q2 k2 s2 st2 r2 nd2 fr2 => ?_
  obtain ⟨hy, hz, hq⟩ := k2
  obtain ⟨p, vs, qs, ep, hp, rr, nd, sub, K⟩ := s2.at e0 hg hv0 (sel_mono st2.h hsel)
  cases ep
  have f2 := s1.fresh st2 fr2
  refine ⟨a, vs, w, rfl, rfl, hp, by rw [rps_len rr, sizeLine_eq]; exact hz, ?_⟩
  refine eo.nx _ hq σ _ (K (xs ++ [y]) (vs ++ [w]) (qs ++ q2) ?_ ?_ ?_ fun q hqm => ?_)
  · refine stos_app ?_ (by simp [D.stos, hy])
    have := sto_getP (stos_of s2 e0) hg
    simpa [D.sto] using this
  · refine rps_app rr ?_
    unfold Rps
    exact ⟨w, [], q2, [], rfl, by simp, r2, ⟨rfl, rfl⟩⟩
  · exact List.nodup_append.mpr ⟨nd, nd2, fun x hx y hy z => (f2 y hy).2.2.2 i (z ▸ sub x hx)⟩
  · rcases List.mem_append.mp hqm with z | z
    · exact .inl z
    · exact .inr (f2 q z)
theorem ss_pop {pos' : Pos} (ho : PE X o (tPl X.K W i gs)) (hbase : attributeBase o "pop" X.env (eval o X.env) = eval o X.env := by rfl) (hline : (apos.endLine == cpos.line) = true := by rfl)
    (hsw : swapsWith (.Call (.Attribute o "pop" apos) [] [] cpos) none pos'.line X.env = pure false := by rfl) : PS X (.Expr (.Call (.Attribute o "pop" apos) [] [] cpos) pos') (tG X.K W (gPop i gs)) := by
  refine psI (ps_expr (pe_bm0 PySem.F.plainAttrs_list PySem.F.slot_list_pop PySem.F.type_list_pop mt_pop ho hbase hline) hsw) fun De σ H ⟨Bf, Hf, B0, H0, env, Q, ⟨B, ps, s⟩, h, eo⟩ => ?_
  obtain ⟨d, π, xs, e0, hx, hg, hne, hq⟩ := gPl_of h
  refine runP e0 hx hg s fun v0 v B1 H1 p1 hv0 hsel st1 s1 r1 => ?_
  obtain ⟨p, vs, qs, ep, hp, rr, nd, sub, K⟩ := s1.at e0 hg hv0 hsel
  subst ep
  refine ⟨.inl ⟨rfl, vs, .of hp⟩, ?_⟩
  have hl := rps_len rr
  have hpos : 0 < vs.length := by
    rw [hl]
    exact List.length_pos_iff.mpr hne
  have hlast : vs[vs.length - 1]? = some (vs[vs.length - 1]'(by omega)) := List.getElem?_eq_getElem _
  refine ⟨p, vs, _, rfl, rfl, hp, hlast, ?_⟩
  obtain ⟨qs', h1, h2⟩ := rps_sub 0 (xs.length - 1) rr
  rw [List.drop_zero, List.drop_zero, ← List.dropLast_eq_take, ← hl, ← List.dropLast_eq_take] at h2
  refine eo.nx _ hq σ _ (K xs.dropLast vs.dropLast qs' ?_ h2 (nd.sublist h1) fun q hqm => .inl (h1.subset hqm))
  have hs1 := sto_getP (stos_of s1 e0) hg
  have hs2 : D.stos xs = true := by simpa [D.sto] using hs1
  exact stos_sub hs2 (List.dropLast_sublist xs)
theorem ss_ins {pos' : Pos} {e2 : Expr} (ho : PE X o (tPl X.K W i gs)) (he : PE X e (tF X.K W f)) (he2 : PE X e2 (tF X.K W g)) (hbase : attributeBase o "insert" X.env (eval o X.env) = eval o X.env := by rfl)
    (hfew : ((backTo cpos (starEach [e, e2] X.env)).all (fun x => !x.1) && (backToKw cpos (keywordEach [] X.env)).all (fun x => x.1.isSome)
      && decide ([e, e2].length + ([] : List Keyword).length + (if ([] : List Keyword).isEmpty then 0 else 1) < 30)) = true := by rfl)
    (hline : (apos.endLine == cpos.line) = true := by rfl) (hs : starEach [e, e2] X.env = (false, eval e X.env) :: starEach [e2] X.env := by rfl) (hs2 : starEach [e2] X.env = (false, eval e2 X.env) :: starEach [] X.env := by rfl) (hplain : (backTo cpos (starEach [e2] X.env)).any (·.1) = false := by rfl)
    (hsw : swapsWith (.Call (.Attribute o "insert" apos) [e, e2] [] cpos) none pos'.line X.env = pure false := by rfl) : PS X (.Expr (.Call (.Attribute o "insert" apos) [e, e2] [] cpos) pos') (tG X.K W (gIns i gs f g)) := by
  refine psI (ps_expr (pe_bm PySem.F.plainAttrs_list PySem.F.slot_list_insert PySem.F.type_list_insert mt_insert ho (pa_cons he (pa_cons he2 pa_nil hs2) hs) hbase hfew hline hs hplain) hsw) fun De σ H ⟨Bf, Hf, B0, H0, env, Q, ⟨B, ps, s⟩, h, eo⟩ => ?_
  obtain ⟨d, π, xs, e0, hx, hg, hk⟩ := gPl_of h
  refine runP e0 hx hg s fun v0 v B1 H1 p1 hv0 hsel st1 s1 r1 => ?_
  obtain ⟨a, vs1, qs1, ev, h1, _, _⟩ := SRb.node (Bf := Bf) (Hf := Hf) (B0 := B0) (H0 := H0) (σ := σ) (env := env) (ps := ps) r1
  subst ev
  refine ⟨.inl ⟨rfl, vs1, .of h1⟩, ?_⟩
  refine runE2 (Q := Q) s1 hk (fun c q => eo.rz c env q) fun n wn B2 H2 q2 k2 s2 st2 r2 nd2 fr2 => ?_
  refine runE2 (Q := Q) s2 k2 (fun c q => eo.rz c env q) fun y w B3 H3 q3 k3 s3 st3 r3 nd3 fr3 => ?_
  obtain ⟨hy, hz, hq⟩ := k3
  cases n with
  | int n =>
    obtain ⟨n0, n1, hq⟩ := hq
    have en := rp_int r2
    subst en
    obtain ⟨p, vs, qs, ep, hp, rr, nd, sub, K⟩ := s3.at e0 hg hv0 (sel_mono st3.h (sel_mono st2.h hsel))
    cases ep
    have f3 := s2.fresh st3 fr3
    refine ⟨a, vs, n, w, rfl, rfl, hp, by rw [rps_len rr, sizeLine_eq]; exact hz, n0, by omega, ?_⟩
    have hst : D.stos xs = true := by
      have := sto_getP (stos_of s3 e0) hg
      simpa [D.sto] using this
    obtain ⟨qa, a1, a2, qb, b1, b2, hab⟩ := rps_cut n.toNat rr
    have ndab : (qa ++ qb).Nodup := hab ▸ nd
    obtain ⟨na, nb, nab⟩ := List.nodup_append.mp ndab
    refine eo.nx _ hq σ _ (K (xs.take n.toNat ++ [y] ++ xs.drop n.toNat) (vs.take n.toNat ++ [w] ++ vs.drop n.toNat) (qa ++ q3 ++ qb) ?_ ?_ ?_ fun q hqm => ?_)
    · exact stos_app (stos_app (stos_sub hst (List.take_sublist _ _)) (by simp [D.stos, hy])) (stos_sub hst (List.drop_sublist _ _))
    · refine rps_app (rps_app a2 ?_) b2
      unfold Rps
      exact ⟨w, [], q3, [], rfl, by simp, r3, ⟨rfl, rfl⟩⟩
    · have fa : ∀ x ∈ qa, x ∉ q3 := fun x hx z => (f3 x z).2.2.2 i (sub x (by rw [hab]; simp [hx]))
      have fb : ∀ x ∈ qb, x ∉ q3 := fun x hx z => (f3 x z).2.2.2 i (sub x (by rw [hab]; simp [hx]))
      refine List.nodup_append.mpr ⟨List.nodup_append.mpr ⟨na, nd3, fun x hx y hy z => fa x hx (z ▸ hy)⟩, nb, fun x hx y hy z => ?_⟩
      rcases List.mem_append.mp hx with t | t
      · exact nab x t y hy z
      · exact fb y hy (z ▸ t)
    · simp only [List.mem_append] at hqm
      rcases hqm with (z | z) | z
      · exact .inl (by rw [hab]; simp [z])
      · exact .inr (f3 q z)
      · exact .inl (by rw [hab]; simp [z])
  | _ => exact hq.elim
where
  rps_cut {K : PySem.W.Frag} {B H : Hp} : ∀ {ds : List D} {vs : List V} {ps : List Addr} (n : Nat), Rps K B H ds vs ps → ∃ qa, True ∧ Rps K B H (ds.take n) (vs.take n) qa ∧ ∃ qb, True ∧ Rps K B H (ds.drop n) (vs.drop n) qb ∧ ps = qa ++ qb
    | [], vs, ps, n, r => by
      rw [r.1, r.2]
      exact ⟨[], trivial, by simp [Rps], [], trivial, by simp [Rps], rfl⟩
    | d :: ds, vs, ps, 0, r => ⟨[], trivial, by simp [Rps], ps, trivial, r, rfl⟩
    | d :: ds, vs, ps, n + 1, r => by
      unfold Rps at r
      obtain ⟨v, vr, p, q, e1, e2, r1, r2⟩ := r
      subst e1 e2
      obtain ⟨qa, _, h1, qb, _, h2, h3⟩ := rps_cut n r2
      refine ⟨p ++ qa, trivial, ?_, qb, trivial, h2, by rw [h3]; simp⟩
      rw [List.take_succ_cons, List.take_succ_cons]
      unfold Rps
      exact ⟨v, _, p, qa, rfl, rfl, r1, h1⟩
theorem ss_ext {pos' : Pos} (ho : PE X o (tPl X.K W i gs)) (he : PE X e (tF X.K W f)) (hbase : attributeBase o "extend" X.env (eval o X.env) = eval o X.env := by rfl)
    (hfew : ((backTo cpos (starEach [e] X.env)).all (fun x => !x.1) && (backToKw cpos (keywordEach [] X.env)).all (fun x => x.1.isSome)
      && decide ([e].length + ([] : List Keyword).length + (if ([] : List Keyword).isEmpty then 0 else 1) < 30)) = true := by rfl)
    (hline : (apos.endLine == cpos.line) = true := by rfl) (hs : starEach [e] X.env = (false, eval e X.env) :: starEach [] X.env := by rfl) (hplain : (backTo cpos (starEach [] X.env)).any (·.1) = false := by rfl)
    (hsw : swapsWith (.Call (.Attribute o "extend" apos) [e] [] cpos) none pos'.line X.env = pure false := by rfl) : PS X (.Expr (.Call (.Attribute o "extend" apos) [e] [] cpos) pos') (tG X.K W (gExt i gs f)) := by
  refine psI (ps_expr (pe_bm PySem.F.plainAttrs_list PySem.F.slot_list_extend PySem.F.type_list_extend mt_extend ho (pa_cons he pa_nil hs) hbase hfew hline hs hplain) hsw) fun De σ H ⟨Bf, Hf, B0, H0, env, Q, ⟨B, ps, s⟩, h, eo⟩ => ?_
  obtain ⟨d, π, xs, e0, hx, hg, hk⟩ := gPl_of h
  refine runP e0 hx hg s fun v0 v B1 H1 p1 hv0 hsel st1 s1 r1 => ?_
  obtain ⟨a, vs1, qs1, ev, h1, _, _⟩ := SRb.node (Bf := Bf) (Hf := Hf) (B0 := B0) (H0 := H0) (σ := σ) (env := env) (ps := ps) r1
  subst ev
  refine ⟨.inl ⟨rfl, vs1, .of h1⟩, ?_⟩
  refine runE2 (Q := Q) s1 hk (fun c q => eo.rz c env q) fun y w B2 H2 q2 k2 s2 st2 r2 nd2 fr2 => ?_
  cases y with
  | lst kk ys =>
    obtain ⟨hkk, hys, hz, hq⟩ := k2
    obtain ⟨p, vs, qs, ep, hp, rr, nd, sub, K⟩ := s2.at e0 hg hv0 (sel_mono st2.h hsel)
    cases ep
    have f2 := s1.fresh st2 fr2
    obtain ⟨l, ws, qy, el, hl, suby, ry⟩ := rp_lstX s2.st.i hkk r2
    subst el
    refine ⟨a, l, vs, ws, rfl, rfl, hp, hl, by rw [rps_len rr, rps_len ry, sizeLine_eq]; exact hz, ?_⟩
    refine eo.nx _ hq σ _ (K (xs ++ ys) (vs ++ ws) (qs ++ qy) ?_ (rps_app rr ry) ?_ fun q hqm => ?_)
    · refine stos_app ?_ hys
      have := sto_getP (stos_of s2 e0) hg
      simpa [D.sto] using this
    · exact List.nodup_append.mpr ⟨nd, nd2.sublist suby, fun x hx y hy z => (f2 y (suby.subset hy)).2.2.2 i (z ▸ sub x hx)⟩
    · rcases List.mem_append.mp hqm with z | z
      · exact .inl z
      · exact .inr (f2 q (suby.subset z))
  | _ => exact k2.elim
theorem rps_set {K : PySem.W.Frag} {B H : Hp} : ∀ {ds : List D} {vs : List V} {ps : List Addr} {j : Nat} {d : D} {v : V} {q : List Addr}, Rps K B H ds vs ps → j < ds.length → Rp K B H d v q → ps.Nodup → q.Nodup → (∀ t ∈ q, t ∉ ps) → ∃ qs, Rps K B H (ds.set j d) (vs.set j v) qs ∧ qs.Nodup ∧ ∀ t ∈ qs, t ∈ ps ∨ t ∈ q
  | [], _, _, j, d, v, q, _, hj, _, _, _, _ => absurd hj (Nat.not_lt_zero _)
  | d0 :: ds, vs, ps, 0, d, v, q, r, hj, rd, nd, ndq, dj => by
    unfold Rps at r
    obtain ⟨w, vr, p1, q1, e1, e2, r1, r2⟩ := r
    subst e1 e2
    obtain ⟨n1, n2, n3⟩ := List.nodup_append.mp nd
    refine ⟨q ++ q1, ?_, List.nodup_append.mpr ⟨ndq, n2, fun x hx y hy z => dj x hx (by rw [z]; simp [hy])⟩, fun t ht => ?_⟩
    · show Rps K B H (d :: ds) (v :: vr) _
      unfold Rps
      exact ⟨v, vr, q, q1, rfl, rfl, rd, r2⟩
    · rcases List.mem_append.mp ht with z | z
      · exact .inr z
      · exact .inl (by simp [z])
  | d0 :: ds, vs, ps, j + 1, d, v, q, r, hj, rd, nd, ndq, dj => by
    unfold Rps at r
    obtain ⟨w, vr, p1, q1, e1, e2, r1, r2⟩ := r
    subst e1 e2
    obtain ⟨n1, n2, n3⟩ := List.nodup_append.mp nd
    obtain ⟨qs, h1, h2, h3⟩ := rps_set (j := j) r2 (by simpa using hj) rd n2 ndq (fun t ht z => dj t ht (by simp [z]))
    refine ⟨p1 ++ qs, ?_, List.nodup_append.mpr ⟨n1, h2, fun x hx y hy z => ?_⟩, fun t ht => ?_⟩
    · show Rps K B H (d0 :: ds.set j d) (w :: vr.set j v) _
      unfold Rps
      exact ⟨w, _, p1, qs, rfl, rfl, r1, h1⟩
    · subst z
      rcases h3 x hy with t | t
      · exact n3 x hx x t rfl
      · exact dj x t (by simp [hx])
    · rcases List.mem_append.mp ht with z | z
      · exact .inl (by simp [z])
      · rcases h3 t z with u | u
        · exact .inl (by simp [u])
        · exact .inr u
theorem ixN_lt {n : Nat} {i : Int} {j : Nat} (h : L2.ixN n i = some j) : j < n := (ixN_seq h).2.1
/-- x[..][i] = e -/
theorem ss_setI {p1 : Pos} (he : PE X e (tF X.K W f)) (ho : PE X o (tPl X.K W i gs)) (hb : PE X b (tF X.K W g)) (ha : ∀ v, assign (.Subscript o b p1) X.env v = (do
      let ov ← holding [v] (eval o X.env)
      let iv ← holding [v, ov] (eval b X.env)
      standAt p1
      holding [v, ov, iv] (setItem ov iv v)
      release [v, ov, iv] []) := by intro _; rfl) (hs : swapsWithSole [.Subscript o b p1] e pos.line X.env = pure false := by rfl) (hw : swappedStores [.Subscript o b p1] e X.env = pure none := by rfl)
    (h1 : (assignEach [.Subscript o b p1] X.env).map (·.2) = [assign (.Subscript o b p1) X.env] := by rfl) : PS X (.Assign [.Subscript o b p1] e pos) (tG X.K W (gSetI i gs g f)) := by
  refine psI (ps_asg he (pg_sub ho hb set_list ha) hs hw h1) fun De σ H ⟨Bf, Hf, B0, H0, env, Q, ⟨B, ps, s⟩, h, eo⟩ => ?_
  obtain ⟨d, π, xs, e0, hx, hg, hk⟩ := gPl_of h
  refine runE2 (Q := Q) s hk (fun c q => eo.rz c env q) fun y w B1 H1 q1 k1 s1 st1 r1 nd1 fr1 => ?_
  refine runP e0 hx hg s1 fun v0 v B2 H2 p2 hv0 hsel st2 s2 r2 => ?_
  refine runE2 (Q := Q) s2 k1 (fun c q => eo.rz c env q) fun n wn B3 H3 q3 k3 s3 st3 r3 nd3 fr3 => ?_
  obtain ⟨hy, k3⟩ := k3
  cases n with
  | int n =>
    have en := rp_int r3
    subst en
    cases ej : L2.ixN xs.length n with
    | none => simp only [ej] at k3
    | some j =>
      simp only [ej] at k3
      obtain ⟨p, vs, qs, ep, hp, rr, nd, sub, K⟩ := s3.at e0 hg hv0 (sel_mono st3.h hsel)
      subst ep
      have f1 := s.fresh st1 fr1
      have st13 := st2.trans st3
      have fB : ∀ q ∈ q1, B3 q = none := fun q hq => by
        obtain ⟨us, hu⟩ := rp_own r1 q hq
        exact st13.n q us (fr1 q hq).2 hu
      have rw' := rp_mono st13.b st13.h r1
      obtain ⟨qs', g1, g2, g3⟩ := rps_set rr (ixN_lt ej) rw' nd nd1 fun t ht z => (f1 t ht).2.2.2 i (sub t z)
      refine ⟨p, vs, n, j, rfl, rfl, hp, by rw [rps_len rr]; exact ej, ?_⟩
      refine eo.nx _ k3 σ _ (K (xs.set j y) (vs.set j w) qs' ?_ g1 g2 fun q hqm => ?_)
      · refine stos_set ?_ hy
        have := sto_getP (stos_of s3 e0) hg
        simpa [D.sto] using this
      · rcases g3 q hqm with z | z
        · exact .inl z
        · exact .inr ⟨(f1 q z).1, (f1 q z).2.1, fB q z, (f1 q z).2.2.2⟩
  | _ => exact k3.elim
/-- x[..][i] op= e, ints -/
theorem ss_augI {p1 : Pos} {op : Operator} {fo : Int → Int → Int} (hip : PIp X op (ipI fo)) (ho : PE X o (tPl X.K W i gs)) (hb : PE X b (tF X.K W g)) (he : PE X e (tF X.K W f))
    (ha : ∀ ov iv new, augStore b ov iv new = (do holding [new, ov, iv] (setItem ov iv new); release [new, ov, iv] []; pure .next) := by intros; rfl) : PS X (.AugAssign (.Subscript o b p1) op e pos) (tG X.K W (gAugI i gs fo g f)) := by
  refine psI (ps_augS ho hb pget_list he hip set_list ha) fun De σ H ⟨Bf, Hf, B0, H0, env, Q, ⟨B, ps, s⟩, h, eo⟩ => ?_
  obtain ⟨d, π, xs, e0, hx, hg, hk⟩ := gPl_of h
  refine runP e0 hx hg s fun v0 v B1 H1 p1 hv0 hsel st1 s1 r1 => ?_
  refine runE2 (Q := Q) s1 hk (fun c q => eo.rz c env q) fun n wn B2 H2 q2 k2 s2 st2 r2 nd2 fr2 => ?_
  obtain ⟨p, vs, qs, ep, hp, rr, nd, sub, _⟩ := s2.at e0 hg hv0 (sel_mono st2.h hsel)
  subst ep
  split at k2
  · rename_i n y ef
    have en := rp_int r2
    subst en
    split at k2
    · rename_i j ej
      split at k2
      · rename_i x exj
        obtain ⟨vx, px, gx, rx, _⟩ := rps_at rr exj
        have evx := rp_int rx
        subst evx
        refine ⟨p, vs, n, .int x, rfl, rfl, .of hp, ?_, ?_⟩
        · unfold L2.atI
          rw [rps_len rr, ej]
          exact gx
        · refine tF_of s2.st.i s2.sle ?_
          rw [ef]
          intro wy B3 H3 q3 st3 r3 nd3 fr3
          have ey := rp_int r3
          subst ey
          have s3 := s2.step st3
          obtain ⟨p', vs', qs', ep', hp', rr', nd', sub', K⟩ := s3.at e0 hg hv0 (sel_mono st3.h (sel_mono st2.h hsel))
          cases ep'
          refine ⟨x, y, rfl, rfl, p, vs', n, j, rfl, rfl, hp', by rw [rps_len rr']; exact ej, ?_⟩
          obtain ⟨qs2, g1, g2, g3⟩ := rps_set (d := .int (fo x y)) (v := .int (fo x y)) (q := []) rr' (ixN_lt ej) (by unfold Rp; exact ⟨rfl, rfl⟩) nd' .nil (by intro t ht; cases ht)
          refine eo.nx _ k2 σ _ (K _ _ qs2 ?_ g1 g2 fun q hqm => ?_)
          · refine stos_set ?_ rfl
            have := sto_getP (stos_of s3 e0) hg
            simpa [D.sto] using this
          · rcases g3 q hqm with z | z
            · exact .inl z
            · cases z
      · exact k2.elim
    · exact k2.elim
  · exact k2.elim
/-- x += e, ints -/
theorem ss_aug (i : Nat) {x : Str} {op : Operator} {fo : Int → Int → Int} {pos' : Pos} (hip : PIp X op (ipI fo)) (hN : X.N.Nodup) (he : PE X e (tF X.K W f)) (hi : X.N[i]? = some x := by rfl) (hx : Loc X.env.scope x := by first | exact Or.inl rfl | exact Or.inr rfl) (hf : X.fn x = true ∨ X.env.scope.names.lookup x = some .local := by first | exact .inl rfl | exact .inr rfl | assumption) :
    PS X (.AugAssign (.Name x pos') op e pos) (tG X.K W (gAug i fo f)) := by
  refine psI (ps_aug hN hi hx he hip hf) fun De σ H ⟨Bf, Hf, B0, H0, env, Q, ⟨B, ps, s⟩, h, eo⟩ => ?_
  unfold gAug at h
  split at h
  · rename_i n en
    obtain ⟨_, v, h1, h2⟩ := s.sl i _ en
    have ev := rp_int h2
    subst ev
    refine ⟨_, h1, ?_⟩
    refine runE2 (Q := Q) s h (fun c q => eo.rz c env q) fun y w B2 H2 q2 k2 s2 st2 r2 nd2 fr2 => ?_
    cases y with
    | int y =>
      have ey := rp_int r2
      subst ey
      exact ⟨n, y, rfl, rfl, eo.nx _ k2 _ H2 ⟨B2, _, s2.set (j := i) (qs := []) rfl (by unfold Rp; exact ⟨rfl, rfl⟩) .nil (by intro q hq; cases hq)⟩⟩
    | _ => exact k2.elim
  · exact h.elim
end
end BC

namespace BC
open PySem PySem.Spec PyProof.Rows L2

/-! ## list(reversed(..)) -/
section
variable {prog : Program} {w : World} {A : Around} {E : Value → Shared → Prop} {s : Shared}
theorem init_rev {R : Result → Shared → Prop} {it l S : Addr} {items : Array Value} (hh : A.handled = none) (hit : s.heap.IsRevIter it l ((items.size : Int) - 1)) (hl : s.heap.IsList l items) (hne : l ≠ it) (hn : items.size ≤ sizeLine)
    (hS : s.heap.get? S = some { cls := .type "list", data := .seq #[] }) (hSl : S ≠ l) (hSi : S ≠ it)
    (hR : ∀ h' tk acc' c', (∀ b o, b ≠ S → b ≠ it → s.heap.get? b = some o → h'.get? b = some o) → h'.get? S = some { cls := .type "list", dict := none, data := .seq acc' c', slots := #[] } →
      ItemsOf (fun i v => items[items.size - 1 - i]? = some v) acc' items.size → R (.ok (.ret .none)) { s with heap := h', toks := tk }) :
    wpAny (model prog w) A.in1 (Builtin.«list.__init__» ⟨[.ref S, .ref it], []⟩)
      (fun fin s' => match fin with | .done f => R (.ok f) s' | .again c' => c'.quiet = true ∧ codeAny (model prog w) A c' R s') (fun e s' => R (.error e) s') s := by
  show wpAny _ _ (do let old ← Builtin.List.listItems (.ref S); Builtin.List.listUpdate (.ref S) (fun _ => #[]); letGo old.toList.reverse; Builtin.List.listExtendWith (.ref S) (.ref it) .none) _ _ s
  refine wpAny_bind ?_
  unfold Builtin.List.listItems
  refine wpAny_bind (wpAny_seqItems hS rfl (wpAny_pure ?_))
  show wpAny _ _ (updateSeq S (fun _ => #[]) >>= fun _ => letGo (#[] : Array Value).toList.reverse >>= fun _ => Builtin.List.listExtendWith (.ref S) (.ref it) .none) _ _ s
  refine wpAny_bind (wpAny_updateSeq hS rfl ?_)
  have hS₂ := Heap.get?_update_self (Obj.mapSeq (fun _ => (#[] : Array Value))) hS rfl
  have oth : ∀ b o, b ≠ S → s.heap.get? b = some o → (s.heap.update S (Obj.mapSeq (fun _ => (#[] : Array Value)))).get? b = some o :=
    fun b o hb e => (Heap.get?_update_other _ _ (Ne.symm hb)).trans e
  refine wpAny_bind (wpAny_letGo ?_)
  have W := (Walks.listRev (prog := prog) (w := w) (A := A.in1) hh it l hne items).toS
  have hSf : S ∉ [it, l] := by simp only [List.mem_cons, List.not_mem_nil, or_false, not_or]; exact ⟨hSi, hSl⟩
  have hit1 : (s.heap.update S (Obj.mapSeq (fun _ => (#[] : Array Value)))).IsRevIter it l ((items.size : Int) - 1) := hit.at fun o e => oth it o (Ne.symm hSi) e
  have hl1 : (s.heap.update S (Obj.mapSeq (fun _ => (#[] : Array Value)))).IsList l items := hl.at fun o e => oth l o (Ne.symm hSl) e
  have hT : ({ s with heap := s.heap.update S (Obj.mapSeq (fun _ => (#[] : Array Value))) } : Shared).TypeIs (.ref it) "list_reverseiterator" := Heap.IsRevIter.typeIs (s := { s with heap := s.heap.update S (Obj.mapSeq (fun _ => (#[] : Array Value))) }) hit1
  have h1 : Builtin.List.listSameRef (.ref S) (.ref it) = false := by simp [Builtin.List.listSameRef, hSi]
  unfold Builtin.List.listExtendWith
  refine wpAny_bind (wpAny_typeOf hT ?_)
  rw [if_neg (by rw [h1]; decide)]
  refine wpAny_bind (wpAny_pyIter_revIter (s := { s with heap := s.heap.update S (Obj.mapSeq (fun _ => (#[] : Array Value))) }) hit1 ?_)
  refine wpAny_bind (wpAny_holding ?_)
  unfold Builtin.List.listLengthHint
  refine wpAny_bind (wpAny_specialOf hT RT.nolen_lri ?_)
  show wpAny _ A.in1 (specialOf (Value.ref it) (Str.ofString "__length_hint__") >>= _) _ _ _
  refine wpAny_bind (wpAny_specialOf hT RT.hint_lri ?_)
  generalize hid : ("list_reverseiterator.__length_hint__" : String) = id0
  wp_delta
  rw [show splitId id0 = some ("list_reverseiterator", "__length_hint__") from by subst hid; decide +kernel]
  subst hid
  refine wpAny_bind (wpAny_isInstance (b := true) hT (by rw [isSubtype_type]; kernel_rfl) ?_)
  refine wpAny_pure ?_
  rw [if_neg (by decide)]
  have e0 : ((items.size : Nat) : Int) - 1 - ((0 : Nat) : Int) = (items.size : Int) - 1 := by omega
  refine wpAny_pure ⟨plainId_quiet F.plain_extend_loop _, codeAny_extend_loopS W hn _ hSf _ items.size 0 _ _ _ rfl (Nat.zero_le _) ⟨Nat.zero_le _, by rw [e0]; exact hit1, hl1⟩ hS₂ (ItemsOf.nil _) fun s' acc' c' hm hS' hacc => ?_⟩
  rw [Moved.eq_with hm]
  refine hR s'.heap s'.toks acc' c' (fun b o hb hb2 e => hm.heap b o (fun hmem => ?_) (oth b o hb e)) hS' hacc
  rcases List.mem_cons.mp hmem with e' | hmem
  · exact hb e'
  · exact hb2 (List.mem_singleton.mp hmem)
theorem call_list_rev {it l : Addr} {items : Array Value} {Q : Value → Shared → Prop} (hh : A.handled = none) (hit : s.heap.IsRevIter it l ((items.size : Int) - 1)) (hl : s.heap.IsList l items) (hne : l ≠ it) (hn : items.size ≤ sizeLine)
    (hQ : ∀ h' tk acc' c', (∀ b o, b ≠ it → s.heap.get? b = some o → h'.get? b = some o) →
      h'.get? s.heap.objs.size = some { cls := .type "list", dict := none, data := .seq acc' c', slots := #[] } → ItemsOf (fun i v => items[items.size - 1 - i]? = some v) acc' items.size → Q (.ref s.heap.objs.size) { s with heap := h', toks := tk }) :
    wpAny (model prog w) A (call (.type "list") [.ref it]) Q E s := by
  obtain ⟨oi, hoi, _⟩ := id hit
  obtain ⟨ol, hol, _⟩ := id hl
  refine callType_codes (Q₁ := fun obj s₁ => obj = .ref s.heap.objs.size ∧ s₁ = { s with heap := s.heap.push { cls := .type "list", data := .seq #[] } }) F.called_list (F.typeCall_list_1 _) F.entry_list_init
    (code_list_new _ ⟨rfl, rfl⟩) fun obj s₁ h₁ => ?_
  obtain ⟨rfl, rfl⟩ := h₁
  have hS : (s.heap.push { cls := .type "list", data := .seq #[] }).get? s.heap.objs.size = some { cls := .type "list", data := .seq #[] } := Heap.get?_push_size _ rfl
  refine ⟨⟨_, hS, rfl⟩, F.args_list_init_2 _ _, init_rev (A := A.in1) (s := { s with heap := s.heap.push { cls := .type "list", data := .seq #[] } }) hh (hit.at fun o e => Heap.get?_push_of_some _ e) (hl.push _) hne hn hS (Nat.ne_of_gt (Heap.lt_size hol)) (Nat.ne_of_gt (Heap.lt_size hoi)) fun h' tk acc' c' hk hS' hacc => ?_⟩
  exact ⟨rfl, hQ h' tk acc' c' (fun b o hb e => hk b o (Nat.ne_of_lt (Heap.lt_size e)) hb (Heap.get?_push_of_some _ e)) hS' hacc⟩
theorem hint_rit {it : Addr} {x left step : Int} (hit : IsRangeIter s.heap it x left step) {Q : Value → Shared → Prop} (h : ∀ u, Q (.int left u) { s with toks := s.toks + 1 }) : wpAny (model prog w) A (call (.builtin "range_iterator.__length_hint__") [.ref it]) Q E s := by
  have hT : s.TypeIs (.ref it) "range_iterator" := ⟨_, hit, rfl⟩
  refine wpAny_call_entry F.slot_range_iterator_length_hint hT F.entry_range_iterator_length_hint ?_ (F.args_range_iterator_length_hint_1 _)
  obtain ⟨hp, g, d, tk, os⟩ := s
  wp_walk using wpAny_field hit rfl rfl
  exact ⟨_, rfl, h _⟩
theorem init_rit {R : Result → Shared → Prop} {it S : Addr} {a c : Int} {n : Nat} (hh : A.handled = none) (hit : IsRangeIter s.heap it a n c) (hn : n ≤ sizeLine)
    (hS : s.heap.get? S = some { cls := .type "list", data := .seq #[] }) (hSi : S ≠ it)
    (hR : ∀ h' tk acc' c', (∀ b o, b ≠ S → b ≠ it → s.heap.get? b = some o → h'.get? b = some o) → h'.get? S = some { cls := .type "list", dict := none, data := .seq acc' c', slots := #[] } →
      ItemsOf (fun i v => ∃ t, v = .int (a + i * c) t) acc' n → R (.ok (.ret .none)) { s with heap := h', toks := tk }) :
    wpAny (model prog w) A.in1 (Builtin.«list.__init__» ⟨[.ref S, .ref it], []⟩)
      (fun fin s' => match fin with | .done f => R (.ok f) s' | .again c' => c'.quiet = true ∧ codeAny (model prog w) A c' R s') (fun e s' => R (.error e) s') s := by
  show wpAny _ _ (do let old ← Builtin.List.listItems (.ref S); Builtin.List.listUpdate (.ref S) (fun _ => #[]); letGo old.toList.reverse; Builtin.List.listExtendWith (.ref S) (.ref it) .none) _ _ s
  refine wpAny_bind ?_
  unfold Builtin.List.listItems
  refine wpAny_bind (wpAny_seqItems hS rfl (wpAny_pure ?_))
  show wpAny _ _ (updateSeq S (fun _ => #[]) >>= fun _ => letGo (#[] : Array Value).toList.reverse >>= fun _ => Builtin.List.listExtendWith (.ref S) (.ref it) .none) _ _ s
  refine wpAny_bind (wpAny_updateSeq hS rfl ?_)
  have hS₂ := Heap.get?_update_self (Obj.mapSeq (fun _ => (#[] : Array Value))) hS rfl
  have oth : ∀ b o, b ≠ S → s.heap.get? b = some o → (s.heap.update S (Obj.mapSeq (fun _ => (#[] : Array Value)))).get? b = some o :=
    fun b o hb e => (Heap.get?_update_other _ _ (Ne.symm hb)).trans e
  refine wpAny_bind (wpAny_letGo ?_)
  have W := (Walks.range (prog := prog) (w := w) (A := A.in1) hh it a c n).toS
  have hSf : S ∉ [it] := by simp only [List.mem_cons, List.not_mem_nil, or_false]; exact hSi
  have hit1 : IsRangeIter (s.heap.update S (Obj.mapSeq (fun _ => (#[] : Array Value)))) it a n c := oth it _ (Ne.symm hSi) hit
  have hT : ({ s with heap := s.heap.update S (Obj.mapSeq (fun _ => (#[] : Array Value))) } : Shared).TypeIs (.ref it) "range_iterator" := ⟨_, hit1, rfl⟩
  have h1 : Builtin.List.listSameRef (.ref S) (.ref it) = false := by simp [Builtin.List.listSameRef, hSi]
  unfold Builtin.List.listExtendWith
  refine wpAny_bind (wpAny_typeOf hT ?_)
  rw [if_neg (by rw [h1]; decide)]
  refine wpAny_bind (wpAny_pyIter_rangeiter (s := { s with heap := s.heap.update S (Obj.mapSeq (fun _ => (#[] : Array Value))) }) hit1 ?_)
  refine wpAny_bind (wpAny_holding ?_)
  unfold Builtin.List.listLengthHint
  refine wpAny_bind (wpAny_specialOf hT F.nolen_ra ?_)
  show wpAny _ A.in1 (specialOf (Value.ref it) (Str.ofString "__length_hint__") >>= _) _ _ _
  refine wpAny_bind (wpAny_specialOf hT F.hint_ra ?_)
  (generalize hid : ("range_iterator.__length_hint__" : String) = id0; (fail_if_success (clear hid id0)); wp_delta; rw [show splitId id0 = some ("range_iterator", "__length_hint__") from by subst hid; decide +kernel]; subst hid)
  refine wpAny_bind (wpAny_isInstance (b := true) hT (by rw [isSubtype_type]; kernel_rfl) ?_)
  show wpAny _ A.in1 (call (.builtin "range_iterator.__length_hint__") [.ref it] >>= _) _ _ _
  refine wpAny_bind (hint_rit (s := { s with heap := s.heap.update S (Obj.mapSeq (fun _ => (#[] : Array Value))) }) hit1 fun u => ?_)
  refine wpAny_bind (m := asInt? (.int n u)) (wpAny_pure ?_)
  dsimp only
  have hk : Builtin.List.listTooLong (Int.toNat n) = false := by simp [Builtin.List.listTooLong]; omega
  rw [if_neg (by rw [hk]; decide)]
  refine wpAny_pure ?_
  rw [if_neg (by decide)]
  have e0 : a + ((0 : Nat) : Int) * c = a := by simp
  have e1 : (n : Int) - ((0 : Nat) : Int) = n := by simp
  refine wpAny_pure ⟨plainId_quiet F.plain_extend_loop _, codeAny_extend_loopS W hn _ hSf _ n 0 _ _ _ rfl (Nat.zero_le _) (by rw [e0, e1]; exact hit1) hS₂ (ItemsOf.nil _) fun s' acc' c' hm hS' hacc => ?_⟩
  rw [Moved.eq_with hm]
  refine hR s'.heap s'.toks acc' c' (fun b o hb hb2 e => hm.heap b o (fun hmem => ?_) (oth b o hb e)) hS' hacc
  rcases List.mem_cons.mp hmem with e' | hmem
  · exact hb e'
  · exact hb2 (List.mem_singleton.mp hmem)
theorem call_list_rit {it : Addr} {a c : Int} {n : Nat} {Q : Value → Shared → Prop} (hh : A.handled = none) (hit : IsRangeIter s.heap it a n c) (hn : n ≤ sizeLine)
    (hQ : ∀ h' tk acc' c', (∀ b o, b ≠ it → s.heap.get? b = some o → h'.get? b = some o) →
      h'.get? s.heap.objs.size = some { cls := .type "list", dict := none, data := .seq acc' c', slots := #[] } → ItemsOf (fun i v => ∃ t, v = .int (a + i * c) t) acc' n → Q (.ref s.heap.objs.size) { s with heap := h', toks := tk }) :
    wpAny (model prog w) A (call (.type "list") [.ref it]) Q E s := by
  refine callType_codes (Q₁ := fun obj s₁ => obj = .ref s.heap.objs.size ∧ s₁ = { s with heap := s.heap.push { cls := .type "list", data := .seq #[] } }) F.called_list (F.typeCall_list_1 _) F.entry_list_init
    (code_list_new _ ⟨rfl, rfl⟩) fun obj s₁ h₁ => ?_
  obtain ⟨rfl, rfl⟩ := h₁
  have hS : (s.heap.push { cls := .type "list", data := .seq #[] }).get? s.heap.objs.size = some { cls := .type "list", data := .seq #[] } := Heap.get?_push_size _ rfl
  have hlt : it < s.heap.objs.size := Heap.lt_size hit
  refine ⟨⟨_, hS, rfl⟩, F.args_list_init_2 _ _, init_rit (A := A.in1) (s := { s with heap := s.heap.push { cls := .type "list", data := .seq #[] } }) hh (Heap.get?_push_of_some _ hit) hn hS (Nat.ne_of_gt hlt) fun h' tk acc' c' hk hS' hacc => ?_⟩
  exact ⟨rfl, hQ h' tk acc' c' (fun b o hb e => hk b o (Nat.ne_of_lt (Heap.lt_size e)) hb (Heap.get?_push_of_some _ e)) hS' hacc⟩
end
/-- list(reversed(x)), x a list: a new list -/
def tLstRev (K : PySem.W.Frag) (te : TE) : TE := fun σ H Q => te σ H fun v H1 => ∃ (a : Addr) (xs : List V), v = .ref a ∧ SqL K H1 a xs ∧ ∀ q, H1 q = none → Q (.ref q) (upd H1 q (.lst xs.reverse))
def tLstRevRg (te : L2.St → Hp → (Int → Int → Hp → Prop) → Prop) : TE := fun σ H Q => te σ H fun a b H1 => RgOk a b ∧ ∀ q, H1 q = none → Q (.ref q) (upd H1 q (.lst ((rgV a b).reverse)))
section
variable {X : Cx}
theorem pe_lstRev {e : Expr} {te : TE} {p p2 pos pos2 : Pos} (hc : X.calm = true) (hg : Gl X "list") (hm : X.mg "list" = none) (hg2 : Gl X "reversed") (hm2 : X.mg "reversed" = none) (he : PE X e te)
    (hs : starEach [e] X.env = (false, eval e X.env) :: starEach [] X.env := by rfl)
    (hs2 : starEach [.Call (.Name "reversed" p2) [e] [] pos2] X.env = (false, eval (.Call (.Name "reversed" p2) [e] [] pos2) X.env) :: starEach [] X.env := by rfl) :
    PE X (.Call (.Name "list" p) [.Call (.Name "reversed" p2) [e] [] pos2] [] pos) (tLstRev X.K te) := by
  refine ⟨fun pins s σ H Q I h => ?_⟩
  refine Call_ (ld_blt I hg hm boot_list (PyProof.Rows.callWith_type1 (args_cons (Call_ (ld_blt I hg2 hm2 PyProof.Rows.boot_reversed (PyProof.Rows.callWith_type1 (args_cons (thn (he.run pins s σ H _ I h) fun u s1 ⟨v, H1, I1, r1, q1⟩ => args_nil ?_) hs) hs rfl))) hs2) hs2 rfl))
  obtain ⟨a, xs, ev, hq, q⟩ := q1
  subst ev
  obtain rfl : u = Value.ref a := r1
  obtain ⟨its, rv, p', hz⟩ := I1.list hq
  refine call_reversed_list p'.isList (args_nil ?_)
  have k0 : ∀ b o, s1.heap.get? b = some o → (s1.heap.push (revObj a ((its.toArray.size : Int) - 1))).get? b = some o := fun b o e => Heap.get?_push_of_some _ e
  have hl := p'.isList
  obtain ⟨ol, hol, _⟩ := id hl
  have hne : a ≠ s1.heap.objs.size := Nat.ne_of_lt (Heap.lt_size hol)
  have hn : its.toArray.size ≤ sizeLine := by rw [List.size_toArray, ← rv.length]; exact hz
  refine call_list_rev (s := { s1 with heap := s1.heap.push (revObj a ((its.toArray.size : Int) - 1)) }) (I1.ok.hd hc) ⟨_, Heap.get?_push_size _ rfl, rfl, rfl⟩ (hl.push _) hne hn fun h' tk acc c' hk e' hi => ?_
  have hz2 : (s1.heap.push (revObj a ((its.toArray.size : Int) - 1))).objs.size = s1.heap.objs.size + 1 := Heap.size_push _ _
  refine ⟨.ref (s1.heap.push (revObj a ((its.toArray.size : Int) - 1))).objs.size, upd H1 (s1.heap.push (revObj a ((its.toArray.size : Int) - 1))).objs.size (.lst xs.reverse), I1.laid (t' := tk) (fun b o e => hk b o (Nat.ne_of_lt (Heap.lt_size e)) (k0 b o e)) (by rw [hz2]; exact Nat.le_succ _) (show ObjOk X.prog X.w _ _ _ (.lst xs.reverse) from ⟨by rw [List.length_reverse]; exact hz, acc.toList, c', RT.vals_rev rv hi, ?_⟩), rfl, q _ (I1.hok.fresh (by rw [hz2]; exact Nat.le_succ _))⟩
  rw [Array.toArray_toList]
  exact e'
theorem rgV_rev (a b : Int) : (rgV a b).reverse = (List.range (b - a).toNat).map fun (i : Nat) => V.int (a + (((b - a).toNat : Nat) : Int) - 1 + (i : Int) * (-1)) := by
  unfold rgV
  apply List.ext_getElem?
  intro j
  rw [← List.map_reverse, List.getElem?_map, List.getElem?_map]
  by_cases hj : j < (b - a).toNat
  · rw [List.getElem?_reverse (by simpa using hj), List.getElem?_range hj, List.length_range, List.getElem?_range (by omega)]
    simp
    omega
  · rw [List.getElem?_eq_none (by simpa using hj), List.getElem?_eq_none (by simpa using hj)]
    rfl
theorem pe_lstRevRg {e : Expr} {te : L2.St → Hp → (Int → Int → Hp → Prop) → Prop} {p p2 pos pos2 : Pos} (hc : X.calm = true) (hg : Gl X "list") (hm : X.mg "list" = none) (hg2 : Gl X "reversed") (hm2 : X.mg "reversed" = none) (he : PRg X e te)
    (hs : starEach [e] X.env = (false, eval e X.env) :: starEach [] X.env := by rfl)
    (hs2 : starEach [.Call (.Name "reversed" p2) [e] [] pos2] X.env = (false, eval (.Call (.Name "reversed" p2) [e] [] pos2) X.env) :: starEach [] X.env := by rfl) :
    PE X (.Call (.Name "list" p) [.Call (.Name "reversed" p2) [e] [] pos2] [] pos) (tLstRevRg te) := by
  refine ⟨fun pins s σ H Q I h => ?_⟩
  refine Call_ (ld_blt I hg hm boot_list (PyProof.Rows.callWith_type1 (args_cons (Call_ (ld_blt I hg2 hm2 PyProof.Rows.boot_reversed (PyProof.Rows.callWith_type1 (args_cons (thn (he pins s σ H _ I h) fun u s1 hx => args_nil ?_) hs) hs rfl))) hs2) hs2 rfl))
  obtain ⟨r, a, b, t, w1, v, H1, eu, hr, I1, ⟨b1, b2, b3, b4, b5⟩, q⟩ := hx
  subst eu
  have hn : Builtin.Range.rangeSize a b 1 = (((b - a).toNat : Nat) : Int) := rangeSize_nat a b
  refine call_reversed_range hr (smallRev_one b1 b2 b3 b4) (args_nil ?_)
  have hit : IsRangeIter (s1.heap.push (rngRevObj a b 1)) s1.heap.objs.size (a + (((b - a).toNat : Nat) : Int) - 1) (((b - a).toNat : Nat) : Int) (-1) := by
    have e1 : a + (((b - a).toNat : Nat) : Int) - 1 = a + (Builtin.Range.rangeSize a b 1 - 1) * 1 := by rw [hn]; omega
    rw [e1, ← hn]
    exact Heap.get?_push_size _ rfl
  have k0 : ∀ b' o, s1.heap.get? b' = some o → (s1.heap.push (rngRevObj a b 1)).get? b' = some o := fun b o e => Heap.get?_push_of_some _ e
  have hz2 : (s1.heap.push (rngRevObj a b 1)).objs.size = s1.heap.objs.size + 1 := Heap.size_push _ _
  refine call_list_rit (s := { s1 with heap := s1.heap.push (rngRevObj a b 1) }) (I1.ok.hd hc) hit (by rw [sizeLine_eq]; omega) fun h' tk acc c' hk e' hi => ?_
  refine ⟨.ref (s1.heap.push (rngRevObj a b 1)).objs.size, upd H1 (s1.heap.push (rngRevObj a b 1)).objs.size (.lst (rgV a b).reverse), I1.laid (t' := tk) (fun b o e => hk b o (Nat.ne_of_lt (Heap.lt_size e)) (k0 b o e)) (by rw [hz2]; exact Nat.le_succ _) (show ObjOk X.prog X.w _ _ _ (.lst (rgV a b).reverse) from ⟨by rw [List.length_reverse, rgV_length, sizeLine_eq]; omega, acc.toList, c', ?_, ?_⟩), rfl, q _ (I1.hok.fresh (by rw [hz2]; exact Nat.le_succ _))⟩
  · have e : acc.toList.length = (b - a).toNat := by rw [Array.length_toList]; exact hi.1
    rw [rgV_rev, ← e]
    refine vals_of_get acc.toList _ fun j u hj => ?_
    obtain ⟨t, rfl⟩ := hi.2 j u (by rw [← hj, Array.getElem?_toList])
    exact ⟨t, by rw [e]⟩
  · rw [Array.toArray_toList]; exact e'
end
section
variable {X : Cx} {W : WC} {f : Env → R D} {a : Expr} {pos : Pos}
theorem se_listRev {p p2 pos2 : Pos} (hc : X.calm = true) (hg : Gl X "list") (hm : X.mg "list" = none) (hg2 : Gl X "reversed") (hm2 : X.mg "reversed" = none) (ha : PE X a (tF X.K W f)) (na : starEach [a] X.env = (false, eval a X.env) :: starEach [] X.env := by rfl)
    (nb : starEach [.Call (.Name "reversed" p2) [a] [] pos2] X.env = (false, eval (.Call (.Name "reversed" p2) [a] [] pos2) X.env) :: starEach [] X.env := by rfl) : PE X (.Call (.Name "list" p) [.Call (.Name "reversed" p2) [a] [] pos2] [] pos) (tF X.K W (x1 lrevD f)) := by
  refine peI (pe_lstRev hc hg hm hg2 hm2 ha na nb) fun σ H Q ⟨env, B, i, s, h⟩ => ?_
  refine seqE (P := Pst X.K W B H σ Q) i s h (fun c z => z) (fun z => z) fun d v B1 H1 q e1 h1 st1 r nd fr => ?_
  obtain ⟨d2, ed, hd⟩ := of_ok h1
  unfold lrevD at ed
  split at ed
  · cases ed
    obtain ⟨l, vs, qs, e1, s1, u1, r1⟩ := rp_lst st1.i r
    obtain ⟨qs2, h2, h3⟩ := rps_revE r1
    refine ⟨l, vs, e1, s1, fun p hp => ?_⟩
    have ok := okO_end st1 fr hd
    refine ok (.ref p) B1 (upd H1 p (.lst vs.reverse)) (p :: qs2) (step_new st1.i hp) ?_ ?_ ?_
    · unfold Rp
      exact ⟨p, vs.reverse, qs2, rfl, upd_same, rfl, rps_mono (.refl _) (same_upd hp) h3⟩
    · refine List.nodup_cons.mpr ⟨fun z => ?_, h2.nodup_iff.mpr (nd.sublist u1)⟩
      obtain ⟨ws, e⟩ := rps_own h3 p z
      rw [hp] at e
      cases e
    · intro q hq
      rcases List.mem_cons.mp hq with e | z
      · subst e
        exact ⟨.inr hp, noB st1.i hp⟩
      · exact ⟨.inl (u1.subset (h2.mem_iff.mp z)), (fr q (u1.subset (h2.mem_iff.mp z))).2⟩
  · cases ed
/-- list(reversed(range(n))) -/
def lrevrngD : D → Option D
  | .int n => if -4611686018427387904 ≤ n ∧ n ≤ 16777216 then some (.lst .ow (rngL 0 1 n.toNat).reverse) else none
  | _ => none
theorem se_listRevRng {p p2 p3 pos2 pos3 : Pos} (hc : X.calm = true) (hg : Gl X "list") (hm : X.mg "list" = none) (hg2 : Gl X "reversed") (hm2 : X.mg "reversed" = none) (hg3 : Gl X "range") (hm3 : X.mg "range" = none) (ha : PE X a (tF X.K W f)) (n0 : starEach [a] X.env = (false, eval a X.env) :: starEach [] X.env := by rfl)
    (na : starEach [.Call (.Name "range" p3) [a] [] pos3] X.env = (false, eval (.Call (.Name "range" p3) [a] [] pos3) X.env) :: starEach [] X.env := by rfl)
    (nb : starEach [.Call (.Name "reversed" p2) [.Call (.Name "range" p3) [a] [] pos3] [] pos2] X.env = (false, eval (.Call (.Name "reversed" p2) [.Call (.Name "range" p3) [a] [] pos3] [] pos2) X.env) :: starEach [] X.env := by rfl) : PE X (.Call (.Name "list" p) [.Call (.Name "reversed" p2) [.Call (.Name "range" p3) [a] [] pos3] [] pos2] [] pos) (tF X.K W (x1 lrevrngD f)) := by
  refine peI (pe_lstRevRg hc hg hm hg2 hm2 (prg_1 hg3 hm3 ha n0) na nb) fun σ H Q ⟨env, B, i, s, h⟩ => ?_
  refine seqE (P := Pst X.K W B H σ Q) i s h (fun c z => z) (fun z => z) fun d v B1 H1 q e1 h1 st1 r nd fr => ?_
  obtain ⟨d2, ed, hd⟩ := of_ok h1
  unfold lrevrngD at ed
  split at ed
  · split at ed
    · cases ed
      rename_i n hz
      refine ⟨n, rp_int r, ⟨by decide, by decide, by omega, by omega, by omega⟩, ?_⟩
      refine okO_lst st1.i nd (fun t ht => (fr t ht).2) (vs := (rgV 0 n).reverse) (qs := []) ?_ (List.nil_sublist _) (okO_end st1 fr hd)
      have h0 : Rps X.K B1 H1 (rngL 0 1 n.toNat) (rgV 0 n) [] := by
        unfold rngL rgV
        rw [show (n - 0).toNat = n.toNat by omega]
        have := rps_rng (K := X.K) (B := B1) (H := H1) n.toNat (fun i => (0 : Int) + (i : Nat) * 1)
        simpa using this
      obtain ⟨qs2, h2, h3⟩ := rps_revE h0
      have : qs2 = [] := List.perm_nil.mp h2
      subst this
      exact h3
    · cases ed
  · cases ed
end
end BC

namespace BC
open PySem PySem.Spec PyProof.Rows L2

/-! ## methods of one argument -/
def xM (ok : D → Bool) (op : D → D → Option D) (f g : Env → R D) : Env → R D := fun env => do
  let a ← f env
  if ok a = true then do
    let b ← g env
    R.of (op a b)
  else R.no
def D.isL : D → Bool
  | .lst _ _ => true
  | _ => false
def D.isS : D → Bool
  | .str _ => true
  | _ => false
theorem ty_L {K : PySem.W.Frag} : ∀ a x B H p, Same B H → Rp K B H a x p → D.isL a = true → tyV K "list" x H := fun a x B H p i r h => by
  cases a with
  | lst k xs =>
    obtain ⟨l, vs, qs, e2, s1, u1, r2⟩ := rp_lst i r
    subst e2
    exact .inl ⟨rfl, _, s1⟩
  | _ => cases h
theorem ty_S {K : PySem.W.Frag} : ∀ a x B H p, Same B H → Rp K B H a x p → D.isS a = true → tyV K "str" x H := fun a x B H p i r h => by
  cases a with
  | str s =>
    rw [rp_str r]
    rfl
  | _ => cases h
section
variable {X : Cx} {W : WC} {e o b : Expr} {f g : Env → R D} {pos apos cpos : Pos}
theorem tBM_of {K : PySem.W.Frag} {T : String} {r : V → List V → Hp → VK → Prop} {ok : D → Bool} {op : D → D → Option D} {σ : L2.St} {H : Hp} {Q : VK} (hty : ∀ a x B H p, Same B H → Rp K B H a x p → ok a = true → tyV K T x H) (ho : Op2 K (fun x y H Q => r x [y] H Q) op) (h : tF K W (xM ok op f g) σ H Q) :
    tBM K T r (tF K W f) (tCons (tF K W g) tNil) σ H Q := by
  obtain ⟨env, B, i, s, h⟩ := h
  refine seqE (P := Pst K W B H σ Q) (g := fun a => if ok a = true then g env >>= fun b => R.of (op a b) else R.no) i s h (fun c z => z) (fun z => z) fun a x B1 H1 p e1 h1 st1 r1 nd1 fr1 => ?_
  by_cases hk : ok a = true
  · rw [if_pos hk] at h1
    refine ⟨hty a x B1 H1 p st1.i r1 hk, ?_⟩
    refine seqE (P := Pst K W B H σ Q) (g := fun b => R.of (op a b)) st1.i (s.step st1) h1 (fun c z => erBack (P := True) st1.h z) (fun z => z) fun b y B2 H2 q e2 h2 st2 r2 nd2 fr2 => ?_
    obtain ⟨d, ed, hd⟩ := of_ok h2
    have fa : Fresh H B2 (p ++ q) := (Fresh.on r1 fr1 st2).app (fr2.back st1.h)
    exact ho a b d x y B2 H2 p q Q ed st2.i (rp_mono st2.b st2.h r1) r2 (nodup_later (B := B) (H := H) r1 nd1 nd2 fr2) (fun t ht => (fa t ht).2) (okO_end (st1.trans st2) fa hd)
  · rw [if_neg hk] at h1
    exact h1.elim
theorem se_meth1 {T : String} {name : Str} {id : String} {r : V → List V → Hp → VK → Prop} {ok : D → Bool} {op : D → D → Option D} (pa : PlainAttrs T) (slot : Slot T name id) (hty : typeOf (.builtin id) = pure (.type "method_descriptor")) (hm : MtR X id r)
    (ht : ∀ a x B H p, Same B H → Rp X.K B H a x p → ok a = true → tyV X.K T x H) (hop : Op2 X.K (fun x y H Q => r x [y] H Q) op) (ho : PE X o (tF X.K W f)) (ha : PE X e (tF X.K W g))
    (hbase : attributeBase o name X.env (eval o X.env) = eval o X.env := by rfl)
    (hfew : ((backTo cpos (starEach (e :: []) X.env)).all (fun x => !x.1) && (backToKw cpos (keywordEach [] X.env)).all (fun x => x.1.isSome)
      && decide ((e :: ([] : List Expr)).length + ([] : List Keyword).length + (if ([] : List Keyword).isEmpty then 0 else 1) < 30)) = true := by rfl)
    (hline : (apos.endLine == cpos.line) = true := by rfl) (hs : starEach (e :: []) X.env = (false, eval e X.env) :: starEach [] X.env := by rfl) (hplain : (backTo cpos (starEach [] X.env)).any (·.1) = false := by rfl) :
    PE X (.Call (.Attribute o name apos) (e :: []) [] cpos) (tF X.K W (xM ok op f g)) :=
  peI (pe_bm pa slot hty hm ho (pa_cons ha pa_nil hs) hbase hfew hline hs hplain) fun _ _ _ h => tBM_of ht hop h
end
/-! list.index, of ints -/
def indexD : D → D → Option D
  | .lst _ xs, .int i => (D.ints? xs).bind fun ns => if i ∈ ns then some (.int (ns.idxOf i : Nat)) else none
  | _, _ => none
theorem flat_ints (ns : List Int) : (ns.map V.int).all flatV = true := by
  rw [List.all_map]
  exact List.all_eq_true.mpr fun _ _ => rfl
theorem idxOf_at {ns : List Int} {i : Int} (h : i ∈ ns) : ns[ns.idxOf i]? = some i := by
  have hl := List.idxOf_lt_length_of_mem h
  rw [List.getElem?_eq_getElem hl, List.getElem_idxOf]
theorem idxOf_min : ∀ {ns : List Int} {i j : Int} {m : Nat}, m < ns.idxOf i → ns[m]? = some j → j ≠ i
  | [], i, j, m, h, e => by simp at e
  | n :: ns, i, j, m, h, e => by
    rw [List.idxOf_cons] at h
    by_cases hn : n = i
    · subst hn
      simp at h
    · have hb : (n == i) = false := by simpa using hn
      rw [hb] at h
      cases m with
      | zero =>
        simp at e
        rw [← e]
        exact hn
      | succ m =>
        simp at e
        exact idxOf_min (m := m) (by simpa using h) e
theorem o2_index {K : PySem.W.Frag} : Op2 K (fun x y H Q => rIndex K x [y] H Q) indexD := by
  intro a b d x y B H p q Q e i ra rb nd fb h
  unfold indexD at e
  split at e
  · rw [Option.bind_eq_some_iff] at e
    obtain ⟨ns, e3, e4⟩ := e
    split at e4
    · cases e4
      rename_i k xs n hz
      have e5 := ints?_some e3
      subst e5
      obtain ⟨l, vs, qs, e1, s1, u1, r1⟩ := rp_lst i ra
      rw [rps_ints r1] at s1
      have ey := rp_int rb
      subst ey
      refine ⟨l, _, .int n, ns.idxOf n, .int n, e1, rfl, s1, rfl, flat_ints ns, ?_, ?_, fun m z hm hz' => ?_, okO_int i h⟩
      · rw [List.getElem?_map, idxOf_at hz]; rfl
      · show decide _ = true; simp
      · rw [List.getElem?_map, Option.map_eq_some_iff] at hz'
        obtain ⟨j, h1, h2⟩ := hz'
        subst h2
        have := idxOf_min hm h1
        show decide _ = false
        simp [this]
    · cases e4
  · cases e
/-! texts -/
def D.strs? : List D → Option (List Str)
  | [] => some []
  | .str i :: ds => (D.strs? ds).map fun is => i :: is
  | _ => none
theorem strs?_some : ∀ {ds : List D} {ns : List Str}, D.strs? ds = some ns → ds = ns.map D.str
  | [], ns, h => by cases h; rfl
  | .str i :: ds, ns, h => by
    unfold D.strs? at h
    rw [Option.map_eq_some_iff] at h
    obtain ⟨is, h1, h2⟩ := h
    subst h2
    rw [strs?_some h1]
    rfl
  | .non :: _, _, h => by cases h
  | .bl _ :: _, _, h => by cases h
  | .int _ :: _, _, h => by cases h
  | .lst _ _ :: _, _, h => by cases h
  | .tup _ :: _, _, h => by cases h
  | .exc _ _ :: _, _, h => by cases h
@[simp] theorem strs?_map (ns : List Str) : D.strs? (ns.map D.str) = some ns := by
  induction ns with
  | nil => rfl
  | cons n ns ih => simp [D.strs?, ih]
theorem rps_strs {K : PySem.W.Frag} {B H : Hp} : ∀ {ns : List Str} {vs : List V} {p : List Addr}, Rps K B H (ns.map D.str) vs p → vs = ns.map V.str
  | [], _, _, r => r.1
  | n :: ns, vs, p, r => by
    rw [List.map_cons] at r
    unfold Rps at r
    obtain ⟨v, vr, p1, q, e1, e2, r1, r2⟩ := r
    subst e1
    rw [rp_str r1, rps_strs r2]
    rfl
theorem rps_of_strs {K : PySem.W.Frag} {B H : Hp} (ns : List Str) : Rps K B H (ns.map D.str) (ns.map V.str) [] := by
  induction ns with
  | nil => exact ⟨rfl, rfl⟩
  | cons n ns ih =>
    rw [List.map_cons, List.map_cons]
    unfold Rps
    exact ⟨_, _, [], [], rfl, rfl, ⟨rfl, rfl⟩, ih⟩
def joinD : D → D → Option D
  | .str a, .lst _ xs => (D.strs? xs).bind fun ys => if (ys.map (·.length)).sum + ys.length * a.length ≤ 16777216 then some (.str (Txt.join a ys)) else none
  | _, _ => none
theorem o2_join {K : PySem.W.Frag} : Op2 K (fun x y H Q => (fun x xs H Q => ∃ a p, ∃ ys : List Str, x = .str a ∧ xs = [.ref p] ∧ (SqL K H p (ys.map V.str) ∨ SqT K H p (ys.map V.str)) ∧ (ys.map (·.length)).sum + ys.length * a.length ≤ 16777216 ∧ Q (.str (Txt.join a ys)) H) x [y] H Q) joinD := by
  intro a b d x y B H p q Q e i ra rb nd fb h
  unfold joinD at e
  split at e
  · rw [Option.bind_eq_some_iff] at e
    obtain ⟨ns, e3, e4⟩ := e
    split at e4
    · cases e4
      rename_i hz
      have e5 := strs?_some e3
      subst e5
      obtain ⟨l, vs, qs, e1, s1, u1, r1⟩ := rp_lst i rb
      rw [rps_strs r1] at s1
      subst e1
      exact ⟨_, l, ns, rp_str ra, rfl, .inl s1, hz, okO_str i h⟩
    · cases e4
  · cases e
def splitD : D → D → Option D
  | .str a, .str b => if (b.length == 0) = false ∧ a.length + 2 ≤ 16777216 then some (.lst .ow ((Txt.split a b).map .str)) else none
  | _, _ => none
theorem o2_split {K : PySem.W.Frag} : Op2 K (fun x y H Q => (fun x xs H Q => ∃ a b, x = .str a ∧ xs = [.str b] ∧ (b.length == 0) = false ∧ a.length + 2 ≤ sizeLine ∧ rNewStrs (Txt.split a b) H Q) x [y] H Q) splitD := by
  intro a b d x y B H p q Q e i ra rb nd fb h
  unfold splitD at e
  split at e
  · split at e
    · cases e
      rename_i hz
      have ey := rp_str rb
      subst ey
      exact ⟨_, _, rp_str ra, rfl, hz.1, sz_line hz.2, okO_lst i nd fb (rps_of_strs _) (List.nil_sublist _) h⟩
    · cases e
  · cases e
def stripD : D → D → Option D
  | .str a, .str b => if a.length ≤ 16777216 then some (.str (Txt.stripChars a b)) else none
  | _, _ => none
theorem o2_strip {K : PySem.W.Frag} : Op2 K (fun x y H Q => (fun x xs H Q => ∃ a b, x = .str a ∧ xs = [.str b] ∧ a.length ≤ sizeLine ∧ Q (.str (Txt.stripChars a b)) H) x [y] H Q) stripD := by
  intro a b d x y B H p q Q e i ra rb nd fb h
  unfold stripD at e
  split at e
  · split at e
    · cases e
      rename_i hz
      have ey := rp_str rb
      subst ey
      exact ⟨_, _, rp_str ra, rfl, sz_line hz, okO_str i h⟩
    · cases e
  · cases e
def startsD : D → D → Option D
  | .str a, .str b => some (.bl (Txt.startswith a b))
  | _, _ => none
theorem o2_starts {K : PySem.W.Frag} : Op2 K (fun x y H Q => (fun x xs H Q => ∃ a b, x = .str a ∧ xs = [.str b] ∧ Q (.bl (Txt.startswith a b)) H) x [y] H Q) startsD := by
  intro a b d x y B H p q Q e i ra rb nd fb h
  unfold startsD at e
  split at e
  · cases e
    have ey := rp_str rb
    subst ey
    exact ⟨_, _, rp_str ra, rfl, okO_bl i h⟩
  · cases e
/-! x in y: y a list, a tuple, a text -/
def inXD (neg : Bool) : D → D → Option D
  | .str i, .str j => some (.bl (if neg then !(!(Builtin.Str.occurrences j i 0 j.length 1).isEmpty) else !(Builtin.Str.occurrences j i 0 j.length 1).isEmpty))
  | a, b => inD neg a b
theorem op_inX {X : Cx} : OpR X (compareOp .In) (fun x y H Q => rIn X.K false x y H Q ∨ ∃ i j, x = .str i ∧ y = .str j ∧ Q (.bl (!(Builtin.Str.occurrences j i 0 j.length 1).isEmpty)) H) := op_in_seq.or op_in_str
theorem op_notInX {X : Cx} : OpR X (compareOp .NotIn) (fun x y H Q => rIn X.K true x y H Q ∨ ∃ i j, x = .str i ∧ y = .str j ∧ Q (.bl (!(!(Builtin.Str.occurrences j i 0 j.length 1).isEmpty))) H) := op_notIn_seq.or op_notin_str
theorem o2_inX {K : PySem.W.Frag} : Op2 K (fun x y H Q => rIn K false x y H Q ∨ ∃ i j, x = .str i ∧ y = .str j ∧ Q (.bl (!(Builtin.Str.occurrences j i 0 j.length 1).isEmpty)) H) (inXD false) := by
  intro a b d x y B H p q Q e i ra rb nd fb h
  unfold inXD at e
  split at e
  · cases e
    exact .inr ⟨_, _, rp_str ra, rp_str rb, okO_bl i h⟩
  · exact .inl (o2_in a b d x y B H p q Q e i ra rb nd fb h)
theorem o2_notInX {K : PySem.W.Frag} : Op2 K (fun x y H Q => rIn K true x y H Q ∨ ∃ i j, x = .str i ∧ y = .str j ∧ Q (.bl (!(!(Builtin.Str.occurrences j i 0 j.length 1).isEmpty))) H) (inXD true) := by
  intro a b d x y B H p q Q e i ra rb nd fb h
  unfold inXD at e
  split at e
  · cases e
    exact .inr ⟨_, _, rp_str ra, rp_str rb, okO_bl i h⟩
  · exact .inl (o2_in a b d x y B H p q Q e i ra rb nd fb h)
section
variable {X : Cx} {W : WC} {e o b : Expr} {f g : Env → R D} {apos cpos : Pos}
theorem se_index (ho : PE X o (tF X.K W f)) (ha : PE X e (tF X.K W g)) (hbase : attributeBase o "index" X.env (eval o X.env) = eval o X.env := by rfl)
    (hfew : ((backTo cpos (starEach (e :: []) X.env)).all (fun x => !x.1) && (backToKw cpos (keywordEach [] X.env)).all (fun x => x.1.isSome)
      && decide ((e :: ([] : List Expr)).length + ([] : List Keyword).length + (if ([] : List Keyword).isEmpty then 0 else 1) < 30)) = true := by rfl)
    (hline : (apos.endLine == cpos.line) = true := by rfl) (hs : starEach (e :: []) X.env = (false, eval e X.env) :: starEach [] X.env := by rfl) (hplain : (backTo cpos (starEach [] X.env)).any (·.1) = false := by rfl) :
    PE X (.Call (.Attribute o "index" apos) (e :: []) [] cpos) (tF X.K W (xM D.isL indexD f g)) := se_meth1 PySem.F.plainAttrs_list PySem.F.slot_list_index PySem.F.type_list_index mt_index ty_L o2_index ho ha hbase hfew hline hs hplain
theorem se_join (ho : PE X o (tF X.K W f)) (ha : PE X e (tF X.K W g)) (hbase : attributeBase o "join" X.env (eval o X.env) = eval o X.env := by rfl)
    (hfew : ((backTo cpos (starEach (e :: []) X.env)).all (fun x => !x.1) && (backToKw cpos (keywordEach [] X.env)).all (fun x => x.1.isSome)
      && decide ((e :: ([] : List Expr)).length + ([] : List Keyword).length + (if ([] : List Keyword).isEmpty then 0 else 1) < 30)) = true := by rfl)
    (hline : (apos.endLine == cpos.line) = true := by rfl) (hs : starEach (e :: []) X.env = (false, eval e X.env) :: starEach [] X.env := by rfl) (hplain : (backTo cpos (starEach [] X.env)).any (·.1) = false := by rfl) :
    PE X (.Call (.Attribute o "join" apos) (e :: []) [] cpos) (tF X.K W (xM D.isS joinD f g)) := se_meth1 PySem.F.plainAttrs_str PySem.F.slot_str_join PySem.F.type_str_join mt_join ty_S o2_join ho ha hbase hfew hline hs hplain
theorem se_split (ho : PE X o (tF X.K W f)) (ha : PE X e (tF X.K W g)) (hbase : attributeBase o "split" X.env (eval o X.env) = eval o X.env := by rfl)
    (hfew : ((backTo cpos (starEach (e :: []) X.env)).all (fun x => !x.1) && (backToKw cpos (keywordEach [] X.env)).all (fun x => x.1.isSome)
      && decide ((e :: ([] : List Expr)).length + ([] : List Keyword).length + (if ([] : List Keyword).isEmpty then 0 else 1) < 30)) = true := by rfl)
    (hline : (apos.endLine == cpos.line) = true := by rfl) (hs : starEach (e :: []) X.env = (false, eval e X.env) :: starEach [] X.env := by rfl) (hplain : (backTo cpos (starEach [] X.env)).any (·.1) = false := by rfl) :
    PE X (.Call (.Attribute o "split" apos) (e :: []) [] cpos) (tF X.K W (xM D.isS splitD f g)) := se_meth1 PySem.F.plainAttrs_str PySem.F.slot_str_split PySem.F.type_str_split mt_split ty_S o2_split ho ha hbase hfew hline hs hplain
theorem se_strip (ho : PE X o (tF X.K W f)) (ha : PE X e (tF X.K W g)) (hbase : attributeBase o "strip" X.env (eval o X.env) = eval o X.env := by rfl)
    (hfew : ((backTo cpos (starEach (e :: []) X.env)).all (fun x => !x.1) && (backToKw cpos (keywordEach [] X.env)).all (fun x => x.1.isSome)
      && decide ((e :: ([] : List Expr)).length + ([] : List Keyword).length + (if ([] : List Keyword).isEmpty then 0 else 1) < 30)) = true := by rfl)
    (hline : (apos.endLine == cpos.line) = true := by rfl) (hs : starEach (e :: []) X.env = (false, eval e X.env) :: starEach [] X.env := by rfl) (hplain : (backTo cpos (starEach [] X.env)).any (·.1) = false := by rfl) :
    PE X (.Call (.Attribute o "strip" apos) (e :: []) [] cpos) (tF X.K W (xM D.isS stripD f g)) := se_meth1 PySem.F.plainAttrs_str PySem.F.slot_str_strip PySem.F.type_str_strip mt_stripChars ty_S o2_strip ho ha hbase hfew hline hs hplain
theorem se_startswith (ho : PE X o (tF X.K W f)) (ha : PE X e (tF X.K W g)) (hbase : attributeBase o "startswith" X.env (eval o X.env) = eval o X.env := by rfl)
    (hfew : ((backTo cpos (starEach (e :: []) X.env)).all (fun x => !x.1) && (backToKw cpos (keywordEach [] X.env)).all (fun x => x.1.isSome)
      && decide ((e :: ([] : List Expr)).length + ([] : List Keyword).length + (if ([] : List Keyword).isEmpty then 0 else 1) < 30)) = true := by rfl)
    (hline : (apos.endLine == cpos.line) = true := by rfl) (hs : starEach (e :: []) X.env = (false, eval e X.env) :: starEach [] X.env := by rfl) (hplain : (backTo cpos (starEach [] X.env)).any (·.1) = false := by rfl) :
    PE X (.Call (.Attribute o "startswith" apos) (e :: []) [] cpos) (tF X.K W (xM D.isS startsD f g)) := se_meth1 PySem.F.plainAttrs_str PySem.F.slot_str_startswith PySem.F.type_str_startswith mt_startswith ty_S o2_starts ho ha hbase hfew hline hs hplain
end
end BC

namespace BC
open PySem PySem.Spec PyProof.Rows L2

/-! ## x += e, lists -/
theorem fillsI_list : fillsInplaceSlot (.type "list") "add" true = pure false := by
  unfold fillsInplaceSlot
  show (typeLookup (.type "list") (dunderI "add") >>= fun fi => pure (fi.isSome && !isSeqSlot fi)) = pure false
  rw [PySem.F.slot_list_iadd.lookup, pure_bind, show isSeqSlot (some (.builtin "list.__iadd__")) = true by decide +kernel]
  rfl
theorem seqI_list : seqSlot? (.type "list") (dunderI "add") = pure (some (.builtin "list.__iadd__")) := PySem.seqSlot_of PySem.F.slot_list_iadd.lookup (by decide +kernel)
def rAugL : TIp := fun x y H Q => ∃ l b xs zs, x = .ref l ∧ y = .ref b ∧ H l = some (.lst xs) ∧ H b = some (.lst zs) ∧ xs.length + zs.length ≤ sizeLine ∧ Q (.ref l) (upd H l (.lst (xs ++ zs)))
theorem ip_augL {X : Cx} : PIp X .Add rAugL := by
  intro pins s σ H x y v u Q I rx ry h
  obtain ⟨l, b, xs, zs, rfl, rfl, hH, hB, hz, q⟩ := h
  cases rx
  cases ry
  obtain ⟨z, its, n, r, hl, e⟩ := I.lstM hH
  obtain ⟨z2, its2, n2, r2, hl2, e2⟩ := I.lstM hB
  have hsz : its.toArray.size + its2.toArray.size ≤ sizeLine := by rw [List.size_toArray, List.size_toArray]; omega
  have hlong : ¬ (!its.toArray.isEmpty && Builtin.List.listTooLong (its.toArray.size + its2.toArray.size)) = true := by
    rw [notLongL hsz, Bool.and_false]
    exact Bool.false_ne_true
  have hT : s.TypeIs (.ref l) "list" := ⟨_, e, rfl⟩
  have hT2 : s.TypeIs (.ref b) "list" := ⟨_, e2, rfl⟩
  unfold inplaceOp
  refine wpAny_holding ?_
  refine wpAny_bind (wpAny_typeOf hT (wpAny_bind (wpAny_of_eq fillsI_list ?_)))
  show wpAny _ X.A (if false = true then _ else _) _ _ _
  rw [if_neg Bool.false_ne_true]
  refine wpAny_bind (wpAny_binaryOp1_none (nm := "add") hT hT2 noFill_list_add ?_)
  refine wpAny_bind (wpAny_of_eq seqI_list ?_)
  refine wpAny_bind (wpAny_rule ?_)
  refine call_meets PySem.F.slot_list_iadd hT PySem.F.entry_list_iadd (PySem.F.args_list_iadd_2 _ _) (AutoSeq1.list___iadd___list_list_0 l its.toArray n b its2.toArray n2 hlong (by rw [List.size_toArray]; omega) (by omega)) ⟨e, e2, ?_⟩
  refine ⟨.ref l, _, I.lset (its' := its ++ its2) hH e (by simp) (r.append r2) ?_, rfl, q⟩
  rw [List.length_append]
  omega
def gAugL (i : Nat) (f : Env → R D) : G := fun env Q => match env[i]? with
  | some (some (.lst .ow xs)) => gEv (f env) env Q fun y => match y with
    | .lst k ys => k ≠ .sc ∧ D.stos ys = true ∧ xs.length + ys.length ≤ 16777216 ∧ Q (.nx (env.set i (some (.lst .ow (xs ++ ys)))))
    | _ => False
  | _ => False
theorem set_self {α : Type} {l : List α} {i : Nat} {a : α} (h : l[i]? = some a) : l.set i a = l := by
  apply List.ext_getElem?
  intro j
  by_cases hj : i = j
  · subst hj
    rw [List.getElem?_set_self (List.getElem?_eq_some_iff.mp h).1, h]
  · rw [List.getElem?_set_ne hj]
section
variable {X : Cx} {W : WC} {e : Expr} {f : Env → R D} {pos : Pos}
theorem ss_augL (i : Nat) {x : Str} {pos' : Pos} (hN : X.N.Nodup) (he : PE X e (tF X.K W f)) (hi : X.N[i]? = some x := by rfl) (hx : Loc X.env.scope x := by first | exact Or.inl rfl | exact Or.inr rfl) (hf : X.fn x = true ∨ X.env.scope.names.lookup x = some .local := by first | exact .inl rfl | exact .inr rfl | assumption) :
    PS X (.AugAssign (.Name x pos') .Add e pos) (tG X.K W (gAugL i f)) := by
  refine psI (ps_aug hN hi hx he ip_augL hf) fun De σ H ⟨Bf, Hf, B0, H0, env, Q, ⟨B, ps, s⟩, h, eo⟩ => ?_
  unfold gAugL at h
  split at h
  · rename_i xs en
    obtain ⟨_, v0, hv0, r0⟩ := s.sl i _ en
    obtain ⟨a0, vs0, qs0, ev0, h0, _, _⟩ := SRb.node (Bf := Bf) (Hf := Hf) (B0 := B0) (H0 := H0) (σ := σ) (env := env) (ps := ps) r0
    subst ev0
    refine ⟨_, hv0, ?_⟩
    refine runE2 (Q := Q) s h (fun c q => eo.rz c env q) fun y w B2 H2 q2 k2 s2 st2 r2 nd2 fr2 => ?_
    cases y with
    | lst kk ys =>
      obtain ⟨hkk, hys, hz, hq⟩ := k2
      obtain ⟨p, vs, qs, ep, hp, rr, nd, sub, K⟩ := s2.at (π := []) en rfl hv0 rfl
      cases ep
      have f2 := s.fresh st2 fr2
      obtain ⟨l, ws, qy, el, hl, suby, ry⟩ := rp_lstX s2.st.i hkk r2
      subst el
      refine ⟨a0, l, vs, ws, rfl, rfl, hp, hl, by rw [rps_len rr, rps_len ry, sizeLine_eq]; exact hz, ?_⟩
      show De.nx (σ.set i (some (.ref a0))) _
      rw [set_self hv0]
      refine eo.nx _ hq σ _ (K (xs ++ ys) (vs ++ ws) (qs ++ qy) ?_ (rps_app rr ry) ?_ fun q hqm => ?_)
      · refine stos_app ?_ hys
        have := stos_of s2 en
        simpa [D.sto] using this
      · exact List.nodup_append.mpr ⟨nd, nd2.sublist suby, fun x hx y hy z => (f2 y (suby.subset hy)).2.2.2 i (z ▸ sub x hx)⟩
      · rcases List.mem_append.mp hqm with z | z
        · exact .inl z
        · exact .inr (f2 q (suby.subset z))
    | _ => exact k2.elim
  · exact h.elim
end
end BC

namespace BC
open PySem PySem.Spec PyProof.Rows L2

/-! ## exceptions -/
/-- what the written part says of an own class of exceptions at C -/
structure ExF (K : PySem.W.Frag) (C : Addr) : Prop where
  q : PySem.W.excIn K C [.type "ValueError", .type "Exception", .type "BaseException", .type "object"] "ValueError.__new__" = true
  kp : PySem.W.keepIn K (.ref C) = true
  c : ExcC K C
  ty : PySem.W.typeIn K (.ref C) = some (.type "type")
def gRaise (x : String) : G := fun env Q => Q (.rz x env)
section
variable {X : Cx} {W : WC} {cl : String → Addr}
theorem ss_raise {x m : Str} {z : String} {j : Nat} {p p2 pos pos2 : Pos} (E : ExF X.K (cl z)) (gC : X.mg x = some (.ref (cl z))) (hc : X.calm = true) (tk : Takes X (wx cl W)) (hg : Gl X x) (hdb : (x == ("__debug__" : Str)) = false := by decide) :
    PS X (.Raise (some (.Call (.Name x p) [.Constant (.str m) j p2] [] pos)) none pos2) (tG X.K W (gRaise z)) :=
  psI (ps_raise hc tk (pmk_own PySem.F.excBase_ValueError E.q gC E.kp (raises_own E.c.hs E.ty) hg hdb)) fun D σ H ⟨Bf, Hf, B0, H0, env, Q, s, h, eo⟩ => ⟨z, rfl, rfl, eo.rz z env h σ H s⟩
/-- what a def lets out -/
theorem takesD {E : XK} {X : Cx} {cl : String → Addr} (t : Takes X (fun cls d _ H => E cls d H)) : Takes X (wx cl (fun c _ H => E (.ref (cl c)) none H)) := t.imp fun cls d σ H ⟨c, e1, e2, h⟩ => by
  subst e1 e2
  exact h
/-- what a try's body lets out -/
theorem takesB {V : WX} (t : Takes X V) : Takes X (wx cl (fun c σ H => V (.ref (cl c)) none σ H)) := t.imp fun cls d σ H ⟨c, e1, e2, h⟩ => by
  subst e1 e2
  exact h
end

/-! ### try: except X: -/
/-- which classes a clause takes -/
abbrev Cat := String → Option Bool
def CatOk (K : PySem.W.Frag) (cl : String → Addr) (cv : Value) (cat : Cat) : Prop := ∀ c b, cat c = some b → PySem.W.exmOne K (.ref (cl c)) cv = some b
/-- nothing is raised -/
def noRz (Q : Ou → Prop) : Ou → Prop
  | .rz _ _ => False
  | .nx e => Q (.nx e)
  | .rt d => Q (.rt d)
  | .bk e => Q (.bk e)
  | .ct e => Q (.ct e)
def gTry (cat : Cat) (g h : G) : G := fun env Q => g env fun o => match o with
  | .rz c e => match cat c with
    | some true => h e (noRz Q)
    | some false => Q (.rz c e)
    | none => False
  | o => Q o
section
variable {X : Cx} {W : WC} {cl : String → Addr} {x : Str} {cv : Value} {body suite : List Stmt} {b₀ : Stmt} {np pos pos' : Pos} {cat : Cat} {g h : G}
theorem ss_try (hs : X.stack = X.env :: X.outer) (hf : X.env.frame = some X.env.locals) (hc : Names X x cv) (hk : CatOk X.K cl cv cat) (tk : Takes X (wx cl W))
    (hb : ∀ (W : WC) (pn : List (Addr × Obj)) (xe : Value → Shared → Prop), Takes (X.tr pn xe) (wx cl W) → PassesOwn (model X.prog X.w) X.A X.env xe → PSs (X.tr pn xe) body (tG X.K W g))
    (hsu : ∀ (a : Addr) (pn : List (Addr × Obj)), PSs (X.suite a pn) (b₀ :: suite) (tG X.K W0 h)) :
    PS X (.Try body [.ExceptHandler (some (.Name x np)) none (b₀ :: suite) pos'] [] [] pos) (tG X.K W (gTry cat g h)) := by
  refine psI (ps_try_only (tb := fun V => tG X.K (fun c σ H => V (.ref (cl c)) none σ H) g) (ts := fun _ _ _ => tG X.K W0 h) (Wout := wx cl W) hs hf hc tk (fun V pn xe t p => hb _ pn xe (takesB t) p) (fun a oe cls d pn _ _ => hsu a _)) fun D σ H ⟨Bf, Hf, B0, H0, env, Q, s, hh, eo⟩ => ?_
  refine ⟨Bf, Hf, B0, H0, env, _, s, hh, ⟨fun e q => eo.nx e q, fun e q => eo.bk e q, fun e q => eo.ct e q, fun d q => eo.rt d q, fun c e q σ' H' s' => ?_⟩⟩
  replace q : match cat c with | some true => h e (noRz Q) | some false => Q (.rz c e) | none => False := q
  cases ec : cat c with
  | none => rw [ec] at q; exact q.elim
  | some b =>
    rw [ec] at q
    refine ⟨b, hk c b ec, fun e1 a na => ?_, fun e1 => ?_⟩
    · subst e1
      exact ⟨Bf, Hf, B0, H0, e, noRz Q, s', q, ⟨eo.nx, eo.bk, eo.ct, eo.rt, fun c e q => q.elim⟩⟩
    · subst e1
      exact ⟨c, rfl, rfl, eo.rz c e q σ' H' s'⟩
end

/-! ### several clauses, else -/
inductive HdsG (X : Cx) (cl : String → Addr) : List ExceptHandler → List (Cat × G) → Prop
  | nil : HdsG X cl [] []
  | cons {x : Str} {cv : Value} {cat : Cat} {h : G} {b₀ : Stmt} {suite : List Stmt} {np pos' : Pos} {hds : List ExceptHandler} {l : List (Cat × G)} (hc : Names X x cv) (hk : CatOk X.K cl cv cat)
      (hsu : ∀ (a : Addr) (pn : List (Addr × Obj)), PSs (X.suite a pn) (b₀ :: suite) (tG X.K W0 h)) (r : HdsG X cl hds l) : HdsG X cl (.ExceptHandler (some (.Name x np)) none (b₀ :: suite) pos' :: hds) ((cat, h) :: l)
/-- by the first clause that takes it -/
def gCatch (Q : Ou → Prop) (c : String) (e : Env) : List (Cat × G) → Prop
  | [] => Q (.rz c e)
  | (cat, h) :: r => match cat c with
    | some true => h e (noRz Q)
    | some false => gCatch Q c e r
    | none => False
def gTryM (g : G) (l : List (Cat × G)) : G := fun env Q => g env fun o => match o with
  | .rz c e => gCatch Q c e l
  | o => Q o
theorem hds_of {X : Cx} {cl : String → Addr} {hds : List ExceptHandler} {l : List (Cat × G)} (hh : HdsG X cl hds l) : ∃ l2 : List (Value × (Addr → Value → Option Addr → TS)), HdsOk X hds l2 ∧ ∀ (W : WC) (Bf Hf B0 H0 : Hp) (D : Ends) (Q : Ou → Prop), EOk X.K W Bf Hf B0 H0 D Q → ∀ c e σ H, SR X.K Bf Hf B0 H0 σ H e → gCatch Q c e l → wMany X.K (wx cl W) D l2 (.ref (cl c)) none σ H := by
  induction hh with
  | nil => exact ⟨[], .nil, fun W Bf Hf B0 H0 D Q eo c e σ H s q => ⟨c, rfl, rfl, eo.rz c e q σ H s⟩⟩
  | @cons x cv cat h b₀ suite np pos' hds l hc hk hsu r ih =>
    obtain ⟨l2, h1, h2⟩ := ih
    refine ⟨(cv, fun _ _ _ => tG X.K W0 h) :: l2, .cons hc (fun a oe cls d pn _ _ => hsu a _) h1, fun W Bf Hf B0 H0 D Q eo c e σ H s q => ?_⟩
    unfold gCatch at q
    cases ec : cat c with
    | none => rw [ec] at q; exact q.elim
    | some b =>
      rw [ec] at q
      refine ⟨b, hk c b ec, fun e1 a na => ?_, fun e1 => ?_⟩
      · subst e1
        exact ⟨Bf, Hf, B0, H0, e, noRz Q, s, q, ⟨eo.nx, eo.bk, eo.ct, eo.rt, fun c e q => q.elim⟩⟩
      · subst e1
        exact h2 W Bf Hf B0 H0 D Q eo c e σ H s q
section
variable {X : Cx} {W : WC} {cl : String → Addr} {x : Str} {cv : Value} {body suite orelse : List Stmt} {b₀ : Stmt} {h₀ : ExceptHandler} {hds : List ExceptHandler} {l : List (Cat × G)} {np pos pos' : Pos} {cat : Cat} {g h k : G}
theorem ss_tryM (hs : X.stack = X.env :: X.outer) (hf : X.env.frame = some X.env.locals) (hh : HdsG X cl (h₀ :: hds) l) (tk : Takes X (wx cl W))
    (hb : ∀ (W : WC) (pn : List (Addr × Obj)) (xe : Value → Shared → Prop), Takes (X.tr pn xe) (wx cl W) → PassesOwn (model X.prog X.w) X.A X.env xe → PSs (X.tr pn xe) body (tG X.K W g)) :
    PS X (.Try body (h₀ :: hds) [] [] pos) (tG X.K W (gTryM g l)) := by
  obtain ⟨l2, h1, h2⟩ := hds_of hh
  refine psI (ps_try_many (tb := fun V => tG X.K (fun c σ H => V (.ref (cl c)) none σ H) g) (Wout := wx cl W) hs hf tk (fun V pn xe t p => hb _ pn xe (takesB t) p) h1) fun D σ H ⟨Bf, Hf, B0, H0, env, Q, s, hh, eo⟩ => ?_
  exact ⟨Bf, Hf, B0, H0, env, _, s, hh, ⟨fun e q => eo.nx e q, fun e q => eo.bk e q, fun e q => eo.ct e q, fun d q => eo.rt d q, fun c e q σ' H' s' => h2 W Bf Hf B0 H0 D Q eo c e σ' H' s' q⟩⟩
/-- try: body except X: suite else: orelse -/
def gTryE (cat : Cat) (g h k : G) : G := fun env Q => g env fun o => match o with
  | .rz c e => match cat c with
    | some true => h e (noRz Q)
    | some false => Q (.rz c e)
    | none => False
  | .nx e => k e Q
  | o => Q o
theorem ss_tryE (ho : PSs X orelse (tG X.K W k)) (hs : X.stack = X.env :: X.outer) (hf : X.env.frame = some X.env.locals) (hc : Names X x cv) (hk : CatOk X.K cl cv cat) (tk : Takes X (wx cl W))
    (hb : ∀ (W : WC) (pn : List (Addr × Obj)) (xe : Value → Shared → Prop), Takes (X.tr pn xe) (wx cl W) → PassesOwn (model X.prog X.w) X.A X.env xe → PSs (X.tr pn xe) body (tG X.K W g))
    (hsu : ∀ (a : Addr) (pn : List (Addr × Obj)), PSs (X.suite a pn) (b₀ :: suite) (tG X.K W0 h)) :
    PS X (.Try body [.ExceptHandler (some (.Name x np)) none (b₀ :: suite) pos'] orelse [] pos) (tG X.K W (gTryE cat g h k)) := by
  refine psI (ps_try_onlyE (tb := fun V => tG X.K (fun c σ H => V (.ref (cl c)) none σ H) g) (ts := fun _ _ _ => tG X.K W0 h) (Wout := wx cl W) ho hs hf hc tk (fun V pn xe t p => hb _ pn xe (takesB t) p) (fun a oe cls d pn _ _ => hsu a _)) fun D σ H ⟨Bf, Hf, B0, H0, env, Q, s, hh, eo⟩ => ?_
  refine ⟨Bf, Hf, B0, H0, env, _, s, hh, ⟨fun e q σ' H' s' => ⟨Bf, Hf, B0, H0, e, Q, s', q, eo⟩, fun e q => eo.bk e q, fun e q => eo.ct e q, fun d q => eo.rt d q, fun c e q σ' H' s' => ?_⟩⟩
  replace q : match cat c with | some true => h e (noRz Q) | some false => Q (.rz c e) | none => False := q
  cases ec : cat c with
  | none => rw [ec] at q; exact q.elim
  | some b =>
    rw [ec] at q
    refine ⟨b, hk c b ec, fun e1 a na => ?_, fun e1 => ?_⟩
    · subst e1
      exact ⟨Bf, Hf, B0, H0, e, noRz Q, s', q, ⟨eo.nx, eo.bk, eo.ct, eo.rt, fun c e q => q.elim⟩⟩
    · subst e1
      exact ⟨c, rfl, rfl, eo.rz c e q σ' H' s'⟩
end
end BC

namespace BC
open PySem PySem.Spec PyProof.Rows L2

/-! ## except X as n: the exception stands in the heap from there on -/
theorem exT_ok {P : Program} {w : World} {H : Hp} {h : Heap} {a C : Addr} {oe : Obj} {vs : Array Value} (e : h.get? a = some oe) (z : Zc (.ref C) none oe) (d : oe.data = .fields vs) : ObjOk P w H h a (ExT C a) :=
  ⟨⟨oe, vs, e, z, d⟩, ⟨oe, e⟩, fun _ _ ⟨o, v, q, r⟩ k => ⟨o, v, k o q, r⟩⟩
section
variable {X : Cx} {pins : List (Addr × Obj)} {σ : L2.St} {H : Hp} {s : Shared}
/-- an untracked object, newer than the def's entry, is tracked -/
theorem track {a C : Addr} {oe : Obj} {vs : Array Value} (I : Inv X pins σ H s) (h0 : X.s_0.heap.get? a = none) (na : H a = none) (he : s.heap.get? a = some oe) (z : Zc (.ref C) none oe) (d : oe.data = .fields vs) (nL : a ≠ X.env.locals) (nC : ∀ v, oe.data ≠ .cell v) (np : ∀ p ∈ X.pn ++ pins, p.1 ≠ a) :
    Inv X pins σ (upd H a (ExT C a)) s where
  ok := I.ok
  os := I.os
  bare := I.bare
  base := {
    keep := I.base.keep
    slot := I.base.slot
    free := fun b o q n hx => by rw [upd_ne (fun z => by rw [z, h0] at q; cases q)]; exact I.base.free b o q n hx
    there := I.base.there
    tups := fun b xs q => by
      have q2 := I.base.tups b xs q
      rw [upd_ne (ne_of_none q2 na)]; exact q2
    frzs := fun b u xs q => by
      have q2 := I.base.frzs b u xs q
      rw [upd_ne (ne_of_none q2 na)]; exact q2
    tbls := fun b ps q => by
      obtain ⟨m, q2⟩ := I.base.tbls b ps q
      exact ⟨m, by rw [upd_ne (ne_of_none q2 na)]; exact q2⟩ }
  loc := I.loc
  cell := I.cell
  free := by rw [upd_ne (Ne.symm nL)]; exact I.free
  freeC := fun x c e => by
    obtain ⟨v, o, e1, e2⟩ := I.cell x c e
    rw [upd_ne (fun q => by subst q; rw [he] at e1; cases e1; exact nC v e2)]
    exact I.freeC x c e
  pin := fun p hp => by
    obtain ⟨e1, e2, e3, e4, e5⟩ := I.pin p hp
    exact ⟨e1, by rw [upd_ne (np p hp)]; exact e2, e3, e4, e5⟩
  hok := HOk.laidN I.hok (fun _ _ q => q) na (exT_ok he z d)
  len := I.len
theorem suiteT (I : Inv X pins σ H s) (a : Addr) : Inv (X.suite a X.pn) pins σ H s :=
  ⟨I.ok.suite a _, I.os, I.bare, I.base, I.loc, I.cell, I.free, I.freeC, I.pin, I.hok, I.len⟩
theorem unsuiteT {a : Addr} (ok : X.Ok) (I : Inv (X.suite a X.pn) pins σ H s) : Inv X pins σ H s :=
  ⟨ok, I.os, I.bare, I.base, I.loc, I.cell, I.free, I.freeC, I.pin, I.hok, I.len⟩
end
/-- what the clause 'except x as n' wishes of an exception of the body: slot i is n's; the exception is tracked -/
def wAsT (K : PySem.W.Frag) (c : Value) (i : Nat) (ts : Addr → TS) (Wout : WX) (D : Ends) : WX := fun cls d σ H =>
  ∃ b, PySem.W.exmOne K cls c = some b ∧ (b = true → ∃ C, cls = .ref C ∧ d = none ∧ ∀ a, H a = none → ts a { nx := fun σ' H' => D.nx (σ'.set i none) H', rt := D.rt, bk := fun σ' H' => D.bk (σ'.set i none) H', ct := fun σ' H' => D.ct (σ'.set i none) H' } (σ.set i (some (.ref a))) (upd H a (ExT C a))) ∧
    (b = false → Wout cls d σ H)
section
variable {X : Cx} {x n : Str} {c : Value} {i : Nat} {body suite : List Stmt} {b₀ : Stmt} {np pos pos' : Pos} {tb : WX → TS} {ts : Addr → TS} {Wout : WX}
theorem ps_try_asT (hs : X.stack = X.env :: X.outer) (hex : X.ex = []) (hf : X.env.frame = some X.env.locals) (hN : X.N.Nodup) (hi : X.N[i]? = some n) (hln : X.env.kindOf n = some .local) (hc : Names X x c) (tk : Takes X Wout)
    (hb : ∀ (W : WX) (pn : List (Addr × Obj)) (xe : Value → Shared → Prop), Takes (X.tr pn xe) W → PassesOwn (model X.prog X.w) X.A X.env xe → PSs (X.tr pn xe) body (tb W))
    (hsu : ∀ (a : Addr), PSs (X.suite a X.pn) (b₀ :: suite) (ts a)) :
    PS X (.Try body [.ExceptHandler (some (.Name x np)) (some n) (b₀ :: suite) pos'] [] [] pos) (fun D σ H => tb (wAsT X.K c i ts Wout D) D σ H) := by
  refine ⟨fun pins s σ H D I h => ?_⟩
  have ok := I.ok
  have hfr : X.A.frames = some (X.env :: X.outer) := by rw [ok.frames, hs]
  have hloc : Loc X.env.scope n := .inl hln
  refine wpAny_Try_except ?_
  refine wpAny_mono ((hb (wAsT X.K c i ts Wout D) (X.pn ++ pins) (fun e s₁ => wpAny (model X.prog X.w) X.A (noteFrame e X.env) (fun _ s₂ => wpAny (model X.prog X.w) X.A (setFlight e none) (fun _ s₃ =>
    wpAny (model X.prog X.w) X.A (handleBy e X.env [.ExceptHandler (some (.Name x np)) (some n) (b₀ :: suite) pos']) (SP X pins D) X.xe s₃) X.xe s₂) X.xe s₁) (fun u s' xx => ?_) PassesOwn.looking).run [] s σ H D (I.toTry _) h) (fun f s1 hsp => ?_) (fun e s1 he => he)
  · obtain ⟨a, B, sI, pins', σ', H', cls, d, rfl, J', nb, up, sky, na, os, ag, b, hb1, hyes, hno⟩ := xx
    have J : Inv X pins σ' H' sI := J'.ofTry ok
    have sky' : Sky B (X.env :: X.outer) a (Zc cls d) X.env.locals s'.heap := by rw [← hs]; exact sky
    show wpAny (model X.prog X.w) X.A (noteFrame (.ref a) X.env) _ _ _
    refine Sky.land Zc.steady hfr hf sky' fun h3 fl3 up3 => ?_
    have J3 : Inv X pins σ' H' { s' with heap := h3 } := J.landed nb fl3.1 (up.trans up3) os ag
    obtain ⟨oe3, vs3, he3, hz3, hd3⟩ := fl3.there
    have notFr : ∀ {h : Heap} {o : Obj} {vs : Array Value}, h.FunFrames B (X.env :: X.outer) → h.get? a = some o → o.data = .fields vs → a ∉ frs (X.env :: X.outer) := fun {h o vs} ff e dd hm => by
      obtain ⟨_, o', e', hnf⟩ := ff.mem hm
      rw [e] at e'; cases e'
      exact hnf _ dd
    have nfr := notFr fl3.2.2.1 he3 hd3
    have nL : a ≠ X.env.locals := fun z => nfr (List.mem_filterMap.mpr ⟨X.env, List.mem_cons_self, by rw [hf, z]⟩)
    have nF : a ∉ X.fs := fun hm => by
      obtain ⟨e, he, q⟩ := List.mem_filterMap.mp hm
      exact nfr (List.mem_filterMap.mpr ⟨e, List.mem_cons_of_mem _ he, q⟩)
    have nst : a ∉ frs X.stack := by rw [hs]; exact nfr
    have hBa : B.get? a = none := fl3.2.1
    have nold : ∀ o, sI.heap.get? a ≠ some o := fun o e => by
      have := nb a o e nst
      rw [hBa] at this; cases this
    have h0 : X.s_0.heap.get? a = none := by
      cases e : X.s_0.heap.get? a with
      | none => rfl
      | some o =>
        obtain ⟨o', e1⟩ := J.base.there a o e (by rw [hex]; simp)
        exact absurd e1 (nold o')
    have npin : ∀ p ∈ X.pn ++ pins, p.1 ≠ a := fun p hp z => by
      have := (J.pin p hp).1
      rw [z] at this
      exact nold _ this
    have S3 := J3.suite he3 hd3 na nL nF
    refine wpAny_handleBy_cons (codeAny_handlers_test ?_) (by intro q; cases q)
    have LT : PySem.W.Looks (model X.prog X.w) h3 (typeOf (.ref a)) cls := fun A Q E s k q => wpAny_typeOf_ref (k _ _ he3) (by rw [hz3.1]; exact q)
    have LM := PySem.W.exm_one (M := model X.prog X.w) (J3.kIn) LT hb1
    have test : ∀ {Q : Value → Shared → Prop} {E : Value → Shared → Prop}, Q c { s' with heap := h3 } → wpAny (model X.prog X.w) (X.A.mark (some (.ref a))) (eval (.Name x np) X.env) Q E { s' with heap := h3 } := fun {Q E} q => by
      obtain ⟨hg, hdbg, hm | ⟨hm, hv, hnn⟩⟩ := hc
      · exact ld_glob (X := X.suite a ((a, oe3) :: (X.pn ++ pins))) S3 hg hm q hdbg
      · exact ld_blt (X := X.suite a ((a, oe3) :: (X.pn ++ pins))) S3 hg hm hv q hnn hdbg
    refine test (LM.here ?_)
    cases b with
    | true =>
      refine codeAny_handlers_suite_as ?_
      refine HandSPX.lands_againZ fl3 fun h4 fl4 up4 => ?_
      have J4 : Inv X pins σ' H' { s' with heap := h4 } := J.landed nb fl4.1 ((up.trans up3).trans up4) os ag
      obtain ⟨oe4, vs4, he4, hz4, hd4⟩ := fl4.there
      obtain ⟨C, rfl, rfl, hy⟩ := hyes rfl
      have J5 := track (s := { s' with heap := h4 }) J4 h0 na he4 hz4 hd4 nL (fun v z => by rw [hd4] at z; cases z) npin
      have S4 := suiteT J5 a
      refine store_ok (X := X.suite a X.pn) (v := .ref a) S4 hN hi hloc rfl (fun s5 S5 => ?_) (.inr hln)
      refine wpAny_mono ((hsu a).run pins s5 _ _ _ S5 (hy a na)) (fun f s6 hsp => ?_) (fun _ _ z => False.elim z)
      have end_ : ∀ {σ6 : L2.St} {H6 : Hp} {Q : Shared → Prop}, Inv (X.suite a X.pn) pins σ6 H6 s6 → (∀ s7, Inv X pins (σ6.set i none) H6 s7 → Q s7) →
          wpAny (model X.prog X.w) X.A (do bindName X.env n .none; unbindBehindTheSuite X.env n pos') (fun _ s7 => Q s7) X.xe s6 := fun {σ6 H6 Q} S6 hq => gone_ok (unsuiteT ok S6) hN hi hln hq
      cases f with
      | next =>
        obtain ⟨σ6, H6, S6, q6⟩ := hsp
        exact end_ S6 fun s7 J7 => ⟨_, _, J7, q6⟩
      | brk =>
        obtain ⟨σ6, H6, S6, q6⟩ := hsp
        exact end_ S6 fun s7 J7 => ⟨_, _, J7, q6⟩
      | cont =>
        obtain ⟨σ6, H6, S6, q6⟩ := hsp
        exact end_ S6 fun s7 J7 => ⟨_, _, J7, q6⟩
      | ret u =>
        obtain ⟨v6, σ6, H6, S6, r6, q6⟩ := hsp
        exact end_ S6 fun s7 J7 => ⟨_, _, _, J7, r6, q6⟩
    | false =>
      show wpAny _ X.A (handleBy (.ref a) X.env []) _ _ _
      refine wpAny_handleBy_nil ?_
      obtain ⟨k1, k2, k3, oe, vs, T, oT, ts', he, hz, hd, h1, hr⟩ := id fl3
      unfold PySem.passOn
      refine wpAny_bind (wpAny_field he hd h1 ?_)
      rw [if_neg (show ¬ ((Value.ref T == Value.none) = true) from by simp)]
      have fin : wpAny (model X.prog X.w) X.A (setFlight (.ref a) X.env.frame) (fun _ s4 => wpAny (model X.prog X.w) X.A (throw (.ref a) : Sem Flow) (SP X pins D) X.xe s4) X.xe { s' with heap := h3 } := by
        rw [hf]
        refine HandSPX.setFlight_upZ fl3 fun h4 hh4 up4 => wpAny_throw (tk _ _ ?_)
        exact ⟨a, B, sI, pins, σ', H', cls, d, rfl, J, nb, (up.trans up3).trans up4, .inr (.inr (by rw [hs]; exact hh4)), na, os, ag, hno rfl⟩
      first
        | exact wpAny_bind (wpAny_pure (wpAny_bind fin))
        | exact wpAny_bind fin
  · cases f with
    | next =>
      obtain ⟨σ', H', J', q⟩ := hsp
      exact wpAny_execs_nil ⟨σ', H', J'.ofTry ok, q⟩
    | brk =>
      obtain ⟨σ', H', J', q⟩ := hsp
      exact ⟨σ', H', J'.ofTry ok, q⟩
    | cont =>
      obtain ⟨σ', H', J', q⟩ := hsp
      exact ⟨σ', H', J'.ofTry ok, q⟩
    | ret u =>
      obtain ⟨v, σ', H', J', r, q⟩ := hsp
      exact ⟨v, σ', H', J'.ofTry ok, r, q⟩
end
/-- what stands behind a suite, the name gone -/
def gGone (i : Nat) (Q : Ou → Prop) : Ou → Prop
  | .rz _ _ => False
  | .nx e => Q (.nx (e.set i none))
  | .rt d => Q (.rt d)
  | .bk e => Q (.bk (e.set i none))
  | .ct e => Q (.ct (e.set i none))
def gTryAs (cl : String → Addr) (cat : Cat) (i : Nat) (g h : G) : G := fun env Q => g env fun o => match o with
  | .rz c e => match cat c with
    | some true => h (e.set i (some (.exc c (cl c)))) (gGone i Q)
    | some false => Q (.rz c e)
    | none => False
  | o => Q o
section
variable {K : PySem.W.Frag} {Bf Hf B0 H0 B H : Hp} {σ : L2.St} {env : Env} {ps : Nat → List Addr}
theorem SRb.same' {H' : Hp} (s : SRb K Bf Hf B0 H0 σ H env B ps) (t : Same H H') : SRb K Bf Hf B0 H0 σ H' env B ps := s.same t
theorem SRb.unset (s : SRb K Bf Hf B0 H0 σ H env B ps) (i : Nat) : SRb K Bf Hf B0 H0 (σ.set i none) H (env.set i none) B ps where
  fb := s.fb
  fh := s.fh
  st := s.st
  len := by simp [s.len]
  sl := fun j d e => by
    by_cases h : i = j
    · subst h
      have hj : i < env.length := by
        have := (List.getElem?_eq_some_iff.mp e).1
        simpa using this
      rw [List.getElem?_set_self hj] at e
      cases e
    · rw [List.getElem?_set_ne h] at e
      obtain ⟨h0, w, h1, h2⟩ := s.sl j d e
      exact ⟨h0, w, by rw [List.getElem?_set_ne h]; exact h1, h2⟩
  nd := s.nd
  dj := s.dj
  ow := s.ow
end
section
variable {X : Cx} {W : WC} {cl : String → Addr} {x n : Str} {cv : Value} {body suite : List Stmt} {b₀ : Stmt} {np pos pos' : Pos} {cat : Cat} {g h : G}
theorem ss_tryAs (i : Nat) (hs : X.stack = X.env :: X.outer) (hex : X.ex = []) (hf : X.env.frame = some X.env.locals) (hN : X.N.Nodup) (hc : Names X x cv) (hk : CatOk X.K cl cv cat) (tk : Takes X (wx cl W))
    (hb : ∀ (W : WC) (pn : List (Addr × Obj)) (xe : Value → Shared → Prop), Takes (X.tr pn xe) (wx cl W) → PassesOwn (model X.prog X.w) X.A X.env xe → PSs (X.tr pn xe) body (tG X.K W g))
    (hsu : ∀ (a : Addr) (pn : List (Addr × Obj)), PSs (X.suite a pn) (b₀ :: suite) (tG X.K W0 h)) (hi : X.N[i]? = some n := by rfl) (hln : X.env.kindOf n = some .local := by rfl) :
    PS X (.Try body [.ExceptHandler (some (.Name x np)) (some n) (b₀ :: suite) pos'] [] [] pos) (tG X.K W (gTryAs cl cat i g h)) := by
  refine psI (ps_try_asT (tb := fun V => tG X.K (fun c σ H => V (.ref (cl c)) none σ H) g) (ts := fun _ => tG X.K W0 h) (Wout := wx cl W) hs hex hf hN hi hln hc tk (fun V pn xe t p => hb _ pn xe (takesB t) p) (fun a => hsu a _)) fun D σ H ⟨Bf, Hf, B0, H0, env, Q, s, hh, eo⟩ => ?_
  refine ⟨Bf, Hf, B0, H0, env, _, s, hh, ⟨fun e q => eo.nx e q, fun e q => eo.bk e q, fun e q => eo.ct e q, fun d q => eo.rt d q, fun c e q σ' H' s' => ?_⟩⟩
  replace q : match cat c with | some true => h (e.set i (some (.exc c (cl c)))) (gGone i Q) | some false => Q (.rz c e) | none => False := q
  cases ec : cat c with
  | none => rw [ec] at q; exact q.elim
  | some b =>
    rw [ec] at q
    refine ⟨b, hk c b ec, fun e1 => ⟨cl c, rfl, rfl, fun a na => ?_⟩, fun e1 => ?_⟩
    · subst e1
      obtain ⟨B, ps, s1⟩ := s'
      have s2 := s1.same (same_upd (o := ExT (cl c) a) na)
      have s3 := s2.set (j := i) (d := .exc c (cl c)) (v := .ref a) (qs := []) rfl (by unfold Rp; exact ⟨a, rfl, upd_same, rfl⟩) .nil (by intro q hq; cases hq)
      have gone : ∀ {σ7 H7 e7}, SR X.K Bf Hf B0 H0 σ7 H7 e7 → SR X.K Bf Hf B0 H0 (σ7.set i none) H7 (e7.set i none) := fun ⟨B7, ps7, s7⟩ => ⟨B7, ps7, s7.unset i⟩
      exact ⟨Bf, Hf, B0, H0, _, gGone i Q, ⟨B, _, s3⟩, q, ⟨fun e q σ H s => eo.nx _ q _ H (gone s), fun e q σ H s => eo.bk _ q _ H (gone s), fun e q σ H s => eo.ct _ q _ H (gone s), eo.rt, fun c e q => q.elim⟩⟩
    · subst e1
      exact ⟨c, rfl, rfl, eo.rz c e q σ' H' s'⟩
end
end BC

namespace BC
open PySem PySem.Spec PyProof.Rows L2

/-! ## isinstance of a kept exception, or of None -/
structure IsF (K : PySem.W.Frag) (cl : String → Addr) (us : List Value) (tab : Cat) : Prop where
  exc : ∀ c b, tab c = some b → ExcC K (cl c) ∧ PySem.W.kitAny K (.ref (cl c)) us = some b
  non : PySem.W.kitAny K (.type "NoneType") us = some false
structure IsF1 (K : PySem.W.Frag) (cl : String → Addr) (u : Value) (tab : Cat) : Prop where
  exc : ∀ c b, tab c = some b → ExcC K (cl c) ∧ PySem.W.kitOne K (.ref (cl c)) u = some b
  non : PySem.W.kitOne K (.type "NoneType") u = some false
def isiXD (cl : String → Addr) (tab : Cat) : D → Option D
  | .exc c C => if C = cl c then (tab c).map .bl else none
  | .non => some (.bl false)
  | _ => none
def rIsX (K : PySem.W.Frag) : List V → Hp → VK → Prop := fun xs H Q => ∃ (a C : Addr) (c : V) (u : Value) (b : Bool), xs = [.ref a, c] ∧ H a = some (ExT C a) ∧ ExcC K C ∧ ClsV c u ∧ PySem.W.kitOne K (.ref C) u = some b ∧ Q (.bl b) H
def rIsXT (K : PySem.W.Frag) : List V → Hp → VK → Prop := fun xs H Q => ∃ (a C tp : Addr) (cs : List V) (us : List Value) (b : Bool), xs = [.ref a, .ref tp] ∧ H a = some (ExT C a) ∧ ExcC K C ∧ H tp = some (.tup cs) ∧ Paired ClsV cs us ∧ PySem.W.kitAny K (.ref C) us = some b ∧ Q (.bl b) H
section
variable {X : Cx}
theorem exT_at {pins : List (Addr × Obj)} {σ : L2.St} {H : Hp} {s : Shared} {a C : Addr} (I : Inv X pins σ H s) (e : H a = some (ExT C a)) : ∃ oe, PySem.W.InstAt s.heap a oe C none := by
  obtain ⟨⟨oe, vs, h1, ⟨h2, h3⟩, h4⟩, _, _⟩ := I.hok a _ e
  obtain ⟨oc, od, oda, osl⟩ := oe
  dsimp only at h2 h3 h4
  subst h2 h3 h4
  exact ⟨_, h1, rfl, rfl, trivial⟩
theorem call_isX : CallR X (.builtin "isinstance") (rIsX X.K) := by
  intro pins s σ H xs us Q I r h
  obtain ⟨a, C, c, u, b, rfl, ea, EC, k, e, q⟩ := h
  obtain ⟨u1, u2, rfl, r1, r2⟩ := vals2 r
  cases (show u1 = Value.ref a from r1)
  have e2 := k.eq r2
  subst e2
  obtain ⟨oe, J⟩ := exT_at I ea
  exact PySem.W.kia_one (PySem.W.handS_kitx_exc EC.hg EC.hk EC.hs EC.hd EC.ha EC.hn EC.ht EC.hm) I.kIn J e (fun z => nomatch z) fun tk => ⟨.bl b, H, I.tok tk, rfl, q⟩
theorem call_isXT : CallR X (.builtin "isinstance") (rIsXT X.K) := by
  intro pins s σ H xs us Q I r h
  obtain ⟨a, C, tp, cs, ws, b, rfl, ea, EC, hT, k, e, q⟩ := h
  obtain ⟨u1, u2, rfl, r1, r2⟩ := vals2 r
  cases (show u1 = Value.ref a from r1)
  cases (show u2 = Value.ref tp from r2)
  obtain ⟨oe, J⟩ := exT_at I ea
  obtain ⟨_, its, rv, o, h1, h2, n, h3⟩ := (show ObjOk X.prog X.w H s.heap tp (.tup cs) from I.hok tp _ hT)
  have e3 := ClsV.all k rv
  subst e3
  obtain ⟨oc, od, dt, sl⟩ := o
  simp only at h2 h3
  subst h2 h3
  exact PySem.W.kia_tup (PySem.W.handS_kitx_exc EC.hg EC.hk EC.hs EC.hd EC.ha EC.hn EC.ht EC.hm) I.kIn J h1 e (fun z => nomatch z) fun tk => ⟨.bl b, H, I.tok tk, rfl, q⟩
/-- the classes that are named -/
def tCl (cs : List V) : TA := fun _ H Q => Q cs H
inductive ClE (X : Cx) : List Expr → List V → List Value → Prop
  | nil : ClE X [] [] []
  | cons {e : Expr} {es : List Expr} {c : V} {cs : List V} {u : Value} {us : List Value} (h : PE X e (tC c)) (k : ClsV c u) (hs : starEach (e :: es) X.env = (false, eval e X.env) :: starEach es X.env) (r : ClE X es cs us) : ClE X (e :: es) (c :: cs) (u :: us)
theorem ClE.pa {es : List Expr} {cs : List V} {us : List Value} (h : ClE X es cs us) : PA X es (tCl cs) := by
  induction h with
  | nil => exact pa_nil
  | @cons e es c cs u us h k hs r ih => exact paI (pa_cons h ih hs) fun σ H Q q => q
theorem ClE.cls {es : List Expr} {cs : List V} {us : List Value} (h : ClE X es cs us) : Paired ClsV cs us := by
  induction h with
  | nil => exact .nil
  | cons h k hs r ih => exact .cons k ih
theorem ClE.len {es : List Expr} {cs : List V} {us : List Value} (h : ClE X es cs us) : cs.length = es.length := by
  induction h with
  | nil => rfl
  | cons h k hs r ih => simp [ih]
theorem ce_own {y : Str} {C : Addr} {p : Pos} (hg : Gl X y) (hm : X.mg y = some (.ref C)) (hd : (y == ("__debug__" : Str)) = false := by decide) : PE X (.Name y p) (tC (.ref C)) := pe_glob (v := .ref C) hg hm rfl hd
theorem ce_ty {y : Str} {n : String} {p : Pos} (hg : Gl X y) (hm : X.mg y = none) (hv : bootBuiltins y = some (.type n)) (hn : y ≠ "__name__" := by decide) (hdb : (y == ("__debug__" : Str)) = false := by decide) : PE X (.Name y p) (tC (.ty n)) := pe_bltn (v := .ty n) hg hm hv rfl hn hdb
end
section
variable {X : Cx} {W : WC} {cl : String → Addr} {a e2 : Expr} {es : List Expr} {f : Env → R D} {tab : Cat} {c : V} {cs : List V} {u : Value} {us : List Value} {x : Str} {p p2 pos : Pos} {kk : Nat}
theorem se_isX (hx : x = "isinstance") (hg : Gl X x) (hm : X.mg x = none) (hv : bootBuiltins x = some (.builtin "isinstance")) (hF : IsF1 X.K cl u tab) (ha : PE X a (tF X.K W f)) (h2 : PE X e2 (tC c)) (hc : ClsV c u)
    (hn : x ≠ "__name__" := by decide) (hdb : (x == ("__debug__" : Str)) = false := by decide)
    (he1 : starEach [a, e2] X.env = (false, eval a X.env) :: starEach [e2] X.env := by rfl) (he2 : starEach [e2] X.env = (false, eval e2 X.env) :: starEach [] X.env := by rfl)
    (hpl : (backTo pos (starEach [e2] X.env)).any (·.1) = false := by rfl) : PE X (.Call (.Name x p) [a, e2] [] pos) (tF X.K W (x1 (isiXD cl tab) f)) := by
  refine peI (pe_callB (call_isX.or call_isi) hg hm hv (pa_cons ha (pa_cons h2 pa_nil he2) he1) hn hdb he1 hpl) fun σ H Q ⟨env, B, i, s, h⟩ => ?_
  refine seqE (P := Pst X.K W B H σ Q) i s h (fun c z => z) (fun z => z) fun d v B1 H1 q e1 h1 st1 r nd fr => ?_
  obtain ⟨d2, ed, hd⟩ := of_ok h1
  show rIsX X.K [v, c] H1 Q ∨ rIsi X.K [v, c] H1 Q
  unfold isiXD at ed
  split at ed
  · rename_i c0 C
    split at ed
    · rename_i hC
      rw [Option.map_eq_some_iff] at ed
      obtain ⟨b, h3, h4⟩ := ed
      subst h4 hC
      obtain ⟨a0, ev, ea, _⟩ := r
      subst ev
      obtain ⟨k1, k2⟩ := hF.exc c0 b h3
      exact .inl ⟨a0, _, c, u, b, rfl, ea, k1, hc, k2, okE_bl st1 hd⟩
    · cases ed
  · cases ed
    rw [r.1]
    exact .inr ⟨.non, c, .type "NoneType", u, false, rfl, hc, .base .non, hF.non, okE_bl st1 hd⟩
  · cases ed
theorem se_isXT (hx : x = "isinstance") (hg : Gl X x) (hm : X.mg x = none) (hv : bootBuiltins x = some (.builtin "isinstance")) (hF : IsF X.K cl us tab) (ha : PE X a (tF X.K W f)) (h2 : ClE X es cs us) (hlen : es.length ≤ 16777216)
    (hn : x ≠ "__name__" := by decide) (hdb : (x == ("__debug__" : Str)) = false := by decide)
    (he1 : starEach [a, .Tuple es kk p2] X.env = (false, eval a X.env) :: starEach [.Tuple es kk p2] X.env := by rfl) (he2 : starEach [.Tuple es kk p2] X.env = (false, eval (.Tuple es kk p2) X.env) :: starEach [] X.env := by rfl)
    (hpl : (backTo pos (starEach [.Tuple es kk p2] X.env)).any (·.1) = false := by rfl) : PE X (.Call (.Name x p) [a, .Tuple es kk p2] [] pos) (tF X.K W (x1 (isiXD cl tab) f)) := by
  refine peI (pe_callB (call_isXT.or call_isiT) hg hm hv (pa_cons ha (pa_cons (pe_tup h2.pa) pa_nil he2) he1) hn hdb he1 hpl) fun σ H Q ⟨env, B, i, s, h⟩ => ?_
  refine seqE (P := Pst X.K W B H σ Q) i s h (fun c z => z) (fun z => z) fun d v B1 H1 q e1 h1 st1 r nd fr => ?_
  obtain ⟨d2, ed, hd⟩ := of_ok h1
  refine ⟨by rw [h2.len]; exact sz_line hlen, fun tp htp => ?_⟩
  have st2 := step_new (o := .tup cs) st1.i htp
  show rIsXT X.K [v, .ref tp] (upd H1 tp (.tup cs)) Q ∨ rIsiT X.K [v, .ref tp] (upd H1 tp (.tup cs)) Q
  unfold isiXD at ed
  split at ed
  · rename_i c0 C
    split at ed
    · rename_i hC
      rw [Option.map_eq_some_iff] at ed
      obtain ⟨b, h3, h4⟩ := ed
      subst h4 hC
      obtain ⟨a0, ev, ea, _⟩ := r
      subst ev
      obtain ⟨k1, k2⟩ := hF.exc c0 b h3
      exact .inl ⟨a0, _, tp, cs, us, b, rfl, st2.h _ _ ea, k1, upd_same, h2.cls, k2, okE_bl (st1.trans st2) hd⟩
    · cases ed
  · cases ed
    rw [r.1]
    exact .inr ⟨.non, tp, cs, .type "NoneType", us, false, rfl, upd_same, h2.cls, .base .non, hF.non, okE_bl (st1.trans st2) hd⟩
  · cases ed
end

/-! ## a def's contract -/
def Out (r : R D) : Ou → Prop
  | .nx _ => r = .ok .non
  | .rt d => r = .ok d
  | .rz c _ => r = .er c
  | .bk _ => False
  | .ct _ => False
def env0 (N : List Str) (ds : List D) : Env := ds.map some ++ List.replicate (N.length - ds.length) none
theorem rps_get2 {K : PySem.W.Frag} {B H : Hp} : ∀ {ds : List D} {vs : List V} {i : Nat} {d : D}, Rps K B H ds vs [] → ds[i]? = some d → ∃ v, vs[i]? = some v ∧ Rp K B H d v [] := fun r e => rps_get r e
theorem okD {P : Program} {w : World} {K : PySem.W.Frag} {mg : Str → Option Value} {base : Heap} {cl : String → Addr} {x qual : Str} {st : Stmt} {f : Addr} {fd : FuncData} {N ps : List Str} {k n : Nat} {m : List D → R D} {g : G} (F : Fun K x qual st f fd) (S : FnScope N ps (defScope st)) (hn : n = ps.length) (hN : ps.length ≤ N.length)
    (hm : ∀ ds, ds.length = n → D.stos ds = true → m ds ≠ .no → g (env0 N ds) (Out (m ds)))
    (hd : ∀ (cdv : Value) (A : Around) (outer : List PySem.Env) (s : Shared) (H : Hp) (E : XK), Room k (A.deeper (envOfC qual (defScope st) s.heap.objs.size f cdv)) →
      PSs (cxOf (L2.CX P w) P w K mg base N qual (defScope st) f cdv A outer s H E) (defBody st) (tG K (fun c _ H => E (.ref (cl c)) none H) g)) : FnOk P w K mg base (L2.CX P w) (k + 1) f fd ps (Ctr K cl n m) := by
  subst hn
  refine F.okX S (fun vs H Q E h => ?_) (fun cdv A outer s H vs Q E hr h => ⟨_, hd cdv A outer s H E hr, ?_⟩)
  · obtain ⟨B, ds, _, _, _, e, _⟩ := h
    exact e
  · obtain ⟨B, ds, i, r, hs, hl, q⟩ := h
    have hl2 : ds.length = ps.length := by rw [← rps_len r]; exact hl
    have hno : m ds ≠ .no := fun z => by rw [z] at q; exact q.elim
    refine ⟨B, H, B, H, env0 N ds, Out (m ds), ⟨B, fun _ => [], ⟨.refl _, .refl _, .refl i, ?_, fun j d e => ?_, fun _ => .nil, fun _ _ p hp => by (cases hp), fun _ p hp => by (cases hp)⟩⟩, hm ds hl2 hs hno, ?_⟩
    · unfold L2.start env0
      simp [hl, hl2]
    · unfold env0 at e
      by_cases hj : j < ds.length
      · rw [List.getElem?_append_left (by simpa using hj), List.getElem?_map, Option.map_eq_some_iff] at e
        obtain ⟨d', e1, e2⟩ := e
        cases e2
        obtain ⟨v, h1, h2⟩ := rps_get r e1
        refine ⟨stos_at hs e1, v, ?_, h2⟩
        unfold L2.start
        rw [List.getElem?_append_left (by rw [List.length_map]; exact (List.getElem?_eq_some_iff.mp h1).1), List.getElem?_map, h1]
        rfl
      · rw [List.getElem?_append_right (by simpa using hj)] at e
        rw [List.getElem?_replicate] at e
        split at e <;> cases e
    · have rt : ∀ d, m ds = .ok d → ∀ v H', RetOk K B H H' d v → Q v H' := fun d e v H' ⟨B', qs, st, rp, nd, fr⟩ => by
        rw [e] at q
        exact q v B' H' qs st rp nd fr
      refine ⟨fun e z σ H' s' => ?_, fun e z => z.elim, fun e z => z.elim, fun d z v H' r => rt d z v H' r, fun c e z σ H' s' => ?_⟩
      · obtain ⟨B', ps', s'⟩ := s'
        exact rt .non z .non H' ⟨B', [], s'.st, by unfold Rp; exact ⟨rfl, rfl⟩, .nil, by intro q hq; cases hq⟩
      · replace z : m ds = .er c := z
        obtain ⟨B', ps', s'⟩ := s'
        rw [z] at q
        exact q H' s'.st.h
theorem stos_ints (ns : List Int) : D.stos (ns.map D.int) = true := by
  induction ns with
  | nil => rfl
  | cons n ns ih => simp [D.stos, D.sto, ih]
/-- the law's own contract at a script -/
theorem ctr_law {K : PySem.W.Frag} {cl : String → Addr} {m : List D → R D} {H : Hp} {a : Addr} {ns : List Int} (hS : SqL K H a (ns.map V.int)) (h : m [.lst .sc (ns.map .int)] = .ok (.bl true)) : Ctr K cl 1 m [.ref a] H (fun v _ => v = .bl true) fun _ _ _ => False := by
  refine ⟨H, [.lst .sc (ns.map .int)], .refl _, ?_, ?_, rfl, ?_⟩
  · unfold Rps
    refine ⟨.ref a, [], [], [], rfl, rfl, ?_, ⟨rfl, rfl⟩⟩
    unfold Rp
    exact ⟨a, _, [], rfl, hS, ⟨rfl, rfl⟩, rps_of_ints ns⟩
  · simp [D.stos, D.sto, stos_ints ns]
  · rw [h]
    exact fun v B' H' qs st r nd fr => r.1
end BC

namespace BC
open PySem PySem.Spec PyProof.Rows L2

/-! ## lists of encoded things -/
def encL {α : Type} (f : α → D) (xs : List α) : List D := xs.map f
abbrev iL (k : Kd) (xs : List Int) : D := .lst k (encL .int xs)
abbrev sL (k : Kd) (xs : List Str) : D := .lst k (encL .str xs)
abbrev iLL (k k' : Kd) (xs : List (List Int)) : D := .lst k (encL (iL k') xs)
/-- pairs -/
def eP {α β : Type} (f : α → D) (g : β → D) : α × β → D := fun p => .tup [f p.1, g p.2]
def eZ {α : Type} (f : α → D) : α × Nat → D := fun p => .tup [.int (p.2 : Int), f p.1]
section
variable {α β : Type} {f : α → D} {g : β → D}
theorem encL_nil : encL f [] = [] := rfl
theorem encL_cons (a : α) (as : List α) : encL f (a :: as) = f a :: encL f as := rfl
@[simp] theorem encL_length (xs : List α) : (encL f xs).length = xs.length := List.length_map ..
@[simp] theorem encL_append (xs ys : List α) : encL f xs ++ encL f ys = encL f (xs ++ ys) := (List.map_append ..).symm
@[simp] theorem encL_snoc (xs : List α) (a : α) : encL f xs ++ [f a] = encL f (xs ++ [a]) := encL_append xs [a]
@[simp] theorem enc_ac1 (xs ys : List α) (a : α) : encL f xs ++ f a :: encL f ys = encL f (xs ++ a :: ys) := by unfold encL; simp
@[simp] theorem enc_ac2 (xs ys : List α) (a b : α) : encL f xs ++ f a :: f b :: encL f ys = encL f (xs ++ a :: b :: ys) := by unfold encL; simp
@[simp] theorem enc_ac3 (xs ys : List α) (a b c : α) : encL f xs ++ f a :: f b :: f c :: encL f ys = encL f (xs ++ a :: b :: c :: ys) := by unfold encL; simp
@[simp] theorem enc_an2 (xs : List α) (a b : α) : encL f xs ++ [f a, f b] = encL f (xs ++ [a, b]) := by unfold encL; simp
@[simp] theorem enc_an3 (xs : List α) (a b c : α) : encL f xs ++ [f a, f b, f c] = encL f (xs ++ [a, b, c]) := by unfold encL; simp
@[simp] theorem encL_reverse (xs : List α) : (encL f xs).reverse = encL f xs.reverse := (List.map_reverse ..).symm
@[simp] theorem encL_take (xs : List α) (n : Nat) : (encL f xs).take n = encL f (xs.take n) := (List.map_take ..).symm
@[simp] theorem encL_drop (xs : List α) (n : Nat) : (encL f xs).drop n = encL f (xs.drop n) := (List.map_drop ..).symm
@[simp] theorem encL_dropLast (xs : List α) : (encL f xs).dropLast = encL f xs.dropLast := (List.map_dropLast ..).symm
@[simp] theorem encL_tail (xs : List α) : (encL f xs).tail = encL f xs.tail := by cases xs <;> rfl
theorem enc_cons (a : α) (xs : List α) : f a :: encL f xs = encL f (a :: xs) := rfl
@[simp] theorem encL_set (xs : List α) (n : Nat) (a : α) : (encL f xs).set n (f a) = encL f (xs.set n a) := (List.map_set ..).symm
@[simp] theorem encL_get? (xs : List α) (n : Nat) : (encL f xs)[n]? = xs[n]?.map f := List.getElem?_map ..
@[simp] theorem encL_isEmpty (xs : List α) : (encL f xs).isEmpty = xs.isEmpty := by cases xs <;> rfl
@[simp] theorem encL_cutL (xs : List α) (lo hi : Option Int) : cutL (encL f xs) lo hi = encL f (cutL xs lo hi) := by unfold cutL; simp
@[simp] theorem encL_atI (xs : List α) (i : Int) : L2.atI (encL f xs) i = (L2.atI xs i).map f := by
  unfold L2.atI
  rw [encL_length]
  cases L2.ixN xs.length i <;> simp
theorem encL_eq_nil (xs : List α) : encL f xs = [] ↔ xs = [] := List.map_eq_nil_iff
@[simp] theorem encL_ne_nil (xs : List α) : encL f xs ≠ [] ↔ xs ≠ [] := by rw [ne_eq, encL_eq_nil]
theorem encL_inj (h : ∀ a b, f a = f b → a = b) : ∀ {xs ys : List α}, encL f xs = encL f ys → xs = ys
  | [], [], _ => rfl
  | [], _ :: _, e => by cases e
  | _ :: _, [], e => by cases e
  | a :: as, b :: bs, e => by
    rw [encL_cons, encL_cons] at e
    injection e with e1 e2
    rw [h a b e1, encL_inj h e2]
@[simp] theorem enc_int_inj (xs ys : List Int) : encL D.int xs = encL D.int ys ↔ xs = ys := ⟨fun e => encL_inj (fun a b h => by injection h) e, fun e => by rw [e]⟩
@[simp] theorem enc_str_inj (xs ys : List Str) : encL D.str xs = encL D.str ys ↔ xs = ys := ⟨fun e => encL_inj (fun a b h => by injection h) e, fun e => by rw [e]⟩
@[simp] theorem enc_iL_inj (k : Kd) (xs ys : List (List Int)) : encL (iL k) xs = encL (iL k) ys ↔ xs = ys := ⟨fun e => encL_inj (fun a b h => by injection h with h1 h2; exact (enc_int_inj a b).mp h2) e, fun e => by rw [e]⟩
@[simp] theorem zipL_enc (xs : List α) (ys : List β) : zipL (encL f xs) (encL g ys) = encL (eP f g) (xs.zip ys) := by
  induction xs generalizing ys with
  | nil => rfl
  | cons x xs ih =>
    cases ys with
    | nil => rfl
    | cons y ys => show _ :: zipL (encL f xs) (encL g ys) = _ :: encL (eP f g) (xs.zip ys); rw [ih]; rfl
@[simp] theorem enumL_enc (n : Nat) (xs : List α) : enumL n (encL f xs) = encL (eZ f) (xs.zipIdx n) := by
  induction xs generalizing n with
  | nil => rfl
  | cons x xs ih => show _ :: enumL (n + 1) (encL f xs) = _ :: encL (eZ f) (xs.zipIdx (n + 1)); rw [ih]; rfl
/-- lo, lo + c, .. -/
def rng (lo c : Int) (n : Nat) : List Int := (List.range n).map fun (i : Nat) => lo + (i : Int) * c
@[simp] theorem rngL_enc (lo c : Int) (n : Nat) : rngL lo c n = encL D.int (rng lo c n) := by unfold rngL rng encL; rw [List.map_map]; rfl
theorem rng_succ (lo c : Int) (n : Nat) : rng lo c (n + 1) = lo :: rng (lo + c) c n := by
  unfold rng
  rw [List.range_succ_eq_map, List.map_cons, List.map_map]
  congr 1
  · simp
  · apply List.map_congr_left
    intro i _
    simp only [Function.comp, Nat.succ_eq_add_one]
    rw [Int.natCast_add, Int.add_mul]
    omega
@[simp] theorem rng_length (lo c : Int) (n : Nat) : (rng lo c n).length = n := by unfold rng; simp
@[simp] theorem rng_zero (lo c : Int) : rng lo c 0 = [] := (rfl)
end
/-! kinds -/
@[simp] theorem bor_ow : Kd.bor .ow = .bo := (rfl)
@[simp] theorem bor_fz : Kd.bor .fz = .fz := (rfl)
@[simp] theorem bor_bo : Kd.bor .bo = .bo := (rfl)
@[simp] theorem bor_sc : Kd.bor .sc = .sc := (rfl)
@[simp] theorem frz_ow : Kd.frz .ow = .fz := (rfl)
@[simp] theorem frz_fz : Kd.frz .fz = .fz := (rfl)
@[simp] theorem frz_bo : Kd.frz .bo = .fz := (rfl)
@[simp] theorem frz_sc : Kd.frz .sc = .sc := (rfl)
@[simp] theorem unf_ow : Kd.unf .ow = .ow := (rfl)
@[simp] theorem unf_fz : Kd.unf .fz = .bo := (rfl)
@[simp] theorem unf_bo : Kd.unf .bo = .bo := (rfl)
@[simp] theorem unf_sc : Kd.unf .sc = .sc := (rfl)
@[simp] theorem dbor_lst (k : Kd) (xs : List D) : (D.lst k xs).bor = .lst k.bor (D.bors xs) := by simp [D.bor]
@[simp] theorem dbor_tup (xs : List D) : (D.tup xs).bor = .tup (D.bors xs) := by simp [D.bor]
@[simp] theorem dbor_int (i : Int) : (D.int i).bor = .int i := by simp [D.bor]
@[simp] theorem dbor_bl (i : Bool) : (D.bl i).bor = .bl i := by simp [D.bor]
@[simp] theorem dbor_str (i : Str) : (D.str i).bor = .str i := by simp [D.bor]
@[simp] theorem dbor_non : (D.non).bor = .non := by simp [D.bor]
@[simp] theorem dbor_exc (c : String) (a : Addr) : (D.exc c a).bor = .exc c a := by simp [D.bor]
@[simp] theorem dbors_nil : D.bors [] = [] := by simp [D.bors]
@[simp] theorem dbors_cons (d : D) (ds : List D) : D.bors (d :: ds) = d.bor :: D.bors ds := by simp [D.bors]
@[simp] theorem dfrz_lst (k : Kd) (xs : List D) : (D.lst k xs).frz = .lst k.frz (D.frzs xs) := by simp [D.frz]
@[simp] theorem dfrz_tup (xs : List D) : (D.tup xs).frz = .tup (D.frzs xs) := by simp [D.frz]
@[simp] theorem dfrz_int (i : Int) : (D.int i).frz = .int i := by simp [D.frz]
@[simp] theorem dfrz_bl (i : Bool) : (D.bl i).frz = .bl i := by simp [D.frz]
@[simp] theorem dfrz_str (i : Str) : (D.str i).frz = .str i := by simp [D.frz]
@[simp] theorem dfrz_non : (D.non).frz = .non := by simp [D.frz]
@[simp] theorem dfrz_exc (c : String) (a : Addr) : (D.exc c a).frz = .exc c a := by simp [D.frz]
@[simp] theorem dfrzs_nil : D.frzs [] = [] := by simp [D.frzs]
@[simp] theorem dfrzs_cons (d : D) (ds : List D) : D.frzs (d :: ds) = d.frz :: D.frzs ds := by simp [D.frzs]
@[simp] theorem dunf_lst (k : Kd) (xs : List D) : (D.lst k xs).unf = .lst k.unf (D.unfs xs) := by simp [D.unf]
@[simp] theorem dunf_tup (xs : List D) : (D.tup xs).unf = .tup (D.unfs xs) := by simp [D.unf]
@[simp] theorem dunf_int (i : Int) : (D.int i).unf = .int i := by simp [D.unf]
@[simp] theorem dunf_bl (i : Bool) : (D.bl i).unf = .bl i := by simp [D.unf]
@[simp] theorem dunf_str (i : Str) : (D.str i).unf = .str i := by simp [D.unf]
@[simp] theorem dunf_non : (D.non).unf = .non := by simp [D.unf]
@[simp] theorem dunf_exc (c : String) (a : Addr) : (D.exc c a).unf = .exc c a := by simp [D.unf]
@[simp] theorem dunfs_nil : D.unfs [] = [] := by simp [D.unfs]
@[simp] theorem dunfs_cons (d : D) (ds : List D) : D.unfs (d :: ds) = d.unf :: D.unfs ds := by simp [D.unfs]
@[simp] theorem dsto_ow (xs : List D) : (D.lst .ow xs).sto = D.stos xs := by simp [D.sto]
@[simp] theorem dsto_fz (xs : List D) : (D.lst .fz xs).sto = D.stos xs := by simp [D.sto]
@[simp] theorem dsto_sc (xs : List D) : (D.lst .sc xs).sto = D.stos xs := by simp [D.sto]
@[simp] theorem dsto_bo (xs : List D) : (D.lst .bo xs).sto = false := by simp [D.sto]
@[simp] theorem dsto_tup (xs : List D) : (D.tup xs).sto = D.stos xs := by simp [D.sto]
@[simp] theorem dsto_int (i : Int) : (D.int i).sto = true := by simp [D.sto]
@[simp] theorem dsto_bl (i : Bool) : (D.bl i).sto = true := by simp [D.sto]
@[simp] theorem dsto_str (i : Str) : (D.str i).sto = true := by simp [D.sto]
@[simp] theorem dsto_non : (D.non).sto = true := by simp [D.sto]
@[simp] theorem dsto_exc (c : String) (a : Addr) : (D.exc c a).sto = true := by simp [D.sto]
@[simp] theorem dstos_nil : D.stos [] = true := by simp [D.stos]
@[simp] theorem dstos_cons (d : D) (ds : List D) : D.stos (d :: ds) = (d.sto && D.stos ds) := by simp [D.stos]
@[simp] theorem dnsc_ow (xs : List D) : (D.lst .ow xs).nsc = D.nscs xs := by simp [D.nsc]
@[simp] theorem dnsc_fz (xs : List D) : (D.lst .fz xs).nsc = D.nscs xs := by simp [D.nsc]
@[simp] theorem dnsc_sc (xs : List D) : (D.lst .sc xs).nsc = false := by simp [D.nsc]
@[simp] theorem dnsc_bo (xs : List D) : (D.lst .bo xs).nsc = D.nscs xs := by simp [D.nsc]
@[simp] theorem dnsc_tup (xs : List D) : (D.tup xs).nsc = D.nscs xs := by simp [D.nsc]
@[simp] theorem dnsc_int (i : Int) : (D.int i).nsc = true := by simp [D.nsc]
@[simp] theorem dnsc_bl (i : Bool) : (D.bl i).nsc = true := by simp [D.nsc]
@[simp] theorem dnsc_str (i : Str) : (D.str i).nsc = true := by simp [D.nsc]
@[simp] theorem dnsc_non : (D.non).nsc = true := by simp [D.nsc]
@[simp] theorem dnsc_exc (c : String) (a : Addr) : (D.exc c a).nsc = true := by simp [D.nsc]
@[simp] theorem dnscs_nil : D.nscs [] = true := by simp [D.nscs]
@[simp] theorem dnscs_cons (d : D) (ds : List D) : D.nscs (d :: ds) = (d.nsc && D.nscs ds) := by simp [D.nscs]
section
variable {α : Type} {f g : α → D}
theorem bors_enc (h : ∀ a, (f a).bor = g a) (xs : List α) : D.bors (encL f xs) = encL g xs := by
  induction xs with
  | nil => simp [encL_nil]
  | cons a as ih => rw [encL_cons, encL_cons, dbors_cons, h, ih]
theorem frzs_enc (h : ∀ a, (f a).frz = g a) (xs : List α) : D.frzs (encL f xs) = encL g xs := by
  induction xs with
  | nil => simp [encL_nil]
  | cons a as ih => rw [encL_cons, encL_cons, dfrzs_cons, h, ih]
theorem unfs_enc (h : ∀ a, (f a).unf = g a) (xs : List α) : D.unfs (encL f xs) = encL g xs := by
  induction xs with
  | nil => simp [encL_nil]
  | cons a as ih => rw [encL_cons, encL_cons, dunfs_cons, h, ih]
theorem stos_enc (h : ∀ a, (f a).sto = true) (xs : List α) : D.stos (encL f xs) = true := by
  induction xs with
  | nil => rfl
  | cons a as ih => rw [encL_cons, dstos_cons, h, ih]; rfl
theorem nscs_enc (h : ∀ a, (f a).nsc = true) (xs : List α) : D.nscs (encL f xs) = true := by
  induction xs with
  | nil => rfl
  | cons a as ih => rw [encL_cons, dnscs_cons, h, ih]; rfl
@[simp] theorem bors_int (xs : List Int) : D.bors (encL .int xs) = encL .int xs := bors_enc (fun _ => by simp) xs
@[simp] theorem frzs_int (xs : List Int) : D.frzs (encL .int xs) = encL .int xs := frzs_enc (fun _ => by simp) xs
@[simp] theorem unfs_int (xs : List Int) : D.unfs (encL .int xs) = encL .int xs := unfs_enc (fun _ => by simp) xs
@[simp] theorem stos_int (xs : List Int) : D.stos (encL .int xs) = true := stos_enc (fun _ => by simp) xs
@[simp] theorem nscs_int (xs : List Int) : D.nscs (encL .int xs) = true := nscs_enc (fun _ => by simp) xs
@[simp] theorem bors_str (xs : List Str) : D.bors (encL .str xs) = encL .str xs := bors_enc (fun _ => by simp) xs
@[simp] theorem frzs_str (xs : List Str) : D.frzs (encL .str xs) = encL .str xs := frzs_enc (fun _ => by simp) xs
@[simp] theorem unfs_str (xs : List Str) : D.unfs (encL .str xs) = encL .str xs := unfs_enc (fun _ => by simp) xs
@[simp] theorem stos_str (xs : List Str) : D.stos (encL .str xs) = true := stos_enc (fun _ => by simp) xs
@[simp] theorem nscs_str (xs : List Str) : D.nscs (encL .str xs) = true := nscs_enc (fun _ => by simp) xs
@[simp] theorem bors_iL (k : Kd) (xs : List (List Int)) : D.bors (encL (iL k) xs) = encL (iL k.bor) xs := bors_enc (fun _ => by simp) xs
@[simp] theorem frzs_iL (k : Kd) (xs : List (List Int)) : D.frzs (encL (iL k) xs) = encL (iL k.frz) xs := frzs_enc (fun _ => by simp) xs
@[simp] theorem unfs_iL (k : Kd) (xs : List (List Int)) : D.unfs (encL (iL k) xs) = encL (iL k.unf) xs := unfs_enc (fun _ => by simp) xs
@[simp] theorem stos_iL_ow (xs : List (List Int)) : D.stos (encL (iL .ow) xs) = true := stos_enc (fun _ => by simp) xs
@[simp] theorem stos_iL_fz (xs : List (List Int)) : D.stos (encL (iL .fz) xs) = true := stos_enc (fun _ => by simp) xs
@[simp] theorem nscs_iL_ow (xs : List (List Int)) : D.nscs (encL (iL .ow) xs) = true := nscs_enc (fun _ => by simp) xs
@[simp] theorem nscs_iL_fz (xs : List (List Int)) : D.nscs (encL (iL .fz) xs) = true := nscs_enc (fun _ => by simp) xs
@[simp] theorem nscs_iL_bo (xs : List (List Int)) : D.nscs (encL (iL .bo) xs) = true := nscs_enc (fun _ => by simp) xs
@[simp] theorem ints_enc (xs : List Int) : D.ints? (encL .int xs) = some xs := ints?_map xs
@[simp] theorem strs_enc (xs : List Str) : D.strs? (encL .str xs) = some xs := strs?_map xs
theorem bls_enc (xs : List Bool) : D.bls? (encL .bl xs) = some xs := bls?_map xs
end

/-! ## the results -/
section
variable {α β : Type}
@[simp] theorem bind_ite (c : Prop) [Decidable c] (x y : R α) (f : α → R β) : ((if c then x else y) >>= f) = if c then x >>= f else y >>= f := by split <;> rfl
@[simp] theorem of_ite (c : Prop) [Decidable c] (x y : Option α) : R.of (if c then x else y) = if c then R.of x else R.of y := by split <;> rfl
@[simp] theorem gEv_ite (c : Prop) [Decidable c] (x y : R α) (env : Env) (Q : Ou → Prop) (k : α → Prop) : gEv (if c then x else y) env Q k = if c then gEv x env Q k else gEv y env Q k := by split <;> rfl
@[simp] theorem ite_no (c : Prop) [Decidable c] (A : Prop) : (if c then A else False) = (c ∧ A) := by by_cases h : c <;> simp [h]
@[simp] theorem pure_ok (a : α) : (pure a : R α) = .ok a := (rfl)
end
variable {env : Env} {Q : Ou → Prop}
@[simp] theorem xC_eq (d : D) : xC d env = .ok d := (rfl)
def rVar : Option (Option D) → R D
  | some (some d) => .ok d.bor
  | _ => .no
@[simp] theorem xVar_eq (i : Nat) : xVar i env = rVar env[i]? := by unfold xVar rVar; cases env[i]? with | none => rfl | some o => cases o <;> rfl
@[simp] theorem rVar_some (d : D) : rVar (some (some d)) = .ok d.bor := (rfl)
@[simp] theorem xNil_eq : xNil env = .ok [] := (rfl)
@[simp] theorem xCons_eq (f : Env → R D) (g : Env → R (List D)) : xCons f g env = f env >>= fun a => g env >>= fun as => R.ok (a :: as) := (rfl)
@[simp] theorem x2_eq (o : D → D → Option D) (f g : Env → R D) : x2 o f g env = f env >>= fun a => g env >>= fun b => R.of (o a b) := (rfl)
@[simp] theorem x1_eq (o : D → Option D) (f : Env → R D) : x1 o f env = f env >>= fun a => R.of (o a) := (rfl)
@[simp] theorem xA_eq (o : List D → Option D) (f : Env → R (List D)) : xA o f env = f env >>= fun a => R.of (o a) := (rfl)
@[simp] theorem xM_eq (ok : D → Bool) (o : D → D → Option D) (f g : Env → R D) : xM ok o f g env = f env >>= fun a => if ok a = true then g env >>= fun b => R.of (o a b) else R.no := (rfl)
@[simp] theorem isL_lst (k : Kd) (xs : List D) : D.isL (.lst k xs) = true := (rfl)
@[simp] theorem isS_str (s : Str) : D.isS (.str s) = true := (rfl)
@[simp] theorem xTup_eq (f : Env → R (List D)) : xTup f env = f env >>= fun ds => if ds.length ≤ 16777216 then R.ok (.tup ds) else R.no := (rfl)
@[simp] theorem xLst_eq (f : Env → R (List D)) : xLst f env = f env >>= fun ds => if ds.length ≤ 16777216 then R.ok (.lst .ow ds) else R.no := (rfl)
@[simp] theorem xCall_eq (m : List D → R D) (fs : Env → R (List D)) : xCall m fs env = fs env >>= fun ds => if D.stos ds = true then m (D.frzs ds) else m (D.frzs ds) >>= fun r => if r.nsc = true then R.ok r.unf else R.no := (rfl)
def bB : D → R Bool
  | .bl b => .ok b
  | _ => .no
@[simp] theorem bB_bl (b : Bool) : bB (.bl b) = .ok b := (rfl)
@[simp] theorem xB_eq (f : Env → R D) : xB f env = f env >>= bB := by
  unfold xB
  cases f env with
  | ok d => cases d <;> rfl
  | er c => rfl
  | no => rfl
@[simp] theorem xTAnd_eq (t u : Env → R Bool) : xTAnd t u env = t env >>= fun c => if c = true then u env else R.ok false := (rfl)
@[simp] theorem xTOr_eq (t u : Env → R Bool) : xTOr t u env = t env >>= fun c => if c = true then R.ok true else u env := (rfl)
@[simp] theorem xTNot_eq (t : Env → R Bool) : xTNot t env = t env >>= fun c => R.ok (!c) := (rfl)
@[simp] theorem xYes_eq : xYes env = .ok true := (rfl)
def andK (r : R D) : D → R D
  | .bl true => r
  | .bl false => R.ok (.bl false)
  | _ => R.no
def orK (r : R D) : D → R D
  | .bl false => r
  | .bl true => R.ok (.bl true)
  | _ => R.no
@[simp] theorem andK_bl (r : R D) (b : Bool) : andK r (.bl b) = if b = true then r else R.ok (.bl false) := by cases b <;> rfl
@[simp] theorem orK_bl (r : R D) (b : Bool) : orK r (.bl b) = if b = true then R.ok (.bl true) else r := by cases b <;> rfl
@[simp] theorem xAnd_eq (f g : Env → R D) : xAnd f g env = f env >>= andK (g env) := by
  unfold xAnd
  cases f env with
  | ok d => cases d with
    | bl b => cases b <;> rfl
    | _ => rfl
  | er c => rfl
  | no => rfl
@[simp] theorem xOr_eq (f g : Env → R D) : xOr f g env = f env >>= orK (g env) := by
  unfold xOr
  cases f env with
  | ok d => cases d with
    | bl b => cases b <;> rfl
    | _ => rfl
  | er c => rfl
  | no => rfl
def notK : D → R D
  | .bl b => R.ok (.bl (!b))
  | _ => R.no
@[simp] theorem notK_bl (b : Bool) : notK (.bl b) = R.ok (.bl (!b)) := (rfl)
@[simp] theorem xNot_eq (f : Env → R D) : xNot f env = f env >>= notK := by
  unfold xNot
  cases f env with
  | ok d => cases d <;> rfl
  | er c => rfl
  | no => rfl
@[simp] theorem xIf_eq (t : Env → R Bool) (f g : Env → R D) : xIf t f g env = t env >>= fun c => if c = true then f env else g env := (rfl)
def chK (r : R D) : D → R D
  | .bl true => r
  | .bl false => R.ok (.bl false)
  | _ => R.no
@[simp] theorem chK_bl (r : R D) (b : Bool) : chK r (.bl b) = if b = true then r else R.ok (.bl false) := by cases b <;> rfl
@[simp] theorem xChain_eq (o o' : D → D → Option D) (f g h : Env → R D) : xChain o o' f g h env = f env >>= fun a => g env >>= fun b => R.of (o a b) >>= chK (h env >>= fun c => R.of (o' b c)) := by
  unfold xChain
  cases f env with
  | ok a =>
    cases g env with
    | ok b =>
      show (R.of (o a b) >>= _) = R.of (o a b) >>= _
      cases o a b with
      | none => rfl
      | some d => cases d with
        | bl b => cases b <;> rfl
        | _ => rfl
    | er c => rfl
    | no => rfl
  | er c => rfl
  | no => rfl
def bP1 : D → R (Option Int)
  | .int i => .ok (some i)
  | _ => .no
@[simp] theorem bP1_int (i : Int) : bP1 (.int i) = .ok (some i) := (rfl)
@[simp] theorem xP0_eq : xP0 env = .ok none := (rfl)
@[simp] theorem xP1_eq (f : Env → R D) : xP1 f env = f env >>= bP1 := by
  unfold xP1
  cases f env with
  | ok d => cases d <;> rfl
  | er c => rfl
  | no => rfl
@[simp] theorem xSl_eq (f : Env → R D) (l u : Env → R (Option Int)) : xSl f l u env = f env >>= fun a => l env >>= fun lo => u env >>= fun hi => R.of (slD a lo hi) := (rfl)
/-! operations -/
@[simp] theorem addD_int (i j : Int) : addD (.int i) (.int j) = some (.int (i + j)) := (rfl)
@[simp] theorem addD_str (i j : Str) : addD (.str i) (.str j) = if i.length + j.length ≤ 16777216 then some (.str (i ++ j)) else none := (rfl)
@[simp] theorem addD_lst (k k' : Kd) (xs ys : List D) : addD (.lst k xs) (.lst k' ys) = if xs.length + ys.length ≤ 16777216 then some (.lst .ow (xs ++ ys)) else none := (rfl)
@[simp] theorem addD_tup (xs ys : List D) : addD (.tup xs) (.tup ys) = if xs.length + ys.length ≤ 16777216 then some (.tup (xs ++ ys)) else none := (rfl)
@[simp] theorem subD_int (i j : Int) : subD (.int i) (.int j) = some (.int (i - j)) := (rfl)
theorem mulD_int (i j : Int) (h : smallM i = true ∨ smallM j = true) : mulD (.int i) (.int j) = some (.int (i * j)) := by
  show (if (smallM i || smallM j) = true then some (D.int (i * j)) else none) = _
  rw [if_pos (by rcases h with h | h <;> simp [h])]
theorem smallM_of {i : Int} (h1 : -18446744073709551616 < i) (h2 : i < 18446744073709551616) : smallM i = true := by simp [smallM]; omega
@[simp] theorem mulD_int' (i j : Int) : mulD (.int i) (.int j) = if (-18446744073709551616 < i ∧ i < 18446744073709551616) ∨ (-18446744073709551616 < j ∧ j < 18446744073709551616) then some (.int (i * j)) else none := by
  show (if (smallM i || smallM j) = true then some (D.int (i * j)) else none) = _
  simp only [smallM, Bool.or_eq_true, Bool.and_eq_true, decide_eq_true_eq]
@[simp] theorem divD_int (i j : Int) : divD (.int i) (.int j) = if 0 < j ∧ j < 1073741824 then some (.int (i / j)) else none := (rfl)
@[simp] theorem modD_int (i j : Int) : modD (.int i) (.int j) = if 0 < j then some (.int (i % j)) else none := (rfl)
@[simp] theorem powD_int (i j : Int) : powD (.int i) (.int j) = if 0 ≤ j ∧ j ≤ 1000000 ∧ i.natAbs < 18446744073709551616 then some (.int (i ^ j.toNat)) else none := (rfl)
@[simp] theorem negD_int (i : Int) : negD (.int i) = some (.int (-i)) := (rfl)
@[simp] theorem cmpD_int (g : Int → Int → Bool) (i j : Int) : cmpD g (.int i) (.int j) = some (.bl (g i j)) := (rfl)
@[simp] theorem isD_non (a : D) : isD a .non = some (.bl a.isNon) := by cases a <;> rfl
@[simp] theorem isD_bl (a b : Bool) : isD (.bl a) (.bl b) = some (.bl (a == b)) := (rfl)
@[simp] theorem notisD_non (a : D) : notisD a .non = some (.bl (!a.isNon)) := by cases a <;> rfl
@[simp] theorem notisD_bl (a b : Bool) : notisD (.bl a) (.bl b) = some (.bl (!(a == b))) := (rfl)
@[simp] theorem isNon_non : D.isNon .non = true := (rfl)
@[simp] theorem isNon_lst (k : Kd) (xs : List D) : D.isNon (.lst k xs) = false := (rfl)
@[simp] theorem isNon_tup (xs : List D) : D.isNon (.tup xs) = false := (rfl)
@[simp] theorem isNon_int (i : Int) : D.isNon (.int i) = false := (rfl)
@[simp] theorem isNon_str (i : Str) : D.isNon (.str i) = false := (rfl)
@[simp] theorem isNon_bl (i : Bool) : D.isNon (.bl i) = false := (rfl)
@[simp] theorem isNon_exc (c : String) (a : Addr) : D.isNon (.exc c a) = false := (rfl)
@[simp] theorem ixD_lst (k : Kd) (xs : List D) (i : Int) : ixD (.lst k xs) (.int i) = L2.atI xs i := (rfl)
@[simp] theorem ixD_tup (xs : List D) (i : Int) : ixD (.tup xs) (.int i) = L2.atI xs i := (rfl)
@[simp] theorem slD_lst (k : Kd) (xs : List D) (lo hi : Option Int) : slD (.lst k xs) lo hi = some (.lst .ow (cutL xs lo hi)) := (rfl)
@[simp] theorem slD_tup (xs : List D) (lo hi : Option Int) : slD (.tup xs) lo hi = some (.tup (cutL xs lo hi)) := (rfl)
@[simp] theorem slD_str (z : Str) (lo hi : Option Int) : slD (.str z) lo hi = if z.length ≤ 16777216 then some (.str (cutS z lo hi)) else none := (rfl)
@[simp] theorem lenD_lst (k : Kd) (xs : List D) : lenD [.lst k xs] = some (.int xs.length) := (rfl)
@[simp] theorem lenD_tup (xs : List D) : lenD [.tup xs] = some (.int xs.length) := (rfl)
@[simp] theorem lenD_str (s : Str) : lenD [.str s] = if s.length ≤ 16777216 then some (.int s.length) else none := (rfl)
theorem absI (i : Int) : (if i < 0 then -i else i) = (i.natAbs : Int) := by omega
@[simp] theorem absD_int (i : Int) : absD [.int i] = some (.int (i.natAbs : Int)) := by rw [← absI]; rfl
@[simp] theorem max2D_int (i j : Int) : max2D [.int i, .int j] = some (.int (max i j)) := by
  show some (D.int (if j > i then j else i)) = _
  rw [show (if j > i then j else i) = max i j by omega]
@[simp] theorem min2D_int (i j : Int) : min2D [.int i, .int j] = some (.int (min i j)) := by
  show some (D.int (if j < i then j else i)) = _
  rw [show (if j < i then j else i) = min i j by omega]
@[simp] theorem listD_lst (k : Kd) (xs : List D) : listD [.lst k xs] = some (.lst .ow xs) := (rfl)
@[simp] theorem listD_tup (xs : List D) : listD [.tup xs] = some (.lst .ow xs) := (rfl)
@[simp] theorem lrngD_int (n : Int) : lrngD (.int n) = if -4611686018427387904 ≤ n ∧ n ≤ 16777216 then some (.lst .ow (rngL 0 1 n.toNat)) else none := (rfl)
@[simp] theorem lrevrngD_int (n : Int) : lrevrngD (.int n) = if -4611686018427387904 ≤ n ∧ n ≤ 16777216 then some (.lst .ow (rngL 0 1 n.toNat).reverse) else none := (rfl)
@[simp] theorem lrevD_lst (k : Kd) (xs : List D) : lrevD (.lst k xs) = some (.lst .ow xs.reverse) := (rfl)
@[simp] theorem sumD_int (k : Kd) (xs : List Int) : sumD [iL k xs] = some (.int xs.sum) := by show (D.ints? (encL D.int xs)).map _ = _; rw [ints_enc]; rfl
@[simp] theorem allD_bl (k : Kd) (xs : List Bool) : allD [.lst k (encL .bl xs)] = some (.bl (xs.all id)) := by show (D.bls? (encL D.bl xs)).map _ = _; rw [bls_enc]; rfl
@[simp] theorem sortedD_int (k : Kd) (xs : List Int) : sortedD [iL k xs] = some (iL .ow (sortI xs)) := by show (D.ints? (encL D.int xs)).map _ = _; rw [ints_enc]; rfl
@[simp] theorem maxLD_int (k : Kd) (xs : List Int) : maxLD [iL k xs] = (xs.max?).map D.int := by show (D.ints? (encL D.int xs)).bind _ = _; rw [ints_enc]; rfl
@[simp] theorem minLD_int (k : Kd) (xs : List Int) : minLD [iL k xs] = (xs.min?).map D.int := by show (D.ints? (encL D.int xs)).bind _ = _; rw [ints_enc]; rfl
@[simp] theorem indexD_int (k : Kd) (xs : List Int) (i : Int) : indexD (iL k xs) (.int i) = if i ∈ xs then some (.int (xs.idxOf i : Nat)) else none := by show (D.ints? (encL D.int xs)).bind _ = _; rw [ints_enc]; rfl
@[simp] theorem int1D_int (i : Int) : int1D [.int i] = some (.int i) := (rfl)
@[simp] theorem isi_list_lst (k : Kd) (xs : List D) : isiD .list (.lst k xs) = some (.bl true) := (rfl)
@[simp] theorem isi_list_non : isiD .list .non = some (.bl false) := (rfl)
@[simp] theorem isi_list_tup (xs : List D) : isiD .list (.tup xs) = some (.bl false) := (rfl)
@[simp] theorem isi_list_int (i : Int) : isiD .list (.int i) = some (.bl false) := (rfl)
@[simp] theorem isi_list_str (i : Str) : isiD .list (.str i) = some (.bl false) := (rfl)
@[simp] theorem isi_tuple_tup (xs : List D) : isiD .tuple (.tup xs) = some (.bl true) := (rfl)
@[simp] theorem isi_tuple_lst (k : Kd) (xs : List D) : isiD .tuple (.lst k xs) = some (.bl false) := (rfl)
@[simp] theorem isi_tuple_non : isiD .tuple .non = some (.bl false) := (rfl)
@[simp] theorem isi_tuple_int (i : Int) : isiD .tuple (.int i) = some (.bl false) := (rfl)
@[simp] theorem isi_tuple_str (i : Str) : isiD .tuple (.str i) = some (.bl false) := (rfl)
@[simp] theorem isi_int_int (i : Int) : isiD .int (.int i) = some (.bl true) := (rfl)
@[simp] theorem isi_int_bl (i : Bool) : isiD .int (.bl i) = some (.bl true) := (rfl)
@[simp] theorem isi_int_str (i : Str) : isiD .int (.str i) = some (.bl false) := (rfl)
@[simp] theorem isi_int_non : isiD .int .non = some (.bl false) := (rfl)
@[simp] theorem isi_int_lst (k : Kd) (xs : List D) : isiD .int (.lst k xs) = some (.bl false) := (rfl)
@[simp] theorem isi_int_tup (xs : List D) : isiD .int (.tup xs) = some (.bl false) := (rfl)
@[simp] theorem isi_bool_int (i : Int) : isiD .bool (.int i) = some (.bl false) := (rfl)
@[simp] theorem isi_bool_bl (i : Bool) : isiD .bool (.bl i) = some (.bl true) := (rfl)
@[simp] theorem isi_bool_str (i : Str) : isiD .bool (.str i) = some (.bl false) := (rfl)
@[simp] theorem isi_str_str (i : Str) : isiD .str (.str i) = some (.bl true) := (rfl)
@[simp] theorem isi_str_int (i : Int) : isiD .str (.int i) = some (.bl false) := (rfl)
@[simp] theorem isi_str_tup (xs : List D) : isiD .str (.tup xs) = some (.bl false) := (rfl)
@[simp] theorem isi_str_lst (k : Kd) (xs : List D) : isiD .str (.lst k xs) = some (.bl false) := (rfl)
@[simp] theorem isi_str_non : isiD .str .non = some (.bl false) := (rfl)
@[simp] theorem inXD_int (neg : Bool) (i : Int) (k : Kd) (xs : List Int) : inXD neg (.int i) (iL k xs) = some (.bl (if neg then !decide (i ∈ xs) else decide (i ∈ xs))) := by
  have h1 : (encL D.int xs).all D.flat = true := by unfold encL; rw [List.all_map]; exact List.all_eq_true.mpr fun _ _ => rfl
  have h2 : inV (D.int i).toV ((encL D.int xs).map D.toV) = decide (i ∈ xs) := by
    unfold inV encL
    induction xs with
    | nil => rfl
    | cons x xs ih =>
      simp only [List.map_cons, List.any_cons]
      rw [ih (by unfold encL; rw [List.all_map]; exact List.all_eq_true.mpr fun _ _ => rfl)]
      show ((x == i) || _) = _
      by_cases hx : x = i
      · subst hx; simp
      · have : (x == i) = false := by simpa using hx
        have h3 : ¬ i = x := fun z => hx z.symm
        rw [this]; simp [h3]
  show inD neg (.int i) (iL k xs) = _
  unfold inD
  simp only [h1, show (D.int i).flat = true from rfl, Bool.and_self, if_true]
  rw [h2]
theorem ite_okF (c : Prop) [Decidable c] (d : Bool) : (if c then R.ok d else R.ok false) = R.ok (decide c && d) := by by_cases h : c <;> simp [h]
theorem ite_okT (c : Prop) [Decidable c] (d : Bool) : (if c then R.ok true else R.ok d) = R.ok (decide c || d) := by by_cases h : c <;> simp [h]
end BC

namespace BC
open PySem PySem.Spec PyProof.Rows L2

/-! ## statements, read -/
section
variable {env : Env} {Q : Ou → Prop}
def seqK (h : G) (Q : Ou → Prop) : Ou → Prop
  | .nx e => h e Q
  | .rt d => Q (.rt d)
  | .bk e => Q (.bk e)
  | .ct e => Q (.ct e)
  | .rz c e => Q (.rz c e)
@[simp] theorem seqK_nx (h : G) (e : Env) : seqK h Q (.nx e) = h e Q := (rfl)
@[simp] theorem seqK_rt (h : G) (d : D) : seqK h Q (.rt d) = Q (.rt d) := (rfl)
@[simp] theorem seqK_bk (h : G) (e : Env) : seqK h Q (.bk e) = Q (.bk e) := (rfl)
@[simp] theorem seqK_ct (h : G) (e : Env) : seqK h Q (.ct e) = Q (.ct e) := (rfl)
@[simp] theorem seqK_rz (h : G) (c : String) (e : Env) : seqK h Q (.rz c e) = Q (.rz c e) := (rfl)
@[simp] theorem gSeq_eq (g h : G) : gSeq g h env Q = g env (seqK h Q) := by
  unfold gSeq
  congr 1
  funext o
  cases o <;> rfl
@[simp] theorem gNext_eq : gNext env Q = Q (.nx env) := (rfl)
@[simp] theorem gAsg_eq (i : Nat) (f : Env → R D) : gAsg i f env Q = gEv (f env) env Q fun d => d.sto = true ∧ Q (.nx (env.set i (some d))) := (rfl)
@[simp] theorem setAll_nil : setAll [] [] env = some env := (rfl)
@[simp] theorem setAll_cons (j : Nat) (js : List Nat) (d : D) (ds : List D) : setAll (j :: js) (d :: ds) env = setAll js ds (env.set j (some d)) := (rfl)
def unpK (is : List Nat) (env : Env) (Q : Ou → Prop) : D → Prop
  | .tup ds => ∃ e, setAll is ds env = some e ∧ Q (.nx e)
  | _ => False
@[simp] theorem unpK_tup (is : List Nat) (ds : List D) : unpK is env Q (.tup ds) = ∃ e, setAll is ds env = some e ∧ Q (.nx e) := (rfl)
@[simp] theorem gUnp_eq (is : List Nat) (f : Env → R D) : gUnp is f env Q = gEv (f env) env Q fun d => d.sto = true ∧ unpK is env Q d := by
  unfold gUnp
  rfl
@[simp] theorem gPar_eq (i j : Nat) (fs : Env → R (List D)) : gPar i j fs env Q = gEv (fs env) env Q fun ds => D.stos ds = true ∧ ∃ e, setAll [i, j] ds env = some e ∧ Q (.nx e) := (rfl)
@[simp] theorem gRet_eq (f : Env → R D) : gRet f env Q = gEv (f env) env Q fun d => Q (.rt d) := (rfl)
def retK (Q : Ou → Prop) : Option (Option D) → Prop
  | some (some d) => Q (.rt d)
  | _ => False
@[simp] theorem retK_some (d : D) : retK Q (some (some d)) = Q (.rt d) := (rfl)
@[simp] theorem gRetV_eq (i : Nat) : gRetV i env Q = retK Q env[i]? := by unfold gRetV retK; cases env[i]? with | none => rfl | some o => cases o <;> rfl
@[simp] theorem gRetN_eq : gRetN env Q = Q (.rt .non) := (rfl)
@[simp] theorem gIf_eq (c : Env → R Bool) (g h : G) : gIf c g h env Q = gEv (c env) env Q fun b => if b = true then g env Q else h env Q := (rfl)
@[simp] theorem gDrop_eq (f : Env → R D) : gDrop f env Q = gEv (f env) env Q fun _ => Q (.nx env) := (rfl)
@[simp] theorem gBreak_eq : gBreak env Q = Q (.bk env) := (rfl)
@[simp] theorem gCont_eq : gCont env Q = Q (.ct env) := (rfl)
@[simp] theorem gRaise_eq (x : String) : gRaise x env Q = Q (.rz x env) := (rfl)
@[simp] theorem gFrz_eq (i : Nat) (g : G) : gFrz i g env Q = g (env.modify i (Option.map D.frz)) Q := (rfl)
@[simp] theorem gFor_eq (src : Env → R (Bool × List D)) (tg : Tgt) (body : G) : gFor src tg body env Q = gEv (src env) env Q fun s => s.1 = false ∧ gForL tg body s.2 env Q := (rfl)
/-! changes -/
def plK (gs : List (Env → R D)) (k : D → List Int → List D → G) (env : Env) (Q : Ou → Prop) : Option (Option D) → Prop
  | some (some d) => match xPath gs env with
    | some π => match getP d π with
      | some (.lst .ow xs) => k d π xs env Q
      | _ => False
    | none => False
  | _ => False
@[simp] theorem gPl_eq (i : Nat) (gs : List (Env → R D)) (k : D → List Int → List D → G) : gPl i gs k env Q = plK gs k env Q env[i]? := by
  unfold gPl plK
  cases env[i]? with
  | none => rfl
  | some o => cases o with
    | none => rfl
    | some d =>
      rfl
@[simp] theorem plK_nil (k : D → List Int → List D → G) (xs : List D) : plK [] k env Q (some (some (.lst .ow xs))) = k (.lst .ow xs) [] xs env Q := (rfl)
def plK1 (k : D → List Int → List D → G) (d : D) (n : Int) (env : Env) (Q : Ou → Prop) : Option D → Prop
  | some (.lst .ow ys) => k d [n] ys env Q
  | _ => False
@[simp] theorem plK1_some (k : D → List Int → List D → G) (d : D) (n : Int) (ys : List D) : plK1 k d n env Q (some (.lst .ow ys)) = k d [n] ys env Q := (rfl)
theorem plK_one (k : D → List Int → List D → G) (xs : List D) (g : Env → R D) (n : Int) (h : g env = .ok (.int n)) : plK [g] k env Q (some (some (.lst .ow xs))) = plK1 k (.lst .ow xs) n env Q (L2.atI xs n) := by
  unfold plK
  simp only [xPath, h, getP, List.nil_append]
  unfold plK1
  cases L2.atI xs n with
  | none => rfl
  | some d => rfl
@[simp] theorem setP_nil (d e : D) : setP d [] e = e := by cases d <;> rfl
theorem setP_one (k : Kd) (xs : List D) (n : Int) (e : D) (j : Nat) (h : L2.ixN xs.length n = some j) : setP (.lst k xs) [n] e = .lst k (xs.set j e) := by
  unfold setP
  rw [h]
  simp
@[simp] theorem gApp_eq (i : Nat) (gs : List (Env → R D)) (f : Env → R D) : gApp i gs f env Q = plK gs (fun d π xs env Q => gEv (f env) env Q fun y => y.sto = true ∧ xs.length < 16777216 ∧ Q (.nx (env.set i (some (setP d π (.lst .ow (xs ++ [y]))))))) env Q env[i]? := by unfold gApp; rw [gPl_eq]
@[simp] theorem gPop_eq (i : Nat) (gs : List (Env → R D)) : gPop i gs env Q = plK gs (fun d π xs env Q => xs ≠ [] ∧ Q (.nx (env.set i (some (setP d π (.lst .ow xs.dropLast)))))) env Q env[i]? := by unfold gPop; rw [gPl_eq]
def insK (i : Nat) (d : D) (π : List Int) (xs : List D) (y : D) (env : Env) (Q : Ou → Prop) : D → Prop
  | .int n => 0 ≤ n ∧ n < 9223372036854775808 ∧ Q (.nx (env.set i (some (setP d π (.lst .ow (xs.take n.toNat ++ [y] ++ xs.drop n.toNat))))))
  | _ => False
@[simp] theorem insK_int (i : Nat) (d : D) (π : List Int) (xs : List D) (y : D) (n : Int) : insK i d π xs y env Q (.int n) = (0 ≤ n ∧ n < 9223372036854775808 ∧ Q (.nx (env.set i (some (setP d π (.lst .ow (xs.take n.toNat ++ [y] ++ xs.drop n.toNat))))))) := (rfl)
@[simp] theorem gIns_eq (i : Nat) (gs : List (Env → R D)) (f g : Env → R D) : gIns i gs f g env Q = plK gs (fun d π xs env Q => gEv (f env) env Q fun n => gEv (g env) env Q fun y => y.sto = true ∧ xs.length < 16777216 ∧ insK i d π xs y env Q n) env Q env[i]? := by
  unfold gIns
  rw [gPl_eq]
  rfl
def extK (i : Nat) (d : D) (π : List Int) (xs : List D) (env : Env) (Q : Ou → Prop) : D → Prop
  | .lst k ys => k ≠ .sc ∧ D.stos ys = true ∧ xs.length + ys.length ≤ 16777216 ∧ Q (.nx (env.set i (some (setP d π (.lst .ow (xs ++ ys))))))
  | _ => False
@[simp] theorem extK_lst (i : Nat) (d : D) (π : List Int) (xs ys : List D) (k : Kd) : extK i d π xs env Q (.lst k ys) = (k ≠ .sc ∧ D.stos ys = true ∧ xs.length + ys.length ≤ 16777216 ∧ Q (.nx (env.set i (some (setP d π (.lst .ow (xs ++ ys))))))) := (rfl)
@[simp] theorem gExt_eq (i : Nat) (gs : List (Env → R D)) (f : Env → R D) : gExt i gs f env Q = plK gs (fun d π xs env Q => gEv (f env) env Q (extK i d π xs env Q)) env Q env[i]? := by
  unfold gExt
  rw [gPl_eq]
  rfl
def augLK (i : Nat) (f : Env → R D) (env : Env) (Q : Ou → Prop) : Option (Option D) → Prop
  | some (some (.lst .ow xs)) => gEv (f env) env Q (extK i (.lst .ow xs) [] xs env Q)
  | _ => False
@[simp] theorem augLK_some (i : Nat) (f : Env → R D) (xs : List D) : augLK i f env Q (some (some (.lst .ow xs))) = gEv (f env) env Q (extK i (.lst .ow xs) [] xs env Q) := (rfl)
@[simp] theorem gAugL_eq (i : Nat) (f : Env → R D) : gAugL i f env Q = augLK i f env Q env[i]? := by
  rfl
def setIK (i : Nat) (d : D) (π : List Int) (xs : List D) (y : D) (env : Env) (Q : Ou → Prop) : D → Prop
  | .int n => match L2.ixN xs.length n with
    | some j => Q (.nx (env.set i (some (setP d π (.lst .ow (xs.set j y))))))
    | none => False
  | _ => False
theorem setIK_int (i : Nat) (d : D) (π : List Int) (xs : List D) (y : D) (n : Int) (j : Nat) (h : L2.ixN xs.length n = some j) : setIK i d π xs y env Q (.int n) = Q (.nx (env.set i (some (setP d π (.lst .ow (xs.set j y)))))) := by
  unfold setIK
  simp only [h]
def setJ (i : Nat) (d : D) (π : List Int) (xs : List D) (y : D) (env : Env) (Q : Ou → Prop) : Option Nat → Prop
  | some j => Q (.nx (env.set i (some (setP d π (.lst .ow (xs.set j y))))))
  | none => False
@[simp] theorem setJ_some (i : Nat) (d : D) (π : List Int) (xs : List D) (y : D) (j : Nat) : setJ i d π xs y env Q (some j) = Q (.nx (env.set i (some (setP d π (.lst .ow (xs.set j y)))))) := (rfl)
@[simp] theorem setIK_eq (i : Nat) (d : D) (π : List Int) (xs : List D) (y : D) (n : Int) : setIK i d π xs y env Q (.int n) = setJ i d π xs y env Q (L2.ixN xs.length n) := by
  show (match L2.ixN xs.length n with
    | some j => Q (.nx (env.set i (some (setP d π (.lst .ow (xs.set j y))))))
    | none => False) = setJ i d π xs y env Q (L2.ixN xs.length n)
  cases L2.ixN xs.length n <;> rfl
@[simp] theorem gSetI_eq (i : Nat) (gs : List (Env → R D)) (g f : Env → R D) : gSetI i gs g f env Q = plK gs (fun d π xs env Q => gEv (f env) env Q fun y => gEv (g env) env Q fun n => y.sto = true ∧ setIK i d π xs y env Q n) env Q env[i]? := by
  unfold gSetI
  rw [gPl_eq]
  rfl
theorem gAugI_int (i : Nat) (gs : List (Env → R D)) (op : Int → Int → Int) (g f : Env → R D) (xs : List D) (d : D) (π : List Int) (n x y : Int) (j : Nat) (e1 : env[i]? = some (some d)) (e2 : xPath gs env = some π) (e3 : getP d π = some (.lst .ow xs)) (e4 : g env = .ok (.int n)) (e5 : f env = .ok (.int y)) (e6 : L2.ixN xs.length n = some j) (e7 : xs[j]? = some (.int x)) :
    gAugI i gs op g f env Q = Q (.nx (env.set i (some (setP d π (.lst .ow (xs.set j (.int (op x y)))))))) := by
  unfold gAugI gPl
  simp only [e1, e2, e3, e4, gEv_ok, e5, e6, e7]
def augK (i : Nat) (op : Int → Int → Int) (x : Int) (env : Env) (Q : Ou → Prop) : D → Prop
  | .int y => Q (.nx (env.set i (some (.int (op x y)))))
  | _ => False
@[simp] theorem augK_int (i : Nat) (op : Int → Int → Int) (x y : Int) : augK i op x env Q (.int y) = Q (.nx (env.set i (some (.int (op x y))))) := (rfl)
def augKK (i : Nat) (op : Int → Int → Int) (f : Env → R D) (env : Env) (Q : Ou → Prop) : Option (Option D) → Prop
  | some (some (.int x)) => gEv (f env) env Q (augK i op x env Q)
  | _ => False
@[simp] theorem augKK_int (i : Nat) (op : Int → Int → Int) (f : Env → R D) (x : Int) : augKK i op f env Q (some (some (.int x))) = gEv (f env) env Q (augK i op x env Q) := (rfl)
@[simp] theorem gAug_eq (i : Nat) (op : Int → Int → Int) (f : Env → R D) : gAug i op f env Q = augKK i op f env Q env[i]? := by
  rfl
/-! exceptions -/
def tryK (cat : Cat) (h : G) (Q : Ou → Prop) : Ou → Prop
  | .nx e => Q (.nx e)
  | .rt d => Q (.rt d)
  | .bk e => Q (.bk e)
  | .ct e => Q (.ct e)
  | .rz c e => match cat c with
    | some true => h e (noRz Q)
    | some false => Q (.rz c e)
    | none => False
theorem gTry_eq (cat : Cat) (g h : G) : gTry cat g h env Q = g env (tryK cat h Q) := by
  unfold gTry
  congr 1
  funext o
  cases o <;> rfl
def tryAsK (cl : String → Addr) (cat : Cat) (i : Nat) (h : G) (Q : Ou → Prop) : Ou → Prop
  | .nx e => Q (.nx e)
  | .rt d => Q (.rt d)
  | .bk e => Q (.bk e)
  | .ct e => Q (.ct e)
  | .rz c e => match cat c with
    | some true => h (e.set i (some (.exc c (cl c)))) (gGone i Q)
    | some false => Q (.rz c e)
    | none => False
theorem gTryAs_eq (cl : String → Addr) (cat : Cat) (i : Nat) (g h : G) : gTryAs cl cat i g h env Q = g env (tryAsK cl cat i h Q) := by
  unfold gTryAs
  congr 1
  funext o
  cases o <;> rfl
def tryEK (cat : Cat) (h k : G) (Q : Ou → Prop) : Ou → Prop
  | .nx e => k e Q
  | .rt d => Q (.rt d)
  | .bk e => Q (.bk e)
  | .ct e => Q (.ct e)
  | .rz c e => match cat c with
    | some true => h e (noRz Q)
    | some false => Q (.rz c e)
    | none => False
theorem gTryE_eq (cat : Cat) (g h k : G) : gTryE cat g h k env Q = g env (tryEK cat h k Q) := by
  unfold gTryE
  congr 1
  funext o
  cases o <;> rfl
def tryMK (l : List (Cat × G)) (Q : Ou → Prop) : Ou → Prop
  | .nx e => Q (.nx e)
  | .rt d => Q (.rt d)
  | .bk e => Q (.bk e)
  | .ct e => Q (.ct e)
  | .rz c e => gCatch Q c e l
theorem gTryM_eq (g : G) (l : List (Cat × G)) : gTryM g l env Q = g env (tryMK l Q) := by
  unfold gTryM
  congr 1
  funext o
  cases o <;> rfl
/-! outcomes -/
@[simp] theorem Out_nx (r : R D) (e : Env) : Out r (.nx e) = (r = .ok .non) := (rfl)
@[simp] theorem Out_rt (r : R D) (d : D) : Out r (.rt d) = (r = .ok d) := (rfl)
@[simp] theorem Out_rz (r : R D) (c : String) (e : Env) : Out r (.rz c e) = (r = .er c) := (rfl)
@[simp] theorem Out_bk (r : R D) (e : Env) : Out r (.bk e) = False := (rfl)
@[simp] theorem Out_ct (r : R D) (e : Env) : Out r (.ct e) = False := (rfl)
end

/-! ## loops -/
def forK (tg : Tgt) (body : G) (ds : List D) (Q : Ou → Prop) : Ou → Prop
  | .nx e => gForL tg body ds e Q
  | .ct e => gForL tg body ds e Q
  | .bk e => Q (.nx e)
  | .rt d => Q (.rt d)
  | .rz c e => Q (.rz c e)
section
variable {tg : Tgt} {body : G} {ds : List D} {Q : Ou → Prop} {env : Env}
@[simp] theorem forK_nx (e : Env) : forK tg body ds Q (.nx e) = gForL tg body ds e Q := (rfl)
@[simp] theorem forK_ct (e : Env) : forK tg body ds Q (.ct e) = gForL tg body ds e Q := (rfl)
@[simp] theorem forK_bk (e : Env) : forK tg body ds Q (.bk e) = Q (.nx e) := (rfl)
@[simp] theorem forK_rt (d : D) : forK tg body ds Q (.rt d) = Q (.rt d) := (rfl)
@[simp] theorem forK_rz (c : String) (e : Env) : forK tg body ds Q (.rz c e) = Q (.rz c e) := (rfl)
theorem gForL_nil : gForL tg body [] env Q = Q (.nx env) := rfl
theorem gForL_cons (d : D) : gForL tg body (d :: ds) env Q = (d.sto = true ∧ ∃ e, tg d env = some e ∧ body e (forK tg body ds Q)) := by
  show (d.sto = true ∧ ∃ e, tg d env = some e ∧ _) = _
  congr 1
  congr 1
  funext e
  congr 1
  congr 1
  funext o
  cases o <;> rfl
@[simp] theorem tgN_eq (j : Nat) (d : D) : tgN j d env = some (env.set j (some d)) := (rfl)
@[simp] theorem tgT_eq (js : List Nat) (ds : List D) : tgT js (.tup ds) env = setAll js ds env := (rfl)
/-- by an invariant over what is left -/
theorem for_inv {α : Type} {f : α → D} (I : List α → Env → Prop) (hf : ∀ a, (f a).sto = true) (xs : List α) (h0 : I xs env)
    (step : ∀ a as env, I (a :: as) env → (∀ e, I as e → gForL tg body (encL f as) e Q) → ∃ e, tg (f a) env = some e ∧ body e (forK tg body (encL f as) Q)) (done : ∀ env, I [] env → Q (.nx env)) : gForL tg body (encL f xs) env Q := by
  induction xs generalizing env with
  | nil => exact done env h0
  | cons a as ih =>
    rw [encL_cons, gForL_cons]
    exact ⟨hf a, step a as env h0 fun e he => ih he⟩
/-- the same, the items known to be of the list -/
theorem for_inv' {α : Type} {f : α → D} (xs : List α) (I : List α → Env → Prop) (hf : ∀ a ∈ xs, (f a).sto = true) (h0 : I xs env)
    (step : ∀ a as env, a ∈ xs → I (a :: as) env → (∀ e, I as e → gForL tg body (encL f as) e Q) → ∃ e, tg (f a) env = some e ∧ body e (forK tg body (encL f as) Q)) (done : ∀ env, I [] env → Q (.nx env)) : gForL tg body (encL f xs) env Q := by
  have key : ∀ ys : List α, (∀ a ∈ ys, a ∈ xs) → ∀ env, I ys env → gForL tg body (encL f ys) env Q := by
    intro ys
    induction ys with
    | nil => exact fun _ env h => done env h
    | cons a as ih =>
      intro hs env h
      rw [encL_cons, gForL_cons]
      exact ⟨hf a (hs a (by simp)), step a as env (hs a (by simp)) h fun e he => ih (fun b hb => hs b (by simp [hb])) e he⟩
  exact key xs (fun _ h => h) env h0
theorem for_rng {lo c : Int} {n : Nat} (I : Nat → Env → Prop) (h0 : I 0 env)
    (step : ∀ i env, i < n → I i env → (∀ e, I (i + 1) e → gForL tg body (encL .int (rng (lo + ((i + 1 : Nat) : Int) * c) c (n - (i + 1)))) e Q) → ∃ e, tg (.int (lo + (i : Int) * c)) env = some e ∧ body e (forK tg body (encL .int (rng (lo + ((i + 1 : Nat) : Int) * c) c (n - (i + 1)))) Q)) (done : ∀ env, I n env → Q (.nx env)) : gForL tg body (encL .int (rng lo c n)) env Q := by
  have key : ∀ (m i : Nat), i + m = n → ∀ env, I i env → gForL tg body (encL .int (rng (lo + (i : Int) * c) c m)) env Q := by
    intro m
    induction m with
    | zero =>
      intro i hi env h
      rw [Nat.add_zero] at hi
      subst hi
      exact done env h
    | succ m ih =>
      intro i hi env h
      rw [rng_succ, encL_cons, gForL_cons]
      have e1 : lo + (i : Int) * c + c = lo + ((i + 1 : Nat) : Int) * c := by
        rw [Int.natCast_add, Int.add_mul]; omega
      have e2 : m = n - (i + 1) := by omega
      rw [e1]
      subst e2
      exact ⟨rfl, step i env (by omega) h fun e he => ih (i + 1) (by omega) e he⟩
  have := key n 0 (by omega) env h0
  simpa using this
/-- for i in range(n) -/
theorem for_rng0 {n : Nat} (I : Nat → Env → Prop) (h0 : I 0 env)
    (step : ∀ i env, i < n → I i env → (∀ e, I (i + 1) e → gForL tg body (encL .int (rng ((i : Int) + 1) 1 (n - (i + 1)))) e Q) → ∃ e, tg (.int (i : Int)) env = some e ∧ body e (forK tg body (encL .int (rng ((i : Int) + 1) 1 (n - (i + 1)))) Q)) (done : ∀ env, I n env → Q (.nx env)) : gForL tg body (encL .int (rng 0 1 n)) env Q := by
  refine for_rng I h0 (fun i env hi h ih => ?_) done
  have e1 : (0 : Int) + ((i + 1 : Nat) : Int) * 1 = (i : Int) + 1 := by omega
  have e2 : (0 : Int) + (i : Int) * 1 = (i : Int) := by omega
  rw [e1] at ih ⊢
  rw [e2]
  exact step i env hi h ih
end
/-! the same with what is left hidden -/
def lpK (K : Env → Prop) (Q : Ou → Prop) : Ou → Prop
  | .nx e => K e
  | .ct e => K e
  | .bk e => Q (.nx e)
  | .rt d => Q (.rt d)
  | .rz c e => Q (.rz c e)
section
variable {tg : Tgt} {body : G} {ds : List D} {Q : Ou → Prop} {env : Env} {K : Env → Prop}
@[simp] theorem lpK_nx (e : Env) : lpK K Q (.nx e) = K e := (rfl)
@[simp] theorem lpK_ct (e : Env) : lpK K Q (.ct e) = K e := (rfl)
@[simp] theorem lpK_bk (e : Env) : lpK K Q (.bk e) = Q (.nx e) := (rfl)
@[simp] theorem lpK_rt (d : D) : lpK K Q (.rt d) = Q (.rt d) := (rfl)
@[simp] theorem lpK_rz (c : String) (e : Env) : lpK K Q (.rz c e) = Q (.rz c e) := (rfl)
theorem forK_lpK : forK tg body ds Q = lpK (fun e => gForL tg body ds e Q) Q := by
  funext o
  cases o <;> rfl
theorem lp_inv {α : Type} {f : α → D} (I : List α → Env → Prop) (hf : ∀ a, (f a).sto = true) (xs : List α) (h0 : I xs env)
    (step : ∀ a as env (K : Env → Prop), I (a :: as) env → (∀ e, I as e → K e) → ∃ e, tg (f a) env = some e ∧ body e (lpK K Q)) (done : ∀ env, I [] env → Q (.nx env)) : gForL tg body (encL f xs) env Q :=
  for_inv I hf xs h0 (fun a as env h ih => by rw [forK_lpK]; exact step a as env _ h ih) done
theorem lp_inv' {α : Type} {f : α → D} (xs : List α) (I : List α → Env → Prop) (hf : ∀ a ∈ xs, (f a).sto = true) (h0 : I xs env)
    (step : ∀ a as env (K : Env → Prop), a ∈ xs → I (a :: as) env → (∀ e, I as e → K e) → ∃ e, tg (f a) env = some e ∧ body e (lpK K Q)) (done : ∀ env, I [] env → Q (.nx env)) : gForL tg body (encL f xs) env Q :=
  for_inv' xs I hf h0 (fun a as env hm h ih => by rw [forK_lpK]; exact step a as env _ hm h ih) done
theorem lp_rng {lo c : Int} {n : Nat} (I : Nat → Env → Prop) (h0 : I 0 env)
    (step : ∀ i env (K : Env → Prop), i < n → I i env → (∀ e, I (i + 1) e → K e) → ∃ e, tg (.int (lo + (i : Int) * c)) env = some e ∧ body e (lpK K Q)) (done : ∀ env, I n env → Q (.nx env)) : gForL tg body (encL .int (rng lo c n)) env Q :=
  for_rng I h0 (fun i env hi h ih => by rw [forK_lpK]; exact step i env _ hi h ih) done
theorem lp_rng0 {n : Nat} (I : Nat → Env → Prop) (h0 : I 0 env)
    (step : ∀ i env (K : Env → Prop), i < n → I i env → (∀ e, I (i + 1) e → K e) → ∃ e, tg (.int (i : Int)) env = some e ∧ body e (lpK K Q)) (done : ∀ env, I n env → Q (.nx env)) : gForL tg body (encL .int (rng 0 1 n)) env Q :=
  for_rng0 I h0 (fun i env hi h ih => by rw [forK_lpK]; exact step i env _ hi h ih) done
end
def whK (m : Nat) (Wv : Nat → Env → Prop) (Q : Ou → Prop) : Ou → Prop
  | .nx e => ∃ m', m' < m ∧ Wv m' e
  | .ct e => ∃ m', m' < m ∧ Wv m' e
  | .bk e => Q (.nx e)
  | .rt d => Q (.rt d)
  | .rz c e => Q (.rz c e)
section
variable {m : Nat} {Wv : Nat → Env → Prop} {Q : Ou → Prop} {env : Env}
@[simp] theorem whK_nx (e : Env) : whK m Wv Q (.nx e) = ∃ m', m' < m ∧ Wv m' e := (rfl)
@[simp] theorem whK_ct (e : Env) : whK m Wv Q (.ct e) = ∃ m', m' < m ∧ Wv m' e := (rfl)
@[simp] theorem whK_bk (e : Env) : whK m Wv Q (.bk e) = Q (.nx e) := (rfl)
@[simp] theorem whK_rt (d : D) : whK m Wv Q (.rt d) = Q (.rt d) := (rfl)
@[simp] theorem whK_rz (c : String) (e : Env) : whK m Wv Q (.rz c e) = Q (.rz c e) := (rfl)
theorem gWhile_of {c : Env → R Bool} {body : G} (Wv : Nat → Env → Prop) (m : Nat) (h0 : Wv m env) (step : ∀ m env, Wv m env → gEv (c env) env Q fun b => if b = true then body env (whK m Wv Q) else Q (.nx env)) : gWhile c body env Q := by
  refine ⟨Wv, ⟨m, h0⟩, fun m env h => ?_⟩
  have h1 := step m env h
  have e : ∀ e1, body e1 (fun o => match o with
    | .nx e => ∃ m', m' < m ∧ Wv m' e
    | .ct e => ∃ m', m' < m ∧ Wv m' e
    | .bk e => Q (.nx e)
    | o => Q o) = body e1 (whK m Wv Q) := fun e1 => by
    congr 1
    funext o
    cases o <;> rfl
  cases hc : c env with
  | ok b =>
    rw [hc] at h1
    replace h1 : if b = true then body env (whK m Wv Q) else Q (.nx env) := h1
    rw [← e] at h1
    exact h1
  | er c => rw [hc] at h1; exact h1
  | no => rw [hc] at h1; exact h1
end
/-! comprehensions -/
section
variable {α β : Type} {fa : α → D} {fb : β → D} {tg : Tgt} {c : Env → R Bool} {f : Env → R D} {env : Env}
theorem lcGo_enc (p : α → Bool) (g : α → β) : ∀ xs : List α, (∀ a ∈ xs, ∃ e, tg (fa a) env = some e ∧ c e = .ok (p a) ∧ (p a = true → f e = .ok (fb (g a)) ∧ (fb (g a)).sto = true)) → lcGo tg c f env (encL fa xs) = .ok (encL fb ((xs.filter p).map g))
  | [], _ => rfl
  | a :: as, h => by
    obtain ⟨e, h1, h2, h3⟩ := h a (by simp)
    rw [encL_cons]
    unfold lcGo
    simp only [h1, h2, R.bind_ok]
    have ih := lcGo_enc p g as fun b hb => h b (by simp [hb])
    cases hp : p a with
    | false => simp [ih, hp]
    | true =>
      obtain ⟨h4, h5⟩ := h3 hp
      simp [h4, h5, ih, hp, encL_cons]
@[simp] theorem wipeE_nil : wipeE env [] = env := (rfl)
@[simp] theorem wipeE_cons (v : Nat) (vs : List Nat) : wipeE env (v :: vs) = (wipeE env vs).set v none := (rfl)
theorem xLc_enc {src : Env → R (Bool × List D)} {vs : List Nat} {b : Bool} (xs : List α) (p : α → Bool) (g : α → β) (hs : src env = .ok (b, encL fa xs)) (hl : xs.length ≤ 16777216) (h : ∀ a ∈ xs, ∃ e, tg (fa a) (wipeE env vs) = some e ∧ c e = .ok (p a) ∧ (p a = true → f e = .ok (fb (g a)) ∧ (fb (g a)).sto = true)) :
    xLc src tg c f vs env = .ok (.lst .ow (encL fb ((xs.filter p).map g))) := by
  unfold xLc
  rw [hs, R.bind_ok]
  simp only [lcGo_enc (fa := fa) (fb := fb) p g xs h, encL_length, hl, if_true]
/-- without a test -/
theorem xLc_map {src : Env → R (Bool × List D)} {vs : List Nat} {b : Bool} (xs : List α) (g : α → β) (hs : src env = .ok (b, encL fa xs)) (hl : xs.length ≤ 16777216) (h : ∀ a ∈ xs, ∃ e, tg (fa a) (wipeE env vs) = some e ∧ c e = .ok true ∧ f e = .ok (fb (g a)) ∧ (fb (g a)).sto = true) :
    xLc src tg c f vs env = .ok (.lst .ow (encL fb (xs.map g))) := by
  rw [xLc_enc (fa := fa) (fb := fb) xs (fun _ => true) g hs hl fun a ha => ?_]
  · rw [List.filter_eq_self.mpr (fun _ _ => rfl)]
  · obtain ⟨e, h1, h2, h3, h4⟩ := h a ha
    exact ⟨e, h1, h2, fun _ => ⟨h3, h4⟩⟩
end
/-- a comprehension over what its source gives -/
def xLcR (tg : Tgt) (c : Env → R Bool) (f : Env → R D) (vs : List Nat) (env : Env) (xs : List D) : R D := match lcGo tg c f (wipeE env vs) xs with
  | .ok ys => if xs.length ≤ 16777216 then R.ok (.lst .ow ys) else R.no
  | _ => R.no
section
variable {α β : Type} {fa : α → D} {fb : β → D} {tg : Tgt} {c : Env → R Bool} {f : Env → R D} {env : Env} {vs : List Nat}
@[simp] theorem xLc_eq (src : Env → R (Bool × List D)) : xLc src tg c f vs env = src env >>= fun s => xLcR tg c f vs env s.2 := (rfl)
theorem lcR_enc (xs : List α) (p : α → Bool) (g : α → β) (hl : xs.length ≤ 16777216) (h : ∀ a ∈ xs, ∃ e, tg (fa a) (wipeE env vs) = some e ∧ c e = .ok (p a) ∧ (p a = true → f e = .ok (fb (g a)) ∧ (fb (g a)).sto = true)) :
    xLcR tg c f vs env (encL fa xs) = .ok (.lst .ow (encL fb ((xs.filter p).map g))) := by
  unfold xLcR
  simp only [lcGo_enc (fa := fa) (fb := fb) p g xs h, encL_length, hl, if_true]
theorem lcR_map (xs : List α) (g : α → β) (hl : xs.length ≤ 16777216) (h : ∀ a ∈ xs, ∃ e, tg (fa a) (wipeE env vs) = some e ∧ c e = .ok true ∧ f e = .ok (fb (g a)) ∧ (fb (g a)).sto = true) :
    xLcR tg c f vs env (encL fa xs) = .ok (.lst .ow (encL fb (xs.map g))) := by
  rw [lcR_enc (fa := fa) (fb := fb) xs (fun _ => true) g hl fun a ha => ?_]
  · rw [List.filter_eq_self.mpr (fun _ _ => rfl)]
  · obtain ⟨e, h1, h2, h3, h4⟩ := h a ha
    exact ⟨e, h1, h2, fun _ => ⟨h3, h4⟩⟩
/-- [-x for x in ..] -/
@[simp] theorem lcR_neg (j : Nat) (xs : List Int) (hj : j < env.length) (hl : xs.length ≤ 16777216) : xLcR (tgN j) xYes (x1 negD (xVar j)) [j] env (encL .int xs) = .ok (iL .ow (xs.map fun x => -x)) :=
  lcR_map xs (fun x => -x) hl fun a _ => ⟨_, rfl, rfl, by simp [hj, wipeE_length], rfl⟩
end
/-! sources -/
section
variable {env : Env}
@[simp] theorem xSrc_eq (f : Env → R D) : xSrc f env = f env >>= fun d => R.of (srcL d) := (rfl)
@[simp] theorem xSrcT_eq (f : Env → R D) : xSrcT f env = f env >>= fun d => R.of (srcT d) := (rfl)
@[simp] theorem xSrcRev_eq (f : Env → R D) : xSrcRev f env = f env >>= fun d => R.of (srcL d) >>= fun s => R.ok (s.1, s.2.reverse) := (rfl)
@[simp] theorem xSrcEnum_eq (f : Env → R D) : xSrcEnum f env = f env >>= fun d => R.of (srcL d) >>= fun s => R.ok (s.1, enumL 0 s.2) := (rfl)
@[simp] theorem xSrcZip_eq (f g : Env → R D) : xSrcZip f g env = f env >>= fun d => g env >>= fun e => R.of (srcL d) >>= fun s => R.of (srcL e) >>= fun t => R.ok (s.1 || t.1, zipL s.2 t.2) := (rfl)
@[simp] theorem srcL_fz (xs : List D) : srcL (.lst .fz xs) = if D.stos xs = true then some (false, xs) else none := (rfl)
@[simp] theorem srcL_sc (xs : List D) : srcL (.lst .sc xs) = if D.stos xs = true then some (false, xs) else none := (rfl)
@[simp] theorem srcL_bo (xs : List D) : srcL (.lst .bo xs) = some (true, D.bors xs) := (rfl)
@[simp] theorem srcL_ow (xs : List D) : srcL (.lst .ow xs) = if D.stos xs = true then some (false, D.frzs xs) else some (true, D.bors xs) := (rfl)
@[simp] theorem srcT_tup (xs : List D) : srcT (.tup xs) = if D.stos xs = true then some (false, D.frzs xs) else some (true, D.bors xs) := (rfl)
@[simp] theorem intR_int (i : Int) : intR (.int i) = if -4611686018427387904 ≤ i ∧ i < 4611686018427387904 then .ok i else .no := (rfl)
@[simp] theorem xRng1_eq (f : Env → R D) : xRng1 f env = f env >>= fun d => intR d >>= fun n => R.ok (false, rngL 0 1 n.toNat) := (rfl)
@[simp] theorem xRng2_eq (f g : Env → R D) : xRng2 f g env = f env >>= fun d => g env >>= fun e => intR d >>= fun lo => intR e >>= fun hi => R.ok (false, rngL lo 1 (hi - lo).toNat) := (rfl)
@[simp] theorem xRng3_eq (f g : Env → R D) : xRng3 f g env = f env >>= fun d => g env >>= fun e => intR d >>= fun lo => intR e >>= fun hi => R.ok (false, rngL lo (-1) (lo - hi).toNat) := (rfl)
@[simp] theorem xRevRng1_eq (f : Env → R D) : xRevRng1 f env = f env >>= fun d => intR d >>= fun n => R.ok (false, rngL ((n.toNat : Int) - 1) (-1) n.toNat) := (rfl)
end

/-! ## what a def does -/
open Classical in
/-- a def's results: by things that stand for its arguments -/
noncomputable def mk {α : Type} (enc : α → List D) (pre : α → Prop) (out : α → R D) : List D → R D := fun ds => if h : ∃ a, pre a ∧ enc a = ds then out h.choose else .no
theorem mk_eq {α : Type} {enc : α → List D} {pre : α → Prop} {out : α → R D} (inj : ∀ a b, enc a = enc b → a = b) (a : α) (h : pre a) : mk enc pre out (enc a) = out a := by
  unfold mk
  have hx : ∃ b, pre b ∧ enc b = enc a := ⟨a, h, rfl⟩
  rw [dif_pos hx]
  rw [inj _ _ hx.choose_spec.2]
theorem mk_h {α : Type} {enc : α → List D} {pre : α → Prop} {out : α → R D} {g : G} {N : List Str} {n : Nat} (h : ∀ a, pre a → g (env0 N (enc a)) (Out (out a))) : ∀ ds, ds.length = n → D.stos ds = true → mk enc pre out ds ≠ .no → g (env0 N ds) (Out (mk enc pre out ds)) := by
  intro ds _ _ hn
  unfold mk at hn ⊢
  by_cases hx : ∃ b, pre b ∧ enc b = ds
  · rw [dif_pos hx]
    have := h _ hx.choose_spec.1
    rw [hx.choose_spec.2] at this
    exact this
  · rw [dif_neg hx] at hn
    exact absurd rfl hn
/-- the law's own contract, whatever the classes' places -/
def CtrL (K : PySem.W.Frag) (m : List D → R D) : Sp := fun vs H Q _ => ∃ B ds d, Same B H ∧ Rps K B H ds vs [] ∧ D.stos ds = true ∧ vs.length = 1 ∧ m ds = .ok d ∧ OkE K B H d Q
theorem ctrL {K : PySem.W.Frag} {m : List D → R D} {H : Hp} {a : Addr} {ns : List Int} (hS : SqL K H a (ns.map V.int)) (h : m [.lst .sc (ns.map .int)] = .ok (.bl true)) : CtrL K m [.ref a] H (fun v _ => v = .bl true) fun _ _ _ => False := by
  refine ⟨H, [.lst .sc (ns.map .int)], .bl true, .refl _, ?_, ?_, rfl, h, fun v B' H' qs st r nd fr => r.1⟩
  · unfold Rps
    refine ⟨.ref a, [], [], [], rfl, rfl, ?_, ⟨rfl, rfl⟩⟩
    unfold Rp
    exact ⟨a, _, [], rfl, hS, ⟨rfl, rfl⟩, rps_of_ints ns⟩
  · simp [D.stos, D.sto, stos_ints ns]
theorem ctrF {P : Program} {w : World} {K : PySem.W.Frag} {mg : Str → Option Value} {fa : Addr} {x : Str} {k : Nat} {m : List D → R D} (h : ∃ (fd : FuncData) (cl : String → Addr), (∀ (s : Shared) (v : Value), BindsTo s fd ⟨[v], []⟩ [(x, v)]) ∧ ∀ base : Heap, K.In base → base.Ns mainGlobals mg → FnOk P w K mg base (L2.CX P w) k fa fd [x] (Ctr K cl 1 m)) :
    ∃ fd : FuncData, (∀ (s : Shared) (v : Value), BindsTo s fd ⟨[v], []⟩ [(x, v)]) ∧ ∀ base : Heap, K.In base → base.Ns mainGlobals mg → FnOk P w K mg base (L2.CX P w) k fa fd [x] (CtrL K m) := by
  obtain ⟨fd, cl, h1, h2⟩ := h
  refine ⟨fd, h1, fun base a b => (h2 base a b).imp fun vs H Q E ⟨B, ds, d, i, r, s, l, e, q⟩ => ⟨B, ds, i, r, s, l, ?_⟩⟩
  rw [e]
  exact q
theorem cx_no {P : Program} {w : World} {H : Hp} {s : Shared} {e : Value} {s' : Shared} (h : L2.CX P w [] H s (fun _ _ _ => False) e s') : False := by
  obtain ⟨_, _, _, _, _, _, _, _, _, _, _, _, z⟩ := h
  exact z
end BC

namespace BC
open PySem PySem.Spec PyProof.Rows L2

/-! ## == -/
/-- comparable things, at most so deep -/
structure CD (n : Nat) (d : D) : Prop where
  dat : d.dat = true
  lay : d.py.canLay0 = true
  dep : d.py.depth ≤ n
structure CDs (n : Nat) (ds : List D) : Prop where
  dat : D.dats ds = true
  lay : PyData.canLayAll0 (D.pys ds) = true
  dep : PyData.depthAll (D.pys ds) ≤ n
theorem CD.int {n : Nat} (i : Int) : CD n (.int i) := ⟨rfl, rfl, Nat.zero_le _⟩
theorem CD.bl {n : Nat} (i : Bool) : CD n (.bl i) := ⟨rfl, rfl, Nat.zero_le _⟩
theorem CD.non {n : Nat} : CD n .non := ⟨rfl, rfl, Nat.zero_le _⟩
theorem CD.str {n : Nat} (s : Str) (h : PyData.canLay0 (.str s) = true) : CD n (.str s) := ⟨rfl, h, Nat.zero_le _⟩
theorem CDs.nil {n : Nat} : CDs n [] := ⟨rfl, rfl, Nat.zero_le _⟩
theorem CDs.cons {n : Nat} {d : D} {ds : List D} (a : CD n d) (b : CDs n ds) : CDs n (d :: ds) :=
  ⟨by simp [D.dats, a.dat, b.dat], by simp [D.pys, PyData.canLayAll0, a.lay, b.lay], by simp only [D.pys, PyData.depthAll]; exact Nat.max_le.mpr ⟨a.dep, b.dep⟩⟩
theorem CD.lst {n : Nat} {k : Kd} {xs : List D} (h : CDs n xs) : CD (n + 1) (.lst k xs) :=
  ⟨by simp [D.dat, h.dat], by simp [D.py, PyData.canLay0, h.lay], by simp only [D.py, PyData.depth]; have := h.dep; omega⟩
theorem CD.tup {n : Nat} {xs : List D} (h : CDs n xs) : CD (n + 1) (.tup xs) :=
  ⟨by simp [D.dat, h.dat], by simp [D.py, PyData.canLay0, h.lay], by simp only [D.py, PyData.depth]; have := h.dep; omega⟩
theorem CDs.enc {α : Type} {f : α → D} {n : Nat} (h : ∀ a, CD n (f a)) : ∀ xs : List α, CDs n (encL f xs)
  | [] => .nil
  | a :: as => .cons (h a) (CDs.enc h as)
theorem CDs.enc' {α : Type} {f : α → D} {n : Nat} : ∀ xs : List α, (∀ a ∈ xs, CD n (f a)) → CDs n (encL f xs)
  | [], _ => .nil
  | a :: as, h => .cons (h a (by simp)) (CDs.enc' as fun b hb => h b (by simp [hb]))
theorem CD.ok {n : Nat} {d : D} (h : CD n d) (hn : n ≤ 64) : d.cmpOk = true := by
  unfold D.cmpOk SeqAt.shaped
  rw [h.dat, h.lay]
  simp
  exact Nat.le_trans h.dep hn
theorem CD.iL {n : Nat} (k : Kd) (xs : List Int) : CD (n + 1) (iL k xs) := .lst (CDs.enc (fun _ => .int _) xs)
theorem CD.iLL {n : Nat} (k k' : Kd) (xs : List (List Int)) : CD (n + 2) (iLL k k' xs) := .lst (CDs.enc (fun _ => .iL _ _) xs)
/-- the same data -/
def D.eqvs (xs ys : List D) : Bool := PyData.eqvAll (D.pys xs) (D.pys ys)
@[simp] theorem eqv_int (i j : Int) : (D.int i).eqv (.int j) = decide (i = j) := by
  show (i == j) = _
  by_cases h : i = j <;> simp [h]
@[simp] theorem eqv_str (i j : Str) : (D.str i).eqv (.str j) = decide (i = j) := by
  show (i == j) = _
  by_cases h : i = j <;> simp [h]
@[simp] theorem eqv_bl (i j : Bool) : (D.bl i).eqv (.bl j) = decide (i = j) := by
  show (i == j) = _
  cases i <;> cases j <;> rfl
@[simp] theorem eqv_non : (D.non).eqv .non = true := (rfl)
@[simp] theorem eqv_lst (k k' : Kd) (xs ys : List D) : (D.lst k xs).eqv (.lst k' ys) = D.eqvs xs ys := (rfl)
@[simp] theorem eqv_tup (xs ys : List D) : (D.tup xs).eqv (.tup ys) = D.eqvs xs ys := (rfl)
@[simp] theorem eqv_lst_non (k : Kd) (xs : List D) : (D.lst k xs).eqv .non = false := (rfl)
@[simp] theorem eqv_tup_non (xs : List D) : (D.tup xs).eqv .non = false := (rfl)
@[simp] theorem eqv_non_tup (xs : List D) : (D.non).eqv (.tup xs) = false := (rfl)
@[simp] theorem eqv_non_lst (k : Kd) (xs : List D) : (D.non).eqv (.lst k xs) = false := (rfl)
@[simp] theorem eqvs_nil : D.eqvs [] [] = true := (rfl)
@[simp] theorem eqvs_cons (x y : D) (xs ys : List D) : D.eqvs (x :: xs) (y :: ys) = (x.eqv y && D.eqvs xs ys) := (rfl)
@[simp] theorem eqvs_nc (y : D) (ys : List D) : D.eqvs [] (y :: ys) = false := (rfl)
@[simp] theorem eqvs_cn (y : D) (ys : List D) : D.eqvs (y :: ys) [] = false := (rfl)
theorem eqvs_enc {α : Type} [DecidableEq α] {f g : α → D} (h : ∀ a b, (f a).eqv (g b) = decide (a = b)) : ∀ xs ys : List α, D.eqvs (encL f xs) (encL g ys) = decide (xs = ys)
  | [], [] => rfl
  | [], _ :: _ => rfl
  | _ :: _, [] => rfl
  | a :: as, b :: bs => by
    rw [encL_cons, encL_cons, eqvs_cons, h, eqvs_enc h as bs]
    simp
@[simp] theorem eqvs_int (xs ys : List Int) : D.eqvs (encL .int xs) (encL .int ys) = decide (xs = ys) := eqvs_enc eqv_int xs ys
@[simp] theorem eqvs_str (xs ys : List Str) : D.eqvs (encL .str xs) (encL .str ys) = decide (xs = ys) := eqvs_enc eqv_str xs ys
theorem eqv_iL (k k' : Kd) (xs ys : List Int) : (iL k xs).eqv (iL k' ys) = decide (xs = ys) := by rw [eqv_lst, eqvs_int]
@[simp] theorem eqvs_iL (k k' : Kd) (xs ys : List (List Int)) : D.eqvs (encL (iL k) xs) (encL (iL k') ys) = decide (xs = ys) := eqvs_enc (eqv_iL k k') xs ys
@[simp] theorem eqvs_enc_nil {α : Type} {f : α → D} (xs : List α) : D.eqvs (encL f xs) [] = xs.isEmpty := by cases xs <;> rfl
@[simp] theorem eqvs_nil_enc {α : Type} {f : α → D} (xs : List α) : D.eqvs [] (encL f xs) = xs.isEmpty := by cases xs <;> rfl
theorem eqD_of {a b : D} (ca : a.cmpOk = true) (cb : b.cmpOk = true) : eqD a b = some (.bl (a.eqv b)) := by
  unfold eqD
  rw [ca, cb]
  rfl
theorem neD_of {a b : D} (ca : a.cmpOk = true) (cb : b.cmpOk = true) : neD a b = some (.bl (!a.eqv b)) := by
  unfold neD
  rw [ca, cb]
  rfl
@[simp] theorem cmp_int (i : Int) : (D.int i).cmpOk = true := (CD.int (n := 0) i).ok (by decide)
@[simp] theorem cmp_bl (i : Bool) : (D.bl i).cmpOk = true := (CD.bl (n := 0) i).ok (by decide)
@[simp] theorem cmp_non : (D.non).cmpOk = true := (CD.non (n := 0)).ok (by decide)
@[simp] theorem cmp_iL (k : Kd) (xs : List Int) : (D.lst k (encL .int xs)).cmpOk = true := (CD.iL (n := 0) k xs).ok (by decide)
@[simp] theorem cmp_nil (k : Kd) : (D.lst k []).cmpOk = true := (CD.lst (n := 0) .nil).ok (by decide)
@[simp] theorem cmp_iLL (k k' : Kd) (xs : List (List Int)) : (D.lst k (encL (iL k') xs)).cmpOk = true := (CD.iLL (n := 0) k k' xs).ok (by decide)
/-- tuples and lists of few comparable things -/
theorem CD.of_ok {d : D} (h : d.cmpOk = true) : CD 64 d := by
  unfold D.cmpOk SeqAt.shaped at h
  simp at h
  exact ⟨h.1, h.2.1, h.2.2⟩
@[simp] theorem eqD_int (i j : Int) : eqD (.int i) (.int j) = some (.bl (decide (i = j))) := by rw [eqD_of (by simp) (by simp), eqv_int]
@[simp] theorem neD_int (i j : Int) : neD (.int i) (.int j) = some (.bl (!decide (i = j))) := by rw [neD_of (by simp) (by simp), eqv_int]
@[simp] theorem eqD_iL (k k' : Kd) (xs ys : List Int) : eqD (.lst k (encL .int xs)) (.lst k' (encL .int ys)) = some (.bl (decide (xs = ys))) := by rw [eqD_of (by simp) (by simp), eqv_lst, eqvs_int]
@[simp] theorem neD_iL (k k' : Kd) (xs ys : List Int) : neD (.lst k (encL .int xs)) (.lst k' (encL .int ys)) = some (.bl (!decide (xs = ys))) := by rw [neD_of (by simp) (by simp), eqv_lst, eqvs_int]
@[simp] theorem eqD_iLn (k k' : Kd) (xs : List Int) : eqD (.lst k (encL .int xs)) (.lst k' []) = some (.bl (decide (xs = []))) := eqD_iL k k' xs []
@[simp] theorem neD_iLn (k k' : Kd) (xs : List Int) : neD (.lst k (encL .int xs)) (.lst k' []) = some (.bl (!decide (xs = []))) := neD_iL k k' xs []
@[simp] theorem eqD_iLL (k k1 k' k2 : Kd) (xs ys : List (List Int)) : eqD (.lst k (encL (iL k1) xs)) (.lst k' (encL (iL k2) ys)) = some (.bl (decide (xs = ys))) := by rw [eqD_of (by simp) (by simp), eqv_lst, eqvs_iL]
@[simp] theorem neD_iLL (k k1 k' k2 : Kd) (xs ys : List (List Int)) : neD (.lst k (encL (iL k1) xs)) (.lst k' (encL (iL k2) ys)) = some (.bl (!decide (xs = ys))) := by rw [neD_of (by simp) (by simp), eqv_lst, eqvs_iL]
@[simp] theorem eqD_iLLn (k k1 k' : Kd) (xs : List (List Int)) : eqD (.lst k (encL (iL k1) xs)) (.lst k' []) = some (.bl (decide (xs = []))) := eqD_iLL k k1 k' k1 xs []
@[simp] theorem neD_iLLn (k k1 k' : Kd) (xs : List (List Int)) : neD (.lst k (encL (iL k1) xs)) (.lst k' []) = some (.bl (!decide (xs = []))) := neD_iLL k k1 k' k1 xs []

@[simp] theorem R.bind_assoc {α β γ : Type} (x : R α) (f : α → R β) (g : β → R γ) : ((x >>= f) >>= g) = x >>= fun a => f a >>= g := by cases x <;> rfl
@[simp] theorem encL_getLast {α : Type} {f : α → D} (xs : List α) : (encL f xs).getLast? = xs.getLast?.map f := by unfold encL; rw [List.getLast?_map]
@[simp] theorem encL_head {α : Type} {f : α → D} (xs : List α) : (encL f xs).head? = xs.head?.map f := by unfold encL; rw [List.head?_map]
/-! ## places in lists -/
section
variable {α : Type}
theorem ixN_nat {n j : Nat} (h : j < n) : L2.ixN n (j : Int) = some j := by
  unfold L2.ixN
  rw [if_pos (by omega), if_pos (by omega)]
  simp
theorem ixN_int {n : Nat} {i : Int} (h0 : 0 ≤ i) (h : i < n) : L2.ixN n i = some i.toNat := by
  unfold L2.ixN
  rw [if_pos h0, if_pos h]
theorem ixN_neg {n : Nat} {i : Int} (h0 : i < 0) (h : -(n : Int) ≤ i) : L2.ixN n i = some (i + n).toNat := by
  unfold L2.ixN
  rw [if_neg (by omega), if_pos h]
theorem atI_int {xs : List α} {i : Int} (h0 : 0 ≤ i) : L2.atI xs i = xs[i.toNat]? := by
  unfold L2.atI
  by_cases h : i < xs.length
  · rw [ixN_int h0 h]; rfl
  · unfold L2.ixN
    rw [if_pos h0, if_neg h, List.getElem?_eq_none (by omega)]
    rfl
theorem atI_zero {xs : List α} : L2.atI xs 0 = xs[0]? := atI_int (by omega)
theorem atI_one {xs : List α} : L2.atI xs 1 = xs[1]? := atI_int (by omega)
theorem atI_two {xs : List α} : L2.atI xs 2 = xs[2]? := atI_int (by omega)
theorem atI_natc {xs : List α} (j : Nat) : L2.atI xs (j : Int) = xs[j]? := by rw [atI_int (by omega)]; simp
@[simp] theorem atI_m1 {xs : List α} : L2.atI xs (-1) = xs.getLast? := by
  unfold L2.atI
  cases xs with
  | nil => rfl
  | cons x xs =>
    rw [ixN_neg (by omega) (by simp; omega)]
    simp only [Option.bind_some]
    rw [List.getLast?_eq_getElem?]
    congr 1
    simp
    omega
theorem cutL_from {xs : List α} {i : Int} (h : 0 ≤ i) : cutL xs (some i) none = xs.drop i.toNat := by
  unfold cutL
  obtain ⟨k, rfl⟩ := Int.eq_ofNat_of_zero_le h
  rw [show HT.sIx xs.length 0 (some (k : Int)) = min k xs.length from HT.sIx_nat _ _ _, HT.sIx_none]
  simp only [Int.toNat_natCast]
  by_cases hk : k ≤ xs.length
  · rw [Nat.min_eq_left hk, List.take_of_length_le (by simp)]
  · rw [Nat.min_eq_right (by omega), List.drop_of_length_le (Nat.le_refl _), List.drop_of_length_le (by omega)]
    simp
theorem cutL_to {xs : List α} {i : Int} (h : 0 ≤ i) : cutL xs none (some i) = xs.take i.toNat := by
  unfold cutL
  obtain ⟨k, rfl⟩ := Int.eq_ofNat_of_zero_le h
  rw [show HT.sIx xs.length xs.length (some (k : Int)) = min k xs.length from HT.sIx_nat _ _ _, HT.sIx_none]
  simp only [Int.toNat_natCast, List.drop_zero, Nat.sub_zero]
  by_cases hk : k ≤ xs.length
  · rw [Nat.min_eq_left hk]
  · rw [Nat.min_eq_right (by omega), List.take_of_length_le (Nat.le_refl _), List.take_of_length_le (by omega)]
theorem cutL_mid {xs : List α} {i j : Int} (h : 0 ≤ i) (h2 : 0 ≤ j) : cutL xs (some i) (some j) = (xs.drop i.toNat).take (j.toNat - i.toNat) := by
  unfold cutL
  obtain ⟨k, rfl⟩ := Int.eq_ofNat_of_zero_le h
  obtain ⟨m, rfl⟩ := Int.eq_ofNat_of_zero_le h2
  rw [show HT.sIx xs.length 0 (some (k : Int)) = min k xs.length from HT.sIx_nat _ _ _, show HT.sIx xs.length xs.length (some (m : Int)) = min m xs.length from HT.sIx_nat _ _ _]
  simp only [Int.toNat_natCast]
  by_cases hk : k ≤ xs.length
  · rw [Nat.min_eq_left hk]
    by_cases hm : m ≤ xs.length
    · rw [Nat.min_eq_left hm]
    · rw [Nat.min_eq_right (by omega), List.take_of_length_le (by simp), List.take_of_length_le (by simp; omega)]
  · rw [Nat.min_eq_right (show xs.length ≤ k by omega), List.drop_of_length_le (Nat.le_refl _), List.drop_of_length_le (show xs.length ≤ k by omega)]
    simp
theorem atI_add1 {xs : List α} (j : Nat) : L2.atI xs ((j : Int) + 1) = xs[j + 1]? := by rw [atI_int (by omega)]; congr 1
@[simp] theorem cutL_fromadd1 {xs : List α} (j : Nat) : cutL xs (some ((j : Int) + 1)) none = xs.drop (j + 1) := by rw [cutL_from (by omega)]; congr 1
@[simp] theorem cutL_midadd1 {xs : List α} (j : Nat) : cutL xs (some (j : Int)) (some ((j : Int) + 1)) = (xs.drop j).take 1 := by rw [cutL_mid (by omega) (by omega)]; congr 1; omega
theorem atI_add2 {xs : List α} (j : Nat) : L2.atI xs ((j : Int) + 2) = xs[j + 2]? := by rw [atI_int (by omega)]; congr 1
@[simp] theorem cutL_fromadd2 {xs : List α} (j : Nat) : cutL xs (some ((j : Int) + 2)) none = xs.drop (j + 2) := by rw [cutL_from (by omega)]; congr 1
@[simp] theorem cutL_midadd2 {xs : List α} (j : Nat) : cutL xs (some (j : Int)) (some ((j : Int) + 2)) = (xs.drop j).take 2 := by rw [cutL_mid (by omega) (by omega)]; congr 1; omega
theorem atI_add3 {xs : List α} (j : Nat) : L2.atI xs ((j : Int) + 3) = xs[j + 3]? := by rw [atI_int (by omega)]; congr 1
@[simp] theorem cutL_fromadd3 {xs : List α} (j : Nat) : cutL xs (some ((j : Int) + 3)) none = xs.drop (j + 3) := by rw [cutL_from (by omega)]; congr 1
@[simp] theorem cutL_midadd3 {xs : List α} (j : Nat) : cutL xs (some (j : Int)) (some ((j : Int) + 3)) = (xs.drop j).take 3 := by rw [cutL_mid (by omega) (by omega)]; congr 1; omega
@[simp] theorem cutL_fromn {xs : List α} (j : Nat) : cutL xs (some (j : Int)) none = xs.drop j := by rw [cutL_from (by omega)]; simp
@[simp] theorem cutL_ton {xs : List α} (j : Nat) : cutL xs none (some (j : Int)) = xs.take j := by rw [cutL_to (by omega)]; simp
@[simp] theorem atI_nil (i : Int) : L2.atI ([] : List α) i = none := by unfold L2.atI; cases L2.ixN _ i <;> rfl
@[simp] theorem atI_c0 (a : α) (r : List α) : L2.atI (a :: r) 0 = some a := by rw [atI_int (by omega)]; rfl
@[simp] theorem atI_c1 (a b : α) (r : List α) : L2.atI (a :: b :: r) 1 = some b := by rw [atI_int (by omega)]; rfl
@[simp] theorem atI_c2 (a b c : α) (r : List α) : L2.atI (a :: b :: c :: r) 2 = some c := by rw [atI_int (by omega)]; rfl
@[simp] theorem atI_c3 (a b c d : α) (r : List α) : L2.atI (a :: b :: c :: d :: r) 3 = some d := by rw [atI_int (by omega)]; rfl
@[simp] theorem atI_c4 (a b c d e : α) (r : List α) : L2.atI (a :: b :: c :: d :: e :: r) 4 = some e := by rw [atI_int (by omega)]; rfl
@[simp] theorem atI_c5 (a b c d e f : α) (r : List α) : L2.atI (a :: b :: c :: d :: e :: f :: r) 5 = some f := by rw [atI_int (by omega)]; rfl
@[simp] theorem atI_c6 (a b c d e f g : α) (r : List α) : L2.atI (a :: b :: c :: d :: e :: f :: g :: r) 6 = some g := by rw [atI_int (by omega)]; rfl
@[simp] theorem atI_c7 (a b c d e f g h : α) (r : List α) : L2.atI (a :: b :: c :: d :: e :: f :: g :: h :: r) 7 = some h := by rw [atI_int (by omega)]; rfl
@[simp] theorem atI_c8 (a b c d e f g h i : α) (r : List α) : L2.atI (a :: b :: c :: d :: e :: f :: g :: h :: i :: r) 8 = some i := by rw [atI_int (by omega)]; rfl
@[simp] theorem atI_c9 (a b c d e f g h i j : α) (r : List α) : L2.atI (a :: b :: c :: d :: e :: f :: g :: h :: i :: j :: r) 9 = some j := by rw [atI_int (by omega)]; rfl
@[simp] theorem atI_s (xs : List α) (a : α) : L2.atI (xs ++ [a]) (-1) = some a := by rw [atI_m1]; simp
end
theorem rep_one (a : Int) : ∀ n : Nat, (List.replicate n [D.int a]).flatten = encL D.int (List.replicate n a)
  | 0 => rfl
  | n + 1 => by rw [List.replicate_succ, List.flatten_cons, rep_one a n]; rfl
@[simp] theorem mulD_oneo (a : Int) (n : Nat) : mulD (.lst .ow [.int a]) (.int (n : Nat)) = if n ≤ 16777216 then some (iL .ow (List.replicate n a)) else none := by
  unfold mulD
  simp only [rep_one, Int.toNat_natCast]
  by_cases hn : n ≤ 16777216
  · rw [if_pos hn, if_pos]
    refine ⟨by decide, by omega, by omega, ?_, ?_⟩
    · simp only [List.length_cons, List.length_nil]; omega
    · rfl
  · rw [if_neg hn, if_neg]
    rintro ⟨_, _, _, h, _⟩
    simp only [List.length_cons, List.length_nil] at h
    omega
/-- nothing is promised where nothing is told -/
theorem fnNo {P : Program} {w : World} {K : PySem.W.Frag} {mg : Str → Option Value} {base : Heap} {cl : String → Addr} {f : Addr} {fd : FuncData} {ps : List Str} {k n : Nat} {m : List D → R D} (h : ∀ ds, m ds = .no) : FnOk P w K mg base (L2.CX P w) k f fd ps (Ctr K cl n m) where
  len := fun vs H Q E ⟨B, ds, _, _, _, _, q⟩ => by
    rw [h ds] at q
    exact q.elim
  run := fun A outer s H args us vs Q E _ _ _ _ ⟨B, ds, _, _, _, _, q⟩ => by
    rw [h ds] at q
    exact q.elim
end BC

namespace BC
open PySem PySem.Spec PyProof.Rows L2

/-! ## range(a, b, c), upwards -/
def upN (a b c : Int) : Nat := if a < b then ((b - a - 1) / c + 1).toNat else 0
theorem rgC_up {i j c : Int} (c0 : 0 < c) (c1 : c < 1073741824) (ha : -4611686018427387904 ≤ i) (ha' : i < 4611686018427387904) (hb : -4611686018427387904 ≤ j) (hb' : j < 4611686018427387904) : RgC i j c (upN i j c) := by
  have hsz : Builtin.Range.rangeSize i j c = upN i j c := by
    unfold Builtin.Range.rangeSize upN
    rw [if_pos c0]
    by_cases h : i < j
    · rw [if_pos h, if_pos h]
      have : 0 ≤ (j - i - 1) / c := Int.ediv_nonneg (by omega) (by omega)
      omega
    · rw [if_neg h, if_neg h]; rfl
  refine ⟨by omega, by omega, ?_, hsz⟩
  have hn : (upN i j c : Int) < 9223372036854775808 := by
    unfold upN
    by_cases h : i < j
    · rw [if_pos h]
      have h0 : 0 ≤ (j - i - 1) / c := Int.ediv_nonneg (by omega) (by omega)
      have h1 : (j - i - 1) / c ≤ j - i - 1 := Int.ediv_le_self _ (by omega)
      omega
    · rw [if_neg h]; omega
  unfold Builtin.Range.small
  rw [hsz]
  have : (0 : Int) ≤ (upN i j c : Int) := Int.natCast_nonneg _
  simp only [Builtin.Range.rangeFitsLong, Bool.and_eq_true, Bool.or_eq_true, decide_eq_true_eq, beq_iff_eq, if_pos (show c > 0 from c0)]
  omega
/-- range(a, b, c), c above nought -/
def xRngC (f g h : Env → R D) : Env → R (Bool × List D) := fun env => do
  let d ← f env
  let e ← g env
  let k ← h env
  let lo ← intR d
  let hi ← intR e
  let c ← intR k
  if 0 < c ∧ c < 1073741824 then R.ok (false, rngL lo c (upN lo hi c)) else R.no
section
variable {X : Cx} {W : WC} {f g h : Env → R D} {a b c : Expr} {pos : Pos} {tg : Expr}
theorem si_rngC {p : Pos} (hg : Gl X "range") (hm : X.mg "range" = none) (ha : PE X a (tF X.K W f)) (hb : PE X b (tF X.K W g)) (hc : PE X c (tF X.K W h)) (hs1 : starEach [a, b, c] X.env = (false, eval a X.env) :: starEach [b, c] X.env := by rfl)
    (hs2 : starEach [b, c] X.env = (false, eval b X.env) :: starEach [c] X.env := by rfl) (hs3 : starEach [c] X.env = (false, eval c X.env) :: starEach [] X.env := by rfl)
    (hi : ∀ ta : TA, PA X [a, b, c] ta → PI X tg (.Call (.Name "range" p) [a, b, c] [] pos) (iRng3 ta)) : PI X tg (.Call (.Name "range" p) [a, b, c] [] pos) (tI X.K W (xRngC f g h)) := by
  refine piI (hi _ (pa_cons ha (pa_cons hb (pa_cons hc pa_nil hs3) hs2) hs1)) fun σ H R' ⟨env, B, i, s, h⟩ => ?_
  refine seqE (P := PstI X.K W B H σ R') i s h (fun c z => z) (fun z => z) fun d v B1 H1 q e1 h1 st1 r nd fr => ?_
  refine seqE (P := PstI X.K W B H σ R') st1.i (s.step st1) h1 (fun c z => erBack (P := True) st1.h z) (fun z => z) fun d2 w B2 H2 q2 e2 h2 st2 r2 nd2 fr2 => ?_
  have st12 := st1.trans st2
  refine seqE (P := PstI X.K W B H σ R') st2.i (s.step st12) h2 (fun c z => erBack (P := True) st12.h z) (fun z => z) fun d3 w3 B3 H3 q3 e3 h3 st3 r3 nd3 fr3 => ?_
  obtain ⟨n, e4, b1, b2, h4⟩ := intR_ok h3
  obtain ⟨m, e5, b3, b4, h5⟩ := intR_ok h4
  obtain ⟨k, e6, b5, b6, h6⟩ := intR_ok h5
  subst e4 e5 e6
  rw [rp_int r, rp_int r2, rp_int r3]
  by_cases hk : 0 < k ∧ k < 1073741824
  · rw [if_pos hk] at h6
    exact ⟨n, m, k, upN n m k, rfl, rgC_up hk.1 hk.2 b1 b2 b3 b4, h6 (Itc n k (upN n m k)) B3 H3 (st12.trans st3) wk_rngC⟩
  · rw [if_neg hk] at h6
    exact h6.elim
end
@[simp] theorem xRngC_eq {env : Env} (f g h : Env → R D) : xRngC f g h env = f env >>= fun d => g env >>= fun e => h env >>= fun k => intR d >>= fun lo => intR e >>= fun hi => intR k >>= fun c => if 0 < c ∧ c < 1073741824 then R.ok (false, rngL lo c (upN lo hi c)) else R.no := (rfl)
end BC

namespace BC
open PySem PySem.Spec PyProof.Rows L2

/-! ## {True: a, False: b}[c] -/
def eDict : Obj := { cls := .type "dict", data := .dict #[] }
theorem dictOf_of {P : Program} {w : World} {h : Heap} {p : Addr} (e : h.get? p = some eDict) : h.DictOf (leafKind P w) p [] :=
  ⟨_, #[], 0, e, ⟨rfl, rfl, rfl⟩, rfl, fun _ he => by simp at he, Pairs.nil, List.nodup_nil⟩
def tPick (ta tb tc : TE) : TE := fun σ H Q => ta σ H fun x H1 => tb σ H1 fun y H2 => tc σ H2 fun k H3 => ∃ z, k = .bl z ∧ Q (if z = true then x else y) H3
section
variable {X : Cx} {a b c : Expr} {ta tb tc : TE} {p1 p2 dpos pos : Pos}
theorem pe_pick {k1 k2 : Expr} (e1 : PE X k1 (tC (.bl true))) (e2 : PE X k2 (tC (.bl false))) (ha : PE X a ta) (hb : PE X b tb) (hc : PE X c tc) (hs : NoSl c) :
    PE X (.Subscript (.Dict [some k1, some k2] [a, b] dpos) c pos) (tPick ta tb tc) := by
  refine ⟨fun pins s σ H Q I h => ?_⟩
  have hp := I.fpOk (H' := H) (Nat.le_refl s.heap.objs.size) (I.hok.fresh (Nat.le_refl _))
  have big := I.big
  generalize hpe : s.heap.objs.size = p at hp big
  have I1 : Inv X ((p, eDict) :: pins) σ H { s with heap := s.heap.push eDict } :=
    ClX.pin_new I (fun _ _ q => Heap.get?_push_of_some _ q) (Nat.le_of_eq hpe) (hpe ▸ Heap.get?_push_size _ rfl) (fun v z => by cases z)
  refine subD_of PySem.F.slot_dict_getitem.lookup hs ?_
  refine wpAny_Dict_walk (knd := leafKind X.prog X.w) rfl rfl (by intro z; cases z) (by show 2 ≤ 15; omega) ?_
  refine pairTrees_cons_walk (thn (e1.run _ _ σ H (fun v H1 => v = .bl true ∧ H1 = H) I1 ⟨rfl, rfl⟩) fun u1 s1 ⟨v1, H1, I1', r1, q1, q1'⟩ => ?_)
  subst q1 q1'
  refine thn (ha.run _ s1 σ _ _ I1' h) fun ux s2 ⟨x, H2, I2, rx, h2⟩ => ?_
  refine pairTrees_cons_walk (thn (e2.run _ s2 σ H2 (fun v H1 => v = .bl false ∧ H1 = H2) I2 ⟨rfl, rfl⟩) fun u2 s3 ⟨v2, H3, I3, r2, q2, q2'⟩ => ?_)
  subst q2 q2'
  refine thn (hb.run _ s3 σ _ _ I3 h2) fun uy s4 ⟨y, H4, I4, ry, h4⟩ => ?_
  refine pairTrees_nil_walk ?_
  cases (show u1 = Value.bool true from r1)
  cases (show u2 = Value.bool false from r2)
  refine ⟨[(.num 1, ux), (.num 0, uy)], ⟨rfl, rfl, rfl, rfl, True.intro⟩, hpe ▸ dictOf_of (ClX.pin_at I4), fun h' dd' sb => ?_⟩
  rw [hpe] at dd' sb ⊢
  obtain ⟨o', es, ep, ho', hx', hd', rest⟩ := id dd'
  have hn4 : H4 p = none := ClX.pin_un I4
  have I5 : Inv X pins σ H4 { s4 with heap := h', toks := s4.toks + 2 } := (ClX.unpin I4).turned (it := p) (fun b o hb e => (sb.2 b hb).trans e) hn4 hp.2.1 hp.2.2.2.1 hp.2.2.2.2.1 hp.2.2.2.2.2
  have I6 : Inv X ((p, o') :: pins) σ H4 { s4 with heap := h', toks := s4.toks + 2 } := I5.pins_of fun r hr => by
    rcases List.mem_cons.mp hr with e | e
    · subst e
      exact ⟨ho', hn4, hp.2.1, hp.2.2.1, fun v z => by rw [hd'] at z; cases z⟩
    · exact I5.pin r (List.mem_append_right _ e)
  refine thn (hc.run _ _ σ _ _ I6 h4) fun uk s6 ⟨k, H6, I7, rk, z, ek, q⟩ => ?_
  subst ek
  obtain rfl : uk = Value.bool z := rk
  have dd6 : s6.heap.DictOf (leafKind X.prog X.w) p (merged [] [(.num 1, ux), (.num 0, uy)]) := ⟨o', es, ep, ClX.pin_at I7, hx', hd', rest⟩
  refine ⟨dd6.typeIs, ?_⟩
  have fin : ∀ (u : Value) (v : V), valueAt (merged [] [((Leaf.num 1), ux), ((Leaf.num 0), uy)]) (.num (if z = true then 1 else 0)) = some u → RelV v u → Q v H6 →
      wpAny (model X.prog X.w) X.A (getItem (.ref p) (.bool z)) (EP X pins σ Q) X.xe s6 := fun u v hv rv hq =>
    wpAny_getItem_of (knd := leafKind X.prog X.w) (k := .num (if z = true then 1 else 0)) (by cases z <;> rfl) dd6.mapOf hv ⟨v, H6, (ClX.unpin I7).tok _, rv, hq⟩
  cases z with
  | true => exact fin ux x rfl rx q
  | false => exact fin uy y rfl ry q
end
def pickK (x y : D) : D → R D
  | .bl z => .ok (if z = true then x else y)
  | _ => .no
@[simp] theorem pickK_bl (x y : D) (z : Bool) : pickK x y (.bl z) = .ok (if z = true then x else y) := (rfl)
def xPick (f g h : Env → R D) : Env → R D := fun env => f env >>= fun x => g env >>= fun y => h env >>= fun k => pickK x y k
section
variable {X : Cx} {W : WC} {a b c : Expr} {f g h : Env → R D}
theorem se_pick {i1 i2 : Nat} {p1 p2 dpos pos : Pos} (ha : PE X a (tF X.K W f)) (hb : PE X b (tF X.K W g)) (hc : PE X c (tF X.K W h)) (hs : NoSl c := by intro _ _; rfl) :
    PE X (.Subscript (.Dict [some (.Constant (.bool true) i1 p1), some (.Constant (.bool false) i2 p2)] [a, b] dpos) c pos) (tF X.K W (xPick f g h)) := by
  refine peI (pe_pick pe_bl pe_bl ha hb hc hs) fun σ H Q ⟨env, B, i, s, h⟩ => ?_
  refine seqE (P := Pst X.K W B H σ Q) i s h (fun c z => z) (fun z => z) fun d1 x B1 H1 q1 e1 h1 st1 r1 nd1 fr1 => ?_
  refine seqE (P := Pst X.K W B H σ Q) st1.i (s.step st1) h1 (fun c z => erBack (P := True) st1.h z) (fun z => z) fun d2 y B2 H2 q2 e2 h2 st2 r2 nd2 fr2 => ?_
  have st12 := st1.trans st2
  refine seqE (P := Pst X.K W B H σ Q) st2.i (s.step st12) h2 (fun c z => erBack (P := True) st12.h z) (fun z => z) fun d3 k B3 H3 q3 e3 h3 st3 r3 nd3 fr3 => ?_
  have st := st12.trans st3
  cases d3 with
  | bl z =>
    refine ⟨z, rp_bl r3, ?_⟩
    cases z with
    | true => exact h3 x B3 H3 q1 st (rp_mono (st2.trans st3).b (st2.trans st3).h r1) nd1 (fr1.on r1 (st2.trans st3))
    | false => exact h3 y B3 H3 q2 st (rp_mono st3.b st3.h r2) nd2 ((fr2.back st1.h).on r2 st3)
  | _ => exact h3.elim
end
@[simp] theorem xPick_eq {env : Env} (f g h : Env → R D) : xPick f g h env = f env >>= fun x => g env >>= fun y => h env >>= fun k => pickK x y k := (rfl)
end BC

namespace BC
open PySem PySem.Spec PyProof.Rows L2

/-! ## while, what is left hidden -/
section
variable {Q : Ou → Prop} {env : Env}
theorem wh_of {c : Env → R Bool} {body : G} (Wv : Nat → Env → Prop) (m : Nat) (h0 : Wv m env) (step : ∀ m env (K : Env → Prop), Wv m env → (∀ m' e, m' < m → Wv m' e → K e) → gEv (c env) env Q fun b => if b = true then body env (lpK K Q) else Q (.nx env)) : gWhile c body env Q := by
  refine gWhile_of Wv m h0 fun m env h => ?_
  have h1 := step m env (fun e => ∃ m', m' < m ∧ Wv m' e) h fun m' e a b => ⟨m', a, b⟩
  have e : (lpK (fun e => ∃ m', m' < m ∧ Wv m' e) Q) = whK m Wv Q := by
    funext o
    cases o <;> rfl
  rw [e] at h1
  exact h1
end
/-! ## where a comprehension stands in a def -/
def qS (b : List Stmt) (i : Nat) : Stmt := b.getD i (.Pass ⟨0, 0, 0, 0⟩)
def nE : Expr := .Name "" ⟨0, 0, 0, 0⟩
def sSub (k : Nat) : Stmt → List Stmt
  | .If _ b o _ => if k = 0 then b else o
  | .For _ _ b _ _ => b
  | .While _ b _ _ => b
  | .Try b _ o _ _ => if k = 0 then b else o
  | _ => []
def sE : Stmt → Expr
  | .Return (some e) _ => e
  | .Assign _ e _ => e
  | .AugAssign _ _ e _ => e
  | .Expr e _ => e
  | .If t _ _ _ => t
  | .While t _ _ _ => t
  | .For _ i _ _ _ => i
  | _ => nE
def eE (k : Nat) : Expr → Expr
  | .BoolOp _ vs _ => vs.getD k nE
  | .BinOp a _ b _ => if k = 0 then a else b
  | .UnaryOp _ a _ => a
  | .IfExp a b c _ => if k = 0 then a else if k = 1 then b else c
  | .Compare a _ cs _ => if k = 0 then a else cs.getD (k - 1) nE
  | .Call f as _ _ => if k = 100 then f else as.getD k nE
  | .Subscript a b _ => if k = 0 then a else b
  | .List es _ => es.getD k nE
  | .Tuple es _ _ => es.getD k nE
  | .Attribute a _ _ => a
  | .ListComp e _ _ _ => e
  | _ => nE
def eSc : Expr → Scope
  | .ListComp _ _ sc _ => sc
  | _ => { kind := .function, names := [], isGenerator := false, isCoroutine := false }
/-- the scope of a comprehension within another scope -/
def inSc (outer sc : Scope) : Scope := relabel sc { scope := outer, locals := 0, globals := 0, cells := [] }
end BC

namespace BL
open PySem PySem.Spec PyProof.Rows L2 BC
def topS (i : Nat) : Stmt := PySem.Challenge.pw_braidcomb_k54_tables_of_both.main.body.getD i (.Pass ⟨0, 0, 0, 0⟩)
structure Tb (K : PySem.W.Frag) (mg : Str → Option Value) (cl : String → Addr) : Prop where
  z_abs : mg "abs" = none
  z_bool : mg "bool" = none
  z_enumerate : mg "enumerate" = none
  z_int : mg "int" = none
  z_isinstance : mg "isinstance" = none
  z_len : mg "len" = none
  z_list : mg "list" = none
  z_max : mg "max" = none
  z_range : mg "range" = none
  z_str : mg "str" = none
  z_tuple : mg "tuple" = none
  c_MOST_DOUBLED : ∃ t, mg "MOST_DOUBLED" = some (.int 6 t)
  gc_NoString : mg "NoString" = some (.ref (cl "NoString"))
  e_NoString : ExF K (cl "NoString")
structure Fx (K : PySem.W.Frag) (mg : Str → Option Value) (x : Str) (st : Stmt) (f : Addr) (fd : FuncData) (ps : List Str) : Prop where
  F : Fun K x x st f fd
  g : mg x = some (.ref f)
  b : Binds K fd ps []
/-! ## Draw -/
/-! ## what the laws draw, in plain Lean -/
def mixZ (cell k factor : Int) : Int := (cell % 1000003 * 7 + k * k + 1) * factor % 2147483647 / 16
theorem mixZ_nonneg (cell k factor : Int) : 0 ≤ mixZ cell k factor := Int.ediv_nonneg (Int.emod_nonneg _ (by decide)) (by decide)
theorem mixZ_lt (cell k factor : Int) : mixZ cell k factor < 134217728 := by
  unfold mixZ
  have := Int.emod_lt_of_pos ((cell % 1000003 * 7 + k * k + 1) * factor) (show (0 : Int) < 2147483647 by decide)
  omega
def strZ (seed least most : Int) : Int := if least = 1 ∧ seed % 13 = 5 then 1 else max 2 least + seed / 13 % (most - max 2 least + 1)
theorem strZ_bounds {seed least most : Int} (h1 : 1 ≤ least) (h2 : 2 ≤ most) (h3 : least ≤ most) : 1 ≤ strZ seed least most ∧ strZ seed least most ≤ most := by
  unfold strZ
  split
  · omega
  · have h4 : 0 < most - max 2 least + 1 := by omega
    have h5 := Int.emod_nonneg (seed / 13) (show most - max 2 least + 1 ≠ 0 by omega)
    have h6 := Int.emod_lt_of_pos (seed / 13) h4
    omega
def crZ (number n : Int) : Int := if number / 8 % 2 = 1 then -(1 + number % (n - 1)) else 1 + number % (n - 1)
/-- a crossing of n strings -/
def Cr (n k : Int) : Prop := k ≠ 0 ∧ -n < k ∧ k < n
theorem crZ_cr {number n : Int} (h : 2 ≤ n) : Cr n (crZ number n) := by
  have h5 := Int.emod_nonneg number (show n - 1 ≠ 0 by omega)
  have h6 := Int.emod_lt_of_pos number (show 0 < n - 1 by omega)
  unfold crZ Cr
  split <;> omega
/-- a word of n strings -/
def Wd (n : Int) (w : List Int) : Prop := ∀ k ∈ w, Cr n k
theorem Wd.nil {n : Int} : Wd n [] := fun _ h => by cases h
theorem Wd.cons {n k : Int} {w : List Int} (h : Cr n k) (hw : Wd n w) : Wd n (k :: w) := fun x hx => by
  rcases List.mem_cons.mp hx with e | e
  · rw [e]; exact h
  · exact hw x e
theorem Wd.app {n : Int} {v w : List Int} (h : Wd n v) (hw : Wd n w) : Wd n (v ++ w) := fun x hx => (List.mem_append.mp hx).elim (h x) (hw x)
theorem Wd.take {n : Int} {w : List Int} (h : Wd n w) (m : Nat) : Wd n (w.take m) := fun x hx => h x (List.mem_of_mem_take hx)
theorem Wd.drop {n : Int} {w : List Int} (h : Wd n w) (m : Nat) : Wd n (w.drop m) := fun x hx => h x (List.mem_of_mem_drop hx)
def nextZ (k n : Int) : Int := if (k + 1).natAbs < n ∧ k + 1 ≠ 0 then k + 1 else k - 1
def pieceZ (number n : Int) : List Int :=
  let k := crZ number n
  if number / 16 % 4 > 0 ∨ n < 3 then [k] else
    let o := nextZ k n
    if number / 64 % 4 = 0 then [k, o, k] else if number / 64 % 4 = 1 then [k, o] else if number / 64 % 4 = 2 then [k, k] else [k, -o, k]
theorem pieceZ_len (number n : Int) : (pieceZ number n).length ≤ 3 := by
  unfold pieceZ
  simp only
  split
  · simp
  · split
    · simp
    · split
      · simp
      · split <;> simp
theorem nextZ_cr {k n : Int} (hk : Cr n k) (hn : 3 ≤ n) : Cr n (nextZ k n) := by
  unfold nextZ Cr at *
  split <;> omega
theorem Cr.neg {n k : Int} (h : Cr n k) : Cr n (-k) := by unfold Cr at *; omega
theorem pieceZ_wd {number n : Int} (h : 2 ≤ n) : Wd n (pieceZ number n) := by
  have h1 := crZ_cr (number := number) h
  unfold pieceZ
  simp only
  split
  · exact .cons h1 .nil
  · rename_i hn
    have h2 := nextZ_cr h1 (show 3 ≤ n by omega)
    split
    · exact .cons h1 (.cons h2 (.cons h1 .nil))
    · split
      · exact .cons h1 (.cons h2 .nil)
      · split
        · exact .cons h1 (.cons h1 .nil)
        · exact .cons h1 (.cons h2.neg (.cons h1 .nil))
def drawnAll (n : Int) : List (Int × Nat) → List Int
  | [] => []
  | (c, i) :: cs => (if n > 1 then pieceZ (mixZ c i 48271) n else []) ++ drawnAll n cs
theorem drawnAll_nil (n : Int) : drawnAll n [] = [] := rfl
theorem drawnAll_cons (n c : Int) (i : Nat) (cs : List (Int × Nat)) : drawnAll n ((c, i) :: cs) = (if n > 1 then pieceZ (mixZ c i 48271) n else []) ++ drawnAll n cs := rfl
theorem drawnAll_len (n : Int) : ∀ cs : List (Int × Nat), (drawnAll n cs).length ≤ 3 * cs.length
  | [] => by simp [drawnAll]
  | (c, i) :: cs => by
    have := drawnAll_len n cs
    unfold drawnAll
    rw [List.length_append, List.length_cons]
    have h1 : (if n > 1 then pieceZ (mixZ c i 48271) n else []).length ≤ 3 := by
      split
      · exact pieceZ_len _ _
      · simp
    omega
theorem drawnAll_wd {n : Int} : ∀ cs : List (Int × Nat), Wd n (drawnAll n cs)
  | [] => .nil
  | (c, i) :: cs => by
    unfold drawnAll
    refine .app ?_ (drawnAll_wd cs)
    split
    · exact pieceZ_wd (by omega)
    · exact .nil
def drawnZ (cells : List Int) (n : Int) (most : Nat) : List Int := (drawnAll n (cells.zipIdx 0)).take most
theorem drawnZ_len (cells : List Int) (n : Int) (most : Nat) : (drawnZ cells n most).length ≤ most := by unfold drawnZ; rw [List.length_take]; omega
theorem drawnZ_wd (cells : List Int) (n : Int) (most : Nat) : Wd n (drawnZ cells n most) := (drawnAll_wd _).take most
theorem Wd.one {w : List Int} (h : Wd 1 w) : w = [] := by
  cases w with
  | nil => rfl
  | cons k w => have := h k (by simp); unfold Cr at this; omega
theorem drawnAll_one : ∀ cs : List (Int × Nat), drawnAll 1 cs = []
  | [] => rfl
  | (c, i) :: cs => by unfold drawnAll; rw [drawnAll_one cs]; simp
/-- the kinds in which cells come -/
def kc (b : Bool) : Kd := if b then .sc else .fz
@[simp] theorem kc_bor (b : Bool) : (kc b).bor = kc b := by cases b <;> rfl
@[simp] theorem kc_frz (b : Bool) : (kc b).frz = kc b := by cases b <;> rfl
@[simp] theorem sto_kc (b : Bool) (xs : List Int) : (D.lst (kc b) (encL .int xs)).sto = true := by cases b <;> simp [kc]
@[simp] theorem src_kc (b : Bool) (xs : List Int) : srcL (.lst (kc b) (encL .int xs)) = some (false, encL .int xs) := by cases b <;> simp [kc]
theorem kc_inj {a b : Bool} : kc a = kc b ↔ a = b := by cases a <;> cases b <;> simp [kc]
def kw (b : Bool) : Kd := if b then .fz else .ow
@[simp] theorem kw_frz (b : Bool) : (kw b).frz = .fz := by cases b <;> rfl

/-! ## Eq -/
/-! ## data of any shape -/
mutual
def okE : Nat → D → Bool
  | _, .non => true
  | _, .int _ => true
  | _, .str s => PyData.canLay0 (.str s)
  | n + 1, .lst .fz xs => decide (xs.length ≤ 1000000) && okEs n xs
  | n + 1, .tup xs => decide (xs.length ≤ 1000000) && okEs n xs
  | _, _ => false
def okEs : Nat → List D → Bool
  | _, [] => true
  | n, x :: xs => okE n x && okEs n xs
end
theorem okE_int (n : Nat) (i : Int) : okE n (.int i) = true := by cases n <;> rfl
theorem okE_non (n : Nat) : okE n .non = true := by cases n <;> rfl
theorem okE_str (n : Nat) (s : Str) : okE n (.str s) = PyData.canLay0 (.str s) := by cases n <;> rfl
theorem okE_lst (n : Nat) (xs : List D) : okE (n + 1) (.lst .fz xs) = (decide (xs.length ≤ 1000000) && okEs n xs) := rfl
theorem okE_tup (n : Nat) (xs : List D) : okE (n + 1) (.tup xs) = (decide (xs.length ≤ 1000000) && okEs n xs) := rfl
theorem okEs_get : ∀ {n : Nat} {xs : List D} {i : Nat} {x : D}, okEs n xs = true → xs[i]? = some x → okE n x = true
  | n, [], i, x, _, h => by simp at h
  | n, a :: xs, 0, x, h, e => by
    simp only [okEs, Bool.and_eq_true] at h
    simp at e
    subst e
    exact h.1
  | n, a :: xs, i + 1, x, h, e => by
    simp only [okEs, Bool.and_eq_true] at h
    exact okEs_get h.2 (by simpa using e)
theorem okEs_enc {α : Type} {f : α → D} {n : Nat} : ∀ xs : List α, (∀ a ∈ xs, okE n (f a) = true) → okEs n (encL f xs) = true
  | [], _ => rfl
  | a :: as, h => by
    rw [encL_cons]
    simp only [okEs, Bool.and_eq_true]
    exact ⟨h a (by simp), okEs_enc as fun b hb => h b (by simp [hb])⟩
theorem okE_iL {n : Nat} {xs : List Int} (h : xs.length ≤ 1000000) : okE (n + 1) (iL .fz xs) = true := by
  rw [okE_lst, okEs_enc xs fun _ _ => okE_int _ _]
  simpa using h
theorem okE_iLL {n : Nat} {xs : List (List Int)} (h : xs.length ≤ 1000000) (h2 : ∀ x ∈ xs, x.length ≤ 1000000) : okE (n + 2) (iLL .fz .fz xs) = true := by
  rw [okE_lst, okEs_enc xs fun x hx => okE_iL (h2 x hx)]
  simpa using h
def numB : D → Option Bool
  | .int _ => some true
  | .bl _ => some false
  | .non => some false
  | .str _ => some false
  | .lst _ _ => some false
  | .tup _ => some false
  | _ => none
open Classical in
noncomputable def eqE (a b : D) : Bool := decide (a = b)
open Classical in
theorem eqE_iff {a b : D} : eqE a b = true ↔ a = b := by unfold eqE; simp
theorem eqE_self (a : D) : eqE a a = true := eqE_iff.mpr rfl
theorem eqE_ne {a b : D} (h : a ≠ b) : eqE a b = false := by
  cases e : eqE a b with
  | false => rfl
  | true => exact absurd (eqE_iff.mp e) h
theorem eqE_of {a b : D} {p : Prop} [Decidable p] (h : a = b ↔ p) : eqE a b = decide p := by
  by_cases hp : p
  · rw [decide_eq_true hp]; exact eqE_iff.mpr (h.mpr hp)
  · rw [decide_eq_false hp]; exact eqE_ne fun z => hp (h.mp z)
def isIntD : D → Bool
  | .int _ => true
  | _ => false
theorem okE_num {n : Nat} {x : D} (h : okE n x = true) : numB x = some (isIntD x) := by
  cases x with
  | bl b => cases n <;> cases h
  | exc c C => cases n <;> cases h
  | _ => rfl
mutual
theorem okE_props : ∀ (n : Nat) (x : D), okE n x = true → x.bor = x ∧ x.frz = x ∧ x.sto = true
  | n, .non, _ => ⟨by simp, by simp, rfl⟩
  | n, .int _, _ => ⟨by simp, by simp, rfl⟩
  | n, .str _, _ => ⟨by simp, by simp, rfl⟩
  | n + 1, .lst .fz xs, h => by
    rw [okE_lst, Bool.and_eq_true] at h
    obtain ⟨h1, h2, h3⟩ := okEs_props n xs h.2
    exact ⟨by simp [h1], by simp [h2], by simp [h3]⟩
  | n + 1, .tup xs, h => by
    rw [okE_tup, Bool.and_eq_true] at h
    obtain ⟨h1, h2, h3⟩ := okEs_props n xs h.2
    exact ⟨by simp [h1], by simp [h2], by simp [h3]⟩
  | 0, .lst k xs, h => by cases k <;> cases h
  | 0, .tup xs, h => by cases h
  | n + 1, .lst .ow xs, h => by cases h
  | n + 1, .lst .bo xs, h => by cases h
  | n + 1, .lst .sc xs, h => by cases h
  | n, .bl _, h => by cases n <;> cases h
  | n, .exc _ _, h => by cases n <;> cases h
theorem okEs_props : ∀ (n : Nat) (xs : List D), okEs n xs = true → D.bors xs = xs ∧ D.frzs xs = xs ∧ D.stos xs = true
  | n, [], _ => ⟨by simp, by simp, rfl⟩
  | n, x :: xs, h => by
    simp only [okEs, Bool.and_eq_true] at h
    obtain ⟨a1, a2, a3⟩ := okE_props n x h.1
    obtain ⟨b1, b2, b3⟩ := okEs_props n xs h.2
    exact ⟨by simp [a1, b1], by simp [a2, b2], by simp [a3, b3]⟩
end

/-! ## Trim -/
/-! ## pairs taken out -/
def trimGo (left : List Int) : List Int → List Int
  | [] => left
  | k :: ks => if left.getLast? = some (-k) then trimGo left.dropLast ks else trimGo (left ++ [k]) ks
theorem trimGo_cons (left : List Int) (k : Int) (ks : List Int) : trimGo left (k :: ks) = if left.getLast? = some (-k) then trimGo left.dropLast ks else trimGo (left ++ [k]) ks := rfl
/-- no pair stands there -/
def Red : List Int → Prop
  | [] => True
  | [_] => True
  | a :: b :: r => a ≠ -b ∧ Red (b :: r)
theorem Red.tail {a : Int} {r : List Int} (h : Red (a :: r)) : Red r := by
  cases r with
  | nil => trivial
  | cons b r => exact h.2
theorem Red.snoc : ∀ {l : List Int} {k : Int}, Red l → l.getLast? ≠ some (-k) → Red (l ++ [k])
  | [], _, _, _ => trivial
  | [a], k, _, h => ⟨fun e => h (by simp [e]), trivial⟩
  | a :: b :: r, k, h, hl => ⟨h.1, Red.snoc (l := b :: r) h.2 (by simpa [List.getLast?_cons_cons] using hl)⟩
theorem Red.init : ∀ {l : List Int} {k : Int}, Red (l ++ [k]) → Red l ∧ l.getLast? ≠ some (-k)
  | [], _, _ => ⟨trivial, by simp⟩
  | [a], k, h => ⟨trivial, by simp; exact fun e => h.1 e⟩
  | a :: b :: r, k, h => by
    have := Red.init (l := b :: r) (k := k) h.2
    exact ⟨⟨h.1, this.1⟩, by simpa [List.getLast?_cons_cons] using this.2⟩
theorem trimGo_red : ∀ {ks left : List Int}, Red left → Red (trimGo left ks)
  | [], _, h => h
  | k :: ks, left, h => by
    unfold trimGo
    split
    · rcases List.eq_nil_or_concat left with rfl | ⟨l, b, rfl⟩
      · exact trimGo_red h
      · rw [List.concat_eq_append] at h ⊢
        rw [List.dropLast_concat]
        exact trimGo_red h.init.1
    · rename_i hn
      exact trimGo_red (h.snoc hn)
theorem trimGo_app : ∀ (a b left : List Int), trimGo left (a ++ b) = trimGo (trimGo left a) b
  | [], b, left => rfl
  | k :: a, b, left => by
    rw [List.cons_append, trimGo_cons, trimGo_cons]
    split
    · rw [trimGo_app a b]
    · rw [trimGo_app a b]
/-- a pair in the middle counts for nothing -/
theorem trimGo_pair {left : List Int} (h : Red left) (x : Int) (b : List Int) : trimGo left (x :: -x :: b) = trimGo left b := by
  by_cases hl : left.getLast? = some (-x)
  · rcases List.eq_nil_or_concat left with rfl | ⟨l, y, rfl⟩
    · simp at hl
    · rw [List.concat_eq_append] at *
      simp at hl
      subst hl
      have h2 := h.init.2
      rw [Int.neg_neg] at h2
      conv => lhs; unfold trimGo
      rw [if_pos (by simp), List.dropLast_concat]
      conv => lhs; unfold trimGo
      rw [if_neg (by rw [Int.neg_neg]; exact h2)]
  · conv => lhs; unfold trimGo
    rw [if_neg hl]
    conv => lhs; unfold trimGo
    rw [if_pos (by simp), List.dropLast_concat]
theorem trimGo_mid {a b : List Int} (x : Int) : trimGo [] (a ++ x :: -x :: b) = trimGo [] (a ++ b) := by
  rw [trimGo_app, trimGo_pair (trimGo_red (left := []) trivial), ← trimGo_app]
theorem trimGo_self : ∀ {ks left : List Int}, Red (left ++ ks) → trimGo left ks = left ++ ks
  | [], left, _ => by simp [trimGo]
  | k :: ks, left, h => by
    have e : left ++ k :: ks = (left ++ [k]) ++ ks := by simp
    rw [e] at h ⊢
    unfold trimGo
    have h2 : Red (left ++ [k]) := by
      clear e
      generalize left ++ [k] = l at h
      induction l with
      | nil => trivial
      | cons a l ih =>
        cases l with
        | nil => trivial
        | cons b l => exact ⟨h.1, ih h.2⟩
    rw [if_neg h2.init.2]
    exact trimGo_self h
theorem trimGo_of_red {w : List Int} (h : Red w) : trimGo [] w = w := trimGo_self (left := []) (by simpa using h)
theorem trimGo_idem (w : List Int) : trimGo [] (trimGo [] w) = trimGo [] w := trimGo_of_red (trimGo_red (left := []) trivial)
theorem trimGo_len : ∀ (ks left : List Int), (trimGo left ks).length ≤ left.length + ks.length
  | [], left => by simp [trimGo]
  | k :: ks, left => by
    unfold trimGo
    split
    · have := trimGo_len ks left.dropLast
      rw [List.length_dropLast] at this
      rw [List.length_cons]
      omega
    · have := trimGo_len ks (left ++ [k])
      rw [List.length_append] at this
      simp at this ⊢
      omega
def turnZ (w : List Int) : List Int := w.reverse.map fun k => -k
theorem turnZ_cons (k : Int) (w : List Int) : turnZ (k :: w) = turnZ w ++ [-k] := by simp [turnZ]
theorem turnZ_app (v w : List Int) : turnZ (v ++ w) = turnZ w ++ turnZ v := by simp [turnZ]
@[simp] theorem turnZ_turnZ (w : List Int) : turnZ (turnZ w) = w := by
  unfold turnZ
  rw [← List.map_reverse, List.reverse_reverse, List.map_map]
  conv => rhs; rw [← List.map_id w]
  apply List.map_congr_left
  intro a _
  simp
@[simp] theorem turnZ_length (w : List Int) : (turnZ w).length = w.length := by simp [turnZ]
theorem trim_turned : ∀ w : List Int, trimGo [] (w ++ turnZ w) = []
  | [] => rfl
  | k :: w => by
    have key : ∀ (v l : List Int), trimGo [] (l ++ v ++ turnZ v ++ turnZ l) = trimGo [] (l ++ turnZ l) := by
      intro v
      induction v with
      | nil => intro l; simp [turnZ]
      | cons x v ih =>
        intro l
        have := ih (l ++ [x])
        rw [turnZ_app] at this
        rw [turnZ_cons]
        have e : l ++ x :: v ++ (turnZ v ++ [-x]) ++ turnZ l = l ++ [x] ++ v ++ turnZ v ++ (turnZ [x] ++ turnZ l) := by simp [turnZ]
        rw [e, this]
        have e2 : l ++ [x] ++ (turnZ [x] ++ turnZ l) = l ++ x :: -x :: turnZ l := by simp [turnZ]
        rw [e2, trimGo_mid]
    have := key (k :: w) []
    simp only [turnZ, List.nil_append, List.reverse_nil, List.map_nil, List.append_nil] at this
    exact this
@[simp] theorem turnZ_nil : turnZ [] = [] := rfl
@[simp] theorem revneg (w : List Int) : (w.map fun k => -k).reverse = turnZ w := by unfold turnZ; rw [List.map_reverse]

/-! ## Perm -/
--needs Draw Trim
/-! ## places and strings -/
/-- k - 1 and k change places -/
def tr (k i : Nat) : Nat := if i = k then k - 1 else if i + 1 = k then k else i
theorem tr_tr {k : Nat} (i : Nat) (hk : 1 ≤ k) : tr k (tr k i) = i := by
  unfold tr
  split
  · rw [if_neg (by omega), if_pos (by omega)]; omega
  · split
    · rw [if_pos rfl]; omega
    · rfl
theorem tr_lt {k i n : Nat} (hk : k < n) (hi : i < n) : tr k i < n := by
  unfold tr
  split
  · omega
  · split <;> omega
/-- which string hangs at a place behind a word -/
def fW : List Int → Nat → Nat
  | [], i => i
  | k :: w, i => tr k.natAbs (fW w i)
/-- at which place a string hangs behind a word -/
def gW : List Int → Nat → Nat
  | [], i => i
  | k :: w, i => gW w (tr k.natAbs i)
theorem Cr.nat {n k : Int} (h : Cr n k) : 1 ≤ k.natAbs ∧ (k.natAbs : Int) < n := by unfold Cr at h; omega
theorem Cr.lt {n : Nat} {k : Int} (h : Cr n k) : 1 ≤ k.natAbs ∧ k.natAbs < n := by have := h.nat; omega
theorem Wd.tail {n k : Int} {w : List Int} (h : Wd n (k :: w)) : Wd n w := fun x hx => h x (by simp [hx])
theorem Wd.head {n k : Int} {w : List Int} (h : Wd n (k :: w)) : Cr n k := h k (by simp)
theorem fW_gW {n : Int} : ∀ {w : List Int}, Wd n w → ∀ i, fW w (gW w i) = i
  | [], _, i => rfl
  | k :: w, h, i => by
    show tr k.natAbs (fW w (gW w (tr k.natAbs i))) = i
    rw [fW_gW h.tail, tr_tr _ h.head.nat.1]
theorem gW_fW {n : Int} : ∀ {w : List Int}, Wd n w → ∀ i, gW w (fW w i) = i
  | [], _, i => rfl
  | k :: w, h, i => by
    show gW w (tr k.natAbs (tr k.natAbs (fW w i))) = i
    rw [tr_tr _ h.head.nat.1, gW_fW h.tail]
theorem fW_lt {n : Nat} : ∀ {w : List Int}, Wd n w → ∀ {i : Nat}, i < n → fW w i < n
  | [], _, i, hi => hi
  | k :: w, h, i, hi => tr_lt h.head.lt.2 (fW_lt h.tail hi)
theorem gW_lt {n : Nat} : ∀ {w : List Int}, Wd n w → ∀ {i : Nat}, i < n → gW w i < n
  | [], _, i, hi => hi
  | k :: w, h, i, hi => gW_lt h.tail (tr_lt h.head.lt.2 hi)
theorem fW_app : ∀ (v w : List Int) (i : Nat), fW (v ++ w) i = fW v (fW w i)
  | [], w, i => rfl
  | k :: v, w, i => by show tr k.natAbs (fW (v ++ w) i) = _; rw [fW_app v w]; rfl
theorem gW_app : ∀ (v w : List Int) (i : Nat), gW (v ++ w) i = gW w (gW v i)
  | [], w, i => rfl
  | k :: v, w, i => gW_app v w _
/-- the list of what stands at the places -/
def lsP (n : Nat) (f : Nat → Nat) : List Int := (List.range n).map fun p => (f p : Int)
@[simp] theorem lsP_length (n : Nat) (f : Nat → Nat) : (lsP n f).length = n := by unfold lsP; simp
theorem lsP_get {n : Nat} {f : Nat → Nat} {p : Nat} (h : p < n) : (lsP n f)[p]? = some (f p : Int) := by
  unfold lsP
  rw [List.getElem?_map, List.getElem?_range h]
  rfl
theorem lsP_atI {n : Nat} {f : Nat → Nat} {p : Nat} (h : p < n) : L2.atI (lsP n f) (p : Int) = some (f p : Int) := by rw [atI_natc, lsP_get h]
theorem lsP_ext {n : Nat} {f g : Nat → Nat} (h : ∀ p, p < n → f p = g p) : lsP n f = lsP n g := by
  unfold lsP
  apply List.map_congr_left
  intro p hp
  rw [h p (List.mem_range.mp hp)]
theorem lsP_eq {n : Nat} {f g : Nat → Nat} (h : lsP n f = lsP n g) : ∀ p, p < n → f p = g p := fun p hp => by
  have h1 := lsP_get (f := f) hp
  rw [h, lsP_get hp] at h1
  injection h1 with h1
  omega
theorem lsP_of_get {n : Nat} {f : Nat → Nat} {l : List Int} (hl : l.length = n) (h : ∀ p, p < n → l[p]? = some (f p : Int)) : l = lsP n f := by
  apply List.ext_getElem?
  intro p
  by_cases hp : p < n
  · rw [h p hp, lsP_get hp]
  · rw [List.getElem?_eq_none (by omega), List.getElem?_eq_none (by simp; omega)]
theorem rng_lsP (n : Nat) : rng 0 1 n = lsP n id := by
  unfold rng lsP
  apply List.map_congr_left
  intro i _
  simp
/-- two neighbours change places -/
theorem lsP_sw {n k : Nat} {f : Nat → Nat} (hk : 1 ≤ k) (hn : k < n) : ((lsP n f).set k (f (k - 1) : Int)).set (k - 1) (f k : Int) = lsP n (fun i => f (tr k i)) := by
  apply lsP_of_get (by simp)
  intro p hp
  unfold tr
  by_cases h1 : p = k
  · subst h1
    rw [List.getElem?_set_ne (by omega), List.getElem?_set_self (by simp; omega), if_pos rfl]
  · by_cases h2 : p + 1 = k
    · have : k - 1 = p := by omega
      rw [this, List.getElem?_set_self (by simp; omega), if_neg h1, if_pos h2]
    · rw [List.getElem?_set_ne (by omega), List.getElem?_set_ne (by omega), if_neg h1, if_neg h2, lsP_get hp]
/-- the strings at the bottom -/
def orderZ (n : Nat) (w : List Int) : List Int := lsP n (fW w)
theorem orderZ_length (n : Nat) (w : List Int) : (orderZ n w).length = n := by simp [orderZ]
theorem fW_snoc (w : List Int) (k : Int) : fW (w ++ [k]) = fun i => fW w (tr k.natAbs i) := by
  funext i
  rw [fW_app]
  rfl
theorem fW_turn {n : Int} : ∀ {w : List Int}, Wd n w → ∀ i, fW (w ++ turnZ w) i = i
  | [], _, i => rfl
  | k :: w, h, i => by
    rw [turnZ_cons, show (k :: w) ++ (turnZ w ++ [-k]) = k :: ((w ++ turnZ w) ++ [-k]) by simp]
    show tr k.natAbs (fW ((w ++ turnZ w) ++ [-k]) i) = i
    rw [fW_app, fW_turn h.tail]
    show tr k.natAbs (tr (-k).natAbs i) = i
    rw [Int.natAbs_neg, tr_tr _ h.head.nat.1]
theorem Wd.turn {n : Int} {w : List Int} (hw : Wd n w) : Wd n (turnZ w) := fun k hk => by
  unfold turnZ at hk
  rw [List.mem_map] at hk
  obtain ⟨x, hx, rfl⟩ := hk
  exact (hw x (by simpa using hx)).neg

/-! ## Tab -/
--needs Perm
/-! ## tables -/
def lsT (n : Nat) (T : Nat → Nat → Int) : List (List Int) := (List.range n).map fun a => (List.range n).map fun b => T a b
@[simp] theorem lsT_length (n : Nat) (T : Nat → Nat → Int) : (lsT n T).length = n := by unfold lsT; simp
def rwT (n : Nat) (T : Nat → Nat → Int) (a : Nat) : List Int := (List.range n).map fun b => T a b
@[simp] theorem rwT_length (n : Nat) (T : Nat → Nat → Int) (a : Nat) : (rwT n T a).length = n := by unfold rwT; simp
theorem lsT_get {n : Nat} {T : Nat → Nat → Int} {a : Nat} (h : a < n) : (lsT n T)[a]? = some (rwT n T a) := by
  unfold lsT
  rw [List.getElem?_map, List.getElem?_range h]
  rfl
theorem rwT_get {n : Nat} {T : Nat → Nat → Int} {a b : Nat} (h : b < n) : (rwT n T a)[b]? = some (T a b) := by
  unfold rwT
  rw [List.getElem?_map, List.getElem?_range h]
  rfl
theorem lsT_ext {n : Nat} {f g : Nat → Nat → Int} (h : ∀ a b, a < n → b < n → f a b = g a b) : lsT n f = lsT n g := by
  unfold lsT
  apply List.map_congr_left
  intro a ha
  apply List.map_congr_left
  intro b hb
  exact h a b (List.mem_range.mp ha) (List.mem_range.mp hb)
def bump (T : Nat → Nat → Int) (i j : Nat) (d : Int) : Nat → Nat → Int := fun a b => if a = i ∧ b = j then T a b + d else T a b
theorem rwT_set {n : Nat} {T : Nat → Nat → Int} {i j : Nat} {d : Int} (hj : j < n) : (rwT n T i).set j (T i j + d) = rwT n (bump T i j d) i := by
  apply List.ext_getElem?
  intro p
  by_cases hp : p < n
  · rw [rwT_get hp]
    by_cases e : j = p
    · subst e
      rw [List.getElem?_set_self (by simp; omega)]
      simp [bump]
    · rw [List.getElem?_set_ne e, rwT_get hp]
      have : ¬ p = j := fun z => e z.symm
      simp [bump, this]
  · rw [List.getElem?_eq_none (by simp; omega), List.getElem?_eq_none (by simp; omega)]
theorem lsT_set {n : Nat} {T : Nat → Nat → Int} {i j : Nat} {d : Int} (hi : i < n) (hj : j < n) : (lsT n T).set i ((rwT n T i).set j (T i j + d)) = lsT n (bump T i j d) := by
  apply List.ext_getElem?
  intro p
  by_cases hp : p < n
  · rw [lsT_get hp]
    by_cases e : i = p
    · subst e
      rw [List.getElem?_set_self (by simp; omega), rwT_set hj]
    · rw [List.getElem?_set_ne e, lsT_get hp]
      have h2 : ¬ p = i := fun z => e z.symm
      congr 1
      unfold rwT
      apply List.map_congr_left
      intro b _
      simp [bump, h2]
  · rw [List.getElem?_eq_none (by simp; omega), List.getElem?_eq_none (by simp; omega)]
/-- what one crossing counts, by the places of the two strings above it -/
def ownT (k : Int) (p q : Nat) : Int := if 0 < k ∧ p + 1 = k.natAbs ∧ q = k.natAbs then 1 else if k < 0 ∧ p = k.natAbs ∧ q + 1 = k.natAbs then -1 else 0
/-- how often string a goes over string b -/
def tabF : List Int → Nat → Nat → Int
  | [], _, _ => 0
  | k :: w, a, b => ownT k a b + tabF w (tr k.natAbs a) (tr k.natAbs b)
theorem tabF_app : ∀ (v w : List Int) (a b : Nat), tabF (v ++ w) a b = tabF v a b + tabF w (gW v a) (gW v b)
  | [], w, a, b => by simp [tabF, gW]
  | k :: v, w, a, b => by
    show ownT k a b + tabF (v ++ w) _ _ = (ownT k a b + tabF v _ _) + tabF w _ _
    rw [tabF_app v w]
    have e : ∀ c, gW (k :: v) c = gW v (tr k.natAbs c) := fun _ => rfl
    rw [e, e]
    omega
theorem tabF_snoc (v : List Int) (k : Int) (a b : Nat) : tabF (v ++ [k]) a b = tabF v a b + ownT k (gW v a) (gW v b) := by
  rw [tabF_app]
  show _ + (ownT k _ _ + 0) = _
  omega
theorem tabF_up {n : Nat} {v : List Int} {k : Int} (hv : Wd n v) (hk : Cr n k) (h0 : 0 < k) : tabF (v ++ [k]) = bump (tabF v) (fW v (k.natAbs - 1)) (fW v k.natAbs) 1 := by
  funext a b
  rw [tabF_snoc]
  unfold bump ownT
  obtain ⟨k1, k2⟩ := hk.lt
  by_cases h : a = fW v (k.natAbs - 1) ∧ b = fW v k.natAbs
  · obtain ⟨rfl, rfl⟩ := h
    rw [gW_fW hv, gW_fW hv, if_pos ⟨h0, by omega, rfl⟩, if_pos ⟨rfl, rfl⟩]
  · rw [if_neg h, if_neg (fun z => h ⟨?_, ?_⟩), if_neg (by omega)]
    · omega
    · rw [← z.2.1, Nat.add_sub_cancel, fW_gW hv]
    · rw [← z.2.2, fW_gW hv]
theorem tabF_down {n : Nat} {v : List Int} {k : Int} (hv : Wd n v) (hk : Cr n k) (h0 : ¬ 0 < k) : tabF (v ++ [k]) = bump (tabF v) (fW v k.natAbs) (fW v (k.natAbs - 1)) (-1) := by
  funext a b
  rw [tabF_snoc]
  unfold bump ownT
  obtain ⟨k1, k2⟩ := hk.lt
  rw [if_neg (fun z => h0 z.1)]
  by_cases h : a = fW v k.natAbs ∧ b = fW v (k.natAbs - 1)
  · obtain ⟨rfl, rfl⟩ := h
    rw [gW_fW hv, gW_fW hv, if_pos ⟨by omega, rfl, by omega⟩, if_pos ⟨rfl, rfl⟩]
  · rw [if_neg h, if_neg (fun z => h ⟨?_, ?_⟩)]
    · omega
    · rw [← z.2.1, fW_gW hv]
    · rw [← z.2.2, Nat.add_sub_cancel, fW_gW hv]
theorem sum_set : ∀ (l : List Int) (i : Nat) (x y : Int), l[i]? = some y → (l.set i x).sum = l.sum - y + x
  | [], i, x, y, h => by simp at h
  | a :: l, 0, x, y, h => by simp at h; subst h; simp; omega
  | a :: l, i + 1, x, y, h => by
    simp at h
    have := sum_set l i x y h
    simp [this]
    omega
theorem map_set {α β : Type} (f : α → β) (l : List α) (i : Nat) (x : α) : (l.set i x).map f = (l.map f).set i (f x) := by simp
theorem lsT_sum_bump {n : Nat} {T : Nat → Nat → Int} {i j : Nat} {d : Int} (hi : i < n) (hj : j < n) : ((lsT n (bump T i j d)).map List.sum).sum = ((lsT n T).map List.sum).sum + d := by
  rw [← lsT_set hi hj, map_set, sum_set _ i _ (rwT n T i).sum (by rw [List.getElem?_map, lsT_get hi]; rfl), sum_set _ j _ (T i j) (rwT_get hj)]
  omega
/-- crossings above nought less those below -/
def totZ (w : List Int) : Int := ((w.filter fun k => decide (k > 0)).length : Int) - ((w.filter fun k => decide (k < 0)).length : Int)
theorem totZ_app (v w : List Int) : totZ (v ++ w) = totZ v + totZ w := by unfold totZ; simp; omega
def sgZ (k : Int) : Int := if k > 0 then 1 else -1
theorem totZ_one {k : Int} (h : k ≠ 0) : totZ [k] = sgZ k := by
  unfold totZ sgZ
  by_cases h0 : k > 0
  · have : ¬ k < 0 := by omega
    simp [h0, this]
  · have : k < 0 := by omega
    simp [h0, this]
theorem totZ_sum {w : List Int} (h : ∀ k ∈ w, k ≠ 0) : (w.map sgZ).sum = totZ w := by
  induction w with
  | nil => rfl
  | cons k w ih =>
    rw [show k :: w = [k] ++ w from rfl, totZ_app, totZ_one (h k (by simp)), ← ih fun x hx => h x (by simp [hx])]
    simp
theorem lsT_zero (n : Nat) : ((lsT n (tabF [])).map List.sum).sum = 0 := by
  have h1 : ∀ m : Nat, ((List.range m).map fun _ => (0 : Int)).sum = 0 := fun m => by
    induction m with
    | zero => rfl
    | succ m ih => rw [List.range_succ]; simp [ih]
  unfold lsT
  rw [List.map_map, ← h1 n]
  congr 1
  apply List.map_congr_left
  intro a _
  exact h1 n
theorem tab_sum {n : Nat} : ∀ {w : List Int}, Wd n w → ((lsT n (tabF w)).map List.sum).sum = totZ w := by
  have key : ∀ r v : List Int, Wd n (v ++ r) → ((lsT n (tabF v)).map List.sum).sum = totZ v → ((lsT n (tabF (v ++ r))).map List.sum).sum = totZ (v ++ r) := by
    intro r
    induction r with
    | nil => intro v _ h; simpa using h
    | cons k r ih =>
      intro v hw h
      have hc : Cr n k := hw k (by simp)
      have hv : Wd n v := fun x hx => hw x (by simp [hx])
      obtain ⟨k1, k2⟩ := hc.lt
      rw [show v ++ k :: r = (v ++ [k]) ++ r by simp] at hw ⊢
      refine ih _ hw ?_
      have hx : fW v k.natAbs < n := fW_lt hv k2
      have hy : fW v (k.natAbs - 1) < n := fW_lt hv (by omega)
      rw [totZ_app, totZ_one hc.1]
      by_cases h0 : 0 < k
      · rw [tabF_up hv hc h0, lsT_sum_bump hy hx, h]
        unfold sgZ
        rw [if_pos h0]
      · rw [tabF_down hv hc h0, lsT_sum_bump hx hy, h]
        unfold sgZ
        rw [if_neg h0]
  intro w hw
  exact key w [] hw (lsT_zero n)
theorem lsP_idx {n : Nat} {f g : Nat → Nat} (hgf : ∀ i, g (f i) = i) {j : Nat} (hj : f j < n) (hg : ∀ i, f (g i) = i) : (lsP n g).idxOf (j : Int) = f j ∧ (j : Int) ∈ lsP n g := by
  have hm : (j : Int) ∈ lsP n g := List.mem_map.mpr ⟨f j, List.mem_range.mpr hj, by rw [hgf]⟩
  refine ⟨?_, hm⟩
  have h1 := List.idxOf_lt_length_of_mem hm
  have h2 := List.getElem_idxOf h1
  rw [lsP_length] at h1
  have h3 := lsP_get (f := g) h1
  rw [List.getElem?_eq_getElem (by rw [lsP_length]; exact h1), h2] at h3
  injection h3 with h3
  have h4 : j = g ((lsP n g).idxOf (j : Int)) := by omega
  have := hg ((lsP n g).idxOf (j : Int))
  rw [← h4] at this
  exact this.symm
theorem lsP_set2 {n k : Nat} {f g : Nat → Nat} (hk : 1 ≤ k) (hn : k < n) (hgf : ∀ i, g (f i) = i) (hfg : ∀ i, f (g i) = i) : ((lsP n g).set (f (k - 1)) (k : Int)).set (f k) ((k : Int) - 1) = lsP n (fun i => tr k (g i)) := by
  apply lsP_of_get (by simp)
  intro p hp
  unfold tr
  by_cases h1 : p = f k
  · subst h1
    rw [List.getElem?_set_self (by simp; omega), if_pos (hgf k)]
    congr 1
    omega
  · have hne : f k ≠ p := fun z => h1 z.symm
    rw [List.getElem?_set_ne hne, if_neg (fun z => h1 (by rw [← hfg p, z]))]
    by_cases h2 : p = f (k - 1)
    · subst h2
      rw [List.getElem?_set_self (by simp; omega), if_pos (by rw [hgf]; omega)]
    · have hne : f (k - 1) ≠ p := fun z => h2 z.symm
      rw [List.getElem?_set_ne hne, if_neg (fun z => h2 (by rw [← hfg p, show g p = k - 1 by omega])), lsP_get hp]
theorem lsT_zeros (n : Nat) : lsT n (tabF []) = (rng 0 1 n).map fun _ => List.replicate n 0 := by
  unfold lsT rng
  rw [List.map_map]
  apply List.map_congr_left
  intro a _
  show _ = List.replicate n (0 : Int)
  apply List.ext_getElem?
  intro p
  by_cases hp : p < n
  · rw [List.getElem?_map, List.getElem?_range hp, List.getElem?_replicate, if_pos hp]; rfl
  · rw [List.getElem?_eq_none (by simp; omega), List.getElem?_eq_none (by simp; omega)]
theorem lc_zeros (j i : Nat) (n : Nat) (env : BC.Env) (hn : n ≤ 1000) (hj : j < env.length) (hi : env[i]? = some (some (.int (n : Nat)))) (hij : i ≠ j) : xLcR (tgN j) xYes (x2 mulD (xLst (xCons (xC (.int 0)) xNil)) (xVar i)) [j] env (encL .int (rng 0 1 n)) = .ok (iLL .ow .ow (lsT n (tabF []))) := by
  rw [lsT_zeros]
  refine lcR_map (fb := iL .ow) _ _ (by simp; omega) fun a _ => ⟨_, rfl, rfl, ?_, by simp⟩
  have h2 : ((wipeE env [j]).set j (some (.int a)))[i]? = some (some (.int (n : Nat))) := by
    rw [List.getElem?_set_ne (fun z => hij z.symm)]
    simp
    rw [List.getElem?_set_ne (fun z => hij z.symm), hi]
  simp -implicitDefEqProofs only [x2_eq, xLst_eq, xCons_eq, xC_eq, xNil_eq, xVar_eq, R.bind_ok, h2, rVar_some, dbor_int]
  simp -implicitDefEqProofs [show n ≤ 16777216 by omega]

/-! ## Strings -/
--needs Tab
/-! ## strings out and doubled -/
def sgZ2 (m k : Int) : Int := if k < 0 then -m else m
theorem sgZ2_self (k : Int) : sgZ2 (k.natAbs : Nat) k = k := by unfold sgZ2; split <;> omega
/-- the word without the string at a place -/
def wsZ : Nat → List Int → List Int
  | _, [] => []
  | at_, k :: w => if k.natAbs = at_ + 1 then wsZ (at_ + 1) w else if k.natAbs = at_ then wsZ (at_ - 1) w else if at_ < k.natAbs then sgZ2 (k.natAbs - 1 : Int) k :: wsZ at_ w else k :: wsZ at_ w
theorem wsZ_cons (at_ : Nat) (k : Int) (w : List Int) : wsZ at_ (k :: w) = if k.natAbs = at_ + 1 then wsZ (at_ + 1) w else if k.natAbs = at_ then wsZ (at_ - 1) w else if at_ < k.natAbs then sgZ2 (k.natAbs - 1 : Int) k :: wsZ at_ w else k :: wsZ at_ w := rfl
theorem wsZ_len : ∀ (at_ : Nat) (w : List Int), (wsZ at_ w).length ≤ w.length
  | _, [] => Nat.le_refl _
  | at_, k :: w => by
    rw [wsZ_cons]
    have h1 := wsZ_len (at_ + 1) w
    have h2 := wsZ_len (at_ - 1) w
    have h3 := wsZ_len at_ w
    simp only [List.length_cons]
    split
    · omega
    · split
      · omega
      · split <;> simp only [List.length_cons] <;> omega
/-- the word with the string at a place doubled -/
def dbZ : Nat → List Int → List Int
  | _, [] => []
  | at_, k :: w => if k.natAbs = at_ + 1 then sgZ2 (at_ + 2 : Int) k :: k :: dbZ (at_ + 1) w else if k.natAbs = at_ then k :: sgZ2 (at_ + 1 : Int) k :: dbZ (at_ - 1) w else if at_ < k.natAbs then sgZ2 (k.natAbs + 1 : Int) k :: dbZ at_ w else k :: dbZ at_ w
theorem dbZ_cons (at_ : Nat) (k : Int) (w : List Int) : dbZ at_ (k :: w) = if k.natAbs = at_ + 1 then sgZ2 (at_ + 2 : Int) k :: k :: dbZ (at_ + 1) w else if k.natAbs = at_ then k :: sgZ2 (at_ + 1 : Int) k :: dbZ (at_ - 1) w else if at_ < k.natAbs then sgZ2 (k.natAbs + 1 : Int) k :: dbZ at_ w else k :: dbZ at_ w := rfl
theorem dbZ_len : ∀ (at_ : Nat) (w : List Int), (dbZ at_ w).length ≤ 2 * w.length
  | _, [] => Nat.le_refl _
  | at_, k :: w => by
    rw [dbZ_cons]
    have h1 := dbZ_len (at_ + 1) w
    have h2 := dbZ_len (at_ - 1) w
    have h3 := dbZ_len at_ w
    simp only [List.length_cons]
    split
    · simp only [List.length_cons]; omega
    · split
      · simp only [List.length_cons]; omega
      · split <;> simp only [List.length_cons] <;> omega
theorem lsP_succ (n : Nat) (f : Nat → Nat) : lsP (n + 1) f = lsP n f ++ [(f n : Int)] := by
  unfold lsP
  rw [List.range_succ]
  simp
theorem lsP_take {n : Nat} {f : Nat → Nat} {i : Nat} (h : i ≤ n) : (lsP n f).take i = lsP i f := by
  apply lsP_of_get (by simp; omega)
  intro p hp
  rw [List.getElem?_take, if_pos hp, lsP_get (by omega)]
/-- how many of the first i are not s -/
theorem cnt_others {f : Nat → Nat} {s at_ : Nat} (hs : ∀ i, f i = s ↔ i = at_) : ∀ i, ((lsP i f).filter fun x => decide (x ≠ (s : Int))).length + (if at_ < i then 1 else 0) = i
  | 0 => by simp [lsP]
  | i + 1 => by
    have ih := cnt_others hs i
    rw [lsP_succ, List.filter_append, List.length_append]
    by_cases h : i = at_
    · have h2 : (f i : Int) = s := by rw [(hs i).mpr h]
      have h3 : ([(f i : Int)].filter fun x => decide (x ≠ (s : Int))) = [] := by simp [h2]
      rw [h3, if_pos (by omega)]
      rw [if_neg (by omega)] at ih
      simp only [List.length_nil]
      omega
    · have h2 : ¬ (f i : Int) = s := fun z => h ((hs i).mp (by omega))
      have h3 : ([(f i : Int)].filter fun x => decide (x ≠ (s : Int))) = [(f i : Int)] := by simp [h2]
      rw [h3]
      simp only [List.length_singleton]
      by_cases h4 : at_ < i
      · rw [if_pos h4] at ih; rw [if_pos (by omega)]; omega
      · rw [if_neg h4] at ih; rw [if_neg (by omega)]; omega
theorem idx_filter {p : Int → Bool} {x : Int} (hp : p x = true) : ∀ {l : List Int}, x ∈ l → (l.filter p).idxOf x = ((l.take (l.idxOf x)).filter p).length ∧ x ∈ l.filter p
  | [], h => by cases h
  | a :: l, h => by
    by_cases e : a = x
    · subst e
      simp [hp, List.filter_cons]
    · have hm : x ∈ l := by
        rcases List.mem_cons.mp h with z | z
        · exact absurd z.symm e
        · exact z
      obtain ⟨i1, i2⟩ := idx_filter hp hm
      have e2 : (a == x) = false := by simpa using e
      refine ⟨?_, List.mem_filter.mpr ⟨h, hp⟩⟩
      rw [List.idxOf_cons, e2]
      simp only [cond_false, List.take_succ_cons, List.filter_cons]
      by_cases pa : p a = true
      · rw [if_pos pa, if_pos pa, List.idxOf_cons, e2]
        simp [i1]
      · rw [if_neg pa, if_neg pa, i1]
/-- where string a hangs among the others -/
theorem idx_others {n : Nat} {f g : Nat → Nat} {s i : Nat} (hgf : ∀ i, g (f i) = i) (hfg : ∀ i, f (g i) = i) (hi : i < n) (hne : f i ≠ s) : ((lsP n f).filter fun x => decide (x ≠ (s : Int))).idxOf (f i : Int) + (if g s < i then 1 else 0) = i ∧ (f i : Int) ∈ (lsP n f).filter fun x => decide (x ≠ (s : Int)) := by
  obtain ⟨h1, h2⟩ := lsP_idx (n := n) (f := g) (g := f) hfg (j := f i) (by rw [hgf]; exact hi) hgf
  rw [hgf] at h1
  obtain ⟨h3, h4⟩ := idx_filter (p := fun x => decide (x ≠ (s : Int))) (x := (f i : Int)) (by simp; omega) h2
  refine ⟨?_, h4⟩
  rw [h3, h1, lsP_take (by omega)]
  exact cnt_others (fun j => ⟨fun z => by rw [← z, hgf], fun z => by rw [z, hfg]⟩) i

/-! ## Ribbon -/
--needs Strings
theorem sg_abs (m : Nat) (k : Int) : (sgZ2 (m : Int) k).natAbs = m := by unfold sgZ2; split <;> omega
theorem sg_sg {m : Int} {b k : Int} (hb : 0 < b) (hk : k ≠ 0) : sgZ2 m (sgZ2 b k) = sgZ2 m k := by
  have : sgZ2 b k < 0 ↔ k < 0 := by unfold sgZ2; split <;> omega
  unfold sgZ2 at *
  by_cases h : k < 0
  · rw [if_pos (this.mpr h), if_pos h]
  · rw [if_neg (fun z => h (this.mp z)), if_neg h]
theorem sg_of {m : Int} {k : Int} (h : (k.natAbs : Int) = m) : sgZ2 m k = k := by rw [← h]; exact sgZ2_self k
theorem sg_ne {m : Int} {k : Int} (h : 0 < m) : sgZ2 m k ≠ 0 := by unfold sgZ2; split <;> omega
/-- one step of the two walks, by the place -/
theorem ws1 {p : Nat} {k : Int} {w : List Int} (h : k.natAbs = p + 1) : wsZ p (k :: w) = wsZ (p + 1) w := by rw [wsZ_cons, if_pos h]
theorem ws2 {p : Nat} {k : Int} {w : List Int} (h : k.natAbs = p) : wsZ p (k :: w) = wsZ (p - 1) w := by rw [wsZ_cons, if_neg (by omega), if_pos h]
theorem ws3 {p : Nat} {k : Int} {w : List Int} (h : p + 1 < k.natAbs) : wsZ p (k :: w) = sgZ2 (k.natAbs - 1 : Int) k :: wsZ p w := by rw [wsZ_cons, if_neg (by omega), if_neg (by omega), if_pos (by omega)]
theorem ws4 {p : Nat} {k : Int} {w : List Int} (h : k.natAbs < p) : wsZ p (k :: w) = k :: wsZ p w := by rw [wsZ_cons, if_neg (by omega), if_neg (by omega), if_neg (by omega)]
theorem db1 {p : Nat} {k : Int} {w : List Int} (h : k.natAbs = p + 1) : dbZ p (k :: w) = sgZ2 (p + 2 : Int) k :: k :: dbZ (p + 1) w := by rw [dbZ_cons, if_pos h]
theorem db2 {p : Nat} {k : Int} {w : List Int} (h : k.natAbs = p) : dbZ p (k :: w) = k :: sgZ2 (p + 1 : Int) k :: dbZ (p - 1) w := by rw [dbZ_cons, if_neg (by omega), if_pos h]
theorem db3 {p : Nat} {k : Int} {w : List Int} (h : p + 1 < k.natAbs) : dbZ p (k :: w) = sgZ2 (k.natAbs + 1 : Int) k :: dbZ p w := by rw [dbZ_cons, if_neg (by omega), if_neg (by omega), if_pos (by omega)]
theorem db4 {p : Nat} {k : Int} {w : List Int} (h : k.natAbs < p) : dbZ p (k :: w) = k :: dbZ p w := by rw [dbZ_cons, if_neg (by omega), if_neg (by omega), if_neg (by omega)]
/-- the same for a crossing s with a new place -/
theorem wg1 {p m : Nat} {k : Int} {w : List Int} (h : m = p + 1) : wsZ p (sgZ2 (m : Int) k :: w) = wsZ (p + 1) w := ws1 (by rw [sg_abs]; exact h)
theorem wg2 {p m : Nat} {k : Int} {w : List Int} (h : m = p) : wsZ p (sgZ2 (m : Int) k :: w) = wsZ (p - 1) w := ws2 (by rw [sg_abs]; exact h)
theorem wg3 {p m : Nat} {k : Int} {w : List Int} (h : p + 1 < m) (hk : k ≠ 0) : wsZ p (sgZ2 (m : Int) k :: w) = sgZ2 (m - 1 : Int) k :: wsZ p w := by
  rw [ws3 (by rw [sg_abs]; exact h), sg_abs, sg_sg (by omega) hk]
theorem wg4 {p m : Nat} {k : Int} {w : List Int} (h : m < p) : wsZ p (sgZ2 (m : Int) k :: w) = sgZ2 (m : Int) k :: wsZ p w := ws4 (by rw [sg_abs]; exact h)
theorem dg1 {p m : Nat} {k : Int} {w : List Int} (h : m = p + 1) (hk : k ≠ 0) : dbZ p (sgZ2 (m : Int) k :: w) = sgZ2 (p + 2 : Int) k :: sgZ2 (m : Int) k :: dbZ (p + 1) w := by rw [db1 (by rw [sg_abs]; exact h), sg_sg (by omega) hk]
theorem dg2 {p m : Nat} {k : Int} {w : List Int} (h : m = p) (h0 : 0 < m) (hk : k ≠ 0) : dbZ p (sgZ2 (m : Int) k :: w) = sgZ2 (m : Int) k :: sgZ2 (p + 1 : Int) k :: dbZ (p - 1) w := by rw [db2 (by rw [sg_abs]; exact h), sg_sg (by omega) hk]
theorem dg3 {p m : Nat} {k : Int} {w : List Int} (h : p + 1 < m) (hk : k ≠ 0) : dbZ p (sgZ2 (m : Int) k :: w) = sgZ2 (m + 1 : Int) k :: dbZ p w := by
  rw [db3 (by rw [sg_abs]; exact h), sg_abs, sg_sg (by omega) hk]
theorem dg4 {p m : Nat} {k : Int} {w : List Int} (h : m < p) : dbZ p (sgZ2 (m : Int) k :: w) = sgZ2 (m : Int) k :: dbZ p w := db4 (by rw [sg_abs]; exact h)
theorem k_sg (k : Int) : k = sgZ2 ((k.natAbs : Nat) : Int) k := (sgZ2_self k).symm
/-- one of the two strings of a ribbon taken out -/
theorem ws_db : ∀ {w : List Int} {p : Nat}, (∀ k ∈ w, k ≠ 0) → wsZ p (dbZ p w) = w ∧ wsZ (p + 1) (dbZ p w) = w
  | [], p, _ => ⟨rfl, rfl⟩
  | k :: w, p, h => by
    have hk := h k (by simp)
    have hw : ∀ k ∈ w, k ≠ 0 := fun x hx => h x (by simp [hx])
    have hs := sgZ2_self k
    have c2 : ((p : Int) + 2) = ((p + 2 : Nat) : Int) := by omega
    have c1 : ((p : Int) + 1) = ((p + 1 : Nat) : Int) := by omega
    have c3 : ((k.natAbs : Int) + 1) = ((k.natAbs + 1 : Nat) : Int) := by omega
    rcases (by omega : k.natAbs = p + 1 ∨ k.natAbs = p ∨ p + 1 < k.natAbs ∨ k.natAbs < p) with a | a | a | a
    · rw [db1 a, c2]
      refine ⟨?_, ?_⟩
      · rw [wg3 (by omega) hk, ws1 a, (ws_db hw).1, sg_of (by omega)]
      · rw [wg1 rfl, ws4 (by omega), (ws_db hw).2]
    · rw [db2 a, c1]
      refine ⟨?_, ?_⟩
      · rw [ws2 a, wg3 (by omega) hk, (ws_db hw).1, sg_of (by omega)]
      · rw [ws4 (by omega), wg2 rfl]
        have := (ws_db (p := p - 1) hw).2
        rw [show p - 1 + 1 = p + 1 - 1 by omega] at this
        rw [this]
    · rw [db3 a, c3]
      refine ⟨?_, ?_⟩
      · rw [wg3 (by omega) hk, (ws_db hw).1, sg_of (by omega)]
      · rw [wg3 (by omega) hk, (ws_db hw).2, sg_of (by omega)]
    · rw [db4 a]
      exact ⟨by rw [ws4 a, (ws_db hw).1], by rw [ws4 (by omega), (ws_db hw).2]⟩
/-- another string taken out of a ribbon's word -/
theorem ws_db_ne : ∀ {w : List Int} {p q : Nat}, (∀ k ∈ w, k ≠ 0) → (p < q → wsZ (q + 1) (dbZ p w) = dbZ p (wsZ q w)) ∧ (q < p → wsZ q (dbZ p w) = dbZ (p - 1) (wsZ q w))
  | [], p, q, _ => ⟨fun _ => rfl, fun _ => rfl⟩
  | k :: w, p, q, h => by
    have hk := h k (by simp)
    have hw : ∀ k ∈ w, k ≠ 0 := fun x hx => h x (by simp [hx])
    have c2 : ((p : Int) + 2) = ((p + 2 : Nat) : Int) := by omega
    have c1 : ((p : Int) + 1) = ((p + 1 : Nat) : Int) := by omega
    have c3 : ((k.natAbs : Int) + 1) = ((k.natAbs + 1 : Nat) : Int) := by omega
    refine ⟨fun hpq => ?_, fun hpq => ?_⟩
    · have gt : ∀ {p q : Nat}, p < q → wsZ (q + 1) (dbZ p w) = dbZ p (wsZ q w) := fun z => (ws_db_ne hw).1 z
      rcases (by omega : k.natAbs = p + 1 ∧ q = p + 1 ∨ k.natAbs = p + 1 ∧ p + 1 < q ∨ k.natAbs = p ∨ k.natAbs < p ∨ p + 1 < k.natAbs ∧ k.natAbs = q + 1 ∨ p + 1 < k.natAbs ∧ k.natAbs = q ∨ p + 1 < k.natAbs ∧ q + 1 < k.natAbs ∨ p + 1 < k.natAbs ∧ k.natAbs < q) with ⟨a, b⟩ | ⟨a, b⟩ | a | a | ⟨a, b⟩ | ⟨a, b⟩ | ⟨a, b⟩ | ⟨a, b⟩
      · subst b
        rw [db1 a, c2, wg2 (by omega), ws2 (by omega), ws2 (by omega)]
        exact (ws_db_ne (p := p + 1) (q := p) hw).2 (by omega)
      · rw [db1 a, c2, wg4 (by omega), ws4 (by omega), ws4 (by omega), db1 a, c2, gt (by omega)]
      · rw [db2 a, c1, ws4 (by omega), wg4 (by omega), ws4 (by omega), db2 a, c1, gt (by omega)]
      · rw [db4 a, ws4 (by omega), ws4 (by omega), db4 a, gt (by omega)]
      · rw [db3 a, c3, wg1 (by omega), ws1 (by omega), gt (by omega)]
      · rw [db3 a, c3, wg2 (by omega), ws2 (by omega)]
        have := gt (p := p) (q := q - 1) (by omega)
        rw [show q - 1 + 1 = q + 1 - 1 by omega] at this
        exact this
      · rw [db3 a, c3, wg3 (by omega) hk, ws3 (by omega), gt (by omega)]
        rw [show (k.natAbs : Int) - 1 = ((k.natAbs - 1 : Nat) : Int) by omega, dg3 (by omega) hk]
        congr 2
        omega
      · rw [db3 a, c3, wg4 (by omega), ws4 (by omega), db3 a, c3, gt (by omega)]
    · have lt : ∀ {p q : Nat}, q < p → wsZ q (dbZ p w) = dbZ (p - 1) (wsZ q w) := fun z => (ws_db_ne hw).2 z
      rcases (by omega : k.natAbs = q + 1 ∧ p = q + 1 ∨ k.natAbs = q + 1 ∧ q + 1 < p ∨ k.natAbs = q ∨ k.natAbs < q ∨ q + 1 < k.natAbs ∧ k.natAbs = p + 1 ∨ q + 1 < k.natAbs ∧ k.natAbs = p ∨ q + 1 < k.natAbs ∧ p + 1 < k.natAbs ∨ q + 1 < k.natAbs ∧ k.natAbs < p) with ⟨a, b⟩ | ⟨a, b⟩ | a | a | ⟨a, b⟩ | ⟨a, b⟩ | ⟨a, b⟩ | ⟨a, b⟩
      · subst b
        rw [db2 (by omega), show ((q + 1 : Nat) : Int) + 1 = ((q + 2 : Nat) : Int) by omega, ws1 (by omega), wg1 (by omega), ws1 (by omega)]
        exact (ws_db_ne (p := q) (q := q + 1) hw).1 (by omega)
      · rw [db4 (by omega), ws1 a, ws1 a, lt (by omega)]
      · rw [db4 (by omega), ws2 a, ws2 a, lt (by omega)]
      · rw [db4 (by omega), ws4 a, ws4 a, db4 (by omega), lt (by omega)]
      · rw [db1 b, c2, wg3 (by omega) hk, ws3 (by omega), ws3 (by omega), lt (by omega), show (k.natAbs : Int) - 1 = ((p : Nat) : Int) by omega, dg1 (by omega) hk]
        congr 2
        · omega
        · congr 2
          omega
      · rw [db2 b, c1, ws3 (by omega), wg3 (by omega) hk, ws3 (by omega), lt (by omega), show (k.natAbs : Int) - 1 = ((p - 1 : Nat) : Int) by omega, dg2 (by omega) (by omega) hk]
        congr 3
        omega
      · rw [db3 b, c3, wg3 (by omega) hk, ws3 (by omega), lt (by omega), show (k.natAbs : Int) - 1 = ((k.natAbs - 1 : Nat) : Int) by omega, dg3 (by omega) hk]
        congr 2
        omega
      · rw [db4 b, ws3 (by omega), ws3 (by omega), show (k.natAbs : Int) - 1 = ((k.natAbs - 1 : Nat) : Int) by omega, dg4 (by omega), lt (by omega)]
theorem wsZ_ne : ∀ {w : List Int} {p : Nat}, (∀ k ∈ w, k ≠ 0) → ∀ k ∈ wsZ p w, k ≠ 0
  | [], p, _ => fun _ h => by cases h
  | k :: w, p, h => by
    have hk := h k (by simp)
    have hw : ∀ k ∈ w, k ≠ 0 := fun x hx => h x (by simp [hx])
    rcases (by omega : k.natAbs = p + 1 ∨ k.natAbs = p ∨ p + 1 < k.natAbs ∨ k.natAbs < p) with a | a | a | a
    · rw [ws1 a]; exact wsZ_ne hw
    · rw [ws2 a]; exact wsZ_ne hw
    · rw [ws3 a]
      intro x hx
      rcases List.mem_cons.mp hx with e | e
      · rw [e]; exact sg_ne (by omega)
      · exact wsZ_ne hw x e
    · rw [ws4 a]
      intro x hx
      rcases List.mem_cons.mp hx with e | e
      · rw [e]; exact hk
      · exact wsZ_ne hw x e
theorem dbZ_ne : ∀ {w : List Int} {p : Nat}, (∀ k ∈ w, k ≠ 0) → ∀ k ∈ dbZ p w, k ≠ 0
  | [], p, _ => fun _ h => by cases h
  | k :: w, p, h => by
    have hk := h k (by simp)
    have hw : ∀ k ∈ w, k ≠ 0 := fun x hx => h x (by simp [hx])
    rcases (by omega : k.natAbs = p + 1 ∨ k.natAbs = p ∨ p + 1 < k.natAbs ∨ k.natAbs < p) with a | a | a | a
    · rw [db1 a]
      intro x hx
      rcases List.mem_cons.mp hx with e | hx
      · rw [e]; exact sg_ne (by omega)
      rcases List.mem_cons.mp hx with e | e
      · rw [e]; exact hk
      · exact dbZ_ne hw x e
    · rw [db2 a]
      intro x hx
      rcases List.mem_cons.mp hx with e | hx
      · rw [e]; exact hk
      rcases List.mem_cons.mp hx with e | e
      · rw [e]; exact sg_ne (by omega)
      · exact dbZ_ne hw x e
    · rw [db3 a]
      intro x hx
      rcases List.mem_cons.mp hx with e | e
      · rw [e]; exact sg_ne (by omega)
      · exact dbZ_ne hw x e
    · rw [db4 a]
      intro x hx
      rcases List.mem_cons.mp hx with e | e
      · rw [e]; exact hk
      · exact dbZ_ne hw x e

/-! ## Tables2 -/
--needs Tab Ribbon
/-! ## tables of words with strings out or doubled -/
/-- the place of a string when another one is taken out -/
def outP (s i : Nat) : Nat := if i < s then i else i + 1
/-- the string from which one of a ribbon's strings comes -/
def dblP (s i : Nat) : Nat := if i ≤ s then i else i - 1
theorem ownT_abs {k : Int} {p q : Nat} (h : p + 1 ≠ k.natAbs ∨ q ≠ k.natAbs) (h2 : p ≠ k.natAbs ∨ q + 1 ≠ k.natAbs) : ownT k p q = 0 := by
  unfold ownT
  rw [if_neg (by omega), if_neg (by omega)]
theorem sg_pos {m k : Int} (hm : 0 < m) (hk : k ≠ 0) : 0 < sgZ2 m k ↔ 0 < k := by unfold sgZ2; split <;> omega
theorem ownT_sg {m : Nat} {k : Int} {p q : Nat} (hm : 0 < m) (hk : k ≠ 0) : ownT (sgZ2 (m : Int) k) p q = if 0 < k ∧ p + 1 = m ∧ q = m then 1 else if k < 0 ∧ p = m ∧ q + 1 = m then -1 else 0 := by
  unfold ownT
  rw [sg_abs]
  have h1 := sg_pos (m := (m : Int)) (by omega) hk
  have h2 : sgZ2 (m : Int) k < 0 ↔ k < 0 := by
    have := sg_ne (m := (m : Int)) (k := k) (by omega)
    omega
  simp only [h1, h2]
theorem ownT_eq (k : Int) (p q : Nat) : ownT k p q = if 0 < k ∧ p + 1 = k.natAbs ∧ q = k.natAbs then 1 else if k < 0 ∧ p = k.natAbs ∧ q + 1 = k.natAbs then -1 else 0 := rfl
/-- the table without a string -/
theorem tab_out : ∀ {w : List Int} {s a b : Nat}, (∀ k ∈ w, k ≠ 0) → tabF (wsZ s w) a b = tabF w (outP s a) (outP s b)
  | [], _, _, _, _ => rfl
  | k :: w, s, a, b, h => by
    have hk := h k (by simp)
    have hw : ∀ k ∈ w, k ≠ 0 := fun x hx => h x (by simp [hx])
    show _ = ownT k _ _ + tabF w (tr k.natAbs _) (tr k.natAbs _)
    have key : ∀ t : Nat, (∀ i, tr k.natAbs (outP s i) = outP t i) → tabF w (tr k.natAbs (outP s a)) (tr k.natAbs (outP s b)) = tabF (wsZ t w) a b := fun t ht => by
      rw [ht, ht, tab_out hw]
    rcases (by omega : k.natAbs = s + 1 ∨ k.natAbs = s ∨ s + 1 < k.natAbs ∨ k.natAbs < s) with c | c | c | c
    · rw [ws1 c, key (s + 1) fun i => ?_, ownT_abs ?_ ?_]
      · omega
      · unfold outP; split <;> split <;> omega
      · unfold outP; split <;> split <;> omega
      · unfold outP tr; (repeat' split) <;> omega
    · rw [ws2 c, key (s - 1) fun i => ?_, ownT_abs ?_ ?_]
      · omega
      · unfold outP; split <;> split <;> omega
      · unfold outP; split <;> split <;> omega
      · unfold outP tr; (repeat' split) <;> omega
    · rw [ws3 c, show (k.natAbs : Int) - 1 = ((k.natAbs - 1 : Nat) : Int) by omega]
      show ownT _ a b + tabF (wsZ s w) (tr (sgZ2 ((k.natAbs - 1 : Nat) : Int) k).natAbs a) (tr (sgZ2 ((k.natAbs - 1 : Nat) : Int) k).natAbs b) = _
      rw [ownT_sg (by omega) hk, sg_abs, tab_out hw]
      have ht : ∀ i, outP s (tr (k.natAbs - 1) i) = tr k.natAbs (outP s i) := fun i => by
        unfold outP tr; (repeat' split) <;> omega
      rw [ht, ht, ownT_eq]
      congr 1
      have h1 : ∀ i, (i = k.natAbs - 1 ↔ outP s i = k.natAbs) ∧ (i + 1 = k.natAbs - 1 ↔ outP s i + 1 = k.natAbs) := fun i => by unfold outP; split <;> omega
      simp only [(h1 a).1, (h1 a).2, (h1 b).1, (h1 b).2]
    · rw [ws4 c]
      show ownT k a b + tabF (wsZ s w) (tr k.natAbs a) (tr k.natAbs b) = _
      rw [tab_out hw]
      have ht : ∀ i, outP s (tr k.natAbs i) = tr k.natAbs (outP s i) := fun i => by
        unfold outP tr; (repeat' split) <;> omega
      rw [ht, ht, ownT_eq, ownT_eq]
      congr 1
      have h1 : ∀ i, (i = k.natAbs ↔ outP s i = k.natAbs) ∧ (i + 1 = k.natAbs ↔ outP s i + 1 = k.natAbs) := fun i => by unfold outP; split <;> omega
      simp only [(h1 a).1, (h1 a).2, (h1 b).1, (h1 b).2]
def oq (P N : Int) (m p q : Nat) : Int := if p + 1 = m ∧ q = m then P else if p = m ∧ q + 1 = m then N else 0
def oP (k : Int) : Int := if 0 < k then 1 else 0
def oN (k : Int) : Int := if k < 0 then -1 else 0
theorem own_sg {k : Int} {m : Nat} (hm : 0 < m) (hk : k ≠ 0) (p q : Nat) : ownT (sgZ2 (m : Int) k) p q = oq (oP k) (oN k) m p q := by
  rw [ownT_sg hm hk]
  unfold oq oP oN
  repeat' split
  all_goals omega
theorem own_k {k : Int} (hk : k ≠ 0) (p q : Nat) : ownT k p q = oq (oP k) (oN k) k.natAbs p q := by
  have := own_sg (k := k) (m := k.natAbs) (by omega) hk p q
  rwa [sgZ2_self] at this
theorem dblP_is (s i : Nat) : (i ≤ s ∧ dblP s i = i) ∨ (s < i ∧ dblP s i + 1 = i) := by unfold dblP; split <;> omega
theorem tr_is (k i : Nat) : (i = k ∧ tr k i = k - 1) ∨ (i + 1 = k ∧ tr k i = k) ∨ (i ≠ k ∧ i + 1 ≠ k ∧ tr k i = i) := by unfold tr; split <;> (try split) <;> omega
theorem oq_clsA {s a ta da : Nat} (ha : (a ≤ s ∧ da = a) ∨ (s < a ∧ da + 1 = a)) (ua : (a = s + 2 ∧ ta = s + 1) ∨ (a = s + 1 ∧ ta = s + 2) ∨ (a ≠ s + 2 ∧ a ≠ s + 1 ∧ ta = a)) :
    ((a + 1 = s + 2) = False ∧ (a = s + 2) = True ∧ (ta + 1 = s + 1) = False ∧ (ta = s + 1) = True ∧ (da + 1 = s + 1) = False ∧ (da = s + 1) = True) ∨ ((a + 1 = s + 2) = True ∧ (a = s + 2) = False ∧ (ta + 1 = s + 1) = False ∧ (ta = s + 1) = False ∧ (da + 1 = s + 1) = True ∧ (da = s + 1) = False) ∨
    ((a + 1 = s + 2) = False ∧ (a = s + 2) = False ∧ (ta + 1 = s + 1) = True ∧ (ta = s + 1) = False ∧ (da + 1 = s + 1) = True ∧ (da = s + 1) = False) ∨ ((a + 1 = s + 2) = False ∧ (a = s + 2) = False ∧ (ta + 1 = s + 1) = False ∧ (ta = s + 1) = False ∧ (da + 1 = s + 1) = False ∧ (da = s + 1) = False) := by
  rcases ua with ⟨h1, h2⟩ | ⟨h1, h2⟩ | ⟨h0, h1, h2⟩
  · exact .inl ⟨eq_false (by omega), eq_true (by omega), eq_false (by omega), eq_true (by omega), eq_false (by omega), eq_true (by omega)⟩
  · exact .inr (.inl ⟨eq_true (by omega), eq_false (by omega), eq_false (by omega), eq_false (by omega), eq_true (by omega), eq_false (by omega)⟩)
  · by_cases h : a = s
    · exact .inr (.inr (.inl ⟨eq_false (by omega), eq_false (by omega), eq_true (by omega), eq_false (by omega), eq_true (by omega), eq_false (by omega)⟩))
    · exact .inr (.inr (.inr ⟨eq_false (by omega), eq_false (by omega), eq_false (by omega), eq_false (by omega), eq_false (by omega), eq_false (by omega)⟩))
theorem oq_clsB {s a ta da : Nat} (hs : 0 < s) (ha : (a ≤ s ∧ da = a) ∨ (s < a ∧ da + 1 = a)) (ua : (a = s ∧ ta = s - 1) ∨ (a + 1 = s ∧ ta = s) ∨ (a ≠ s ∧ a + 1 ≠ s ∧ ta = a)) :
    ((a + 1 = s) = False ∧ (a = s) = True ∧ (ta + 1 = s + 1) = False ∧ (ta = s + 1) = False ∧ (da + 1 = s) = False ∧ (da = s) = True) ∨ ((a + 1 = s) = True ∧ (a = s) = False ∧ (ta + 1 = s + 1) = True ∧ (ta = s + 1) = False ∧ (da + 1 = s) = True ∧ (da = s) = False) ∨
    ((a + 1 = s) = False ∧ (a = s) = False ∧ (ta + 1 = s + 1) = False ∧ (ta = s + 1) = True ∧ (da + 1 = s) = False ∧ (da = s) = True) ∨ ((a + 1 = s) = False ∧ (a = s) = False ∧ (ta + 1 = s + 1) = False ∧ (ta = s + 1) = False ∧ (da + 1 = s) = False ∧ (da = s) = False) := by
  rcases ua with ⟨h1, h2⟩ | ⟨h1, h2⟩ | ⟨h0, h1, h2⟩
  · exact .inl ⟨eq_false (by omega), eq_true (by omega), eq_false (by omega), eq_false (by omega), eq_false (by omega), eq_true (by omega)⟩
  · exact .inr (.inl ⟨eq_true (by omega), eq_false (by omega), eq_true (by omega), eq_false (by omega), eq_true (by omega), eq_false (by omega)⟩)
  · by_cases h : a = s + 1
    · exact .inr (.inr (.inl ⟨eq_false (by omega), eq_false (by omega), eq_false (by omega), eq_true (by omega), eq_false (by omega), eq_true (by omega)⟩))
    · exact .inr (.inr (.inr ⟨eq_false (by omega), eq_false (by omega), eq_false (by omega), eq_false (by omega), eq_false (by omega), eq_false (by omega)⟩))
theorem oq_A {P N : Int} {s a b ta tb da db : Nat} (ha : (a ≤ s ∧ da = a) ∨ (s < a ∧ da + 1 = a)) (hb : (b ≤ s ∧ db = b) ∨ (s < b ∧ db + 1 = b)) (ua : (a = s + 2 ∧ ta = s + 1) ∨ (a = s + 1 ∧ ta = s + 2) ∨ (a ≠ s + 2 ∧ a ≠ s + 1 ∧ ta = a)) (ub : (b = s + 2 ∧ tb = s + 1) ∨ (b = s + 1 ∧ tb = s + 2) ∨ (b ≠ s + 2 ∧ b ≠ s + 1 ∧ tb = b)) : oq P N (s + 2) a b + oq P N (s + 1) ta tb = oq P N (s + 1) da db := by
  unfold oq
  rcases oq_clsA ha ua with ⟨a1, a2, a3, a4, a5, a6⟩ | ⟨a1, a2, a3, a4, a5, a6⟩ | ⟨a1, a2, a3, a4, a5, a6⟩ | ⟨a1, a2, a3, a4, a5, a6⟩ <;> rcases oq_clsA hb ub with ⟨b1, b2, b3, b4, b5, b6⟩ | ⟨b1, b2, b3, b4, b5, b6⟩ | ⟨b1, b2, b3, b4, b5, b6⟩ | ⟨b1, b2, b3, b4, b5, b6⟩ <;> simp only [a1, a2, a3, a4, a5, a6, b1, b2, b3, b4, b5, b6, and_true, and_false, if_true, if_false, Int.add_zero, Int.zero_add]
theorem oq_B {P N : Int} {s a b ta tb da db : Nat} (hs : 0 < s) (ha : (a ≤ s ∧ da = a) ∨ (s < a ∧ da + 1 = a)) (hb : (b ≤ s ∧ db = b) ∨ (s < b ∧ db + 1 = b)) (ua : (a = s ∧ ta = s - 1) ∨ (a + 1 = s ∧ ta = s) ∨ (a ≠ s ∧ a + 1 ≠ s ∧ ta = a)) (ub : (b = s ∧ tb = s - 1) ∨ (b + 1 = s ∧ tb = s) ∨ (b ≠ s ∧ b + 1 ≠ s ∧ tb = b)) : oq P N s a b + oq P N (s + 1) ta tb = oq P N s da db := by
  unfold oq
  rcases oq_clsB hs ha ua with ⟨a1, a2, a3, a4, a5, a6⟩ | ⟨a1, a2, a3, a4, a5, a6⟩ | ⟨a1, a2, a3, a4, a5, a6⟩ | ⟨a1, a2, a3, a4, a5, a6⟩ <;> rcases oq_clsB hs hb ub with ⟨b1, b2, b3, b4, b5, b6⟩ | ⟨b1, b2, b3, b4, b5, b6⟩ | ⟨b1, b2, b3, b4, b5, b6⟩ | ⟨b1, b2, b3, b4, b5, b6⟩ <;> simp only [a1, a2, a3, a4, a5, a6, b1, b2, b3, b4, b5, b6, and_true, and_false, if_true, if_false, Int.add_zero, Int.zero_add]
theorem oq_C {P N : Int} {s j a b da db : Nat} (hj : s + 1 < j) (ha : (a ≤ s ∧ da = a) ∨ (s < a ∧ da + 1 = a)) (hb : (b ≤ s ∧ db = b) ∨ (s < b ∧ db + 1 = b)) : oq P N (j + 1) a b = oq P N j da db := by
  unfold oq
  (repeat' split) <;> omega
theorem oq_D {P N : Int} {s j a b da db : Nat} (hj : j < s) (ha : (a ≤ s ∧ da = a) ∨ (s < a ∧ da + 1 = a)) (hb : (b ≤ s ∧ db = b) ∨ (s < b ∧ db + 1 = b)) : oq P N j a b = oq P N j da db := by
  unfold oq
  (repeat' split) <;> omega
theorem dbt_A (s i : Nat) : dblP (s + 1) (tr (s + 1) (tr (s + 2) i)) = tr (s + 1) (dblP s i) := by
  have h1 := tr_is (s + 2) i
  have h2 := tr_is (s + 1) (tr (s + 2) i)
  have h3 := dblP_is (s + 1) (tr (s + 1) (tr (s + 2) i))
  have h4 := dblP_is s i
  have h5 := tr_is (s + 1) (dblP s i)
  omega
theorem dbt_B (s i : Nat) (hs : 0 < s) : dblP (s - 1) (tr (s + 1) (tr s i)) = tr s (dblP s i) := by
  have h1 := tr_is s i
  have h2 := tr_is (s + 1) (tr s i)
  have h3 := dblP_is (s - 1) (tr (s + 1) (tr s i))
  have h4 := dblP_is s i
  have h5 := tr_is s (dblP s i)
  omega
theorem dbt_C (s j i : Nat) (hj : s + 1 < j) : dblP s (tr (j + 1) i) = tr j (dblP s i) := by
  have h1 := tr_is (j + 1) i
  have h3 := dblP_is s (tr (j + 1) i)
  have h4 := dblP_is s i
  have h5 := tr_is j (dblP s i)
  omega
theorem dbt_D (s j i : Nat) (hj : j < s) : dblP s (tr j i) = tr j (dblP s i) := by
  have h1 := tr_is j i
  have h3 := dblP_is s (tr j i)
  have h4 := dblP_is s i
  have h5 := tr_is j (dblP s i)
  omega
/-- the table with a string doubled -/
theorem tab_dbl : ∀ {w : List Int} {s a b : Nat}, (∀ k ∈ w, k ≠ 0) → tabF (dbZ s w) a b = tabF w (dblP s a) (dblP s b)
  | [], _, _, _, _ => rfl
  | k :: w, s, a, b, h => by
    have hk := h k (by simp)
    have hw : ∀ k ∈ w, k ≠ 0 := fun x hx => h x (by simp [hx])
    show _ = ownT k _ _ + tabF w (tr k.natAbs _) (tr k.natAbs _)
    have hok := own_k hk
    generalize hj : k.natAbs = j at hok ⊢
    rw [hok]
    rcases (by omega : j = s + 1 ∨ j = s ∨ s + 1 < j ∨ j < s) with c | c | c | c
    · subst c
      rw [db1 (by omega), show (s : Int) + 2 = ((s + 2 : Nat) : Int) by omega]
      show ownT (sgZ2 _ k) a b + (ownT k (tr (sgZ2 ((s + 2 : Nat) : Int) k).natAbs a) (tr (sgZ2 ((s + 2 : Nat) : Int) k).natAbs b) + tabF (dbZ (s + 1) w) (tr k.natAbs (tr (sgZ2 ((s + 2 : Nat) : Int) k).natAbs a)) (tr k.natAbs (tr (sgZ2 ((s + 2 : Nat) : Int) k).natAbs b))) = _
      rw [sg_abs, hj, tab_dbl hw, dbt_A, dbt_A, ← Int.add_assoc, own_sg (by omega) hk, hok]
      congr 1
      exact oq_A (dblP_is s a) (dblP_is s b) (by have := tr_is (s + 2) a; omega) (by have := tr_is (s + 2) b; omega)
    · subst c
      rw [db2 (by omega), show (j : Int) + 1 = ((j + 1 : Nat) : Int) by omega]
      show ownT k a b + (ownT (sgZ2 ((j + 1 : Nat) : Int) k) (tr k.natAbs a) (tr k.natAbs b) + tabF (dbZ (j - 1) w) (tr (sgZ2 ((j + 1 : Nat) : Int) k).natAbs (tr k.natAbs a)) (tr (sgZ2 ((j + 1 : Nat) : Int) k).natAbs (tr k.natAbs b))) = _
      rw [sg_abs, hj, tab_dbl hw, dbt_B _ _ (by omega), dbt_B _ _ (by omega), ← Int.add_assoc, own_sg (by omega) hk, hok]
      congr 1
      exact oq_B (by omega) (dblP_is j a) (dblP_is j b) (by have := tr_is j a; omega) (by have := tr_is j b; omega)
    · rw [db3 (by omega), show (k.natAbs : Int) + 1 = ((j + 1 : Nat) : Int) by omega]
      show ownT (sgZ2 ((j + 1 : Nat) : Int) k) a b + tabF (dbZ s w) (tr (sgZ2 ((j + 1 : Nat) : Int) k).natAbs a) (tr (sgZ2 ((j + 1 : Nat) : Int) k).natAbs b) = _
      rw [sg_abs, tab_dbl hw, dbt_C _ _ _ c, dbt_C _ _ _ c, own_sg (by omega) hk]
      congr 1
      exact oq_C c (dblP_is s a) (dblP_is s b)
    · rw [db4 (by omega)]
      show ownT k a b + tabF (dbZ s w) (tr k.natAbs a) (tr k.natAbs b) = _
      rw [hj, tab_dbl hw, dbt_D _ _ _ c, dbt_D _ _ _ c, hok]
      congr 1
      exact oq_D c (dblP_is s a) (dblP_is s b)

/-! ## StrWd -/
--needs Ribbon
theorem Cr_of_abs {n : Int} {k : Int} (h0 : k ≠ 0) (h : (k.natAbs : Int) < n) : Cr n k := ⟨h0, by omega, by omega⟩
theorem Cr_sg {n : Int} {m : Nat} {k : Int} (h0 : 0 < m) (h : (m : Int) < n) : Cr n (sgZ2 (m : Int) k) := Cr_of_abs (sg_ne (by omega)) (by rw [sg_abs]; exact h)
theorem wsZ_wd : ∀ {n : Nat} {w : List Int} {s : Nat}, Wd n w → s < n → Wd ((n : Int) - 1) (wsZ s w)
  | _, [], _, _, _ => .nil
  | n, k :: w, s, h, hs => by
    have hk := h.head
    have hkn := hk.lt
    rcases (by omega : k.natAbs = s + 1 ∨ k.natAbs = s ∨ s + 1 < k.natAbs ∨ k.natAbs < s) with c | c | c | c
    · rw [ws1 c]; exact wsZ_wd h.tail (by omega)
    · rw [ws2 c]; exact wsZ_wd h.tail (by omega)
    · rw [ws3 c, show (k.natAbs : Int) - 1 = ((k.natAbs - 1 : Nat) : Int) by omega]
      exact .cons (Cr_sg (by omega) (by omega)) (wsZ_wd h.tail hs)
    · rw [ws4 c]; exact .cons (Cr_of_abs hk.1 (by omega)) (wsZ_wd h.tail hs)
theorem dbZ_wd : ∀ {n : Nat} {w : List Int} {s : Nat}, Wd n w → s < n → Wd ((n : Int) + 1) (dbZ s w)
  | _, [], _, _, _ => .nil
  | n, k :: w, s, h, hs => by
    have hk := h.head
    have hkn := hk.lt
    have hk1 : Cr ((n : Int) + 1) k := Cr_of_abs hk.1 (by omega)
    rcases (by omega : k.natAbs = s + 1 ∨ k.natAbs = s ∨ s + 1 < k.natAbs ∨ k.natAbs < s) with c | c | c | c
    · rw [db1 c, show (s : Int) + 2 = ((s + 2 : Nat) : Int) by omega]
      exact .cons (Cr_sg (by omega) (by omega)) (.cons hk1 (dbZ_wd h.tail (by omega)))
    · rw [db2 c, show (s : Int) + 1 = ((s + 1 : Nat) : Int) by omega]
      exact .cons hk1 (.cons (Cr_sg (by omega) (by omega)) (dbZ_wd h.tail (by omega)))
    · rw [db3 c, show (k.natAbs : Int) + 1 = ((k.natAbs + 1 : Nat) : Int) by omega]
      exact .cons (Cr_sg (by omega) (by omega)) (dbZ_wd h.tail hs)
    · rw [db4 c]; exact .cons hk1 (dbZ_wd h.tail hs)

/-! ## Pick -/
--needs Tables2 StrWd Strings
theorem others_lsP (s : Nat) : ∀ n : Nat, (lsP n id).filter (fun x => decide (x ≠ (s : Int))) = lsP (if s < n then n - 1 else n) (outP s)
  | 0 => rfl
  | n + 1 => by
    rw [lsP_succ, List.filter_append, others_lsP s n]
    by_cases h1 : n = s
    · subst h1
      rw [if_neg (by omega), if_pos (by omega)]
      simp
    · by_cases h2 : s < n
      · rw [if_pos h2, if_pos (by omega)]
        obtain ⟨m, rfl⟩ : ∃ m, n = m + 1 := ⟨n - 1, by omega⟩
        simp only [Nat.add_sub_cancel]
        rw [lsP_succ]
        congr 1
        have : outP s m = m + 1 := by unfold outP; rw [if_neg (by omega)]
        rw [this]
        simp
        omega
      · rw [if_neg h2, if_neg (by omega), lsP_succ]
        congr 1
        have : outP s n = n := by unfold outP; rw [if_pos (by omega)]
        rw [this]
        simp
        omega
theorem both_lsP {s n : Nat} (h : s < n) : rng 0 1 (s + 1) ++ rng s 1 (n - s) = lsP (n + 1) (dblP s) := by
  refine lsP_of_get (by simp; omega) fun p hp => ?_
  unfold rng
  by_cases h1 : p < s + 1
  · rw [List.getElem?_append_left (by simpa using h1), List.getElem?_map, List.getElem?_range h1]
    have : dblP s p = p := by unfold dblP; rw [if_pos (by omega)]
    simp [this]
  · rw [List.getElem?_append_right (by simp; omega), List.getElem?_map]
    simp only [List.length_map, List.length_range]
    rw [List.getElem?_range (by omega)]
    have : dblP s p = p - 1 := by unfold dblP; rw [if_neg (by omega)]
    rw [this]
    simp
    omega
def pickZ (c : List (List Int)) (s : List Int) : List (List Int) := s.map fun a => s.map fun b => ((c[a.toNat]?.getD [])[b.toNat]?).getD 0
theorem pick_lsT {n m : Nat} {T : Nat → Nat → Int} {P : Nat → Nat} (h : ∀ i, i < m → P i < n) : pickZ (lsT n T) (lsP m P) = lsT m fun a b => T (P a) (P b) := by
  unfold pickZ lsP
  rw [List.map_map]
  conv => rhs; unfold lsT
  apply List.map_congr_left
  intro a ha
  simp only [Function.comp, Int.toNat_natCast]
  rw [lsT_get (h a (List.mem_range.mp ha)), List.map_map]
  apply List.map_congr_left
  intro b hb
  simp only [Function.comp, Int.toNat_natCast, Option.getD_some]
  rw [rwT_get (h b (List.mem_range.mp hb))]
  rfl

/-! ### _law_cell_at: 0 _law_script, 1 _law_k -/
abbrev s_law_cell_at : Stmt := topS 12
abbrev n_law_cell_at : List Str := ["_law_script", "_law_k"]
theorem sc_law_cell_at : FnScope n_law_cell_at ["_law_script", "_law_k"] (defScope s_law_cell_at) := ⟨rfl, rfl, rfl, by decide +kernel, rfl, by decide +kernel, by decide +kernel⟩
@[irreducible] noncomputable def g_law_cell_at : G := (gSeq (gIf (xB (x2 ltD (xVar 1) (xA lenD (xCons (xVar 0) xNil)))) (gRet (x2 ixD (xVar 0) (xVar 1))) gNext)
  (gRet (xC (.int 0))))
def cellZ (ns : List Int) (k : Nat) : Int := ns[k]?.getD 0
noncomputable def m_law_cell_at : List D → R D := mk (fun a : Bool × List Int × Nat => [iL (kc a.1) a.2.1, .int (a.2.2 : Nat)]) (fun a => a.2.1.length ≤ 1000000) (fun a => .ok (.int (cellZ a.2.1 a.2.2)))
theorem m_law_cell_at_eq {b : Bool} {w : List Int} {k : Nat} (h : w.length ≤ 1000000) : m_law_cell_at [iL (kc b) w, .int (k : Nat)] = .ok (.int (cellZ w k)) :=
  mk_eq (enc := fun a : Bool × List Int × Nat => [iL (kc a.1) a.2.1, .int (a.2.2 : Nat)]) (fun a b e => by
    simp -implicitDefEqProofs [kc_inj] at e
    exact Prod.ext e.1.1 (Prod.ext e.1.2 (by omega))) (b, w, k) h
theorem h_law_cell_at : ∀ ds, ds.length = 2 → D.stos ds = true → m_law_cell_at ds ≠ .no → g_law_cell_at (env0 n_law_cell_at ds) (Out (m_law_cell_at ds)) := mk_h fun ⟨b, w, k⟩ h1 => by
  show g_law_cell_at [some (iL (kc b) w), some (.int (k : Nat))] (Out (.ok (.int (cellZ w k))))
  by_cases hk : k < w.length
  · obtain ⟨x, hx⟩ : ∃ x, w[k]? = some x := ⟨_, List.getElem?_eq_getElem hk⟩
    have hk' : (k : Int) < w.length := by omega
    simp -implicitDefEqProofs only [g_law_cell_at, gSeq_eq, gIf_eq, xB_eq, x2_eq, xVar_eq, xA_eq, xCons_eq, xNil_eq, List.getElem?_cons_zero, List.getElem?_cons_succ, rVar_some, R.bind_ok, dbor_int, dbor_lst, bors_int, lenD_lst, R.of_some, encL_length, gRet_eq, ixD_lst, encL_atI, atI_natc, hx, Option.map_some, gEv_ok, bB_bl]
    simp -implicitDefEqProofs [hk', cellZ, hx]
  · have hx : w[k]? = none := List.getElem?_eq_none (by omega)
    simp -implicitDefEqProofs [g_law_cell_at, hk, hx, cellZ]

theorem ok_law_cell_at {P : Program} {w : World} {K : PySem.W.Frag} {mg : Str → Option Value} {base : Heap} {cl : String → Addr} {f : Addr} {fd : FuncData} (T : Tb K mg cl) (X : Fx K mg "_law_cell_at" s_law_cell_at f fd ["_law_script", "_law_k"]) :
    FnOk P w K mg base (L2.CX P w) 1 f fd ["_law_script", "_law_k"] (Ctr K cl 2 m_law_cell_at) :=
  okD X.F sc_law_cell_at rfl (by decide) h_law_cell_at fun cdv A outer s H E hr => by
    unfold g_law_cell_at
    exact ((sss_cons (ss_if (st_cmp op_lt o2_cmp (se_var 1) (se_blt call_len oa_len rfl T.z_len (by decide +kernel) (sa_cons (se_var 0) sa_nil))) (sss_one (ss_ret (se_ix (se_var 0) (se_var 1)))) sss_nil)
  (sss_one (ss_ret se_int))))
/-! ### _law_mix: 0 _law_cell, 1 _law_k, 2 _law_factor -/
abbrev s_law_mix : Stmt := topS 11
abbrev n_law_mix : List Str := ["_law_cell", "_law_k", "_law_factor"]
theorem sc_law_mix : FnScope n_law_mix ["_law_cell", "_law_k", "_law_factor"] (defScope s_law_mix) := ⟨rfl, rfl, rfl, by decide +kernel, rfl, by decide +kernel, by decide +kernel⟩
@[irreducible] noncomputable def g_law_mix : G := (gRet (x2 divD (x2 modD (x2 mulD (x2 addD (x2 addD (x2 mulD (x2 modD (xVar 0) (xC (.int 1000003))) (xC (.int 7))) (x2 mulD (xVar 1) (xVar 1))) (xC (.int 1))) (xVar 2)) (xC (.int 2147483647))) (xC (.int 16))))
--needs Draw
noncomputable def m_law_mix : List D → R D := mk (fun a : Int × Int × Int => [.int a.1, .int a.2.1, .int a.2.2]) (fun a => 0 ≤ a.2.1 ∧ a.2.1 ≤ 1000000 ∧ 0 ≤ a.2.2 ∧ a.2.2 ≤ 1000000) (fun a => .ok (.int (mixZ a.1 a.2.1 a.2.2)))
theorem m_law_mix_eq {c k f : Int} (h1 : 0 ≤ k) (h2 : k ≤ 1000000) (h3 : 0 ≤ f) (h4 : f ≤ 1000000) : m_law_mix [.int c, .int k, .int f] = .ok (.int (mixZ c k f)) :=
  mk_eq (enc := fun a : Int × Int × Int => [.int a.1, .int a.2.1, .int a.2.2]) (fun a b e => by simp at e; exact Prod.ext e.1 (Prod.ext e.2.1 e.2.2)) (c, k, f) ⟨h1, h2, h3, h4⟩
theorem h_law_mix : ∀ ds, ds.length = 3 → D.stos ds = true → m_law_mix ds ≠ .no → g_law_mix (env0 n_law_mix ds) (Out (m_law_mix ds)) := mk_h fun ⟨c, k, f⟩ ⟨h1, h2, h3, h4⟩ => by
  show g_law_mix [some (.int c), some (.int k), some (.int f)] _
  simp at h1 h2 h3 h4
  simp -implicitDefEqProofs [g_law_mix, mixZ]
  omega

theorem ok_law_mix {P : Program} {w : World} {K : PySem.W.Frag} {mg : Str → Option Value} {base : Heap} {cl : String → Addr} {f : Addr} {fd : FuncData} (T : Tb K mg cl) (X : Fx K mg "_law_mix" s_law_mix f fd ["_law_cell", "_law_k", "_law_factor"]) :
    FnOk P w K mg base (L2.CX P w) 1 f fd ["_law_cell", "_law_k", "_law_factor"] (Ctr K cl 3 m_law_mix) :=
  okD X.F sc_law_mix rfl (by decide) h_law_mix fun cdv A outer s H E hr => by
    unfold g_law_mix
    exact ((sss_one (ss_ret (se_div (se_mod (se_mul (se_add (se_add (se_mul (se_mod (se_var 0) se_int) se_int) (se_mul (se_var 1) (se_var 1))) se_int) (se_var 2)) se_int) se_int))))
/-! ### _law_crossing: 0 _law_number_here, 1 _law_n, 2 _law_k -/
abbrev s_law_crossing : Stmt := topS 14
abbrev n_law_crossing : List Str := ["_law_number_here", "_law_n", "_law_k"]
theorem sc_law_crossing : FnScope n_law_crossing ["_law_number_here", "_law_n"] (defScope s_law_crossing) := ⟨rfl, rfl, rfl, by decide +kernel, rfl, by decide +kernel, by decide +kernel⟩
@[irreducible] noncomputable def g_law_crossing : G := (gSeq (gAsg 2 (x2 addD (xC (.int 1)) (x2 modD (xVar 0) (x2 subD (xVar 1) (xC (.int 1))))))
  (gSeq (gIf (xB (x2 eqD (x2 modD (x2 divD (xVar 0) (xC (.int 8))) (xC (.int 2))) (xC (.int 1)))) (gRet (x1 negD (xVar 2))) gNext)
  (gRetV 2)))
--needs Draw
noncomputable def m_law_crossing : List D → R D := mk (fun a : Int × Int => [.int a.1, .int a.2]) (fun a => 2 ≤ a.2) (fun a => .ok (.int (crZ a.1 a.2)))
theorem m_law_crossing_eq {c n : Int} (h1 : 2 ≤ n) : m_law_crossing [.int c, .int n] = .ok (.int (crZ c n)) :=
  mk_eq (enc := fun a : Int × Int => [.int a.1, .int a.2]) (fun a b e => by simp at e; exact Prod.ext e.1 e.2) (c, n) h1
theorem h_law_crossing : ∀ ds, ds.length = 2 → D.stos ds = true → m_law_crossing ds ≠ .no → g_law_crossing (env0 n_law_crossing ds) (Out (m_law_crossing ds)) := mk_h fun ⟨c, n⟩ h1 => by
  show g_law_crossing [some (.int c), some (.int n), none] _
  simp at h1
  by_cases e1 : c / 8 % 2 = 1
  · simp -implicitDefEqProofs [g_law_crossing, crZ, e1]
    omega
  · simp -implicitDefEqProofs [g_law_crossing, crZ, e1]
    omega

theorem ok_law_crossing {P : Program} {w : World} {K : PySem.W.Frag} {mg : Str → Option Value} {base : Heap} {cl : String → Addr} {f : Addr} {fd : FuncData} (T : Tb K mg cl) (X : Fx K mg "_law_crossing" s_law_crossing f fd ["_law_number_here", "_law_n"]) :
    FnOk P w K mg base (L2.CX P w) 1 f fd ["_law_number_here", "_law_n"] (Ctr K cl 2 m_law_crossing) :=
  okD X.F sc_law_crossing rfl (by decide) h_law_crossing fun cdv A outer s H E hr => by
    unfold g_law_crossing
    exact ((sss_cons (ss_set 2 sc_law_crossing.nd (se_add se_int (se_mod (se_var 0) (se_sub (se_var 1) se_int))))
  (sss_cons (ss_if (st_cmp (op_eqD hr.units) o2_eq (se_mod (se_div (se_var 0) se_int) se_int) se_int) (sss_one (ss_ret (se_neg (se_var 2)))) sss_nil)
  (sss_one (ss_retV 2 (pv 2))))))
/-! ### _law_piece: 0 _law_number_here, 1 _law_n, 2 _law_k, 3 _law_other -/
abbrev s_law_piece : Stmt := topS 15
abbrev n_law_piece : List Str := ["_law_number_here", "_law_n", "_law_k", "_law_other"]
theorem sc_law_piece : FnScope n_law_piece ["_law_number_here", "_law_n"] (defScope s_law_piece) := ⟨rfl, rfl, rfl, by decide +kernel, rfl, by decide +kernel, by decide +kernel⟩
@[irreducible] noncomputable def g_law_piece : G := (gSeq (gAsg 2 (xCall m_law_crossing (xCons (xVar 0) (xCons (xVar 1) xNil))))
  (gSeq (gIf (xTOr (xB (x2 gtD (x2 modD (x2 divD (xVar 0) (xC (.int 16))) (xC (.int 4))) (xC (.int 0)))) (xB (x2 ltD (xVar 1) (xC (.int 3))))) (gRet (xLst (xCons (xVar 2) xNil))) gNext)
  (gSeq (gAsg 3 (xIf (xTAnd (xB (x2 ltD (xA absD (xCons (x2 addD (xVar 2) (xC (.int 1))) xNil)) (xVar 1))) (xB (x2 neD (x2 addD (xVar 2) (xC (.int 1))) (xC (.int 0))))) (x2 addD (xVar 2) (xC (.int 1))) (x2 subD (xVar 2) (xC (.int 1)))))
  (gRet (x2 ixD (xLst (xCons (xLst (xCons (xVar 2) (xCons (xVar 3) (xCons (xVar 2) xNil)))) (xCons (xLst (xCons (xVar 2) (xCons (xVar 3) xNil))) (xCons (xLst (xCons (xVar 2) (xCons (xVar 2) xNil))) (xCons (xLst (xCons (xVar 2) (xCons (x1 negD (xVar 3)) (xCons (xVar 2) xNil)))) xNil))))) (x2 modD (x2 divD (xVar 0) (xC (.int 64))) (xC (.int 4))))))))
--needs Draw
noncomputable def m_law_piece : List D → R D := mk (fun a : Int × Int => [.int a.1, .int a.2]) (fun a => 2 ≤ a.2 ∧ 0 ≤ a.1) (fun a => .ok (iL .ow (pieceZ a.1 a.2)))
theorem m_law_piece_eq {c n : Int} (h1 : 2 ≤ n) (h2 : 0 ≤ c) : m_law_piece [.int c, .int n] = .ok (iL .ow (pieceZ c n)) :=
  mk_eq (enc := fun a : Int × Int => [.int a.1, .int a.2]) (fun a b e => by simp at e; exact Prod.ext e.1 e.2) (c, n) ⟨h1, h2⟩
theorem h_law_piece : ∀ ds, ds.length = 2 → D.stos ds = true → m_law_piece ds ≠ .no → g_law_piece (env0 n_law_piece ds) (Out (m_law_piece ds)) := mk_h fun ⟨c, n⟩ ⟨h1, h2⟩ => by
  show g_law_piece [some (.int c), some (.int n), none, none] _
  simp at h1 h2
  have hc := crZ_cr (number := c) h1
  by_cases hA : c / 16 % 4 > 0
  · simp -implicitDefEqProofs [g_law_piece, m_law_crossing_eq h1, hA, pieceZ, encL_cons, encL_nil]
  · by_cases hB : n < 3
    · simp -implicitDefEqProofs [g_law_piece, m_law_crossing_eq h1, hA, hB, pieceZ, encL_cons, encL_nil]
    · have hi : c / 64 % 4 = 0 ∨ c / 64 % 4 = 1 ∨ c / 64 % 4 = 2 ∨ c / 64 % 4 = 3 := by omega
      by_cases hC : ((crZ c n + 1).natAbs : Int) < n
      · by_cases hD : crZ c n + 1 = 0
        · rcases hi with e | e | e | e <;> simp -implicitDefEqProofs [g_law_piece, m_law_crossing_eq h1, hA, hB, hC, hD, e, pieceZ, nextZ, encL_cons, encL_nil, atI_int]
        · rcases hi with e | e | e | e <;> simp -implicitDefEqProofs [g_law_piece, m_law_crossing_eq h1, hA, hB, hC, hD, e, pieceZ, nextZ, encL_cons, encL_nil, atI_int]
      · rcases hi with e | e | e | e <;> simp -implicitDefEqProofs [g_law_piece, m_law_crossing_eq h1, hA, hB, hC, e, pieceZ, nextZ, encL_cons, encL_nil, atI_int]

theorem ok_law_piece {P : Program} {w : World} {K : PySem.W.Frag} {mg : Str → Option Value} {base : Heap} {cl : String → Addr} {f : Addr} {fd : FuncData} (T : Tb K mg cl) (X : Fx K mg "_law_piece" s_law_piece f fd ["_law_number_here", "_law_n"]) {f_law_crossing : Addr} {fd_law_crossing : FuncData} (X_law_crossing : Fx K mg "_law_crossing" s_law_crossing f_law_crossing fd_law_crossing ["_law_number_here", "_law_n"]) (G_law_crossing : FnOk P w K mg base (L2.CX P w) 1 f_law_crossing fd_law_crossing ["_law_number_here", "_law_n"] (Ctr K cl 2 m_law_crossing)) :
    FnOk P w K mg base (L2.CX P w) 2 f fd ["_law_number_here", "_law_n"] (Ctr K cl 2 m_law_piece) :=
  okD X.F sc_law_piece rfl (by decide) h_law_piece fun cdv A outer s H E hr => by
    unfold g_law_piece
    exact ((sss_cons (ss_set 2 sc_law_piece.nd (se_call G_law_crossing hr (by decide) rfl X_law_crossing.g X_law_crossing.F.kp X_law_crossing.b (takesD (takes_of rfl rfl rfl rfl)) (sa_cons (se_var 0) (sa_cons (se_var 1) sa_nil)) (xa1 (xa1 xa0))))
  (sss_cons (ss_if (PW.pt (sw_or (st_cmp op_gt o2_cmp (se_mod (se_div (se_var 0) se_int) se_int) se_int) (sw_or1 (st_cmp op_lt o2_cmp (se_var 1) se_int)))) (sss_one (ss_ret (se_lst (sa_cons (se_var 2) sa_nil)))) sss_nil)
  (sss_cons (ss_set 3 sc_law_piece.nd (se_ifExp (PW.pt (sw_and (st_cmp op_lt o2_cmp (se_blt call_abs oa_abs rfl T.z_abs (by decide +kernel) (sa_cons (se_add (se_var 2) se_int) sa_nil)) (se_var 1)) (sw_and1 (st_cmp (op_neD hr.units) o2_ne (se_add (se_var 2) se_int) se_int)))) (se_add (se_var 2) se_int) (se_sub (se_var 2) se_int)))
  (sss_one (ss_ret (se_ix (se_lst (sa_cons (se_lst (sa_cons (se_var 2) (sa_cons (se_var 3) (sa_cons (se_var 2) sa_nil)))) (sa_cons (se_lst (sa_cons (se_var 2) (sa_cons (se_var 3) sa_nil))) (sa_cons (se_lst (sa_cons (se_var 2) (sa_cons (se_var 2) sa_nil))) (sa_cons (se_lst (sa_cons (se_var 2) (sa_cons (se_neg (se_var 3)) (sa_cons (se_var 2) sa_nil)))) sa_nil))))) (se_mod (se_div (se_var 0) se_int) se_int))))))))
/-! ### _law_drawn: 0 _law_cells, 1 _law_n, 2 _law_most, 3 _law_word, 4 _law_k, 5 _law_cell -/
abbrev s_law_drawn : Stmt := topS 16
abbrev n_law_drawn : List Str := ["_law_cells", "_law_n", "_law_most", "_law_word", "_law_k", "_law_cell"]
theorem sc_law_drawn : FnScope n_law_drawn ["_law_cells", "_law_n", "_law_most"] (defScope s_law_drawn) := ⟨rfl, rfl, rfl, by decide +kernel, rfl, by decide +kernel, by decide +kernel⟩
@[irreducible] noncomputable def g_law_drawn : G := (gSeq (gAsg 3 (xLst xNil))
  (gSeq (gFor (xSrcEnum (xVar 0)) (tgT [4, 5]) (gIf (xB (x2 gtD (xVar 1) (xC (.int 1)))) (gAsg 3 (x2 addD (xVar 3) (xCall m_law_piece (xCons (xCall m_law_mix (xCons (xVar 5) (xCons (xVar 4) (xCons (xC (.int 48271)) xNil)))) (xCons (xVar 1) xNil))))) gNext))
  (gRet (xSl (xVar 3) xP0 (xP1 (xVar 2))))))
--needs Draw
theorem drawnAll_app (n : Int) (a b : List (Int × Nat)) : drawnAll n (a ++ b) = drawnAll n a ++ drawnAll n b := by
  induction a with
  | nil => rfl
  | cons x a ih => obtain ⟨c, i⟩ := x; show _ ++ drawnAll n (a ++ b) = (_ ++ _) ++ _; rw [ih, List.append_assoc]
noncomputable def m_law_drawn : List D → R D := mk (fun a : Bool × List Int × Int × Nat => [iL (kc a.1) a.2.1, .int a.2.2.1, .int (a.2.2.2 : Nat)]) (fun a => a.2.1.length ≤ 1000 ∧ 1 ≤ a.2.2.1) (fun a => .ok (iL .ow (drawnZ a.2.1 a.2.2.1 a.2.2.2)))
theorem m_law_drawn_eq {b : Bool} {cs : List Int} {n : Int} {most : Nat} (h1 : cs.length ≤ 1000) (h2 : 1 ≤ n) : m_law_drawn [iL (kc b) cs, .int n, .int (most : Nat)] = .ok (iL .ow (drawnZ cs n most)) :=
  mk_eq (enc := fun a : Bool × List Int × Int × Nat => [iL (kc a.1) a.2.1, .int a.2.2.1, .int (a.2.2.2 : Nat)]) (fun a b e => by
    simp -implicitDefEqProofs [kc_inj] at e
    exact Prod.ext e.1.1 (Prod.ext e.1.2 (Prod.ext e.2.1 (by omega)))) (b, cs, n, most) ⟨h1, h2⟩
theorem h_law_drawn : ∀ ds, ds.length = 3 → D.stos ds = true → m_law_drawn ds ≠ .no → g_law_drawn (env0 n_law_drawn ds) (Out (m_law_drawn ds)) := mk_h fun ⟨b, cs, n, most⟩ ⟨h1, h2⟩ => by
  show g_law_drawn [some (iL (kc b) cs), some (.int n), some (.int (most : Nat)), none, none, none] _
  simp at h1 h2
  simp -implicitDefEqProofs [g_law_drawn]
  refine for_inv' (f := eZ .int) (cs.zipIdx 0) (fun rest env => ∃ w x y, env = [some (iL (kc b) cs), some (.int n), some (.int (most : Nat)), some (iL .ow w), x, y] ∧ rest.length ≤ cs.length ∧ w.length + 3 * rest.length ≤ 3 * cs.length ∧ w ++ drawnAll n rest = drawnAll n (cs.zipIdx 0)) (fun _ _ => rfl) ⟨[], none, none, rfl, by simp, by simp, rfl⟩ ?_ ?_
  · rintro ⟨c, i⟩ rest _ hmem ⟨w, x, y, rfl, hl, hl2, e⟩ ih
    have hi : i < cs.length := by
      have := List.snd_lt_of_mem_zipIdx hmem
      simpa using this
    rw [List.length_cons] at hl hl2
    simp -implicitDefEqProofs [eZ]
    by_cases hn : 1 < n
    · have hm := m_law_mix_eq (c := c) (k := (i : Int)) (f := 48271) (by omega) (by omega) (by decide) (by decide)
      have hp := m_law_piece_eq (c := mixZ c i 48271) (n := n) (by omega) (mixZ_nonneg _ _ _)
      have hpl := pieceZ_len (mixZ c i 48271) n
      simp -implicitDefEqProofs [hn, hm, hp]
      refine ⟨by omega, ih _ ⟨w ++ pieceZ (mixZ c i 48271) n, some (.int i), some (.int c), rfl, by omega, by simp; omega, ?_⟩⟩
      rw [← e, drawnAll_cons]
      simp -implicitDefEqProofs [hn]
    · simp -implicitDefEqProofs [hn]
      refine ih _ ⟨w, some (.int i), some (.int c), rfl, by omega, by omega, ?_⟩
      rw [← e, drawnAll_cons]
      simp -implicitDefEqProofs [hn]
  · rintro _ ⟨w, x, y, rfl, hl, hl2, e⟩
    simp -implicitDefEqProofs [drawnAll_nil] at e
    simp -implicitDefEqProofs [cutL_to, drawnZ, e]

theorem ok_law_drawn {P : Program} {w : World} {K : PySem.W.Frag} {mg : Str → Option Value} {base : Heap} {cl : String → Addr} {f : Addr} {fd : FuncData} (T : Tb K mg cl) (X : Fx K mg "_law_drawn" s_law_drawn f fd ["_law_cells", "_law_n", "_law_most"]) {f_law_mix : Addr} {fd_law_mix : FuncData} (X_law_mix : Fx K mg "_law_mix" s_law_mix f_law_mix fd_law_mix ["_law_cell", "_law_k", "_law_factor"]) (G_law_mix : FnOk P w K mg base (L2.CX P w) 1 f_law_mix fd_law_mix ["_law_cell", "_law_k", "_law_factor"] (Ctr K cl 3 m_law_mix)) {f_law_piece : Addr} {fd_law_piece : FuncData} (X_law_piece : Fx K mg "_law_piece" s_law_piece f_law_piece fd_law_piece ["_law_number_here", "_law_n"]) (G_law_piece : FnOk P w K mg base (L2.CX P w) 2 f_law_piece fd_law_piece ["_law_number_here", "_law_n"] (Ctr K cl 2 m_law_piece)) :
    FnOk P w K mg base (L2.CX P w) 3 f fd ["_law_cells", "_law_n", "_law_most"] (Ctr K cl 3 m_law_drawn) :=
  okD X.F sc_law_drawn rfl (by decide) h_law_drawn fun cdv A outer s H E hr => by
    unfold g_law_drawn
    exact ((sss_cons (ss_set 3 sc_law_drawn.nd (se_lst sa_nil))
  (sss_cons (ss_for (passes_of rfl) rfl (si_enum rfl T.z_enumerate (se_var 0)) (pg_tup rfl (pgs_cons (pg_name (i := 4) sc_law_drawn.nd rfl (by first | exact Or.inl rfl | exact Or.inr rfl)) (pgs_cons (pg_name (i := 5) sc_law_drawn.nd rfl (by first | exact Or.inl rfl | exact Or.inr rfl)) pgs_nil))) (ts_tup (js := [4, 5]) rfl) (sss_one (ss_if (st_cmp op_gt o2_cmp (se_var 1) se_int) (sss_one (ss_set 3 sc_law_drawn.nd (se_add (se_var 3) (se_call G_law_piece hr (by decide) rfl X_law_piece.g X_law_piece.F.kp X_law_piece.b (takesD (takes_of rfl rfl rfl rfl)) (sa_cons (se_call G_law_mix hr (by decide) rfl X_law_mix.g X_law_mix.F.kp X_law_mix.b (takesD (takes_of rfl rfl rfl rfl)) (sa_cons (se_var 5) (sa_cons (se_var 4) (sa_cons se_int sa_nil))) (xa1 (xa1 (xa1 xa0)))) (sa_cons (se_var 1) sa_nil)) (xa1 (xa1 xa0)))))) sss_nil)))
  (sss_one (ss_ret (se_slice (se_var 3) so_none (so_some (se_var 2))))))))
/-! ### _law_number: 0 _law_x -/
abbrev s_law_number : Stmt := topS 17
abbrev n_law_number : List Str := ["_law_x"]
theorem sc_law_number : FnScope n_law_number ["_law_x"] (defScope s_law_number) := ⟨rfl, rfl, rfl, by decide +kernel, rfl, by decide +kernel, by decide +kernel⟩
@[irreducible] noncomputable def g_law_number : G := (gRet (xAnd (x1 (isiD .int) (xVar 0)) (xNot (x1 (isiD .bool) (xVar 0)))))
--needs Eq
noncomputable def m_law_number : List D → R D
  | [x] => match numB x with | some b => .ok (.bl b) | none => .no
  | _ => .no
theorem m_law_number_eq {x : D} {b : Bool} (h : numB x = some b) : m_law_number [x] = .ok (.bl b) := by
  show (match numB x with | some b => R.ok (D.bl b) | none => R.no) = _
  rw [h]
theorem h_law_number : ∀ ds, ds.length = 1 → D.stos ds = true → m_law_number ds ≠ .no → g_law_number (env0 n_law_number ds) (Out (m_law_number ds)) := fun ds hl _ hn => by
  obtain ⟨x, rfl⟩ : ∃ x, ds = [x] := by
    match ds, hl with
    | [x], _ => exact ⟨x, rfl⟩
  show g_law_number [some x] (Out (m_law_number [x]))
  cases x with
  | exc c C => exact absurd rfl hn
  | _ => rw [m_law_number_eq rfl]; simp -implicitDefEqProofs [g_law_number]

theorem ok_law_number {P : Program} {w : World} {K : PySem.W.Frag} {mg : Str → Option Value} {base : Heap} {cl : String → Addr} {f : Addr} {fd : FuncData} (T : Tb K mg cl) (X : Fx K mg "_law_number" s_law_number f fd ["_law_x"]) :
    FnOk P w K mg base (L2.CX P w) 1 f fd ["_law_x"] (Ctr K cl 1 m_law_number) :=
  okD X.F sc_law_number rfl (by decide) h_law_number fun cdv A outer s H E hr => by
    unfold g_law_number
    exact ((sss_one (ss_ret (se_and (se_isi .int rfl rfl T.z_isinstance rfl rfl T.z_int (by decide +kernel) (by decide +kernel) (se_var 0)) (se_one (se_not (se_isi .bool rfl rfl T.z_isinstance rfl rfl T.z_bool (by decide +kernel) (by decide +kernel) (se_var 0))))))))
/-! ### _law_equal: 0 _law_found, 1 _law_due, 2 _law_k -/
abbrev s_law_equal : Stmt := topS 18
abbrev n_law_equal : List Str := ["_law_found", "_law_due", "_law_k"]
theorem sc_law_equal : FnScope n_law_equal ["_law_found", "_law_due"] (defScope s_law_equal) := ⟨rfl, rfl, rfl, by decide +kernel, rfl, by decide +kernel, by decide +kernel⟩
@[irreducible] noncomputable def g_law_equal (mr : List D → R D) : G := (gSeq (gIf (xB (x2 isD (xVar 1) (xC .non))) (gRet (x2 isD (xVar 0) (xC .non))) gNext)
  (gSeq (gIf (xB (x1 (isiD .int) (xVar 1))) (gRet (xAnd (xCall m_law_number (xCons (xVar 0) xNil)) (x2 eqD (xVar 0) (xVar 1)))) gNext)
  (gSeq (gIf (xB (x1 (isiD .str) (xVar 1))) (gRet (xAnd (x1 (isiD .str) (xVar 0)) (x2 eqD (xVar 0) (xVar 1)))) gNext)
  (gSeq (gIf (xTAnd (xB (x1 (isiD .tuple) (xVar 1))) (xTNot (xB (x1 (isiD .tuple) (xVar 0))))) (gRet (xC (.bl false))) gNext)
  (gSeq (gIf (xTAnd (xB (x1 (isiD .list) (xVar 1))) (xTNot (xB (x1 (isiD .list) (xVar 0))))) (gRet (xC (.bl false))) gNext)
  (gSeq (gIf (xB (x2 neD (xA lenD (xCons (xVar 0) xNil)) (xA lenD (xCons (xVar 1) xNil)))) (gRet (xC (.bl false))) gNext)
  (gSeq (gFor (xRng1 (xA lenD (xCons (xVar 1) xNil))) (tgN 2) (gIf (xTNot (xB (xCall mr (xCons (x2 ixD (xVar 0) (xVar 2)) (xCons (x2 ixD (xVar 1) (xVar 2)) xNil))))) (gRet (xC (.bl false))) gNext))
  (gRet (xC (.bl true))))))))))
--rec 5
--needs Eq
noncomputable def m_law_equal : Nat → List D → R D
  | 0, _ => .no
  | d + 1, [x, y] => if okE d x = true ∧ okE d y = true then .ok (.bl (eqE x y)) else .no
  | _, _ => .no
theorem m_law_equal_eq {d : Nat} {x y : D} (hx : okE d x = true) (hy : okE d y = true) : m_law_equal (d + 1) [x, y] = .ok (.bl (eqE x y)) := if_pos ⟨hx, hy⟩
/-- the walk over two lists or tuples of one length -/
theorem eq_walk {d : Nat} {X Y : D} {xs ys : List D} (hX : ∀ i, ixD X (.int i) = L2.atI xs i) (hY : ∀ i, ixD Y (.int i) = L2.atI ys i) (lY : lenD [Y] = some (.int ys.length)) (bX : X.bor = X) (bY : Y.bor = Y) (ox : okEs d xs = true) (oy : okEs d ys = true) (hl : xs.length = ys.length) (hn : (ys.length : Int) ≤ 1000000) (hne : X = Y ↔ xs = ys) :
    True ∧ gSeq (gFor (xRng1 (xA lenD (xCons (xVar 1) xNil))) (tgN 2) (gIf (xTNot (xB (xCall (m_law_equal (d + 1)) (xCons (x2 ixD (xVar 0) (xVar 2)) (xCons (x2 ixD (xVar 1) (xVar 2)) xNil))))) (gRet (xC (.bl false))) gNext)) (gRet (xC (.bl true))) [some X, some Y, none] (Out (.ok (.bl (eqE X Y)))) := by
  refine ⟨trivial, ?_⟩
  simp -implicitDefEqProofs [lY, bX, bY, show (ys.length : Int) < 4611686018427387904 by omega, show (-4611686018427387904 : Int) ≤ ys.length by omega]
  refine lp_rng0 (fun i env => ∃ z, env = [some X, some Y, z] ∧ ∀ j, j < i → xs[j]? = ys[j]?) ⟨none, rfl, fun j h => absurd h (Nat.not_lt_zero _)⟩ ?_ ?_
  · rintro i _ K hi ⟨z, rfl, hj⟩ ih
    obtain ⟨a, ha⟩ : ∃ a, xs[i]? = some a := ⟨_, List.getElem?_eq_getElem (by omega)⟩
    obtain ⟨b, hb⟩ : ∃ b, ys[i]? = some b := ⟨_, List.getElem?_eq_getElem (by omega)⟩
    have oa := okEs_get ox ha
    have ob := okEs_get oy hb
    obtain ⟨a1, a2, a3⟩ := okE_props d a oa
    obtain ⟨b1, b2, b3⟩ := okE_props d b ob
    have e := m_law_equal_eq oa ob
    cases hab : eqE a b with
    | true =>
      rw [hab] at e
      have hab' := eqE_iff.mp hab
      simp -implicitDefEqProofs [bX, bY, hX, hY, atI_natc, ha, hb, a1, a2, a3, b1, b2, b3, e]
      refine ih _ ⟨_, rfl, fun j hj' => ?_⟩
      by_cases q : j = i
      · subst q; rw [ha, hb, hab']
      · exact hj j (by omega)
    | false =>
      rw [hab] at e
      have hXY : eqE X Y = false := eqE_ne fun q => by
        rw [hne.mp q, hb] at ha
        injection ha with ha
        rw [ha, eqE_self] at hab
        cases hab
      simp -implicitDefEqProofs [bX, bY, hX, hY, atI_natc, ha, hb, a1, a2, a3, b1, b2, b3, e, hXY]
  · rintro _ ⟨z, rfl, hj⟩
    have : X = Y := hne.mpr (List.ext_getElem? fun j => by
      by_cases q : j < ys.length
      · exact hj j q
      · rw [List.getElem?_eq_none (by omega), List.getElem?_eq_none (by omega)])
    simp -implicitDefEqProofs [this, eqE_self]
theorem h_law_equal : ∀ d ds, ds.length = 2 → D.stos ds = true → m_law_equal (d + 1) ds ≠ .no → g_law_equal (m_law_equal d) (env0 n_law_equal ds) (Out (m_law_equal (d + 1) ds)) := fun d ds hl _ hn => by
  obtain ⟨x, y, rfl⟩ : ∃ x y, ds = [x, y] := by
    match ds, hl with
    | [x, y], _ => exact ⟨x, y, rfl⟩
  by_cases h : okE d x = true ∧ okE d y = true
  · obtain ⟨hx, hy⟩ := h
    rw [m_law_equal_eq hx hy]
    have hxx := hx
    show g_law_equal (m_law_equal d) [some x, some y, none] _
    have hnum := m_law_number_eq (okE_num hx)
    obtain ⟨x1, x2, x3⟩ := okE_props d x hx
    obtain ⟨y1, y2, y3⟩ := okE_props d y hy
    cases y with
    | bl b => cases d <;> cases hy
    | exc c C => cases d <;> cases hy
    | non =>
      cases x with
      | non => simp -implicitDefEqProofs [g_law_equal, eqE_self]
      | bl b => cases d <;> cases hx
      | exc c C => cases d <;> cases hx
      | _ => simp -implicitDefEqProofs [g_law_equal, x1, eqE]
    | int i =>
      cases x with
      | bl b => cases d <;> cases hx
      | exc c C => cases d <;> cases hx
      | int j => simp -implicitDefEqProofs [g_law_equal, hnum, isIntD, eqE_of (a := .int j) (b := .int i) (p := j = i) (by simp)]
      | _ => simp -implicitDefEqProofs [g_law_equal, x1, x2, x3, hnum, isIntD, eqE]
    | str s =>
      cases x with
      | bl b => cases d <;> cases hx
      | exc c C => cases d <;> cases hx
      | str t =>
        rw [okE_str] at hx hy
        simp -implicitDefEqProofs [g_law_equal, eqD_of ((CD.str (n := 0) t hx).ok (by decide)) ((CD.str (n := 0) s hy).ok (by decide)), eqE_of (a := .str t) (b := .str s) (p := t = s) (by simp)]
      | _ => simp -implicitDefEqProofs [g_law_equal, x1, eqE]
    | tup ys =>
      cases x with
      | bl b => cases d <;> cases hx
      | exc c C => cases d <;> cases hx
      | tup xs =>
        cases d with
        | zero => cases hx
        | succ d =>
          rw [okE_tup, Bool.and_eq_true] at hx hy
          have hw := eq_walk (d := d) (X := .tup xs) (Y := .tup ys) (xs := xs) (ys := ys) (ixD_tup xs) (ixD_tup ys) (lenD_tup ys) x1 y1 hx.2 hy.2
          by_cases hl : xs.length = ys.length
          · obtain ⟨-, hw⟩ := hw hl (by have := of_decide_eq_true hy.1; omega) (by simp)
            unfold g_law_equal
            simp only [dbor_tup, D.tup.injEq] at x1 y1
            simp -implicitDefEqProofs [-gFor_eq, x1, y1, hl] at hw ⊢
            assumption
          · have : ¬ (xs.length : Int) = ys.length := by omega
            have hne : D.tup xs ≠ D.tup ys := fun z => hl (by injection z with z; rw [z])
            simp only [dbor_tup, D.tup.injEq] at x1 y1
            simp -implicitDefEqProofs [g_law_equal, x1, y1, this, eqE_ne hne]
      | _ => simp -implicitDefEqProofs [g_law_equal, eqE]
    | lst k ys =>
      cases x with
      | bl b => cases d <;> cases hx
      | exc c C => cases d <;> cases hx
      | lst k' xs =>
        cases d with
        | zero => cases k' <;> cases hx
        | succ d =>
          cases k with
          | fz =>
            cases k' with
            | fz =>
              rw [okE_lst, Bool.and_eq_true] at hx hy
              have hw := eq_walk (d := d) (X := .lst .fz xs) (Y := .lst .fz ys) (xs := xs) (ys := ys) (ixD_lst .fz xs) (ixD_lst .fz ys) (lenD_lst .fz ys) x1 y1 hx.2 hy.2
              by_cases hl : xs.length = ys.length
              · obtain ⟨-, hw⟩ := hw hl (by have := of_decide_eq_true hy.1; omega) (by simp)
                unfold g_law_equal
                simp only [dbor_lst, bor_fz, D.lst.injEq, true_and] at x1 y1
                simp -implicitDefEqProofs [-gFor_eq, x1, y1, hl] at hw ⊢
                assumption
              · have : ¬ (xs.length : Int) = ys.length := by omega
                have hne : D.lst .fz xs ≠ D.lst .fz ys := fun z => hl (by injection z with _ z; rw [z])
                simp only [dbor_lst, bor_fz, D.lst.injEq, true_and] at x1 y1
                simp -implicitDefEqProofs [g_law_equal, x1, y1, this, eqE_ne hne]
            | _ => cases hx
          | _ => cases hy
      | _ => simp -implicitDefEqProofs [g_law_equal, eqE]
  · exact absurd (if_neg h) hn

theorem ok_law_equal {P : Program} {w : World} {K : PySem.W.Frag} {mg : Str → Option Value} {base : Heap} {cl : String → Addr} {f : Addr} {fd : FuncData} (T : Tb K mg cl) (X_law_equal : Fx K mg "_law_equal" s_law_equal f fd ["_law_found", "_law_due"]) {f_law_number : Addr} {fd_law_number : FuncData} (X_law_number : Fx K mg "_law_number" s_law_number f_law_number fd_law_number ["_law_x"]) (G_law_number : FnOk P w K mg base (L2.CX P w) 1 f_law_number fd_law_number ["_law_x"] (Ctr K cl 1 m_law_number)) {d : Nat} (G_law_equal : FnOk P w K mg base (L2.CX P w) (1 + d) f fd ["_law_found", "_law_due"] (Ctr K cl 2 (m_law_equal d))) :
    FnOk P w K mg base (L2.CX P w) (1 + d + 1) f fd ["_law_found", "_law_due"] (Ctr K cl 2 (m_law_equal (d + 1))) :=
  okD X_law_equal.F sc_law_equal rfl (by decide) (h_law_equal d) fun cdv A outer s H E hr => by
    unfold g_law_equal
    exact ((sss_cons (ss_if (st_cmp op_isD o2_is (se_var 1) se_non) (sss_one (ss_ret (se_cmp op_isD o2_is (se_var 0) se_non))) sss_nil)
  (sss_cons (ss_if (st_val (se_isi .int rfl rfl T.z_isinstance rfl rfl T.z_int (by decide +kernel) (by decide +kernel) (se_var 1))) (sss_one (ss_ret (se_and (se_call G_law_number hr (by omega) rfl X_law_number.g X_law_number.F.kp X_law_number.b (takesD (takes_of rfl rfl rfl rfl)) (sa_cons (se_var 0) sa_nil) (xa1 xa0)) (se_one (se_cmp (op_eqD hr.units) o2_eq (se_var 0) (se_var 1)))))) sss_nil)
  (sss_cons (ss_if (st_val (se_isi .str rfl rfl T.z_isinstance rfl rfl T.z_str (by decide +kernel) (by decide +kernel) (se_var 1))) (sss_one (ss_ret (se_and (se_isi .str rfl rfl T.z_isinstance rfl rfl T.z_str (by decide +kernel) (by decide +kernel) (se_var 0)) (se_one (se_cmp (op_eqD hr.units) o2_eq (se_var 0) (se_var 1)))))) sss_nil)
  (sss_cons (ss_if (PW.pt (sw_and (st_val (se_isi .tuple rfl rfl T.z_isinstance rfl rfl T.z_tuple (by decide +kernel) (by decide +kernel) (se_var 1))) (sw_and1 (st_not (st_val (se_isi .tuple rfl rfl T.z_isinstance rfl rfl T.z_tuple (by decide +kernel) (by decide +kernel) (se_var 0))))))) (sss_one (ss_ret se_bl)) sss_nil)
  (sss_cons (ss_if (PW.pt (sw_and (st_val (se_isi .list rfl rfl T.z_isinstance rfl rfl T.z_list (by decide +kernel) (by decide +kernel) (se_var 1))) (sw_and1 (st_not (st_val (se_isi .list rfl rfl T.z_isinstance rfl rfl T.z_list (by decide +kernel) (by decide +kernel) (se_var 0))))))) (sss_one (ss_ret se_bl)) sss_nil)
  (sss_cons (ss_if (st_cmp (op_neD hr.units) o2_ne (se_blt call_len oa_len rfl T.z_len (by decide +kernel) (sa_cons (se_var 0) sa_nil)) (se_blt call_len oa_len rfl T.z_len (by decide +kernel) (sa_cons (se_var 1) sa_nil))) (sss_one (ss_ret se_bl)) sss_nil)
  (sss_cons (ss_for (passes_of rfl) rfl (si_rng1 rfl T.z_range (se_blt call_len oa_len rfl T.z_len (by decide +kernel) (sa_cons (se_var 1) sa_nil))) (pg_name (i := 2) sc_law_equal.nd rfl (by first | exact Or.inl rfl | exact Or.inr rfl)) ts_name (sss_one (ss_if (st_not (st_val (se_call G_law_equal hr (by omega) rfl X_law_equal.g X_law_equal.F.kp X_law_equal.b (takesD (takes_of rfl rfl rfl rfl)) (sa_cons (se_ix (se_var 0) (se_var 2)) (sa_cons (se_ix (se_var 1) (se_var 2)) sa_nil)) (xa1 (xa1 xa0))))) (sss_one (ss_ret se_bl)) sss_nil)))
  (sss_one (ss_ret se_bl))))))))))
/-! ### _law_picked: 0 _law_counts, 1 _law_strings_here, 2 _law_a, 3 _law_b -/
abbrev s_law_picked : Stmt := topS 20
abbrev n_law_picked : List Str := ["_law_counts", "_law_strings_here", "_law_a", "_law_b"]
theorem sc_law_picked : FnScope n_law_picked ["_law_counts", "_law_strings_here"] (defScope s_law_picked) := ⟨rfl, rfl, rfl, by decide +kernel, rfl, by decide +kernel, by decide +kernel⟩
@[irreducible] noncomputable def g_law_picked : G := (gRet (xLc (xSrc (xVar 1)) (tgN 2) xYes (xLc (xSrc (xVar 1)) (tgN 3) xYes (x2 ixD (x2 ixD (xVar 0) (xVar 2)) (xVar 3)) [3]) [2]))
--needs Pick
noncomputable def m_law_picked : List D → R D := mk (fun a : List (List Int) × List Int => [iLL .fz .fz a.1, iL .fz a.2]) (fun a => a.2.length ≤ 1000 ∧ (∀ x ∈ a.2, 0 ≤ x ∧ x < a.1.length) ∧ ∀ r ∈ a.1, r.length = a.1.length) (fun a => .ok (iLL .ow .ow (pickZ a.1 a.2)))
theorem m_law_picked_eq {c : List (List Int)} {s : List Int} (h1 : s.length ≤ 1000) (h2 : ∀ x ∈ s, 0 ≤ x ∧ x < c.length) (h3 : ∀ r ∈ c, r.length = c.length) : m_law_picked [iLL .fz .fz c, iL .fz s] = .ok (iLL .ow .ow (pickZ c s)) :=
  mk_eq (enc := fun a : List (List Int) × List Int => [iLL .fz .fz a.1, iL .fz a.2]) (fun a b e => by simp at e; exact Prod.ext e.1 e.2) (c, s) ⟨h1, h2, h3⟩
theorem h_law_picked : ∀ ds, ds.length = 2 → D.stos ds = true → m_law_picked ds ≠ .no → g_law_picked (env0 n_law_picked ds) (Out (m_law_picked ds)) := mk_h fun ⟨c, s⟩ ⟨h1, h2, h3⟩ => by
  show g_law_picked [some (iLL .fz .fz c), some (iL .fz s), none, none] (Out (.ok (iLL .ow .ow (pickZ c s))))
  replace h1 : s.length ≤ 1000 := h1
  replace h2 : ∀ x ∈ s, 0 ≤ x ∧ x < (c.length : Int) := h2
  replace h3 : ∀ r ∈ c, r.length = c.length := h3
  have key : xLcR (tgN 2) xYes (xLc (xSrc (xVar 1)) (tgN 3) xYes (x2 ixD (x2 ixD (xVar 0) (xVar 2)) (xVar 3)) [3]) [2] [some (iLL .fz .fz c), some (iL .fz s), none, none] (encL .int s) =   .ok (iLL .ow .ow (pickZ c s)) := by
    unfold pickZ
    refine lcR_map (tg := tgN 2) (c := xYes) (fa := .int) (fb := iL .ow) s (fun a => s.map fun b => ((c[a.toNat]?.getD [])[b.toNat]?).getD 0) (by omega) fun a ha => ⟨_, rfl, rfl, ?_, by simp⟩
    have ha2 := h2 a ha
    obtain ⟨r, hr⟩ : ∃ r, c[a.toNat]? = some r := ⟨_, List.getElem?_eq_getElem (by omega)⟩
    have hrl := h3 r (List.mem_of_getElem? hr)
    have in2 : xLcR (tgN 3) xYes (x2 ixD (x2 ixD (xVar 0) (xVar 2)) (xVar 3)) [3] [some (iLL .fz .fz c), some (iL .fz s), some (.int a), none] (encL .int s) = .ok (iL .ow (s.map fun b => ((c[a.toNat]?.getD [])[b.toNat]?).getD 0)) := by
      refine lcR_map (tg := tgN 3) (c := xYes) (fa := .int) (fb := .int) s (fun b => ((c[a.toNat]?.getD [])[b.toNat]?).getD 0) (by omega) fun b hb => ⟨_, rfl, rfl, ?_, rfl⟩
      have hb2 := h2 b hb
      obtain ⟨z, hz⟩ : ∃ z, r[b.toNat]? = some z := ⟨_, List.getElem?_eq_getElem (by omega)⟩
      simp -implicitDefEqProofs [atI_int ha2.1, atI_int hb2.1, hr, hz]
    simp -implicitDefEqProofs [in2]
  simp -implicitDefEqProofs [g_law_picked, key]

theorem ok_law_picked {P : Program} {w : World} {K : PySem.W.Frag} {mg : Str → Option Value} {base : Heap} {cl : String → Addr} {f : Addr} {fd : FuncData} (T : Tb K mg cl) (X : Fx K mg "_law_picked" s_law_picked f fd ["_law_counts", "_law_strings_here"]) :
    FnOk P w K mg base (L2.CX P w) 1 f fd ["_law_counts", "_law_strings_here"] (Ctr K cl 2 m_law_picked) :=
  okD X.F sc_law_picked rfl (by decide) h_law_picked fun cdv A outer s H E hr => by
    unfold g_law_picked
    exact ((sss_one (ss_ret (se_lc [("_law_a", 2)] rfl sc_law_picked.nd (si_list (se_var 1)) (blkOk_by (N := n_law_picked) (sc := (defScope s_law_picked)) (by decide +kernel)) (fun _ _ _ _ _ => (pg_name (i := 2) sc_law_picked.nd rfl (by first | exact Or.inl rfl | exact Or.inr rfl))) (fun _ _ _ _ _ => spt_nil) (fun _ _ _ _ _ => (se_lc [("_law_b", 3)] rfl sc_law_picked.nd (si_list (se_var 1)) (blkOk_by (N := n_law_picked) (sc := (inSc (defScope s_law_picked) (eSc (sE (qS (defBody s_law_picked) 0))))) (by decide +kernel)) (fun _ _ _ _ _ => (pg_name (i := 3) sc_law_picked.nd rfl (by first | exact Or.inl rfl | exact Or.inr rfl))) (fun _ _ _ _ _ => spt_nil) (fun _ _ _ _ _ => (se_ix (se_ix (se_var 0) (se_var 2)) (se_var 3))) (te_name (j := 3) (by decide)))) (te_name (j := 2) (by decide))))))
/-! ### _law_strings: 0 _law_seed, 1 _law_least, 2 _law_most -/
abbrev s_law_strings : Stmt := topS 13
abbrev n_law_strings : List Str := ["_law_seed", "_law_least", "_law_most"]
theorem sc_law_strings : FnScope n_law_strings ["_law_seed", "_law_least", "_law_most"] (defScope s_law_strings) := ⟨rfl, rfl, rfl, by decide +kernel, rfl, by decide +kernel, by decide +kernel⟩
@[irreducible] noncomputable def g_law_strings : G := (gSeq (gIf (xTAnd (xB (x2 eqD (xVar 1) (xC (.int 1)))) (xB (x2 eqD (x2 modD (xVar 0) (xC (.int 13))) (xC (.int 5))))) (gRet (xC (.int 1))) gNext)
  (gSeq (gAsg 1 (xA max2D (xCons (xC (.int 2)) (xCons (xVar 1) xNil))))
  (gRet (x2 addD (xVar 1) (x2 modD (x2 divD (xVar 0) (xC (.int 13))) (x2 addD (x2 subD (xVar 2) (xVar 1)) (xC (.int 1))))))))
--needs Draw
noncomputable def m_law_strings : List D → R D := mk (fun a : Int × Int × Int => [.int a.1, .int a.2.1, .int a.2.2]) (fun a => 1 ≤ a.2.1 ∧ 2 ≤ a.2.2 ∧ a.2.1 ≤ a.2.2 ∧ a.2.2 ≤ 100) (fun a => .ok (.int (strZ a.1 a.2.1 a.2.2)))
theorem m_law_strings_eq {c k f : Int} (h1 : 1 ≤ k) (h2 : 2 ≤ f) (h3 : k ≤ f) (h4 : f ≤ 100) : m_law_strings [.int c, .int k, .int f] = .ok (.int (strZ c k f)) :=
  mk_eq (enc := fun a : Int × Int × Int => [.int a.1, .int a.2.1, .int a.2.2]) (fun a b e => by simp at e; exact Prod.ext e.1 (Prod.ext e.2.1 e.2.2)) (c, k, f) ⟨h1, h2, h3, h4⟩
theorem h_law_strings : ∀ ds, ds.length = 3 → D.stos ds = true → m_law_strings ds ≠ .no → g_law_strings (env0 n_law_strings ds) (Out (m_law_strings ds)) := mk_h fun ⟨c, k, f⟩ ⟨h1, h2, h3, h4⟩ => by
  show g_law_strings [some (.int c), some (.int k), some (.int f)] _
  simp at h1 h2 h3 h4
  by_cases e1 : k = 1
  · by_cases e2 : c % 13 = 5
    · simp -implicitDefEqProofs [g_law_strings, strZ, e1, e2]
    · simp -implicitDefEqProofs [g_law_strings, strZ, e1, e2]
      omega
  · simp -implicitDefEqProofs [g_law_strings, strZ, e1]
    omega

theorem ok_law_strings {P : Program} {w : World} {K : PySem.W.Frag} {mg : Str → Option Value} {base : Heap} {cl : String → Addr} {f : Addr} {fd : FuncData} (T : Tb K mg cl) (X : Fx K mg "_law_strings" s_law_strings f fd ["_law_seed", "_law_least", "_law_most"]) :
    FnOk P w K mg base (L2.CX P w) 1 f fd ["_law_seed", "_law_least", "_law_most"] (Ctr K cl 3 m_law_strings) :=
  okD X.F sc_law_strings rfl (by decide) h_law_strings fun cdv A outer s H E hr => by
    unfold g_law_strings
    exact ((sss_cons (ss_if (PW.pt (sw_and (st_cmp (op_eqD hr.units) o2_eq (se_var 1) se_int) (sw_and1 (st_cmp (op_eqD hr.units) o2_eq (se_mod (se_var 0) se_int) se_int)))) (sss_one (ss_ret se_int)) sss_nil)
  (sss_cons (ss_set 1 sc_law_strings.nd (se_blt (call_max2 rfl) oa_max2 rfl T.z_max (by decide +kernel) (sa_cons se_int (sa_cons (se_var 1) sa_nil))))
  (sss_one (ss_ret (se_add (se_var 1) (se_mod (se_div (se_var 0) se_int) (se_add (se_sub (se_var 2) (se_var 1)) se_int))))))))
/-! ### _law_table: 0 _law_n, 1 _law_word, 2 _law_order, 3 _law_counts, 4 _law_k, 5 _law_a, 6 _law_b -/
abbrev s_law_table : Stmt := topS 19
abbrev n_law_table : List Str := ["_law_n", "_law_word", "_law_order", "_law_counts", "_law_k", "_law_a", "_law_b"]
theorem sc_law_table : FnScope n_law_table ["_law_n", "_law_word"] (defScope s_law_table) := ⟨rfl, rfl, rfl, by decide +kernel, rfl, by decide +kernel, by decide +kernel⟩
@[irreducible] noncomputable def g_law_table : G := (gSeq (gAsg 2 (x1 lrngD (xVar 0)))
  (gSeq (gAsg 3 (xLc (xRng1 (xVar 0)) (tgN 5) xYes (xLc (xRng1 (xVar 0)) (tgN 6) xYes (xC (.int 0)) [6]) [5]))
  (gSeq (gFor (xSrc (xVar 1)) (tgN 4) (gSeq (gPar 5 6 (xCons (x2 ixD (xVar 2) (x2 subD (xA absD (xCons (xVar 4) xNil)) (xC (.int 1)))) (xCons (x2 ixD (xVar 2) (xA absD (xCons (xVar 4) xNil))) xNil)))
  (gSeq (gIf (xB (x2 gtD (xVar 4) (xC (.int 0)))) (gSetI 3 [(xVar 5)] (xVar 6) (x2 addD (x2 ixD (x2 ixD (xVar 3) (xVar 5)) (xVar 6)) (xC (.int 1)))) (gSetI 3 [(xVar 6)] (xVar 5) (x2 subD (x2 ixD (x2 ixD (xVar 3) (xVar 6)) (xVar 5)) (xC (.int 1)))))
  (gSeq (gSetI 2 [] (x2 subD (xA absD (xCons (xVar 4) xNil)) (xC (.int 1))) (xVar 6))
  (gSetI 2 [] (xA absD (xCons (xVar 4) xNil)) (xVar 5))))))
  (gRetV 3))))
--needs Tab
noncomputable def m_law_table : List D → R D := mk (fun a : Nat × List Int => [.int (a.1 : Nat), iL .fz a.2]) (fun a => a.1 ≤ 100 ∧ Wd a.1 a.2) (fun a => .ok (iLL .ow .ow (lsT a.1 (tabF a.2))))
theorem m_law_table_eq {n : Nat} {w : List Int} (h1 : n ≤ 100) (h3 : Wd n w) : m_law_table [.int (n : Nat), iL .fz w] = .ok (iLL .ow .ow (lsT n (tabF w))) :=
  mk_eq (enc := fun a : Nat × List Int => [.int (a.1 : Nat), iL .fz a.2]) (fun a b e => by simp at e; exact Prod.ext (by omega) e.2) (n, w) ⟨h1, h3⟩
theorem lsT_zeros' (n : Nat) : lsT n (tabF []) = (rng 0 1 n).map fun _ => (rng 0 1 n).map fun _ => (0 : Int) := by
  unfold lsT rng
  rw [List.map_map]
  apply List.map_congr_left
  intro a _
  simp only [Function.comp]
  rw [List.map_map]
  rfl
theorem h_law_table : ∀ ds, ds.length = 2 → D.stos ds = true → m_law_table ds ≠ .no → g_law_table (env0 n_law_table ds) (Out (m_law_table ds)) := mk_h fun ⟨n, w⟩ ⟨h1, h3⟩ => by
  show g_law_table [some (.int (n : Nat)), some (iL .fz w), none, none, none, none, none] _
  replace h1 : n ≤ 100 := h1
  replace h3 : Wd n w := h3
  have hz : ∀ A B : Option D, xLcR (tgN 5) xYes (xLc (xRng1 (xVar 0)) (tgN 6) xYes (xC (.int 0)) [6]) [5] [some (.int (n : Nat)), A, B, none, none, none, none] (encL .int (rng 0 1 n)) = .ok (iLL .ow .ow (lsT n (tabF []))) := fun A B => by
    rw [lsT_zeros']
    refine lcR_map (fb := iL .ow) _ (fun _ => (rng 0 1 n).map fun _ => (0 : Int)) (by simp; omega) fun a _ => ⟨_, rfl, rfl, ?_, by simp⟩
    have : ∀ E, xLcR (tgN 6) xYes (xC (.int 0)) [6] [some (.int (n : Nat)), A, B, none, none, E, none] (encL .int (rng 0 1 n)) = .ok (iL .ow ((rng 0 1 n).map fun _ => (0 : Int))) := fun E => lcR_map (fb := .int) _ (fun _ => (0 : Int)) (by simp; omega) fun a _ => ⟨_, rfl, rfl, by simp -implicitDefEqProofs [], rfl⟩
    simp -implicitDefEqProofs [this, show (n : Int) < 4611686018427387904 by omega, show (-4611686018427387904 : Int) ≤ n by omega]
  simp -implicitDefEqProofs [g_law_table, hz, rng_lsP, show (n : Int) ≤ 16777216 by omega, show (n : Int) < 4611686018427387904 by omega, show (-4611686018427387904 : Int) ≤ n by omega]
  rw [← rng_lsP]
  simp -implicitDefEqProofs [hz]
  rw [rng_lsP]
  refine lp_inv (f := D.int) (fun rest env => ∃ v x y z, env = [some (.int (n : Nat)), some (iL .fz w), some (iL .ow (lsP n (fW v))), some (iLL .ow .ow (lsT n (tabF v))), x, y, z] ∧ v ++ rest = w) (fun _ => rfl) w ⟨[], none, none, none, rfl, rfl⟩ ?_ ?_
  · rintro k rest _ K ⟨v, x, y, z, rfl, e⟩ ih
    have hc : Cr n k := h3 k (by rw [← e]; simp)
    have hv : Wd n v := fun x hx => h3 x (by rw [← e]; simp [hx])
    obtain ⟨k1, k2⟩ := hc.lt
    have tu := tabF_up hv hc
    have td := tabF_down hv hc
    have fin : ∀ y z, K [some (.int (n : Nat)), some (iL .fz w), some (iL .ow (((lsP n (fW v)).set (k.natAbs - 1) (fW v k.natAbs)).set k.natAbs (fW v (k.natAbs - 1)))), some (iLL .ow .ow (lsT n (tabF (v ++ [k])))), some (.int k), y, z] := fun y z => by
      refine ih _ ⟨v ++ [k], some (.int k), y, z, ?_, by simp [e]⟩
      rw [fW_snoc, ← lsP_sw k1 k2, List.set_comm _ _ (by omega)]
    generalize hj : k.natAbs = j at k1 k2 tu td fin
    have ha : L2.atI (lsP n (fW v)) (j : Int) = some (fW v j : Int) := lsP_atI k2
    have hb : L2.atI (lsP n (fW v)) ((j : Int) - 1) = some (fW v (j - 1) : Int) := by
      rw [show (j : Int) - 1 = ((j - 1 : Nat) : Int) by omega]
      exact lsP_atI (by omega)
    have hx : L2.ixN n (j : Int) = some j := ixN_nat k2
    have hy : L2.ixN n ((j : Int) - 1) = some (j - 1) := by
      rw [show (j : Int) - 1 = ((j - 1 : Nat) : Int) by omega]
      exact ixN_nat (by omega)
    have l1 : fW v j < n := fW_lt hv k2
    have l2 : fW v (j - 1) < n := fW_lt hv (by omega)
    have r1 : ∀ a, a < n → L2.atI (lsT n (tabF v)) (a : Int) = some (rwT n (tabF v) a) := fun a h => by rw [atI_natc, lsT_get h]
    have r2 : ∀ a b, b < n → L2.atI (rwT n (tabF v) a) (b : Int) = some (tabF v a b) := fun a b h => by rw [atI_natc, rwT_get h]
    have x1 : L2.ixN n ((fW v j : Nat) : Int) = some (fW v j) := ixN_nat l1
    have x2 : L2.ixN n ((fW v (j - 1) : Nat) : Int) = some (fW v (j - 1)) := ixN_nat l2
    by_cases h0 : k > 0
    · simp -implicitDefEqProofs [hj, ha, hb, h0]
      rw [plK_one (n := (fW v (j - 1) : Nat)) _ _ _ (by simp -implicitDefEqProofs [])]
      simp -implicitDefEqProofs [r1 _ l2, r2 _ _ l1, x1, x2, hx, hy, hj, ha, hb]
      rw [setP_one _ _ _ _ (fW v (j - 1)) (by simp; exact x2)]
      simp -implicitDefEqProofs [lsT_set l2 l1, ← tu h0]
      exact fin _ _
    · simp -implicitDefEqProofs [hj, ha, hb, h0]
      rw [plK_one (n := (fW v j : Nat)) _ _ _ (by simp -implicitDefEqProofs [])]
      simp -implicitDefEqProofs [r1 _ l1, r2 _ _ l2, x1, x2, hx, hy, hj, ha, hb]
      rw [setP_one _ _ _ _ (fW v j) (by simp; exact x1)]
      simp -implicitDefEqProofs [Int.sub_eq_add_neg, lsT_set l1 l2, ← td h0]
      exact fin _ _
  · rintro _ ⟨v, x, y, z, rfl, e⟩
    simp at e
    simp -implicitDefEqProofs [e]

theorem ok_law_table {P : Program} {w : World} {K : PySem.W.Frag} {mg : Str → Option Value} {base : Heap} {cl : String → Addr} {f : Addr} {fd : FuncData} (T : Tb K mg cl) (X : Fx K mg "_law_table" s_law_table f fd ["_law_n", "_law_word"]) :
    FnOk P w K mg base (L2.CX P w) 1 f fd ["_law_n", "_law_word"] (Ctr K cl 2 m_law_table) :=
  okD X.F sc_law_table rfl (by decide) h_law_table fun cdv A outer s H E hr => by
    unfold g_law_table
    exact ((sss_cons (ss_set 2 sc_law_table.nd (se_listRng rfl rfl T.z_list rfl T.z_range (se_var 0)))
  (sss_cons (ss_setLc 3 [("_law_a", 5)] rfl sc_law_table.nd (sw_true rfl rfl rfl (by decide +kernel)) (si_rng1 rfl T.z_range (se_var 0)) (blkOk_by (N := n_law_table) (sc := (defScope s_law_table)) (by decide +kernel)) (fun _ _ _ _ _ => (pg_name (i := 5) sc_law_table.nd rfl (by first | exact Or.inl rfl | exact Or.inr rfl))) (fun _ _ _ _ _ => spt_nil) (fun _ _ _ _ _ => (se_lc [("_law_b", 6)] rfl sc_law_table.nd (si_rng1 rfl T.z_range (se_var 0)) (blkOk_by (N := n_law_table) (sc := (inSc (defScope s_law_table) (eSc (sE (qS (defBody s_law_table) 1))))) (by decide +kernel)) (fun _ _ _ _ _ => (pg_name (i := 6) sc_law_table.nd rfl (by first | exact Or.inl rfl | exact Or.inr rfl))) (fun _ _ _ _ _ => spt_nil) (fun _ _ _ _ _ => se_int) (te_name (j := 6) (by decide)))) (te_name (j := 5) (by decide)))
  (sss_cons (ss_for (passes_of rfl) rfl (si_list (se_var 1)) (pg_name (i := 4) sc_law_table.nd rfl (by first | exact Or.inl rfl | exact Or.inr rfl)) ts_name (sss_cons (ss_par 5 6 rfl sc_law_table.nd (by decide) (sa_cons (se_ix (se_var 2) (se_sub (se_blt call_abs oa_abs rfl T.z_abs (by decide +kernel) (sa_cons (se_var 4) sa_nil)) se_int)) (sa_cons (se_ix (se_var 2) (se_blt call_abs oa_abs rfl T.z_abs (by decide +kernel) (sa_cons (se_var 4) sa_nil))) sa_nil)) rfl)
  (sss_cons (ss_if (st_cmp op_gt o2_cmp (se_var 4) se_int) (sss_one (ss_setI (se_add (se_ix (se_ix (se_var 3) (se_var 5)) (se_var 6)) se_int) (sp_ix (sp_var 3) (se_var 5)) (se_var 6))) (sss_one (ss_setI (se_sub (se_ix (se_ix (se_var 3) (se_var 6)) (se_var 5)) se_int) (sp_ix (sp_var 3) (se_var 6)) (se_var 5))))
  (sss_cons (ss_setI (se_var 6) (sp_var 2) (se_sub (se_blt call_abs oa_abs rfl T.z_abs (by decide +kernel) (sa_cons (se_var 4) sa_nil)) se_int))
  (sss_one (ss_setI (se_var 5) (sp_var 2) (se_blt call_abs oa_abs rfl T.z_abs (by decide +kernel) (sa_cons (se_var 4) sa_nil))))))))
  (sss_one (ss_retV 3 (pv 3)))))))
/-! ### with_sign: 0 number, 1 k -/
abbrev s_with_sign : Stmt := topS 5
abbrev n_with_sign : List Str := ["number", "k"]
theorem sc_with_sign : FnScope n_with_sign ["number", "k"] (defScope s_with_sign) := ⟨rfl, rfl, rfl, by decide +kernel, rfl, by decide +kernel, by decide +kernel⟩
@[irreducible] noncomputable def g_with_sign : G := (gSeq (gIf (xB (x2 ltD (xVar 1) (xC (.int 0)))) (gRet (x1 negD (xVar 0))) gNext)
  (gRetV 0))
--needs Strings
noncomputable def m_with_sign : List D → R D := mk (fun a : Int × Int => [.int a.1, .int a.2]) (fun _ => True) (fun a => .ok (.int (sgZ2 a.1 a.2)))
theorem m_with_sign_eq (m k : Int) : m_with_sign [.int m, .int k] = .ok (.int (sgZ2 m k)) :=
  mk_eq (enc := fun a : Int × Int => [.int a.1, .int a.2]) (fun a b e => by simp at e; exact Prod.ext e.1 e.2) (m, k) trivial
theorem h_with_sign : ∀ ds, ds.length = 2 → D.stos ds = true → m_with_sign ds ≠ .no → g_with_sign (env0 n_with_sign ds) (Out (m_with_sign ds)) := mk_h fun ⟨m, k⟩ _ => by
  show g_with_sign [some (.int m), some (.int k)] (Out (.ok (.int (sgZ2 m k))))
  by_cases h : k < 0 <;> simp -implicitDefEqProofs [g_with_sign, sgZ2, h]

theorem ok_with_sign {P : Program} {w : World} {K : PySem.W.Frag} {mg : Str → Option Value} {base : Heap} {cl : String → Addr} {f : Addr} {fd : FuncData} (T : Tb K mg cl) (X : Fx K mg "with_sign" s_with_sign f fd ["number", "k"]) :
    FnOk P w K mg base (L2.CX P w) 1 f fd ["number", "k"] (Ctr K cl 2 m_with_sign) :=
  okD X.F sc_with_sign rfl (by decide) h_with_sign fun cdv A outer s H E hr => by
    unfold g_with_sign
    exact ((sss_cons (ss_if (st_cmp op_lt o2_cmp (se_var 1) se_int) (sss_one (ss_ret (se_neg (se_var 0)))) sss_nil)
  (sss_one (ss_retV 0 (pv 0)))))
/-! ### doubled: 0 n, 1 word, 2 s, 3 made, 4 at, 5 k -/
abbrev s_doubled : Stmt := topS 7
abbrev n_doubled : List Str := ["n", "word", "s", "made", "at", "k"]
theorem sc_doubled : FnScope n_doubled ["n", "word", "s"] (defScope s_doubled) := ⟨rfl, rfl, rfl, by decide +kernel, rfl, by decide +kernel, by decide +kernel⟩
@[irreducible] noncomputable def g_doubled : G := (gSeq (gIf (xTOr (xB (x2 gtD (xVar 0) (xC (.int 6)))) (xTNot (xB (xChain leD ltD (xC (.int 0)) (xVar 2) (xVar 0))))) (gRaise "NoString") gNext)
  (gSeq (gAsg 3 (xLst xNil))
  (gSeq (gAsg 4 (xVar 2))
  (gSeq (gFor (xSrc (xVar 1)) (tgN 5) (gIf (xB (x2 eqD (xA absD (xCons (xVar 5) xNil)) (x2 addD (xVar 4) (xC (.int 1))))) (gSeq (gAugL 3 (xLst (xCons (xCall m_with_sign (xCons (x2 addD (xVar 4) (xC (.int 2))) (xCons (xVar 5) xNil))) (xCons (xVar 5) xNil))))
  (gAug 4 (fun i j => i + j) (xC (.int 1)))) (gIf (xB (x2 eqD (xA absD (xCons (xVar 5) xNil)) (xVar 4))) (gSeq (gAugL 3 (xLst (xCons (xVar 5) (xCons (xCall m_with_sign (xCons (x2 addD (xVar 4) (xC (.int 1))) (xCons (xVar 5) xNil))) xNil))))
  (gAug 4 (fun i j => i - j) (xC (.int 1)))) (gIf (xB (x2 gtD (xA absD (xCons (xVar 5) xNil)) (xVar 4))) (gApp 3 [] (xCall m_with_sign (xCons (x2 addD (xA absD (xCons (xVar 5) xNil)) (xC (.int 1))) (xCons (xVar 5) xNil)))) (gApp 3 [] (xVar 5))))))
  (gRetV 3)))))
--needs Ribbon
--isl made
noncomputable def m_doubled : List D → R D := mk (fun a : Int × List Int × Int => [.int a.1, iL .fz a.2.1, .int a.2.2]) (fun a => (∀ k ∈ a.2.1, k ≠ 0) ∧ a.2.1.length ≤ 1000000) (fun a => if a.1 ≤ 6 ∧ 0 ≤ a.2.2 ∧ a.2.2 < a.1 then .ok (iL .ow (dbZ a.2.2.toNat a.2.1)) else .er "NoString")
theorem m_doubled_eq {n : Int} {w : List Int} {s : Int} (h1 : ∀ k ∈ w, k ≠ 0) (h2 : w.length ≤ 1000000) : m_doubled [.int n, iL .fz w, .int s] = if n ≤ 6 ∧ 0 ≤ s ∧ s < n then .ok (iL .ow (dbZ s.toNat w)) else .er "NoString" :=
  mk_eq (enc := fun a : Int × List Int × Int => [.int a.1, iL .fz a.2.1, .int a.2.2]) (fun a b e => by
    simp at e
    exact Prod.ext e.1 (Prod.ext e.2.1 e.2.2)) (n, w, s) ⟨h1, h2⟩
theorem h_doubled : ∀ ds, ds.length = 3 → D.stos ds = true → m_doubled ds ≠ .no → g_doubled (env0 n_doubled ds) (Out (m_doubled ds)) := mk_h fun ⟨n, w, s⟩ ⟨h1, h2⟩ => by
  show g_doubled [some (.int n), some (iL .fz w), some (.int s), none, none, none] (Out (if n ≤ 6 ∧ 0 ≤ s ∧ s < n then .ok (iL .ow (dbZ s.toNat w)) else .er "NoString"))
  replace h1 : ∀ k ∈ w, k ≠ 0 := h1
  replace h2 : w.length ≤ 1000000 := h2
  by_cases hc : n ≤ 6 ∧ 0 ≤ s ∧ s < n
  · obtain ⟨hc1, hc2, hc3⟩ := hc
    obtain ⟨s, rfl⟩ := Int.eq_ofNat_of_zero_le hc2
    simp -implicitDefEqProofs [g_doubled, hc1, hc3, show ¬ 6 < n by omega]
    refine lp_inv (f := D.int) (fun rest env => ∃ (l : List Int) (p : Nat) (x : Option D), env = [some (.int n), some (iL .fz w), some (.int (s : Nat)), some (iL .ow l), some (.int (p : Nat)), x] ∧ l ++ dbZ p rest = dbZ s w ∧ l.length + 2 * rest.length ≤ 2 * w.length ∧ ∀ k ∈ rest, k ≠ 0) (fun _ => rfl) w ⟨[], s, none, rfl, rfl, by simp, h1⟩ ?_ ?_
    · rintro k rest _ K ⟨l, p, x, rfl, e, hl, hk⟩ ih
      rw [dbZ_cons] at e
      have hk0 := hk k (by simp)
      have hk' : ∀ k ∈ rest, k ≠ 0 := fun x hx => hk x (by simp [hx])
      simp at hl
      by_cases c1 : k.natAbs = p + 1
      · rw [if_pos c1] at e
        have f1 := m_with_sign_eq (p + 2) k
        simp -implicitDefEqProofs [show (k.natAbs : Int) = (p : Int) + 1 by omega, f1]
        refine ⟨by omega, ih _ ⟨l ++ [sgZ2 (p + 2) k, k], p + 1, some (.int k), by simp, by simpa using e, by simp; omega, hk'⟩⟩
      · rw [if_neg c1] at e
        by_cases c2 : k.natAbs = p
        · rw [if_pos c2] at e
          have f1 := m_with_sign_eq (p + 1) k
          simp -implicitDefEqProofs [show (k.natAbs : Int) = (p : Int) by omega, show ¬ ((p : Int) = (p : Int) + 1) by omega, f1]
          refine ⟨by omega, ih _ ⟨l ++ [k, sgZ2 (p + 1) k], p - 1, some (.int k), ?_, by simpa using e, by simp; omega, hk'⟩⟩
          rw [show ((p - 1 : Nat) : Int) = (p : Int) - 1 by omega]
        · rw [if_neg c2] at e
          by_cases c3 : p < k.natAbs
          · rw [if_pos c3] at e
            have f1 := m_with_sign_eq (k.natAbs + 1) k
            simp -implicitDefEqProofs [show ¬ ((k.natAbs : Int) = (p : Int) + 1) by omega, show ¬ ((k.natAbs : Int) = (p : Int)) by omega, show (p : Int) < k.natAbs by omega, f1]
            refine ⟨by omega, ih _ ⟨l ++ [sgZ2 (k.natAbs + 1) k], p, _, rfl, by simpa using e, by simp; omega, hk'⟩⟩
          · rw [if_neg c3] at e
            simp -implicitDefEqProofs [show ¬ ((k.natAbs : Int) = (p : Int) + 1) by omega, show ¬ ((k.natAbs : Int) = (p : Int)) by omega, show ¬ (p : Int) < k.natAbs by omega]
            refine ⟨by omega, ih _ ⟨l ++ [k], p, _, rfl, by simpa using e, by simp; omega, hk'⟩⟩
    · rintro _ ⟨l, p, x, rfl, e, hl, hk⟩
      simp [dbZ] at e
      simp -implicitDefEqProofs [e]
  · rw [if_neg hc]
    by_cases a1 : 6 < n
    · simp -implicitDefEqProofs [g_doubled, a1]
    · by_cases a2 : 0 ≤ s
      · simp -implicitDefEqProofs [g_doubled, a1, a2, show ¬ s < n by omega]
      · simp -implicitDefEqProofs [g_doubled, a1, a2]

theorem ok_doubled {P : Program} {w : World} {K : PySem.W.Frag} {mg : Str → Option Value} {base : Heap} {cl : String → Addr} {f : Addr} {fd : FuncData} (T : Tb K mg cl) (X : Fx K mg "doubled" s_doubled f fd ["n", "word", "s"]) {f_with_sign : Addr} {fd_with_sign : FuncData} (X_with_sign : Fx K mg "with_sign" s_with_sign f_with_sign fd_with_sign ["number", "k"]) (G_with_sign : FnOk P w K mg base (L2.CX P w) 1 f_with_sign fd_with_sign ["number", "k"] (Ctr K cl 2 m_with_sign)) :
    FnOk P w K mg base (L2.CX P w) 2 f fd ["n", "word", "s"] (Ctr K cl 3 m_doubled) :=
  okD X.F sc_doubled rfl (by decide) h_doubled fun cdv A outer s H E hr => by
    unfold g_doubled
    exact ((sss_cons (ss_if (PW.pt (sw_or (st_cmp op_gt o2_cmp (se_var 0) (se_globI rfl T.c_MOST_DOUBLED)) (sw_or1 (st_not (st_chain op_le o2_cmp op_lt o2_cmp se_int (se_var 2) (se_var 0)))))) (sss_one (ss_raise T.e_NoString T.gc_NoString rfl (takesD (takes_of rfl rfl rfl rfl)) rfl)) sss_nil)
  (sss_cons (ss_set 3 sc_doubled.nd (se_lst sa_nil))
  (sss_cons (ss_set 4 sc_doubled.nd (se_var 2))
  (sss_cons (ss_for (passes_of rfl) rfl (si_list (se_var 1)) (pg_name (i := 5) sc_doubled.nd rfl (by first | exact Or.inl rfl | exact Or.inr rfl)) ts_name (sss_one (ss_if (st_cmp (op_eqD hr.units) o2_eq (se_blt call_abs oa_abs rfl T.z_abs (by decide +kernel) (sa_cons (se_var 5) sa_nil)) (se_add (se_var 4) se_int)) (sss_cons (ss_augL 3 sc_doubled.nd (se_lst (sa_cons (se_call G_with_sign hr (by decide) rfl X_with_sign.g X_with_sign.F.kp X_with_sign.b (takesD (takes_of rfl rfl rfl rfl)) (sa_cons (se_add (se_var 4) se_int) (sa_cons (se_var 5) sa_nil)) (xa1 (xa1 xa0))) (sa_cons (se_var 5) sa_nil))))
  (sss_one (ss_aug 4 ip_add sc_doubled.nd se_int))) (sss_one (ss_if (st_cmp (op_eqD hr.units) o2_eq (se_blt call_abs oa_abs rfl T.z_abs (by decide +kernel) (sa_cons (se_var 5) sa_nil)) (se_var 4)) (sss_cons (ss_augL 3 sc_doubled.nd (se_lst (sa_cons (se_var 5) (sa_cons (se_call G_with_sign hr (by decide) rfl X_with_sign.g X_with_sign.F.kp X_with_sign.b (takesD (takes_of rfl rfl rfl rfl)) (sa_cons (se_add (se_var 4) se_int) (sa_cons (se_var 5) sa_nil)) (xa1 (xa1 xa0))) sa_nil))))
  (sss_one (ss_aug 4 ip_sub sc_doubled.nd se_int))) (sss_one (ss_if (st_cmp op_gt o2_cmp (se_blt call_abs oa_abs rfl T.z_abs (by decide +kernel) (sa_cons (se_var 5) sa_nil)) (se_var 4)) (sss_one (ss_app (sp_var 3) (se_call G_with_sign hr (by decide) rfl X_with_sign.g X_with_sign.F.kp X_with_sign.b (takesD (takes_of rfl rfl rfl rfl)) (sa_cons (se_add (se_blt call_abs oa_abs rfl T.z_abs (by decide +kernel) (sa_cons (se_var 5) sa_nil)) se_int) (sa_cons (se_var 5) sa_nil)) (xa1 (xa1 xa0))))) (sss_one (ss_app (sp_var 3) (se_var 5))))))))))
  (sss_one (ss_retV 3 (pv 3))))))))
/-! ### table: 0 n, 1 word, 2 counts, 3 order, 4 k, 5 right, 6 one, 7 other, 8 string -/
abbrev s_table : Stmt := topS 9
abbrev n_table : List Str := ["n", "word", "counts", "order", "k", "right", "one", "other", "string"]
theorem sc_table : FnScope n_table ["n", "word"] (defScope s_table) := ⟨rfl, rfl, rfl, by decide +kernel, rfl, by decide +kernel, by decide +kernel⟩
@[irreducible] noncomputable def g_table : G := (gSeq (gAsg 2 (xLc (xRng1 (xVar 0)) (tgN 8) xYes (x2 mulD (xLst (xCons (xC (.int 0)) xNil)) (xVar 0)) [8]))
  (gSeq (gAsg 3 (x1 lrngD (xVar 0)))
  (gSeq (gFor (xSrc (xVar 1)) (tgN 4) (gSeq (gAsg 5 (xA absD (xCons (xVar 4) xNil)))
  (gSeq (gPar 6 7 (xCons (x2 ixD (xVar 3) (x2 subD (xVar 5) (xC (.int 1)))) (xCons (x2 ixD (xVar 3) (xVar 5)) xNil)))
  (gSeq (gIf (xB (x2 gtD (xVar 4) (xC (.int 0)))) (gAugI 2 [(xVar 6)] (fun i j => i + j) (xVar 7) (xC (.int 1))) (gAugI 2 [(xVar 7)] (fun i j => i - j) (xVar 6) (xC (.int 1))))
  (gSeq (gSetI 3 [] (x2 subD (xVar 5) (xC (.int 1))) (xVar 7))
  (gSetI 3 [] (xVar 5) (xVar 6)))))))
  (gRetV 2))))
--needs Tables2
noncomputable def m_table : List D → R D := mk (fun a : Nat × List Int => [.int (a.1 : Nat), iL .fz a.2]) (fun a => a.1 ≤ 100 ∧ Wd a.1 a.2) (fun a => .ok (iLL .ow .ow (lsT a.1 (tabF a.2))))
theorem m_table_eq {n : Nat} {w : List Int} (h1 : n ≤ 100) (h3 : Wd n w) : m_table [.int (n : Nat), iL .fz w] = .ok (iLL .ow .ow (lsT n (tabF w))) :=
  mk_eq (enc := fun a : Nat × List Int => [.int (a.1 : Nat), iL .fz a.2]) (fun a b e => by simp at e; exact Prod.ext (by omega) e.2) (n, w) ⟨h1, h3⟩
theorem h_table : ∀ ds, ds.length = 2 → D.stos ds = true → m_table ds ≠ .no → g_table (env0 n_table ds) (Out (m_table ds)) := mk_h fun ⟨n, w⟩ ⟨h1, h3⟩ => by
  show g_table [some (.int (n : Nat)), some (iL .fz w), none, none, none, none, none, none, none] _
  replace h1 : n ≤ 100 := h1
  replace h3 : Wd n w := h3
  simp -implicitDefEqProofs [g_table, show (n : Int) < 4611686018427387904 by omega, show (-4611686018427387904 : Int) ≤ n by omega]
  rw [lc_zeros 8 0 n _ (by omega) (by simp) rfl (by decide)]
  simp -implicitDefEqProofs [rng_lsP, show (n : Int) ≤ 16777216 by omega, show (-4611686018427387904 : Int) ≤ n by omega]
  refine for_inv (f := D.int) (fun rest env => ∃ v x y z u, env = [some (.int (n : Nat)), some (iL .fz w), some (iLL .ow .ow (lsT n (tabF v))), some (iL .ow (lsP n (fW v))), x, y, z, u, none] ∧ v ++ rest = w) (fun _ => rfl) w ⟨[], none, none, none, none, rfl, rfl⟩ ?_ ?_
  · rintro k rest _ ⟨v, x, y, z, u, rfl, e⟩ ih
    have hc : Cr n k := h3 k (by rw [← e]; simp)
    have hv : Wd n v := fun x hx => h3 x (by rw [← e]; simp [hx])
    obtain ⟨k1, k2⟩ := hc.lt
    have tu := tabF_up hv hc
    have td := tabF_down hv hc
    generalize hj : k.natAbs = j at k1 k2 tu td
    have ha : L2.atI (lsP n (fW v)) (j : Int) = some (fW v j : Int) := lsP_atI k2
    have hb : L2.atI (lsP n (fW v)) ((j : Int) - 1) = some (fW v (j - 1) : Int) := by
      rw [show (j : Int) - 1 = ((j - 1 : Nat) : Int) by omega]
      exact lsP_atI (by omega)
    have hx : L2.ixN n (j : Int) = some j := ixN_nat k2
    have hy : L2.ixN n ((j : Int) - 1) = some (j - 1) := by
      rw [show (j : Int) - 1 = ((j - 1 : Nat) : Int) by omega]
      exact ixN_nat (by omega)
    have l1 : fW v j < n := fW_lt hv k2
    have l2 : fW v (j - 1) < n := fW_lt hv (by omega)
    have fin : ∀ x y z u, gForL (tgN 4) (gSeq (gAsg 5 (xA absD (xCons (xVar 4) xNil))) (gSeq (gPar 6 7 (xCons (x2 ixD (xVar 3) (x2 subD (xVar 5) (xC (.int 1)))) (xCons (x2 ixD (xVar 3) (xVar 5)) xNil))) (gSeq (gIf (xB (x2 gtD (xVar 4) (xC (.int 0)))) (gAugI 2 [(xVar 6)] (fun i j => i + j) (xVar 7) (xC (.int 1))) (gAugI 2 [(xVar 7)] (fun i j => i - j) (xVar 6) (xC (.int 1)))) (gSeq (gSetI 3 [] (x2 subD (xVar 5) (xC (.int 1))) (xVar 7)) (gSetI 3 [] (xVar 5) (xVar 6)))))) (encL D.int rest) [some (.int (n : Nat)), some (iL .fz w), some (iLL .ow .ow (lsT n (tabF (v ++ [k])))), some (iL .ow (((lsP n (fW v)).set (j - 1) (fW v j)).set j (fW v (j - 1)))), x, y, z, u, none] _ := fun x y z u => by
      refine ih _ ⟨v ++ [k], x, y, z, u, ?_, by simp [e]⟩
      rw [fW_snoc, hj, ← lsP_sw k1 k2, List.set_comm _ _ (by omega)]
    by_cases h0 : k > 0
    · simp -implicitDefEqProofs [hj, ha, hb, hx, hy, h0]
      rw [gAugI_int (xs := encL .int (rwT n (tabF v) (fW v (j - 1)))) (d := iLL .ow .ow (lsT n (tabF v))) (π := [(fW v (j - 1) : Nat)]) (n := (fW v j : Nat)) (x := tabF v (fW v (j - 1)) (fW v j)) (y := 1) (j := fW v j) (e1 := rfl) (e2 := rfl) (e4 := rfl) (e5 := rfl)]
      · rw [setP_one _ _ _ _ (fW v (j - 1)) (by simp; exact ixN_nat l2)]
        simp -implicitDefEqProofs [hx, hy]
        rw [lsT_set l2 l1, ← tu h0]
        exact fin _ _ _ _
      · simp only [getP, encL_atI, atI_natc, lsT_get l2, encL_get?, Option.map_some, Option.bind_some]
      · simp; exact ixN_nat l1
      · simp [rwT_get l1]
    · simp -implicitDefEqProofs [hj, ha, hb, hx, hy, h0]
      rw [gAugI_int (xs := encL .int (rwT n (tabF v) (fW v j))) (d := iLL .ow .ow (lsT n (tabF v))) (π := [(fW v j : Nat)]) (n := (fW v (j - 1) : Nat)) (x := tabF v (fW v j) (fW v (j - 1))) (y := 1) (j := fW v (j - 1)) (e1 := rfl) (e2 := rfl) (e4 := rfl) (e5 := rfl)]
      · rw [setP_one _ _ _ _ (fW v j) (by simp; exact ixN_nat l1)]
        simp -implicitDefEqProofs [hx, hy]
        rw [Int.sub_eq_add_neg, lsT_set l1 l2, ← td h0]
        exact fin _ _ _ _
      · simp only [getP, encL_atI, atI_natc, lsT_get l1, encL_get?, Option.map_some, Option.bind_some]
      · simp; exact ixN_nat l2
      · simp [rwT_get l2]
  · rintro _ ⟨v, x, y, z, u, rfl, e⟩
    simp at e
    simp -implicitDefEqProofs [e]

theorem ok_table {P : Program} {w : World} {K : PySem.W.Frag} {mg : Str → Option Value} {base : Heap} {cl : String → Addr} {f : Addr} {fd : FuncData} (T : Tb K mg cl) (X : Fx K mg "table" s_table f fd ["n", "word"]) :
    FnOk P w K mg base (L2.CX P w) 1 f fd ["n", "word"] (Ctr K cl 2 m_table) :=
  okD X.F sc_table rfl (by decide) h_table fun cdv A outer s H E hr => by
    unfold g_table
    exact ((sss_cons (ss_setLc 2 [("string", 8)] rfl sc_table.nd (sw_true rfl rfl rfl (by decide +kernel)) (si_rng1 rfl T.z_range (se_var 0)) (blkOk_by (N := n_table) (sc := (defScope s_table)) (by decide +kernel)) (fun _ _ _ _ _ => (pg_name (i := 8) sc_table.nd rfl (by first | exact Or.inl rfl | exact Or.inr rfl))) (fun _ _ _ _ _ => spt_nil) (fun _ _ _ _ _ => (se_mul (se_lst (sa_cons se_int sa_nil)) (se_var 0))) (te_name (j := 8) (by decide)))
  (sss_cons (ss_set 3 sc_table.nd (se_listRng rfl rfl T.z_list rfl T.z_range (se_var 0)))
  (sss_cons (ss_for (passes_of rfl) rfl (si_list (se_var 1)) (pg_name (i := 4) sc_table.nd rfl (by first | exact Or.inl rfl | exact Or.inr rfl)) ts_name (sss_cons (ss_set 5 sc_table.nd (se_blt call_abs oa_abs rfl T.z_abs (by decide +kernel) (sa_cons (se_var 4) sa_nil)))
  (sss_cons (ss_par 6 7 rfl sc_table.nd (by decide) (sa_cons (se_ix (se_var 3) (se_sub (se_var 5) se_int)) (sa_cons (se_ix (se_var 3) (se_var 5)) sa_nil)) rfl)
  (sss_cons (ss_if (st_cmp op_gt o2_cmp (se_var 4) se_int) (sss_one (ss_augI ip_add (sp_ix (sp_var 2) (se_var 6)) (se_var 7) se_int)) (sss_one (ss_augI ip_sub (sp_ix (sp_var 2) (se_var 7)) (se_var 6) se_int)))
  (sss_cons (ss_setI (se_var 7) (sp_var 3) (se_sub (se_var 5) se_int))
  (sss_one (ss_setI (se_var 6) (sp_var 3) (se_var 5))))))))
  (sss_one (ss_retV 2 (pv 2)))))))
/-! ### without: 0 n, 1 word, 2 s, 3 left, 4 at, 5 k -/
abbrev s_without : Stmt := topS 6
abbrev n_without : List Str := ["n", "word", "s", "left", "at", "k"]
theorem sc_without : FnScope n_without ["n", "word", "s"] (defScope s_without) := ⟨rfl, rfl, rfl, by decide +kernel, rfl, by decide +kernel, by decide +kernel⟩
@[irreducible] noncomputable def g_without : G := (gSeq (gIf (xTOr (xB (x2 ltD (xVar 0) (xC (.int 2)))) (xTNot (xB (xChain leD ltD (xC (.int 0)) (xVar 2) (xVar 0))))) (gRaise "NoString") gNext)
  (gSeq (gAsg 3 (xLst xNil))
  (gSeq (gAsg 4 (xVar 2))
  (gSeq (gFor (xSrc (xVar 1)) (tgN 5) (gIf (xB (x2 eqD (xA absD (xCons (xVar 5) xNil)) (x2 addD (xVar 4) (xC (.int 1))))) (gAug 4 (fun i j => i + j) (xC (.int 1))) (gIf (xB (x2 eqD (xA absD (xCons (xVar 5) xNil)) (xVar 4))) (gAug 4 (fun i j => i - j) (xC (.int 1))) (gIf (xB (x2 gtD (xA absD (xCons (xVar 5) xNil)) (xVar 4))) (gApp 3 [] (xCall m_with_sign (xCons (x2 subD (xA absD (xCons (xVar 5) xNil)) (xC (.int 1))) (xCons (xVar 5) xNil)))) (gApp 3 [] (xVar 5))))))
  (gRetV 3)))))
--needs Strings
noncomputable def m_without : List D → R D := mk (fun a : Int × List Int × Int => [.int a.1, iL .fz a.2.1, .int a.2.2]) (fun a => (∀ k ∈ a.2.1, k ≠ 0) ∧ a.2.1.length ≤ 1000000) (fun a => if 2 ≤ a.1 ∧ 0 ≤ a.2.2 ∧ a.2.2 < a.1 then .ok (iL .ow (wsZ a.2.2.toNat a.2.1)) else .er "NoString")
theorem m_without_eq {n : Int} {w : List Int} {s : Int} (h1 : ∀ k ∈ w, k ≠ 0) (h2 : w.length ≤ 1000000) : m_without [.int n, iL .fz w, .int s] = if 2 ≤ n ∧ 0 ≤ s ∧ s < n then .ok (iL .ow (wsZ s.toNat w)) else .er "NoString" :=
  mk_eq (enc := fun a : Int × List Int × Int => [.int a.1, iL .fz a.2.1, .int a.2.2]) (fun a b e => by
    simp at e
    exact Prod.ext e.1 (Prod.ext e.2.1 e.2.2)) (n, w, s) ⟨h1, h2⟩
theorem h_without : ∀ ds, ds.length = 3 → D.stos ds = true → m_without ds ≠ .no → g_without (env0 n_without ds) (Out (m_without ds)) := mk_h fun ⟨n, w, s⟩ ⟨h1, h2⟩ => by
  show g_without [some (.int n), some (iL .fz w), some (.int s), none, none, none] (Out (if 2 ≤ n ∧ 0 ≤ s ∧ s < n then .ok (iL .ow (wsZ s.toNat w)) else .er "NoString"))
  replace h1 : ∀ k ∈ w, k ≠ 0 := h1
  replace h2 : w.length ≤ 1000000 := h2
  by_cases hc : 2 ≤ n ∧ 0 ≤ s ∧ s < n
  · obtain ⟨hc1, hc2, hc3⟩ := hc
    obtain ⟨s, rfl⟩ := Int.eq_ofNat_of_zero_le hc2
    simp -implicitDefEqProofs [g_without, hc1, hc3, show ¬ n < 2 by omega]
    refine lp_inv (f := D.int) (fun rest env => ∃ (l : List Int) (p : Nat) (x : Option D), env = [some (.int n), some (iL .fz w), some (.int (s : Nat)), some (iL .ow l), some (.int (p : Nat)), x] ∧ l ++ wsZ p rest = wsZ s w ∧ l.length + rest.length ≤ w.length ∧ ∀ k ∈ rest, k ≠ 0) (fun _ => rfl) w ⟨[], s, none, rfl, rfl, by simp, h1⟩ ?_ ?_
    · rintro k rest _ K ⟨l, p, x, rfl, e, hl, hk⟩ ih
      rw [wsZ_cons] at e
      have hk0 := hk k (by simp)
      have hk' : ∀ k ∈ rest, k ≠ 0 := fun x hx => hk x (by simp [hx])
      simp at hl
      by_cases c1 : k.natAbs = p + 1
      · rw [if_pos c1] at e
        simp -implicitDefEqProofs [show (k.natAbs : Int) = (p : Int) + 1 by omega]
        exact ih _ ⟨l, p + 1, some (.int k), by simp, e, by omega, hk'⟩
      · rw [if_neg c1] at e
        by_cases c2 : k.natAbs = p
        · rw [if_pos c2] at e
          simp -implicitDefEqProofs [show ¬ ((k.natAbs : Int) = (p : Int) + 1) by omega, show (k.natAbs : Int) = (p : Int) by omega, show ¬ ((p : Int) = (p : Int) + 1) by omega]
          refine ih _ ⟨l, p - 1, some (.int k), ?_, e, by omega, hk'⟩
          rw [show ((p - 1 : Nat) : Int) = (p : Int) - 1 by omega]
        · rw [if_neg c2] at e
          by_cases c3 : p < k.natAbs
          · rw [if_pos c3] at e
            have f1 := m_with_sign_eq (k.natAbs - 1) k
            simp -implicitDefEqProofs [show ¬ ((k.natAbs : Int) = (p : Int) + 1) by omega, show ¬ ((k.natAbs : Int) = (p : Int)) by omega, show (p : Int) < k.natAbs by omega, f1]
            refine ⟨by omega, ih _ ⟨l ++ [sgZ2 (k.natAbs - 1) k], p, _, rfl, by simpa using e, by simp; omega, hk'⟩⟩
          · rw [if_neg c3] at e
            simp -implicitDefEqProofs [show ¬ ((k.natAbs : Int) = (p : Int) + 1) by omega, show ¬ ((k.natAbs : Int) = (p : Int)) by omega, show ¬ (p : Int) < k.natAbs by omega]
            refine ⟨by omega, ih _ ⟨l ++ [k], p, _, rfl, by simpa using e, by simp; omega, hk'⟩⟩
    · rintro _ ⟨l, p, x, rfl, e, hl, hk⟩
      simp [wsZ] at e
      simp -implicitDefEqProofs [e]
  · rw [if_neg hc]
    by_cases a1 : n < 2
    · simp -implicitDefEqProofs [g_without, a1]
    · by_cases a2 : 0 ≤ s
      · simp -implicitDefEqProofs [g_without, a1, a2, show ¬ s < n by omega]
      · simp -implicitDefEqProofs [g_without, a1, a2]

theorem ok_without {P : Program} {w : World} {K : PySem.W.Frag} {mg : Str → Option Value} {base : Heap} {cl : String → Addr} {f : Addr} {fd : FuncData} (T : Tb K mg cl) (X : Fx K mg "without" s_without f fd ["n", "word", "s"]) {f_with_sign : Addr} {fd_with_sign : FuncData} (X_with_sign : Fx K mg "with_sign" s_with_sign f_with_sign fd_with_sign ["number", "k"]) (G_with_sign : FnOk P w K mg base (L2.CX P w) 1 f_with_sign fd_with_sign ["number", "k"] (Ctr K cl 2 m_with_sign)) :
    FnOk P w K mg base (L2.CX P w) 2 f fd ["n", "word", "s"] (Ctr K cl 3 m_without) :=
  okD X.F sc_without rfl (by decide) h_without fun cdv A outer s H E hr => by
    unfold g_without
    exact ((sss_cons (ss_if (PW.pt (sw_or (st_cmp op_lt o2_cmp (se_var 0) se_int) (sw_or1 (st_not (st_chain op_le o2_cmp op_lt o2_cmp se_int (se_var 2) (se_var 0)))))) (sss_one (ss_raise T.e_NoString T.gc_NoString rfl (takesD (takes_of rfl rfl rfl rfl)) rfl)) sss_nil)
  (sss_cons (ss_set 3 sc_without.nd (se_lst sa_nil))
  (sss_cons (ss_set 4 sc_without.nd (se_var 2))
  (sss_cons (ss_for (passes_of rfl) rfl (si_list (se_var 1)) (pg_name (i := 5) sc_without.nd rfl (by first | exact Or.inl rfl | exact Or.inr rfl)) ts_name (sss_one (ss_if (st_cmp (op_eqD hr.units) o2_eq (se_blt call_abs oa_abs rfl T.z_abs (by decide +kernel) (sa_cons (se_var 5) sa_nil)) (se_add (se_var 4) se_int)) (sss_one (ss_aug 4 ip_add sc_without.nd se_int)) (sss_one (ss_if (st_cmp (op_eqD hr.units) o2_eq (se_blt call_abs oa_abs rfl T.z_abs (by decide +kernel) (sa_cons (se_var 5) sa_nil)) (se_var 4)) (sss_one (ss_aug 4 ip_sub sc_without.nd se_int)) (sss_one (ss_if (st_cmp op_gt o2_cmp (se_blt call_abs oa_abs rfl T.z_abs (by decide +kernel) (sa_cons (se_var 5) sa_nil)) (se_var 4)) (sss_one (ss_app (sp_var 3) (se_call G_with_sign hr (by decide) rfl X_with_sign.g X_with_sign.F.kp X_with_sign.b (takesD (takes_of rfl rfl rfl rfl)) (sa_cons (se_sub (se_blt call_abs oa_abs rfl T.z_abs (by decide +kernel) (sa_cons (se_var 5) sa_nil)) se_int) (sa_cons (se_var 5) sa_nil)) (xa1 (xa1 xa0))))) (sss_one (ss_app (sp_var 3) (se_var 5))))))))))
  (sss_one (ss_retV 3 (pv 3))))))))
/-! ### law: 0 _law_script, 1 _law_n, 2 _law_word, 3 _law_counts, 4 _law_s, 5 _law_others, 6 _law_found, 7 _law_both, 8 _law_x -/
abbrev s_law : Stmt := topS 21
abbrev n_law : List Str := ["_law_script", "_law_n", "_law_word", "_law_counts", "_law_s", "_law_others", "_law_found", "_law_both", "_law_x"]
theorem sc_law : FnScope n_law ["_law_script"] (defScope s_law) := ⟨rfl, rfl, rfl, by decide +kernel, rfl, by decide +kernel, by decide +kernel⟩
@[irreducible] noncomputable def g_law : G := (gSeq (gAsg 1 (xCall m_law_strings (xCons (x2 modD (xCall m_law_cell_at (xCons (xVar 0) (xCons (xC (.int 0)) xNil))) (xC (.int 1000000007))) (xCons (xC (.int 2)) (xCons (xC (.int 6)) xNil)))))
  (gSeq (gAsg 2 (xCall m_law_drawn (xCons (xSl (xVar 0) (xP1 (xC (.int 1))) xP0) (xCons (xVar 1) (xCons (xC (.int 120)) xNil)))))
  (gFrz 2 (gSeq (gAsg 3 (xCall m_law_table (xCons (xVar 1) (xCons (xVar 2) xNil))))
  (gFrz 3 (gSeq (gFor (xRng1 (xVar 1)) (tgN 4) (gSeq (gAsg 5 (xLc (xRng1 (xVar 1)) (tgN 8) (xB (x2 neD (xVar 8) (xVar 4))) (xVar 8) [8]))
  (gSeq (gAsg 6 (xCall m_table (xCons (x2 subD (xVar 1) (xC (.int 1))) (xCons (xCall m_without (xCons (xVar 1) (xCons (xA listD (xCons (xVar 2) xNil)) (xCons (xVar 4) xNil)))) xNil))))
  (gSeq (gIf (xTNot (xB (xCall (m_law_equal 5) (xCons (xVar 6) (xCons (xCall m_law_picked (xCons (xVar 3) (xCons (xVar 5) xNil))) xNil))))) (gRet (xC (.bl false))) gNext)
  (gSeq (gAsg 7 (x2 addD (xLc (xRng1 (x2 addD (xVar 4) (xC (.int 1)))) (tgN 8) xYes (xVar 8) [8]) (xLc (xRng2 (xVar 4) (xVar 1)) (tgN 8) xYes (xVar 8) [8])))
  (gSeq (gAsg 6 (xCall m_table (xCons (x2 addD (xVar 1) (xC (.int 1))) (xCons (xCall m_doubled (xCons (xVar 1) (xCons (xA listD (xCons (xVar 2) xNil)) (xCons (xVar 4) xNil)))) xNil))))
  (gIf (xTNot (xB (xCall (m_law_equal 5) (xCons (xVar 6) (xCons (xCall m_law_picked (xCons (xVar 3) (xCons (xVar 7) xNil))) xNil))))) (gRet (xC (.bl false))) gNext)))))))
  (gRet (xC (.bl true)))))))))
--needs Pick Eq
--frz 3 _law_word
--frz 4 _law_counts
noncomputable def m_law : List D → R D := mk (fun a : List Int => [iL .sc a]) (fun a => a.length ≤ 63) (fun _ => .ok (.bl true))
theorem law_true (ns : List Int) (h : ns.length ≤ 63) : m_law [.lst .sc (ns.map .int)] = .ok (.bl true) := mk_eq (enc := fun ws : List Int => [iL .sc ws]) (fun a b e => by simpa using e) ns h
theorem h_law : ∀ ds, ds.length = 1 → D.stos ds = true → m_law ds ≠ .no → g_law (env0 n_law ds) (Out (m_law ds)) := mk_h fun ns h1 => by
  show g_law [some (iL .sc ns), none, none, none, none, none, none, none, none] _
  replace h1 : ns.length ≤ 63 := h1
  have e0 : m_law_cell_at [iL .sc ns, .int 0] = .ok (.int (cellZ ns 0)) := m_law_cell_at_eq (b := true) (k := 0) (by omega)
  have hs0 : 0 ≤ cellZ ns 0 % 1000000007 := Int.emod_nonneg _ (by decide)
  generalize hsd : cellZ ns 0 % 1000000007 = sd at hs0
  have hn := strZ_bounds (seed := sd) (least := 2) (most := 6) (by decide) (by decide) (by decide)
  have e1 := m_law_strings_eq (c := sd) (k := 2) (f := 6) (by decide) (by decide) (by decide) (by decide)
  have hn2 : 2 ≤ strZ sd 2 6 := by
    unfold strZ
    have := Int.emod_nonneg (sd / 13) (show (6 : Int) - max 2 2 + 1 ≠ 0 by decide)
    rw [if_neg (by omega)]
    omega
  generalize strZ sd 2 6 = n at hn e1 hn2
  obtain ⟨n, rfl⟩ := Int.eq_ofNat_of_zero_le (show 0 ≤ n by omega)
  have e2 : m_law_drawn [iL .fz ns.tail, .int (n : Nat), .int 120] = .ok (iL .ow (drawnZ ns.tail n 120)) := m_law_drawn_eq (b := false) (most := 120) (by simp; omega) (by omega)
  have hd := drawnZ_len ns.tail n 120
  have hw := drawnZ_wd ns.tail n 120
  generalize drawnZ ns.tail n 120 = w at e2 hd hw
  have e3 := m_law_table_eq (n := n) (w := w) (by omega) hw
  have hrow : ∀ (m : Nat) (T : Nat → Nat → Int), ∀ r ∈ lsT m T, r.length = m := fun m T r hr => by
    unfold lsT at hr
    obtain ⟨a, _, rfl⟩ := List.mem_map.mp hr
    simp
  have e4 : ∀ (m : Nat) (P : Nat → Nat), m ≤ 10 → (∀ i, i < m → P i < n) → m_law_picked [iLL .fz .fz (lsT n (tabF w)), iL .fz (lsP m P)] = .ok (iLL .ow .ow (lsT m fun a b => tabF w (P a) (P b))) := fun m P hm hP => by
    rw [m_law_picked_eq (by simp; omega) (fun x hx => by
      unfold lsP at hx
      obtain ⟨i, hi, rfl⟩ := List.mem_map.mp hx
      have := hP i (List.mem_range.mp hi)
      simp
      omega) (fun r hr => by rw [hrow _ _ r hr]; simp), pick_lsT hP]
  have e5 : ∀ (m : Nat) (T : Nat → Nat → Int), m ≤ 10 → m_law_equal 5 [iLL .fz .fz (lsT m T), iLL .fz .fz (lsT m T)] = .ok (.bl true) := fun m T hm => by
    have ok : okE 4 (iLL .fz .fz (lsT m T)) = true := okE_iLL (n := 2) (by simp; omega) fun x hx => by rw [hrow _ _ x hx]; omega
    have := m_law_equal_eq (d := 4) ok ok
    rw [eqE_self] at this
    exact this
  have nz := fun k (hk : k ∈ w) => (hw k hk).1
  simp -implicitDefEqProofs [g_law, cutL_from, e0, hsd, e1, e2, e3, show (n : Int) < 4611686018427387904 by omega, show (-4611686018427387904 : Int) ≤ n by omega]
  refine lp_rng0 (fun i env => ∃ a x y z, env = [some (iL .sc ns), some (.int (n : Nat)), some (iL .fz w), some (iLL .fz .fz (lsT n (tabF w))), a, x, y, z, none]) ⟨none, none, none, none, rfl⟩ ?_ ?_
  · rintro i _ K hi ⟨a, x, y, z, rfl⟩ ih
    have f1 := m_without_eq (n := (n : Int)) (w := w) (s := (i : Int)) nz (by omega)
    rw [if_pos (by omega), Int.toNat_natCast] at f1
    have f2 := m_doubled_eq (n := (n : Int)) (w := w) (s := (i : Int)) nz (by omega)
    rw [if_pos (by omega), Int.toNat_natCast] at f2
    have f3 : m_table [.int ((n : Int) - 1), iL .fz (wsZ i w)] = .ok (iLL .ow .ow (lsT (n - 1) fun a b => tabF w (outP i a) (outP i b))) := by
      have := m_table_eq (n := n - 1) (w := wsZ i w) (by omega) (by rw [show ((n - 1 : Nat) : Int) = (n : Int) - 1 by omega]; exact wsZ_wd hw hi)
      rw [show ((n - 1 : Nat) : Int) = (n : Int) - 1 by omega] at this
      rw [this, lsT_ext fun a b _ _ => tab_out nz]
    have f4 : m_table [.int ((n : Int) + 1), iL .fz (dbZ i w)] = .ok (iLL .ow .ow (lsT (n + 1) fun a b => tabF w (dblP i a) (dblP i b))) := by
      have := m_table_eq (n := n + 1) (w := dbZ i w) (by omega) (by rw [show ((n + 1 : Nat) : Int) = (n : Int) + 1 by omega]; exact dbZ_wd hw hi)
      rw [show ((n + 1 : Nat) : Int) = (n : Int) + 1 by omega] at this
      rw [this, lsT_ext fun a b _ _ => tab_dbl nz]
    have o1 := others_lsP i n
    rw [if_pos hi] at o1
    have o2 := both_lsP hi
    have g1 := e4 (n - 1) (outP i) (by omega) fun j hj => by unfold outP; split <;> omega
    have g2 := e4 (n + 1) (dblP i) (by omega) fun j hj => by unfold dblP; split <;> omega
    have l1 : ∀ A B C : Option D, xLcR (tgN 8) (xB (x2 neD (xVar 8) (xVar 4))) (xVar 8) [8] [some (iL .sc ns), some (.int (n : Nat)), some (iL .fz w), some (iLL .fz .fz (lsT n (tabF w))), some (.int (i : Nat)), A, B, C, none] (encL .int (rng 0 1 n)) = .ok (iL .ow (lsP (n - 1) (outP i))) := fun A B C => by
      rw [lcR_enc (fb := .int) _ (fun x => decide (x ≠ (i : Int))) id (by simp; omega) (fun s _ => ⟨_, rfl, by simp -implicitDefEqProofs [], fun _ => ⟨by simp, rfl⟩⟩), List.map_id, ← o1, rng_lsP]
    have l2 : ∀ (lo : Int) (m : Nat) (A B C : Option D), m ≤ 10 → xLcR (tgN 8) xYes (xVar 8) [8] [some (iL .sc ns), some (.int (n : Nat)), some (iL .fz w), some (iLL .fz .fz (lsT n (tabF w))), some (.int (i : Nat)), A, B, C, none] (encL .int (rng lo 1 m)) = .ok (iL .ow (rng lo 1 m)) := fun lo m A B C hm => by
      have := lcR_map (tg := tgN 8) (c := xYes) (f := xVar 8) (vs := [8]) (env := [some (iL .sc ns), some (.int (n : Nat)), some (iL .fz w), some (iLL .fz .fz (lsT n (tabF w))), some (.int (i : Nat)), A, B, C, none]) (fa := .int) (fb := .int) (rng lo 1 m) id (by simp; omega) (fun s _ => ⟨_, rfl, rfl, by simp -implicitDefEqProofs [], rfl⟩)
      rwa [List.map_id] at this
    have t1 : ((i : Int) + 1).toNat = i + 1 := by omega
    have t2 : ((n : Int) - (i : Int)).toNat = n - i := by omega
    simp -implicitDefEqProofs [l1, f1, f3, g1, e5 (n - 1) _ (show n - 1 ≤ 10 by omega), t1, t2, l2 _ _ _ _ _ (show i + 1 ≤ 10 by omega), l2 _ _ _ _ _ (show n - i ≤ 10 by omega), o2, f2, f4, g2, e5 (n + 1) _ (show n + 1 ≤ 10 by omega), show (i : Int) < 4611686018427387904 by omega, show (-4611686018427387904 : Int) ≤ i by omega, show (n : Int) < 4611686018427387904 by omega, show (-4611686018427387904 : Int) ≤ n by omega, show (i : Int) + 1 < 4611686018427387904 by omega, show (-4611686018427387904 : Int) ≤ (i : Int) + 1 by omega]
    refine ⟨?_, ih _ ⟨_, _, _, _, rfl⟩⟩
    omega
  · rintro _ ⟨a, x, y, z, rfl⟩
    simp -implicitDefEqProofs []

theorem ok_law {P : Program} {w : World} {K : PySem.W.Frag} {mg : Str → Option Value} {base : Heap} {cl : String → Addr} {f : Addr} {fd : FuncData} (T : Tb K mg cl) (X : Fx K mg "law" s_law f fd ["_law_script"]) {f_law_cell_at : Addr} {fd_law_cell_at : FuncData} (X_law_cell_at : Fx K mg "_law_cell_at" s_law_cell_at f_law_cell_at fd_law_cell_at ["_law_script", "_law_k"]) (G_law_cell_at : FnOk P w K mg base (L2.CX P w) 1 f_law_cell_at fd_law_cell_at ["_law_script", "_law_k"] (Ctr K cl 2 m_law_cell_at)) {f_law_drawn : Addr} {fd_law_drawn : FuncData} (X_law_drawn : Fx K mg "_law_drawn" s_law_drawn f_law_drawn fd_law_drawn ["_law_cells", "_law_n", "_law_most"]) (G_law_drawn : FnOk P w K mg base (L2.CX P w) 3 f_law_drawn fd_law_drawn ["_law_cells", "_law_n", "_law_most"] (Ctr K cl 3 m_law_drawn)) {f_law_equal : Addr} {fd_law_equal : FuncData} (X_law_equal : Fx K mg "_law_equal" s_law_equal f_law_equal fd_law_equal ["_law_found", "_law_due"]) (G_law_equal : FnOk P w K mg base (L2.CX P w) 7 f_law_equal fd_law_equal ["_law_found", "_law_due"] (Ctr K cl 2 (m_law_equal 5))) {f_law_picked : Addr} {fd_law_picked : FuncData} (X_law_picked : Fx K mg "_law_picked" s_law_picked f_law_picked fd_law_picked ["_law_counts", "_law_strings_here"]) (G_law_picked : FnOk P w K mg base (L2.CX P w) 1 f_law_picked fd_law_picked ["_law_counts", "_law_strings_here"] (Ctr K cl 2 m_law_picked)) {f_law_strings : Addr} {fd_law_strings : FuncData} (X_law_strings : Fx K mg "_law_strings" s_law_strings f_law_strings fd_law_strings ["_law_seed", "_law_least", "_law_most"]) (G_law_strings : FnOk P w K mg base (L2.CX P w) 1 f_law_strings fd_law_strings ["_law_seed", "_law_least", "_law_most"] (Ctr K cl 3 m_law_strings)) {f_law_table : Addr} {fd_law_table : FuncData} (X_law_table : Fx K mg "_law_table" s_law_table f_law_table fd_law_table ["_law_n", "_law_word"]) (G_law_table : FnOk P w K mg base (L2.CX P w) 1 f_law_table fd_law_table ["_law_n", "_law_word"] (Ctr K cl 2 m_law_table)) {f_doubled : Addr} {fd_doubled : FuncData} (X_doubled : Fx K mg "doubled" s_doubled f_doubled fd_doubled ["n", "word", "s"]) (G_doubled : FnOk P w K mg base (L2.CX P w) 2 f_doubled fd_doubled ["n", "word", "s"] (Ctr K cl 3 m_doubled)) {f_table : Addr} {fd_table : FuncData} (X_table : Fx K mg "table" s_table f_table fd_table ["n", "word"]) (G_table : FnOk P w K mg base (L2.CX P w) 1 f_table fd_table ["n", "word"] (Ctr K cl 2 m_table)) {f_without : Addr} {fd_without : FuncData} (X_without : Fx K mg "without" s_without f_without fd_without ["n", "word", "s"]) (G_without : FnOk P w K mg base (L2.CX P w) 2 f_without fd_without ["n", "word", "s"] (Ctr K cl 3 m_without)) :
    FnOk P w K mg base (L2.CX P w) 8 f fd ["_law_script"] (Ctr K cl 1 m_law) :=
  okD X.F sc_law rfl (by decide) h_law fun cdv A outer s H E hr => by
    unfold g_law
    exact ((sss_cons (ss_set 1 sc_law.nd (se_call G_law_strings hr (by decide) rfl X_law_strings.g X_law_strings.F.kp X_law_strings.b (takesD (takes_of rfl rfl rfl rfl)) (sa_cons (se_mod (se_call G_law_cell_at hr (by decide) rfl X_law_cell_at.g X_law_cell_at.F.kp X_law_cell_at.b (takesD (takes_of rfl rfl rfl rfl)) (sa_cons (se_var 0) (sa_cons se_int sa_nil)) (xa1 (xa1 xa0))) se_int) (sa_cons se_int (sa_cons se_int sa_nil))) (xa1 (xa1 (xa1 xa0)))))
  (sss_cons (ss_set 2 sc_law.nd (se_call G_law_drawn hr (by decide) rfl X_law_drawn.g X_law_drawn.F.kp X_law_drawn.b (takesD (takes_of rfl rfl rfl rfl)) (sa_cons (se_slice (se_var 0) (so_some se_int) so_none) (sa_cons (se_var 1) (sa_cons se_int sa_nil))) (xa1 (xa1 (xa1 xa0)))))
  (sss_frz 2 (sss_cons (ss_set 3 sc_law.nd (se_call G_law_table hr (by decide) rfl X_law_table.g X_law_table.F.kp X_law_table.b (takesD (takes_of rfl rfl rfl rfl)) (sa_cons (se_var 1) (sa_cons (se_var 2) sa_nil)) (xa1 (xa1 xa0))))
  (sss_frz 3 (sss_cons (ss_for (passes_of rfl) rfl (si_rng1 rfl T.z_range (se_var 1)) (pg_name (i := 4) sc_law.nd rfl (by first | exact Or.inl rfl | exact Or.inr rfl)) ts_name (sss_cons (ss_setLc 5 [("_law_x", 8)] rfl sc_law.nd (sw_true rfl rfl rfl (by decide +kernel)) (si_rng1 rfl T.z_range (se_var 1)) (blkOk_by (N := n_law) (sc := (defScope s_law)) (by decide +kernel)) (fun _ _ _ _ _ => (pg_name (i := 8) sc_law.nd rfl (by first | exact Or.inl rfl | exact Or.inr rfl))) (fun _ _ _ _ _ => (spt_one (st_cmp (op_neD hr.units) o2_ne (se_var 8) (se_var 4)))) (fun _ _ _ _ _ => (se_var 8)) (te_name (j := 8) (by decide)))
  (sss_cons (ss_set 6 sc_law.nd (se_call G_table hr (by decide) rfl X_table.g X_table.F.kp X_table.b (takesD (takes_of rfl rfl rfl rfl)) (sa_cons (se_sub (se_var 1) se_int) (sa_cons (se_call G_without hr (by decide) rfl X_without.g X_without.F.kp X_without.b (takesD (takes_of rfl rfl rfl rfl)) (sa_cons (se_var 1) (sa_cons (se_bty call_list_of oa_list rfl T.z_list (by decide +kernel) (sa_cons (se_var 2) sa_nil)) (sa_cons (se_var 4) sa_nil))) (xa1 (xa1 (xa1 xa0)))) sa_nil)) (xa1 (xa1 xa0))))
  (sss_cons (ss_if (st_not (st_val (se_call G_law_equal hr (by decide) rfl X_law_equal.g X_law_equal.F.kp X_law_equal.b (takesD (takes_of rfl rfl rfl rfl)) (sa_cons (se_var 6) (sa_cons (se_call G_law_picked hr (by decide) rfl X_law_picked.g X_law_picked.F.kp X_law_picked.b (takesD (takes_of rfl rfl rfl rfl)) (sa_cons (se_var 3) (sa_cons (se_var 5) sa_nil)) (xa1 (xa1 xa0))) sa_nil)) (xa1 (xa1 xa0))))) (sss_one (ss_ret se_bl)) sss_nil)
  (sss_cons (ss_set 7 sc_law.nd (se_add (se_lc [("_law_x", 8)] rfl sc_law.nd (si_rng1 rfl T.z_range (se_add (se_var 4) se_int)) (blkOk_by (N := n_law) (sc := (defScope s_law)) (by decide +kernel)) (fun _ _ _ _ _ => (pg_name (i := 8) sc_law.nd rfl (by first | exact Or.inl rfl | exact Or.inr rfl))) (fun _ _ _ _ _ => spt_nil) (fun _ _ _ _ _ => (se_var 8)) (te_name (j := 8) (by decide))) (se_lc [("_law_x", 8)] rfl sc_law.nd (si_rng2 rfl T.z_range (se_var 4) (se_var 1)) (blkOk_by (N := n_law) (sc := (defScope s_law)) (by decide +kernel)) (fun _ _ _ _ _ => (pg_name (i := 8) sc_law.nd rfl (by first | exact Or.inl rfl | exact Or.inr rfl))) (fun _ _ _ _ _ => spt_nil) (fun _ _ _ _ _ => (se_var 8)) (te_name (j := 8) (by decide)))))
  (sss_cons (ss_set 6 sc_law.nd (se_call G_table hr (by decide) rfl X_table.g X_table.F.kp X_table.b (takesD (takes_of rfl rfl rfl rfl)) (sa_cons (se_add (se_var 1) se_int) (sa_cons (se_call G_doubled hr (by decide) rfl X_doubled.g X_doubled.F.kp X_doubled.b (takesD (takes_of rfl rfl rfl rfl)) (sa_cons (se_var 1) (sa_cons (se_bty call_list_of oa_list rfl T.z_list (by decide +kernel) (sa_cons (se_var 2) sa_nil)) (sa_cons (se_var 4) sa_nil))) (xa1 (xa1 (xa1 xa0)))) sa_nil)) (xa1 (xa1 xa0))))
  (sss_one (ss_if (st_not (st_val (se_call G_law_equal hr (by decide) rfl X_law_equal.g X_law_equal.F.kp X_law_equal.b (takesD (takes_of rfl rfl rfl rfl)) (sa_cons (se_var 6) (sa_cons (se_call G_law_picked hr (by decide) rfl X_law_picked.g X_law_picked.F.kp X_law_picked.b (takesD (takes_of rfl rfl rfl rfl)) (sa_cons (se_var 3) (sa_cons (se_var 7) sa_nil)) (xa1 (xa1 xa0))) sa_nil)) (xa1 (xa1 xa0))))) (sss_one (ss_ret se_bl)) sss_nil))))))))
  (sss_one (ss_ret se_bl)))))))))
theorem all_mk {P : Program} {w : World} {K : PySem.W.Frag} {h : Heap} {mg : Str → Option Value} {fa f0 f1 f2 f3 f4 f5 f6 f7 f8 f9 f10 f11 f12 f13 f14 C_NoString : Addr} {od0 an0 od1 an1 od2 an2 od3 an3 od4 an4 od5 an5 od6 an6 od7 an7 od8 an8 od9 an9 od10 an10 od11 an11 od12 an12 od13 an13 od14 an14 : Option Addr} {sl0 sl1 sl2 sl3 sl4 sl5 sl6 sl7 sl8 sl9 sl10 sl11 sl12 sl13 sl14 : Array (Option Value)} {oc0 kV0 dc0 pm0 cd0 ct0 oc1 kV1 dc1 pm1 cd1 ct1 oc2 kV2 dc2 pm2 cd2 ct2 oc3 kV3 dc3 pm3 cd3 ct3 oc4 kV4 dc4 pm4 cd4 ct4 oc5 kV5 dc5 pm5 cd5 ct5 oc6 kV6 dc6 pm6 cd6 ct6 oc7 kV7 dc7 pm7 cd7 ct7 oc8 kV8 dc8 pm8 cd8 ct8 oc9 kV9 dc9 pm9 cd9 ct9 oc10 kV10 dc10 pm10 cd10 ct10 oc11 kV11 dc11 pm11 cd11 ct11 oc12 kV12 dc12 pm12 cd12 ct12 oc13 kV13 dc13 pm13 cd13 ct13 oc14 kV14 dc14 pm14 cd14 ct14 : Value} {t_MOST_DOUBLED : Tok} (X : K.In h) (G : h.Ns mainGlobals mg) (hfa : mg "law" = some (.ref fa))
    (a0 : PySem.W.nsIn K mainGlobals "_law_cell_at" = some (some (.ref f0)))
    (l0 : K.lookup f0 = some ⟨oc0, od0, .func (PySem.W.fnOf "_law_cell_at" "_law_cell_at" (defArgs s_law_cell_at) (defBody s_law_cell_at) (defScope s_law_cell_at) .none kV0 dc0 pm0 an0 cd0 ct0), sl0⟩)
    (c0 : PySem.W.codeIn K cd0 "_law_cell_at" = true)
    (k0 : PySem.W.keepIn K (.ref f0) = true)
    (a1 : PySem.W.nsIn K mainGlobals "_law_mix" = some (some (.ref f1)))
    (l1 : K.lookup f1 = some ⟨oc1, od1, .func (PySem.W.fnOf "_law_mix" "_law_mix" (defArgs s_law_mix) (defBody s_law_mix) (defScope s_law_mix) .none kV1 dc1 pm1 an1 cd1 ct1), sl1⟩)
    (c1 : PySem.W.codeIn K cd1 "_law_mix" = true)
    (k1 : PySem.W.keepIn K (.ref f1) = true)
    (a2 : PySem.W.nsIn K mainGlobals "_law_crossing" = some (some (.ref f2)))
    (l2 : K.lookup f2 = some ⟨oc2, od2, .func (PySem.W.fnOf "_law_crossing" "_law_crossing" (defArgs s_law_crossing) (defBody s_law_crossing) (defScope s_law_crossing) .none kV2 dc2 pm2 an2 cd2 ct2), sl2⟩)
    (c2 : PySem.W.codeIn K cd2 "_law_crossing" = true)
    (k2 : PySem.W.keepIn K (.ref f2) = true)
    (a3 : PySem.W.nsIn K mainGlobals "_law_piece" = some (some (.ref f3)))
    (l3 : K.lookup f3 = some ⟨oc3, od3, .func (PySem.W.fnOf "_law_piece" "_law_piece" (defArgs s_law_piece) (defBody s_law_piece) (defScope s_law_piece) .none kV3 dc3 pm3 an3 cd3 ct3), sl3⟩)
    (c3 : PySem.W.codeIn K cd3 "_law_piece" = true)
    (k3 : PySem.W.keepIn K (.ref f3) = true)
    (a4 : PySem.W.nsIn K mainGlobals "_law_drawn" = some (some (.ref f4)))
    (l4 : K.lookup f4 = some ⟨oc4, od4, .func (PySem.W.fnOf "_law_drawn" "_law_drawn" (defArgs s_law_drawn) (defBody s_law_drawn) (defScope s_law_drawn) .none kV4 dc4 pm4 an4 cd4 ct4), sl4⟩)
    (c4 : PySem.W.codeIn K cd4 "_law_drawn" = true)
    (k4 : PySem.W.keepIn K (.ref f4) = true)
    (a5 : PySem.W.nsIn K mainGlobals "_law_number" = some (some (.ref f5)))
    (l5 : K.lookup f5 = some ⟨oc5, od5, .func (PySem.W.fnOf "_law_number" "_law_number" (defArgs s_law_number) (defBody s_law_number) (defScope s_law_number) .none kV5 dc5 pm5 an5 cd5 ct5), sl5⟩)
    (c5 : PySem.W.codeIn K cd5 "_law_number" = true)
    (k5 : PySem.W.keepIn K (.ref f5) = true)
    (a6 : PySem.W.nsIn K mainGlobals "_law_equal" = some (some (.ref f6)))
    (l6 : K.lookup f6 = some ⟨oc6, od6, .func (PySem.W.fnOf "_law_equal" "_law_equal" (defArgs s_law_equal) (defBody s_law_equal) (defScope s_law_equal) .none kV6 dc6 pm6 an6 cd6 ct6), sl6⟩)
    (c6 : PySem.W.codeIn K cd6 "_law_equal" = true)
    (k6 : PySem.W.keepIn K (.ref f6) = true)
    (a7 : PySem.W.nsIn K mainGlobals "_law_picked" = some (some (.ref f7)))
    (l7 : K.lookup f7 = some ⟨oc7, od7, .func (PySem.W.fnOf "_law_picked" "_law_picked" (defArgs s_law_picked) (defBody s_law_picked) (defScope s_law_picked) .none kV7 dc7 pm7 an7 cd7 ct7), sl7⟩)
    (c7 : PySem.W.codeIn K cd7 "_law_picked" = true)
    (k7 : PySem.W.keepIn K (.ref f7) = true)
    (a8 : PySem.W.nsIn K mainGlobals "_law_strings" = some (some (.ref f8)))
    (l8 : K.lookup f8 = some ⟨oc8, od8, .func (PySem.W.fnOf "_law_strings" "_law_strings" (defArgs s_law_strings) (defBody s_law_strings) (defScope s_law_strings) .none kV8 dc8 pm8 an8 cd8 ct8), sl8⟩)
    (c8 : PySem.W.codeIn K cd8 "_law_strings" = true)
    (k8 : PySem.W.keepIn K (.ref f8) = true)
    (a9 : PySem.W.nsIn K mainGlobals "_law_table" = some (some (.ref f9)))
    (l9 : K.lookup f9 = some ⟨oc9, od9, .func (PySem.W.fnOf "_law_table" "_law_table" (defArgs s_law_table) (defBody s_law_table) (defScope s_law_table) .none kV9 dc9 pm9 an9 cd9 ct9), sl9⟩)
    (c9 : PySem.W.codeIn K cd9 "_law_table" = true)
    (k9 : PySem.W.keepIn K (.ref f9) = true)
    (a10 : PySem.W.nsIn K mainGlobals "with_sign" = some (some (.ref f10)))
    (l10 : K.lookup f10 = some ⟨oc10, od10, .func (PySem.W.fnOf "with_sign" "with_sign" (defArgs s_with_sign) (defBody s_with_sign) (defScope s_with_sign) .none kV10 dc10 pm10 an10 cd10 ct10), sl10⟩)
    (c10 : PySem.W.codeIn K cd10 "with_sign" = true)
    (k10 : PySem.W.keepIn K (.ref f10) = true)
    (a11 : PySem.W.nsIn K mainGlobals "doubled" = some (some (.ref f11)))
    (l11 : K.lookup f11 = some ⟨oc11, od11, .func (PySem.W.fnOf "doubled" "doubled" (defArgs s_doubled) (defBody s_doubled) (defScope s_doubled) .none kV11 dc11 pm11 an11 cd11 ct11), sl11⟩)
    (c11 : PySem.W.codeIn K cd11 "doubled" = true)
    (k11 : PySem.W.keepIn K (.ref f11) = true)
    (a12 : PySem.W.nsIn K mainGlobals "table" = some (some (.ref f12)))
    (l12 : K.lookup f12 = some ⟨oc12, od12, .func (PySem.W.fnOf "table" "table" (defArgs s_table) (defBody s_table) (defScope s_table) .none kV12 dc12 pm12 an12 cd12 ct12), sl12⟩)
    (c12 : PySem.W.codeIn K cd12 "table" = true)
    (k12 : PySem.W.keepIn K (.ref f12) = true)
    (a13 : PySem.W.nsIn K mainGlobals "without" = some (some (.ref f13)))
    (l13 : K.lookup f13 = some ⟨oc13, od13, .func (PySem.W.fnOf "without" "without" (defArgs s_without) (defBody s_without) (defScope s_without) .none kV13 dc13 pm13 an13 cd13 ct13), sl13⟩)
    (c13 : PySem.W.codeIn K cd13 "without" = true)
    (k13 : PySem.W.keepIn K (.ref f13) = true)
    (a14 : PySem.W.nsIn K mainGlobals "law" = some (some (.ref f14)))
    (l14 : K.lookup f14 = some ⟨oc14, od14, .func (PySem.W.fnOf "law" "law" (defArgs s_law) (defBody s_law) (defScope s_law) .none kV14 dc14 pm14 an14 cd14 ct14), sl14⟩)
    (c14 : PySem.W.codeIn K cd14 "law" = true)
    (k14 : PySem.W.keepIn K (.ref f14) = true)
    (z_abs : PySem.W.nsIn K mainGlobals "abs" = some none)
    (z_bool : PySem.W.nsIn K mainGlobals "bool" = some none)
    (z_enumerate : PySem.W.nsIn K mainGlobals "enumerate" = some none)
    (z_int : PySem.W.nsIn K mainGlobals "int" = some none)
    (z_isinstance : PySem.W.nsIn K mainGlobals "isinstance" = some none)
    (z_len : PySem.W.nsIn K mainGlobals "len" = some none)
    (z_list : PySem.W.nsIn K mainGlobals "list" = some none)
    (z_max : PySem.W.nsIn K mainGlobals "max" = some none)
    (z_range : PySem.W.nsIn K mainGlobals "range" = some none)
    (z_str : PySem.W.nsIn K mainGlobals "str" = some none)
    (z_tuple : PySem.W.nsIn K mainGlobals "tuple" = some none)
    (v_MOST_DOUBLED : PySem.W.nsIn K mainGlobals "MOST_DOUBLED" = some (some (.int 6 t_MOST_DOUBLED)))
    (g_NoString : PySem.W.nsIn K mainGlobals "NoString" = some (some (.ref C_NoString)))
    (q_NoString : PySem.W.excIn K C_NoString [.type "ValueError", .type "Exception", .type "BaseException", .type "object"] "ValueError.__new__" = true)
    (kp_NoString : PySem.W.keepIn K (.ref C_NoString) = true)
    (ty_NoString : PySem.W.typeIn K (.ref C_NoString) = some (.type "type"))
    (hg_NoString : PySem.W.findIn K (.ref C_NoString) "__getattribute__" = some (some (.builtin "BaseException.__getattribute__")))
    (hk_NoString : PySem.W.findIn K (.ref C_NoString) "__getattr__" = some none)
    (hd_NoString : PySem.W.hasDictIn K C_NoString = true)
    (ha_NoString : PySem.W.findIn K (.ref C_NoString) "__class__" = some (some (.builtin "object.__class__")))
    (hm_NoString : PySem.W.mroIn K C_NoString (.type "object") = some true)
    (hn : PySem.W.specialIn K (.builtin "object.__class__") "__get__" = some (some (.builtin "getset_descriptor.__get__")))
    (ht : PySem.W.takesIn K (.builtin "object.__class__") = some true)
    (hs_NoString : PySem.W.subIn K (.ref C_NoString) (.type "BaseException") = some true) :
    ∃ (fd : FuncData) (cl : String → Addr), (∀ (s : Shared) (v : Value), BindsTo s fd ⟨[v], []⟩ [("_law_script", v)]) ∧ ∀ base : Heap, K.In base → base.Ns mainGlobals mg → FnOk P w K mg base (L2.CX P w) 8 fa fd ["_law_script"] (Ctr K cl 1 m_law) := by
  have e := hfa.symm.trans (PySem.W.mg_of X G a14)
  cases e
  refine ⟨PySem.W.fnOf "law" "law" (defArgs s_law) (defBody s_law) (defScope s_law) .none kV14 dc14 pm14 an14 cd14 ct14, fun z => if z = "NoString" then C_NoString else 0, fun s v => .of_eq rfl, fun base _ _ => ?_⟩
  have T : Tb K mg (fun z => if z = "NoString" then C_NoString else 0) := { z_abs := PySem.W.mg_none_of X G z_abs, z_bool := PySem.W.mg_none_of X G z_bool, z_enumerate := PySem.W.mg_none_of X G z_enumerate, z_int := PySem.W.mg_none_of X G z_int, z_isinstance := PySem.W.mg_none_of X G z_isinstance, z_len := PySem.W.mg_none_of X G z_len, z_list := PySem.W.mg_none_of X G z_list, z_max := PySem.W.mg_none_of X G z_max, z_range := PySem.W.mg_none_of X G z_range, z_str := PySem.W.mg_none_of X G z_str, z_tuple := PySem.W.mg_none_of X G z_tuple, c_MOST_DOUBLED := ⟨_, PySem.W.mg_of X G v_MOST_DOUBLED⟩, gc_NoString := PySem.W.mg_of X G g_NoString, e_NoString := ⟨q_NoString, kp_NoString, ⟨hg_NoString, hk_NoString, hs_NoString, hd_NoString, ha_NoString, hn, ht, hm_NoString⟩, ty_NoString⟩ }
  have X0 : Fx K mg "_law_cell_at" s_law_cell_at f0 _ ["_law_script", "_law_k"] := ⟨fun_mk (st := s_law_cell_at) l0 c0 k0, PySem.W.mg_of X G a0, (fun_mk (st := s_law_cell_at) l0 c0 k0).binds fun _ _ _ _ _ _ us hl => match us, hl with | [_, _], _ => rfl⟩
  have X1 : Fx K mg "_law_mix" s_law_mix f1 _ ["_law_cell", "_law_k", "_law_factor"] := ⟨fun_mk (st := s_law_mix) l1 c1 k1, PySem.W.mg_of X G a1, (fun_mk (st := s_law_mix) l1 c1 k1).binds fun _ _ _ _ _ _ us hl => match us, hl with | [_, _, _], _ => rfl⟩
  have X2 : Fx K mg "_law_crossing" s_law_crossing f2 _ ["_law_number_here", "_law_n"] := ⟨fun_mk (st := s_law_crossing) l2 c2 k2, PySem.W.mg_of X G a2, (fun_mk (st := s_law_crossing) l2 c2 k2).binds fun _ _ _ _ _ _ us hl => match us, hl with | [_, _], _ => rfl⟩
  have X3 : Fx K mg "_law_piece" s_law_piece f3 _ ["_law_number_here", "_law_n"] := ⟨fun_mk (st := s_law_piece) l3 c3 k3, PySem.W.mg_of X G a3, (fun_mk (st := s_law_piece) l3 c3 k3).binds fun _ _ _ _ _ _ us hl => match us, hl with | [_, _], _ => rfl⟩
  have X4 : Fx K mg "_law_drawn" s_law_drawn f4 _ ["_law_cells", "_law_n", "_law_most"] := ⟨fun_mk (st := s_law_drawn) l4 c4 k4, PySem.W.mg_of X G a4, (fun_mk (st := s_law_drawn) l4 c4 k4).binds fun _ _ _ _ _ _ us hl => match us, hl with | [_, _, _], _ => rfl⟩
  have X5 : Fx K mg "_law_number" s_law_number f5 _ ["_law_x"] := ⟨fun_mk (st := s_law_number) l5 c5 k5, PySem.W.mg_of X G a5, (fun_mk (st := s_law_number) l5 c5 k5).binds fun _ _ _ _ _ _ us hl => match us, hl with | [_], _ => rfl⟩
  have X6 : Fx K mg "_law_equal" s_law_equal f6 _ ["_law_found", "_law_due"] := ⟨fun_mk (st := s_law_equal) l6 c6 k6, PySem.W.mg_of X G a6, (fun_mk (st := s_law_equal) l6 c6 k6).binds fun _ _ _ _ _ _ us hl => match us, hl with | [_, _], _ => rfl⟩
  have X7 : Fx K mg "_law_picked" s_law_picked f7 _ ["_law_counts", "_law_strings_here"] := ⟨fun_mk (st := s_law_picked) l7 c7 k7, PySem.W.mg_of X G a7, (fun_mk (st := s_law_picked) l7 c7 k7).binds fun _ _ _ _ _ _ us hl => match us, hl with | [_, _], _ => rfl⟩
  have X8 : Fx K mg "_law_strings" s_law_strings f8 _ ["_law_seed", "_law_least", "_law_most"] := ⟨fun_mk (st := s_law_strings) l8 c8 k8, PySem.W.mg_of X G a8, (fun_mk (st := s_law_strings) l8 c8 k8).binds fun _ _ _ _ _ _ us hl => match us, hl with | [_, _, _], _ => rfl⟩
  have X9 : Fx K mg "_law_table" s_law_table f9 _ ["_law_n", "_law_word"] := ⟨fun_mk (st := s_law_table) l9 c9 k9, PySem.W.mg_of X G a9, (fun_mk (st := s_law_table) l9 c9 k9).binds fun _ _ _ _ _ _ us hl => match us, hl with | [_, _], _ => rfl⟩
  have X10 : Fx K mg "with_sign" s_with_sign f10 _ ["number", "k"] := ⟨fun_mk (st := s_with_sign) l10 c10 k10, PySem.W.mg_of X G a10, (fun_mk (st := s_with_sign) l10 c10 k10).binds fun _ _ _ _ _ _ us hl => match us, hl with | [_, _], _ => rfl⟩
  have X11 : Fx K mg "doubled" s_doubled f11 _ ["n", "word", "s"] := ⟨fun_mk (st := s_doubled) l11 c11 k11, PySem.W.mg_of X G a11, (fun_mk (st := s_doubled) l11 c11 k11).binds fun _ _ _ _ _ _ us hl => match us, hl with | [_, _, _], _ => rfl⟩
  have X12 : Fx K mg "table" s_table f12 _ ["n", "word"] := ⟨fun_mk (st := s_table) l12 c12 k12, PySem.W.mg_of X G a12, (fun_mk (st := s_table) l12 c12 k12).binds fun _ _ _ _ _ _ us hl => match us, hl with | [_, _], _ => rfl⟩
  have X13 : Fx K mg "without" s_without f13 _ ["n", "word", "s"] := ⟨fun_mk (st := s_without) l13 c13 k13, PySem.W.mg_of X G a13, (fun_mk (st := s_without) l13 c13 k13).binds fun _ _ _ _ _ _ us hl => match us, hl with | [_, _, _], _ => rfl⟩
  have X14 : Fx K mg "law" s_law fa _ ["_law_script"] := ⟨fun_mk (st := s_law) l14 c14 k14, PySem.W.mg_of X G a14, (fun_mk (st := s_law) l14 c14 k14).binds fun _ _ _ _ _ _ us hl => match us, hl with | [_], _ => rfl⟩
  have G0 : FnOk P w K mg base (L2.CX P w) 1 f0 _ ["_law_script", "_law_k"] (Ctr K _ 2 m_law_cell_at) := ok_law_cell_at T X0
  have G1 : FnOk P w K mg base (L2.CX P w) 1 f1 _ ["_law_cell", "_law_k", "_law_factor"] (Ctr K _ 3 m_law_mix) := ok_law_mix T X1
  have G2 : FnOk P w K mg base (L2.CX P w) 1 f2 _ ["_law_number_here", "_law_n"] (Ctr K _ 2 m_law_crossing) := ok_law_crossing T X2
  have G3 : FnOk P w K mg base (L2.CX P w) 2 f3 _ ["_law_number_here", "_law_n"] (Ctr K _ 2 m_law_piece) := ok_law_piece T X3 X2 G2
  have G4 : FnOk P w K mg base (L2.CX P w) 3 f4 _ ["_law_cells", "_law_n", "_law_most"] (Ctr K _ 3 m_law_drawn) := ok_law_drawn T X4 X1 G1 X3 G3
  have G5 : FnOk P w K mg base (L2.CX P w) 1 f5 _ ["_law_x"] (Ctr K _ 1 m_law_number) := ok_law_number T X5
  have G6_1 : FnOk P w K mg base (L2.CX P w) (1 + 1) f6 _ ["_law_found", "_law_due"] (Ctr K _ 2 (m_law_equal 1)) := ok_law_equal T X6 X5 G5 (d := 0) (fnNo fun _ => rfl)
  have G6_2 : FnOk P w K mg base (L2.CX P w) (1 + 2) f6 _ ["_law_found", "_law_due"] (Ctr K _ 2 (m_law_equal 2)) := ok_law_equal T X6 X5 G5 (d := 1) G6_1
  have G6_3 : FnOk P w K mg base (L2.CX P w) (1 + 3) f6 _ ["_law_found", "_law_due"] (Ctr K _ 2 (m_law_equal 3)) := ok_law_equal T X6 X5 G5 (d := 2) G6_2
  have G6_4 : FnOk P w K mg base (L2.CX P w) (1 + 4) f6 _ ["_law_found", "_law_due"] (Ctr K _ 2 (m_law_equal 4)) := ok_law_equal T X6 X5 G5 (d := 3) G6_3
  have G6_5 : FnOk P w K mg base (L2.CX P w) (1 + 5) f6 _ ["_law_found", "_law_due"] (Ctr K _ 2 (m_law_equal 5)) := ok_law_equal T X6 X5 G5 (d := 4) G6_4
  have G6 : FnOk P w K mg base (L2.CX P w) 7 f6 _ ["_law_found", "_law_due"] (Ctr K _ 2 (m_law_equal 5)) := G6_5.mono (by decide)
  have G7 : FnOk P w K mg base (L2.CX P w) 1 f7 _ ["_law_counts", "_law_strings_here"] (Ctr K _ 2 m_law_picked) := ok_law_picked T X7
  have G8 : FnOk P w K mg base (L2.CX P w) 1 f8 _ ["_law_seed", "_law_least", "_law_most"] (Ctr K _ 3 m_law_strings) := ok_law_strings T X8
  have G9 : FnOk P w K mg base (L2.CX P w) 1 f9 _ ["_law_n", "_law_word"] (Ctr K _ 2 m_law_table) := ok_law_table T X9
  have G10 : FnOk P w K mg base (L2.CX P w) 1 f10 _ ["number", "k"] (Ctr K _ 2 m_with_sign) := ok_with_sign T X10
  have G11 : FnOk P w K mg base (L2.CX P w) 2 f11 _ ["n", "word", "s"] (Ctr K _ 3 m_doubled) := ok_doubled T X11 X10 G10
  have G12 : FnOk P w K mg base (L2.CX P w) 1 f12 _ ["n", "word"] (Ctr K _ 2 m_table) := ok_table T X12
  have G13 : FnOk P w K mg base (L2.CX P w) 2 f13 _ ["n", "word", "s"] (Ctr K _ 3 m_without) := ok_without T X13 X10 G10
  have G14 : FnOk P w K mg base (L2.CX P w) 8 fa _ ["_law_script"] (Ctr K _ 1 m_law) := ok_law T X14 X0 G0 X4 G4 X6 G6 X7 G7 X8 G8 X9 G9 X11 G11 X12 G12 X13 G13
  exact G14
end BL
open PySem PySem.W PyProof.Rows
set_option maxHeartbeats 0 in
theorem PySem.Challenge.cw_braidcomb_k54_tables_of_both_holds : PySem.Challenge.rw_braidcomb_k54_tables_of_both.Holds := by
  w_on; o_law; k_head; (case hw => w_witness2)
  k_fill
  refine L2.walk_of (l := PySem.Challenge.rw_braidcomb_k54_tables_of_both) (n := 63) (k := 8) (x := "_law_script") (CX := fun w => L2.CX (PySem.Challenge.rw_braidcomb_k54_tables_of_both).prog w) (sp := fun w => BC.CtrL _ BL.m_law) rfl (by decide) rfl ⟨rfl, by decide, by decide⟩ (fun w h Y => PySem.W.kIn_of Y) ?F (fun w H a ns hl _ hS => BC.ctrL hS (BL.law_true ns hl)) (fun w H s e s' h => BC.cx_no h)
  case F =>
    intro w mg fa h KX G hmg
    refine BC.ctrF ?_
    refine' BL.all_mk KX G hmg ?a0 ?l0 ?c0 ?k0 ?a1 ?l1 ?c1 ?k1 ?a2 ?l2 ?c2 ?k2 ?a3 ?l3 ?c3 ?k3 ?a4 ?l4 ?c4 ?k4 ?a5 ?l5 ?c5 ?k5 ?a6 ?l6 ?c6 ?k6 ?a7 ?l7 ?c7 ?k7 ?a8 ?l8 ?c8 ?k8 ?a9 ?l9 ?c9 ?k9 ?a10 ?l10 ?c10 ?k10 ?a11 ?l11 ?c11 ?k11 ?a12 ?l12 ?c12 ?k12 ?a13 ?l13 ?c13 ?k13 ?a14 ?l14 ?c14 ?k14 ?z_abs ?z_bool ?z_enumerate ?z_int ?z_isinstance ?z_len ?z_list ?z_max ?z_range ?z_str ?z_tuple ?v_MOST_DOUBLED ?g_NoString ?q_NoString ?kp_NoString ?ty_NoString ?hg_NoString ?hk_NoString ?hd_NoString ?ha_NoString ?hm_NoString ?hn ?ht ?hs_NoString
    (case a0 => k_is); (case l0 => k_is); (case c0 => k_is); (case k0 => k_is); (case a1 => k_is); (case l1 => k_is); (case c1 => k_is); (case k1 => k_is); (case a2 => k_is); (case l2 => k_is); (case c2 => k_is); (case k2 => k_is); (case a3 => k_is); (case l3 => k_is); (case c3 => k_is); (case k3 => k_is); (case a4 => k_is); (case l4 => k_is); (case c4 => k_is); (case k4 => k_is); (case a5 => k_is); (case l5 => k_is); (case c5 => k_is); (case k5 => k_is); (case a6 => k_is); (case l6 => k_is); (case c6 => k_is); (case k6 => k_is); (case a7 => k_is); (case l7 => k_is); (case c7 => k_is); (case k7 => k_is); (case a8 => k_is); (case l8 => k_is); (case c8 => k_is); (case k8 => k_is); (case a9 => k_is); (case l9 => k_is); (case c9 => k_is); (case k9 => k_is); (case a10 => k_is); (case l10 => k_is); (case c10 => k_is); (case k10 => k_is); (case a11 => k_is); (case l11 => k_is); (case c11 => k_is); (case k11 => k_is); (case a12 => k_is); (case l12 => k_is); (case c12 => k_is); (case k12 => k_is); (case a13 => k_is); (case l13 => k_is); (case c13 => k_is); (case k13 => k_is); (case a14 => k_is); (case l14 => k_is); (case c14 => k_is); (case k14 => k_is); (case z_abs => k_is); (case z_bool => k_is); (case z_enumerate => k_is); (case z_int => k_is); (case z_isinstance => k_is); (case z_len => k_is); (case z_list => k_is); (case z_max => k_is); (case z_range => k_is); (case z_str => k_is); (case z_tuple => k_is); (case v_MOST_DOUBLED => k_is); (case g_NoString => k_is); (case kp_NoString => k_is); (case ty_NoString => k_is); (case hg_NoString => k_is); (case hk_NoString => k_is); (case hd_NoString => k_is); (case ha_NoString => k_is); (case hm_NoString => k_is); (case hn => k_is); (case ht => k_is); (case hs_NoString => k_is)
    (case q_NoString => k_exc)
