import PyProof.Rows.All
import Wide.All
import OpenK.AllK
import Wide.FinOn
import HandS.ForMost
import HandS.WordsExc
import HandS.IsInst
import HandS.RevRange
import HandS.Style
import HandS.TupAny
import HandS.SortInts
import HandS.TryOnly
import HandS.TryMany
import HandS.TryElse
import HandS.RaiseMore
import KE.KRevIter
import HandS.More
import HandS.Rev
import HandS.RevTup
import PyProof.FactsAll.range_iterator_1
import PyProof.Rows.StrJoinStr
import HandS.ExcValue
import HandS.StrMore
import HandS.Text
import HandS.ExcIs
import KE.KDictCopyH
import HandS.ClsMeth
import HandS.NoneIn
import HandS.Dict
import KE.SortData
import HandS.SortRule
import HandS.Defaults
import HandS.CallSlots
import HandS.Deep
import PySem.Challenge.RW_braidcomb_k82_refused_changes_nothing
set_option Elab.async false
set_option linter.all false
set_option maxRecDepth 100000
set_option maxHeartbeats 4000000
namespace BC
open PySem PySem.Spec PyProof.Rows L2

/-! ## values without a heap, and what they stand for -/
/-- how a list is held: frozen (nobody changes it any more), owned (by one holder alone), borrowed (read for a while), the script -/
inductive Kd | fz | ow | bo | sc
  deriving DecidableEq

inductive D
  | non | bl (b : Bool) | int (i : Int) | str (s : Str)
  | lst (k : Kd) (xs : List D) | tup (xs : List D) | exc (c : String) (a : Addr)
  | dic (k : Kd) (ks : List Int) | loc (a : Addr)
  | obj (k : Kd) (a : Addr) (C : Option Addr) (ns : List Str) (fs : List D) | wit (d : D) (os : List D)

abbrev Env := List (Option D)

inductive R (α : Type)
  | ok (a : α) | er (c : String) | no
def R.bind {α β : Type} : R α → (α → R β) → R β
  | .ok a, f => f a
  | .er c, _ => .er c
  | .no, _ => .no
instance : Monad R where
  pure := R.ok
  bind := R.bind
@[simp] theorem R.bind_ok {α β : Type} (a : α) (f : α → R β) : (R.ok a >>= f) = f a := rfl
@[simp] theorem R.bind_er {α β : Type} (c : String) (f : α → R β) : ((R.er c : R α) >>= f) = R.er c := rfl
@[simp] theorem R.bind_no {α β : Type} (f : α → R β) : ((R.no : R α) >>= f) = R.no := rfl
@[simp] theorem R.bind_ok' {α β : Type} (a : α) (f : α → R β) : (R.ok a).bind f = f a := rfl
@[simp] theorem R.bind_er' {α β : Type} (c : String) (f : α → R β) : (R.er c : R α).bind f = R.er c := rfl
@[simp] theorem R.bind_no' {α β : Type} (f : α → R β) : (R.no : R α).bind f = R.no := rfl

/-- node of a list -/
def Nd (K : PySem.W.Frag) (B H : Hp) : Kd → Addr → List V → Prop
  | .fz, a, vs => B a = some (.lst vs)
  | .ow, a, vs => H a = some (.lst vs)
  | .bo, a, vs => H a = some (.lst vs)
  | .sc, a, vs => SqL K B a vs

/-- a dict of whole numbers, each with True -/
def dicO (ks : List Int) : HO := .dK (ks.map fun i => (Sum.inl i, V.bl true))
def NdD (B H : Hp) : Kd → Addr → HO → Prop
  | .fz, a, o => B a = some o
  | .ow, a, o => H a = some o
  | .bo, a, o => H a = some o
  | .sc, _, _ => False
def dicP : Kd → Addr → List Addr
  | .ow, a => [a]
  | _, _ => []
/-- an instance of the class at C, or (none) a dict whose keys are texts -/
def objO (C : Option Addr) (dx : Addr) (us : List (Str × V)) : HO := match C with
  | some C => .ins C dx us
  | none => .dK (us.map fun p => (Sum.inr p.1, p.2))
def objD (H : Hp) (C : Option Addr) (a dx : Addr) : Prop := match C with
  | some _ => H dx = some (.own a)
  | none => True
/-- an exception of the class at C stands at a -/
def ExT (C a : Addr) : HO := .ext fun h => ∃ (oe : Obj) (vs : Array Value), h.get? a = some oe ∧ Zc (.ref C) none oe ∧ oe.data = .fields vs
mutual
def Rp (K : PySem.W.Frag) (B H : Hp) : D → V → List Addr → Prop
  | .non, v, ps => v = .non ∧ ps = []
  | .bl b, v, ps => v = .bl b ∧ ps = []
  | .int i, v, ps => v = .int i ∧ ps = []
  | .str s, v, ps => v = .str s ∧ ps = []
  | .lst k xs, v, ps => ∃ a vs qs, v = .ref a ∧ Nd K B H k a vs ∧ (match k with
      | .ow => ps = a :: qs
      | .bo => ps = qs
      | .fz => ps = [] ∧ qs = []
      | .sc => ps = [] ∧ qs = []) ∧ Rps K B H xs vs qs
  | .tup xs, v, ps => ∃ a vs, v = .ref a ∧ H a = some (.tup vs) ∧ Rps K B H xs vs ps
  | .exc _ C, v, ps => ∃ a, v = .ref a ∧ H a = some (ExT C a) ∧ ps = []
  | .dic k ks, v, ps => ∃ a, v = .ref a ∧ NdD B H k a (dicO ks) ∧ ps = dicP k a
  | .loc a, v, ps => v = .ref a ∧ ps = []
  | .obj k a C ns fs, v, ps => ∃ dx vs qs, v = .ref a ∧ NdD B H k a (objO C dx (ns.zip vs)) ∧ vs.length = ns.length ∧ objD H C a dx ∧ (match k with
      | .ow => ps = a :: qs
      | .bo => ps = qs
      | .fz => ps = [] ∧ qs = []
      | .sc => ps = [] ∧ qs = []) ∧ Rps K B H fs vs qs
  | .wit d os, v, ps => ∃ p q ws, ps = p ++ q ∧ Rp K B H d v p ∧ Rps K B H os ws q
def Rps (K : PySem.W.Frag) (B H : Hp) : List D → List V → List Addr → Prop
  | [], vs, ps => vs = [] ∧ ps = []
  | d :: ds, vs, ps => ∃ v vr p q, vs = v :: vr ∧ ps = p ++ q ∧ Rp K B H d v p ∧ Rps K B H ds vr q
end

/-- from (B, H) on to (B', H'): nothing that stood is changed, nothing that stood is frozen -/
structure Step (B H B' H' : Hp) : Prop where
  b : Same B B'
  h : Same H H'
  i : Same B' H'
  n : ∀ p o, B p = none → H p = some o → B' p = none
theorem Step.refl {B H : Hp} (i : Same B H) : Step B H B H := ⟨Same.refl _, Same.refl _, i, fun _ _ h _ => h⟩
theorem Step.trans {B H B1 H1 B2 H2 : Hp} (a : Step B H B1 H1) (b : Step B1 H1 B2 H2) : Step B H B2 H2 :=
  ⟨a.b.trans b.b, a.h.trans b.h, b.i, fun p vs h1 h2 => b.n p vs (a.n p vs h1 h2) (a.h p _ h2)⟩

theorem sqT_mono {K : PySem.W.Frag} {H H' : Hp} {a : Addr} {xs : List V} (e : Same H H') (h : SqT K H a xs) : SqT K H' a xs := by
  rcases h with (h | ⟨o, h⟩) | h
  · exact .inl (.inl (e _ _ h))
  · exact .inl (.inr ⟨o, e _ _ h⟩)
  · exact .inr h
theorem nd_mono {K : PySem.W.Frag} {B H B' H' : Hp} {k : Kd} {a : Addr} {vs : List V} (b : Same B B') (h : Same H H') (n : Nd K B H k a vs) : Nd K B' H' k a vs := by
  cases k with
  | fz => exact b _ _ n
  | ow => exact h _ _ n
  | bo => exact h _ _ n
  | sc => exact b.seq n
theorem ndD_mono {B H B' H' : Hp} {k : Kd} {a : Addr} {o : HO} (b : Same B B') (h : Same H H') (n : NdD B H k a o) : NdD B' H' k a o := by
  cases k with
  | fz => exact b _ _ n
  | ow => exact h _ _ n
  | bo => exact h _ _ n
  | sc => exact n
theorem objD_mono {H H' : Hp} {C : Option Addr} {a dx : Addr} (h : Same H H') (o : objD H C a dx) : objD H' C a dx := by
  cases C with
  | none => trivial
  | some C => exact h _ _ o
mutual
theorem rp_mono {K : PySem.W.Frag} {B H B' H' : Hp} (b : Same B B') (h : Same H H') : ∀ {d : D} {v : V} {ps : List Addr}, Rp K B H d v ps → Rp K B' H' d v ps
  | .non, _, _, r => r
  | .bl _, _, _, r => r
  | .int _, _, _, r => r
  | .str _, _, _, r => r
  | .exc _ _, _, _, ⟨a, e1, e2, e3⟩ => ⟨a, e1, h _ _ e2, e3⟩
  | .dic _ _, _, _, ⟨a, e1, e2, e3⟩ => ⟨a, e1, ndD_mono b h e2, e3⟩
  | .loc _, _, _, r => r
  | .wit d os, v, ps, r => by
    unfold Rp at r ⊢
    obtain ⟨p, q, w, e, r1, r2⟩ := r
    exact ⟨p, q, w, e, rp_mono b h r1, rps_mono b h r2⟩
  | .obj k a C ns fs, v, ps, r => by
    unfold Rp at r ⊢
    obtain ⟨dx, vs, qs, e, n, l, o, q, r⟩ := r
    exact ⟨dx, vs, qs, e, ndD_mono b h n, l, objD_mono h o, q, rps_mono b h r⟩
  | .lst k xs, v, ps, r => by
    unfold Rp at r ⊢
    obtain ⟨a, vs, qs, e, n, q, r⟩ := r
    exact ⟨a, vs, qs, e, nd_mono b h n, q, rps_mono b h r⟩
  | .tup xs, v, ps, r => by
    unfold Rp at r ⊢
    obtain ⟨a, vs, e, n, r⟩ := r
    exact ⟨a, vs, e, h _ _ n, rps_mono b h r⟩
theorem rps_mono {K : PySem.W.Frag} {B H B' H' : Hp} (b : Same B B') (h : Same H H') : ∀ {ds : List D} {vs : List V} {ps : List Addr}, Rps K B H ds vs ps → Rps K B' H' ds vs ps
  | [], _, _, r => r
  | d :: ds, vs, ps, r => by
    unfold Rps at r ⊢
    obtain ⟨v, vr, p, q, e1, e2, r1, r2⟩ := r
    exact ⟨v, vr, p, q, e1, e2, rp_mono b h r1, rps_mono b h r2⟩
end

def Kd.bor : Kd → Kd
  | .ow => .bo
  | k => k
def Kd.frz : Kd → Kd
  | .sc => .sc
  | _ => .fz
def Kd.unf : Kd → Kd
  | .fz => .bo
  | k => k
mutual
def D.bor : D → D
  | .lst k xs => .lst k.bor (D.bors xs)
  | .tup xs => .tup (D.bors xs)
  | .non => .non
  | .bl b => .bl b
  | .int i => .int i
  | .str s => .str s
  | .exc c a => .exc c a
  | .dic k ks => .dic k.bor ks
  | .loc a => .loc a
  | .obj k a C ns fs => .obj k.bor a C ns (D.bors fs)
  | .wit d os => .wit d.bor (D.bors os)
def D.bors : List D → List D
  | [] => []
  | d :: ds => d.bor :: D.bors ds
end
mutual
def D.frz : D → D
  | .lst k xs => .lst k.frz (D.frzs xs)
  | .tup xs => .tup (D.frzs xs)
  | .non => .non
  | .bl b => .bl b
  | .int i => .int i
  | .str s => .str s
  | .exc c a => .exc c a
  | .dic k ks => .dic k.frz ks
  | .loc a => .loc a
  | .obj k a C ns fs => .obj k.frz a C ns (D.frzs fs)
  | .wit d _ => d.frz
def D.frzs : List D → List D
  | [] => []
  | d :: ds => d.frz :: D.frzs ds
end
mutual
/-- nothing borrowed in it -/
def D.sto : D → Bool
  | .lst .bo _ => false
  | .lst .ow xs => D.stos xs
  | .lst .fz xs => D.stos xs
  | .lst .sc xs => D.stos xs
  | .tup xs => D.stos xs
  | .non => true
  | .bl _ => true
  | .int _ => true
  | .str _ => true
  | .exc _ _ => true
  | .dic k _ => decide (k ≠ .bo)
  | .loc _ => true
  | .obj .bo _ _ _ _ => false
  | .obj .ow _ _ _ fs => D.stos fs
  | .obj .fz _ _ _ fs => D.stos fs
  | .obj .sc _ _ _ fs => D.stos fs
  | .wit _ _ => false
def D.stos : List D → Bool
  | [] => true
  | d :: ds => d.sto && D.stos ds
end
mutual
/-- the script is not in it -/
def D.nsc : D → Bool
  | .lst .sc _ => false
  | .lst .ow xs => D.nscs xs
  | .lst .fz xs => D.nscs xs
  | .lst .bo xs => D.nscs xs
  | .tup xs => D.nscs xs
  | .non => true
  | .bl _ => true
  | .int _ => true
  | .str _ => true
  | .exc _ _ => true
  | .dic k _ => decide (k ≠ .sc)
  | .loc _ => true
  | .obj .sc _ _ _ _ => false
  | .obj .ow _ _ _ fs => D.nscs fs
  | .obj .fz _ _ _ fs => D.nscs fs
  | .obj .bo _ _ _ fs => D.nscs fs
  | .wit _ _ => false
def D.nscs : List D → Bool
  | [] => true
  | d :: ds => d.nsc && D.nscs ds
end
mutual
/-- frozen ones told as borrowed (what a call hands back where something borrowed went in) -/
def D.unf : D → D
  | .lst k xs => .lst k.unf (D.unfs xs)
  | .tup xs => .tup (D.unfs xs)
  | .non => .non
  | .bl b => .bl b
  | .int i => .int i
  | .str s => .str s
  | .exc c a => .exc c a
  | .dic k ks => .dic k.unf ks
  | .loc a => .loc a
  | .obj k a C ns fs => .obj k.unf a C ns (D.unfs fs)
  | .wit d _ => d.unf
def D.unfs : List D → List D
  | [] => []
  | d :: ds => d.unf :: D.unfs ds
end

section
variable {K : PySem.W.Frag} {B H B' H' : Hp}
mutual
theorem rp_bor : ∀ {d : D} {v : V} {ps : List Addr}, Rp K B H d v ps → Rp K B H d.bor v []
  | .non, _, _, r => ⟨r.1, rfl⟩
  | .bl _, _, _, r => ⟨r.1, rfl⟩
  | .int _, _, _, r => ⟨r.1, rfl⟩
  | .str _, _, _, r => ⟨r.1, rfl⟩
  | .exc _ _, _, _, ⟨a, e1, e2, e3⟩ => ⟨a, e1, e2, rfl⟩
  | .dic k _, _, _, ⟨a, e1, e2, e3⟩ => ⟨a, e1, by cases k <;> exact e2, by cases k <;> rfl⟩
  | .loc _, _, _, r => ⟨r.1, rfl⟩
  | .wit d os, v, ps, r => by
    unfold Rp at r
    unfold D.bor Rp
    obtain ⟨p, q, w, e, r1, r2⟩ := r
    exact ⟨[], [], w, rfl, rp_bor r1, rps_bor r2⟩
  | .obj k a C ns fs, v, ps, r => by
    unfold Rp at r
    obtain ⟨dx, vs, qs, e, n, l, o, q, r⟩ := r
    unfold D.bor Rp
    refine ⟨dx, vs, [], e, ?_, l, o, ?_, rps_bor r⟩
    · cases k <;> exact n
    · cases k with
      | ow => rfl
      | bo => rfl
      | fz => exact ⟨rfl, rfl⟩
      | sc => exact ⟨rfl, rfl⟩
  | .lst k xs, v, ps, r => by
    unfold Rp at r
    obtain ⟨a, vs, qs, e, n, q, r⟩ := r
    unfold D.bor Rp
    refine ⟨a, vs, [], e, ?_, ?_, rps_bor r⟩
    · cases k <;> exact n
    · cases k with
      | ow => rfl
      | bo => rfl
      | fz => exact ⟨rfl, rfl⟩
      | sc => exact ⟨rfl, rfl⟩
  | .tup xs, v, ps, r => by
    unfold Rp at r
    unfold D.bor Rp
    obtain ⟨a, vs, e, n, r⟩ := r
    exact ⟨a, vs, e, n, rps_bor r⟩
theorem rps_bor : ∀ {ds : List D} {vs : List V} {ps : List Addr}, Rps K B H ds vs ps → Rps K B H (D.bors ds) vs []
  | [], _, _, r => ⟨r.1, rfl⟩
  | d :: ds, vs, ps, r => by
    unfold Rps at r
    unfold D.bors Rps
    obtain ⟨v, vr, p, q, e1, e2, r1, r2⟩ := r
    exact ⟨v, vr, [], [], e1, rfl, rp_bor r1, rps_bor r2⟩
end
mutual
/-- all frozen, told over the whole heap -/
theorem rp_all (i : Same B H) : ∀ {d : D} {v : V} {ps : List Addr}, Rp K B H d v ps → Rp K H H d.frz v []
  | .loc _, _, _, r => ⟨r.1, rfl⟩
  | .wit d o, v, ps, r => by
    unfold Rp at r
    unfold D.frz
    obtain ⟨p, q, w, e, r1, r2⟩ := r
    exact rp_all i r1
  | .obj k a C ns fs, v, ps, r => by
    unfold Rp at r
    obtain ⟨dx, vs, qs, e, n, l, o, q, r⟩ := r
    unfold D.frz Rp
    refine ⟨dx, vs, [], e, ?_, l, o, ?_, rps_all i r⟩
    · cases k with
      | ow => exact n
      | bo => exact n
      | fz => exact i _ _ n
      | sc => exact n
    · cases k <;> exact ⟨rfl, rfl⟩
  | .non, _, _, r => ⟨r.1, rfl⟩
  | .bl _, _, _, r => ⟨r.1, rfl⟩
  | .int _, _, _, r => ⟨r.1, rfl⟩
  | .str _, _, _, r => ⟨r.1, rfl⟩
  | .exc _ _, _, _, ⟨a, e1, e2, e3⟩ => ⟨a, e1, e2, rfl⟩
  | .dic k _, _, _, ⟨a, e1, e2, e3⟩ => ⟨a, e1, by
      cases k with
      | fz => exact i _ _ e2
      | sc => exact e2
      | _ => exact e2, by cases k <;> rfl⟩
  | .lst k xs, v, ps, r => by
    unfold Rp at r
    obtain ⟨a, vs, qs, e, n, q, r⟩ := r
    unfold D.frz Rp
    refine ⟨a, vs, [], e, ?_, ?_, rps_all i r⟩
    · cases k with
      | ow => exact n
      | bo => exact n
      | fz => exact i _ _ n
      | sc => exact i.seq n
    · cases k <;> exact ⟨rfl, rfl⟩
  | .tup xs, v, ps, r => by
    unfold Rp at r
    unfold D.frz Rp
    obtain ⟨a, vs, e, n, r⟩ := r
    exact ⟨a, vs, e, n, rps_all i r⟩
theorem rps_all (i : Same B H) : ∀ {ds : List D} {vs : List V} {ps : List Addr}, Rps K B H ds vs ps → Rps K H H (D.frzs ds) vs []
  | [], _, _, r => ⟨r.1, rfl⟩
  | d :: ds, vs, ps, r => by
    unfold Rps at r
    unfold D.frzs Rps
    obtain ⟨v, vr, p, q, e1, e2, r1, r2⟩ := r
    exact ⟨v, vr, [], [], e1, rfl, rp_all i r1, rps_all i r2⟩
end
/-- the owned ones frozen as well -/
def ovr (B H : Hp) (ps : List Addr) : Hp := fun p => if p ∈ ps then H p else B p
theorem same_ovr {ps : List Addr} (i : Same B H) : Same B (ovr B H ps) := fun p o e => by
  unfold ovr
  split
  · exact i p o e
  · exact e
theorem ovr_same {ps : List Addr} (i : Same B H) : Same (ovr B H ps) H := fun p o e => by
  unfold ovr at e
  split at e
  · exact e
  · exact i p o e
theorem ovr_mem {ps : List Addr} {p : Addr} {o : HO} (h : p ∈ ps) (e : H p = some o) : ovr B H ps p = some o := by
  unfold ovr
  rw [if_pos h]
  exact e
theorem ovr_none {ps : List Addr} {p : Addr} (h : p ∉ ps) (e : B p = none) : ovr B H ps p = none := by
  unfold ovr
  rw [if_neg h]
  exact e
mutual
theorem rp_frz (b : Same B B') : ∀ {d : D} {v : V} {ps : List Addr}, d.sto = true → (∀ p ∈ ps, ∀ o, H p = some o → B' p = some o) → Rp K B H d v ps → Rp K B' H d.frz v []
  | .loc _, _, _, _, _, r => ⟨r.1, rfl⟩
  | .wit d o, v, ps, hs, _, r => by simp [D.sto] at hs
  | .obj k a C ns fs, v, ps, hs, h, r => by
    unfold Rp at r
    obtain ⟨dx, vs, qs, e, n, l, o, q, r⟩ := r
    unfold D.frz Rp
    cases k with
    | ow =>
      subst q
      exact ⟨dx, vs, [], e, h a (by simp) _ n, l, o, ⟨rfl, rfl⟩, rps_frz b (by simpa [D.sto] using hs) (fun p hp => h p (by simp [hp])) r⟩
    | bo => simp [D.sto] at hs
    | fz => exact ⟨dx, vs, [], e, b _ _ n, l, o, ⟨rfl, rfl⟩, rps_frz b (by simpa [D.sto] using hs) (fun p hp => absurd hp (by rw [q.2]; simp)) r⟩
    | sc => exact n.elim
  | .non, _, _, _, _, r => ⟨r.1, rfl⟩
  | .bl _, _, _, _, _, r => ⟨r.1, rfl⟩
  | .int _, _, _, _, _, r => ⟨r.1, rfl⟩
  | .str _, _, _, _, _, r => ⟨r.1, rfl⟩
  | .exc _ _, _, _, _, _, ⟨a, e1, e2, e3⟩ => ⟨a, e1, e2, rfl⟩
  | .dic k _, _, _, hs, h, ⟨a, e1, e2, e3⟩ => ⟨a, e1, by
      cases k with
      | ow => exact h a (by rw [e3]; simp [dicP]) _ e2
      | bo => simp [D.sto] at hs
      | fz => exact b _ _ e2
      | sc => exact e2, by cases k <;> rfl⟩
  | .lst k xs, v, ps, hs, h, r => by
    unfold Rp at r
    obtain ⟨a, vs, qs, e, n, q, r⟩ := r
    unfold D.frz Rp
    cases k with
    | ow =>
      subst q
      exact ⟨a, vs, [], e, h a (by simp) _ n, ⟨rfl, rfl⟩, rps_frz b (by simpa [D.sto] using hs) (fun p hp => h p (by simp [hp])) r⟩
    | bo => simp [D.sto] at hs
    | fz => exact ⟨a, vs, [], e, b _ _ n, ⟨rfl, rfl⟩, rps_frz b (by simpa [D.sto] using hs) (fun p hp => absurd hp (by rw [q.2]; simp)) r⟩
    | sc => exact ⟨a, vs, [], e, b.seq n, ⟨rfl, rfl⟩, rps_frz b (by simpa [D.sto] using hs) (fun p hp => absurd hp (by rw [q.2]; simp)) r⟩
  | .tup xs, v, ps, hs, h, r => by
    unfold Rp at r
    unfold D.frz Rp
    obtain ⟨a, vs, e, n, r⟩ := r
    exact ⟨a, vs, e, n, rps_frz b (by simpa [D.sto] using hs) h r⟩
theorem rps_frz (b : Same B B') : ∀ {ds : List D} {vs : List V} {ps : List Addr}, D.stos ds = true → (∀ p ∈ ps, ∀ o, H p = some o → B' p = some o) → Rps K B H ds vs ps → Rps K B' H (D.frzs ds) vs []
  | [], _, _, _, _, r => ⟨r.1, rfl⟩
  | d :: ds, vs, ps, hs, h, r => by
    unfold Rps at r
    unfold D.frzs Rps
    obtain ⟨v, vr, p, q, e1, e2, r1, r2⟩ := r
    subst e2
    simp only [D.stos, Bool.and_eq_true] at hs
    exact ⟨v, vr, [], [], e1, rfl, rp_frz b hs.1 (fun x hx => h x (by simp [hx])) r1, rps_frz b hs.2 (fun x hx => h x (by simp [hx])) r2⟩
end
mutual
/-- what was told as frozen over B' is borrowed over its heap -/
theorem rp_unf (i : Same B' H') : ∀ {d : D} {v : V} {ps : List Addr}, d.nsc = true → Rp K B' H' d v ps → Rp K B H' d.unf v ps
  | .loc _, _, _, _, r => r
  | .wit d o, v, ps, hs, r => by simp [D.nsc] at hs
  | .obj k a C ns fs, v, ps, hs, r => by
    unfold Rp at r
    obtain ⟨dx, vs, qs, e, n, l, o, q, r⟩ := r
    unfold D.unf Rp
    cases k with
    | ow => exact ⟨dx, vs, qs, e, n, l, o, q, rps_unf i (by simpa [D.nsc] using hs) r⟩
    | bo => exact ⟨dx, vs, qs, e, n, l, o, q, rps_unf i (by simpa [D.nsc] using hs) r⟩
    | fz =>
      obtain ⟨q1, q2⟩ := q
      subst q1 q2
      exact ⟨dx, vs, [], e, i _ _ n, l, o, rfl, rps_unf i (by simpa [D.nsc] using hs) r⟩
    | sc => exact n.elim
  | .non, _, _, _, r => r
  | .bl _, _, _, _, r => r
  | .int _, _, _, _, r => r
  | .str _, _, _, _, r => r
  | .exc _ _, _, _, _, r => r
  | .dic k _, _, _, hs, ⟨a, e1, e2, e3⟩ => ⟨a, e1, by
      cases k with
      | ow => exact e2
      | bo => exact e2
      | fz => exact i _ _ e2
      | sc => simp [D.nsc] at hs, by cases k <;> exact e3⟩
  | .lst k xs, v, ps, hs, r => by
    unfold Rp at r
    obtain ⟨a, vs, qs, e, n, q, r⟩ := r
    unfold D.unf Rp
    cases k with
    | ow => exact ⟨a, vs, qs, e, n, q, rps_unf i (by simpa [D.nsc] using hs) r⟩
    | bo => exact ⟨a, vs, qs, e, n, q, rps_unf i (by simpa [D.nsc] using hs) r⟩
    | fz =>
      obtain ⟨q1, q2⟩ := q
      subst q1 q2
      exact ⟨a, vs, [], e, i _ _ n, rfl, rps_unf i (by simpa [D.nsc] using hs) r⟩
    | sc => simp [D.nsc] at hs
  | .tup xs, v, ps, hs, r => by
    unfold Rp at r
    unfold D.unf Rp
    obtain ⟨a, vs, e, n, r⟩ := r
    exact ⟨a, vs, e, n, rps_unf i (by simpa [D.nsc] using hs) r⟩
theorem rps_unf (i : Same B' H') : ∀ {ds : List D} {vs : List V} {ps : List Addr}, D.nscs ds = true → Rps K B' H' ds vs ps → Rps K B H' (D.unfs ds) vs ps
  | [], _, _, _, r => r
  | d :: ds, vs, ps, hs, r => by
    unfold Rps at r
    unfold D.unfs Rps
    obtain ⟨v, vr, p, q, e1, e2, r1, r2⟩ := r
    simp only [D.nscs, Bool.and_eq_true] at hs
    exact ⟨v, vr, p, q, e1, e2, rp_unf i hs.1 r1, rps_unf i hs.2 r2⟩
end
/-- what may be changed -/
def Mu : HO → Bool
  | .lst _ => true
  | .dK _ => true
  | .ins _ _ _ => true
  | _ => false
theorem mu_objO {C : Option Addr} {dx : Addr} {us : List (Str × V)} : Mu (objO C dx us) = true := by cases C <;> rfl
/-- a change of what may be changed leaves the owner's mark -/
theorem objD_upd {H : Hp} {C : Option Addr} {a dx p : Addr} {o o' : HO} (hp : H p = some o) (m : Mu o = true) (h : objD H C a dx) : objD (upd H p o') C a dx := by
  cases C with
  | none => trivial
  | some C =>
    have h : H dx = some (.own a) := h
    exact (upd_ne (fun z => by subst z; rw [hp] at h; cases h; cases m)).trans h
mutual
/-- owned addresses stand in the heap as lists or dicts -/
theorem rp_own : ∀ {d : D} {v : V} {ps : List Addr}, Rp K B H d v ps → ∀ p ∈ ps, ∃ o, H p = some o ∧ Mu o = true
  | .loc _, _, _, r, p, hp => by rw [r.2] at hp; cases hp
  | .wit d o, v, ps, r, p, hp => by
    unfold Rp at r
    obtain ⟨p1, q, w, e, r1, r2⟩ := r
    subst e
    rcases List.mem_append.mp hp with h | h
    · exact rp_own r1 p h
    · exact rps_own r2 p h
  | .obj k a C ns fs, v, ps, r, p, hp => by
    unfold Rp at r
    obtain ⟨dx, vs, qs, e, n, l, o, q, r⟩ := r
    cases k with
    | ow =>
      subst q
      rcases List.mem_cons.mp hp with e | h
      · subst e; exact ⟨_, n, mu_objO⟩
      · exact rps_own r p h
    | bo => subst q; exact rps_own r p hp
    | fz => rw [q.1] at hp; cases hp
    | sc => rw [q.1] at hp; cases hp
  | .non, _, _, r, p, hp => by rw [r.2] at hp; cases hp
  | .bl _, _, _, r, p, hp => by rw [r.2] at hp; cases hp
  | .int _, _, _, r, p, hp => by rw [r.2] at hp; cases hp
  | .str _, _, _, r, p, hp => by rw [r.2] at hp; cases hp
  | .exc _ _, _, _, ⟨_, _, _, e3⟩, p, hp => by rw [e3] at hp; cases hp
  | .dic k _, _, _, ⟨a, e1, e2, e3⟩, p, hp => by
    cases k with
    | ow => rw [e3] at hp; obtain rfl := List.mem_singleton.mp hp; exact ⟨_, e2, rfl⟩
    | _ => rw [e3] at hp; cases hp
  | .lst k xs, v, ps, r, p, hp => by
    unfold Rp at r
    obtain ⟨a, vs, qs, e, n, q, r⟩ := r
    cases k with
    | ow =>
      subst q
      rcases List.mem_cons.mp hp with e | h
      · subst e; exact ⟨_, n, rfl⟩
      · exact rps_own r p h
    | bo => subst q; exact rps_own r p hp
    | fz => rw [q.1] at hp; cases hp
    | sc => rw [q.1] at hp; cases hp
  | .tup xs, v, ps, r, p, hp => by
    unfold Rp at r
    obtain ⟨a, vs, e, n, r⟩ := r
    exact rps_own r p hp
theorem rps_own : ∀ {ds : List D} {vs : List V} {ps : List Addr}, Rps K B H ds vs ps → ∀ p ∈ ps, ∃ o, H p = some o ∧ Mu o = true
  | [], _, _, r, p, hp => by rw [r.2] at hp; cases hp
  | d :: ds, vs, ps, r, p, hp => by
    unfold Rps at r
    obtain ⟨v, vr, p1, q, e1, e2, r1, r2⟩ := r
    subst e2
    rcases List.mem_append.mp hp with h | h
    · exact rp_own r1 p h
    · exact rps_own r2 p h
end
mutual
/-- a list that nobody here holds is changed -/
theorem rp_upd {p : Addr} {xs0 ys : List V} (hp : H p = some (.lst xs0)) (hb : B p = none) : ∀ {d : D} {v : V} {ps : List Addr}, d.sto = true → p ∉ ps → Rp K B H d v ps → Rp K B (upd H p (.lst ys)) d v ps
  | .loc _, _, _, _, _, r => r
  | .wit d o, v, ps, hs, hn, r => by simp [D.sto] at hs
  | .obj k a C ns fs, v, ps, hs, hn, r => by
    unfold Rp at r ⊢
    obtain ⟨dx, vs, qs, e, n, l, o, q, r⟩ := r
    have o' := objD_upd (o' := .lst ys) hp rfl o
    cases k with
    | ow =>
      subst q
      simp only [List.mem_cons, not_or] at hn
      exact ⟨dx, vs, qs, e, (upd_ne (Ne.symm hn.1)).trans n, l, o', rfl, rps_upd hp hb (by simpa [D.sto] using hs) hn.2 r⟩
    | bo => simp [D.sto] at hs
    | fz => exact ⟨dx, vs, qs, e, n, l, o', q, rps_upd hp hb (by simpa [D.sto] using hs) (by rw [q.2]; simp) r⟩
    | sc => exact n.elim
  | .non, _, _, _, _, r => r
  | .bl _, _, _, _, _, r => r
  | .int _, _, _, _, _, r => r
  | .str _, _, _, _, _, r => r
  | .exc _ _, _, _, _, _, ⟨a, e1, e2, e3⟩ => ⟨a, e1, (upd_ne (fun z => by subst z; rw [hp] at e2; cases e2)).trans e2, e3⟩
  | .dic k _, _, _, hs, _, ⟨a, e1, e2, e3⟩ => ⟨a, e1, by
      cases k with
      | ow => exact (upd_ne (fun z => by subst z; replace e2 := e2.symm.trans hp; cases e2)).trans e2
      | bo => simp [D.sto] at hs
      | fz => exact e2
      | sc => exact e2, e3⟩
  | .lst k xs, v, ps, hs, hn, r => by
    unfold Rp at r ⊢
    obtain ⟨a, vs, qs, e, n, q, r⟩ := r
    cases k with
    | ow =>
      subst q
      simp only [List.mem_cons, not_or] at hn
      exact ⟨a, vs, qs, e, (upd_ne (Ne.symm hn.1)).trans n, rfl, rps_upd hp hb (by simpa [D.sto] using hs) hn.2 r⟩
    | bo => simp [D.sto] at hs
    | fz => exact ⟨a, vs, qs, e, n, q, rps_upd hp hb (by simpa [D.sto] using hs) (by rw [q.2]; simp) r⟩
    | sc => exact ⟨a, vs, qs, e, n, q, rps_upd hp hb (by simpa [D.sto] using hs) (by rw [q.2]; simp) r⟩
  | .tup xs, v, ps, hs, hn, r => by
    unfold Rp at r ⊢
    obtain ⟨a, vs, e, n, r⟩ := r
    refine ⟨a, vs, e, ?_, rps_upd hp hb (by simpa [D.sto] using hs) hn r⟩
    have : a ≠ p := fun z => by subst z; rw [hp] at n; cases n
    exact (upd_ne this).trans n
theorem rps_upd {p : Addr} {xs0 ys : List V} (hp : H p = some (.lst xs0)) (hb : B p = none) : ∀ {ds : List D} {vs : List V} {ps : List Addr}, D.stos ds = true → p ∉ ps → Rps K B H ds vs ps → Rps K B (upd H p (.lst ys)) ds vs ps
  | [], _, _, _, _, r => r
  | d :: ds, vs, ps, hs, hn, r => by
    unfold Rps at r ⊢
    obtain ⟨v, vr, p1, q, e1, e2, r1, r2⟩ := r
    subst e2
    simp only [D.stos, Bool.and_eq_true] at hs
    simp only [List.mem_append, not_or] at hn
    exact ⟨v, vr, p1, q, e1, rfl, rp_upd hp hb hs.1 hn.1 r1, rps_upd hp hb hs.2 hn.2 r2⟩
end
mutual
/-- a dict that nobody here holds is changed -/
theorem rp_updD {p : Addr} {ks0 ks1 : List Int} (hp : H p = some (dicO ks0)) (hb : B p = none) : ∀ {d : D} {v : V} {ps : List Addr}, d.sto = true → p ∉ ps → Rp K B H d v ps → Rp K B (upd H p (dicO ks1)) d v ps
  | .loc _, _, _, _, _, r => r
  | .wit d o, v, ps, hs, hn, r => by simp [D.sto] at hs
  | .obj k a C ns fs, v, ps, hs, hn, r => by
    unfold Rp at r ⊢
    obtain ⟨dx, vs, qs, e, n, l, o, q, r⟩ := r
    have o' := objD_upd (o' := dicO ks1) hp rfl o
    cases k with
    | ow =>
      subst q
      simp only [List.mem_cons, not_or] at hn
      exact ⟨dx, vs, qs, e, (upd_ne (Ne.symm hn.1)).trans n, l, o', rfl, rps_updD hp hb (by simpa [D.sto] using hs) hn.2 r⟩
    | bo => simp [D.sto] at hs
    | fz => exact ⟨dx, vs, qs, e, n, l, o', q, rps_updD hp hb (by simpa [D.sto] using hs) (by rw [q.2]; simp) r⟩
    | sc => exact n.elim
  | .non, _, _, _, _, r => r
  | .bl _, _, _, _, _, r => r
  | .int _, _, _, _, _, r => r
  | .str _, _, _, _, _, r => r
  | .exc _ _, _, _, _, _, ⟨a, e1, e2, e3⟩ => ⟨a, e1, (upd_ne (fun z => by subst z; replace e2 := e2.symm.trans hp; cases e2)).trans e2, e3⟩
  | .dic k _, _, _, hs, hn, ⟨a, e1, e2, e3⟩ => ⟨a, e1, by
      cases k with
      | ow => exact (upd_ne (fun z => hn (by rw [e3, z]; simp [dicP]))).trans e2
      | bo => simp [D.sto] at hs
      | fz => exact e2
      | sc => exact e2, e3⟩
  | .lst k xs, v, ps, hs, hn, r => by
    unfold Rp at r ⊢
    obtain ⟨a, vs, qs, e, n, q, r⟩ := r
    cases k with
    | ow =>
      subst q
      simp only [List.mem_cons, not_or] at hn
      exact ⟨a, vs, qs, e, (upd_ne (Ne.symm hn.1)).trans n, rfl, rps_updD hp hb (by simpa [D.sto] using hs) hn.2 r⟩
    | bo => simp [D.sto] at hs
    | fz => exact ⟨a, vs, qs, e, n, q, rps_updD hp hb (by simpa [D.sto] using hs) (by rw [q.2]; simp) r⟩
    | sc => exact ⟨a, vs, qs, e, n, q, rps_updD hp hb (by simpa [D.sto] using hs) (by rw [q.2]; simp) r⟩
  | .tup xs, v, ps, hs, hn, r => by
    unfold Rp at r ⊢
    obtain ⟨a, vs, e, n, r⟩ := r
    refine ⟨a, vs, e, ?_, rps_updD hp hb (by simpa [D.sto] using hs) hn r⟩
    have : a ≠ p := fun z => by subst z; replace n := n.symm.trans hp; cases n
    exact (upd_ne this).trans n
theorem rps_updD {p : Addr} {ks0 ks1 : List Int} (hp : H p = some (dicO ks0)) (hb : B p = none) : ∀ {ds : List D} {vs : List V} {ps : List Addr}, D.stos ds = true → p ∉ ps → Rps K B H ds vs ps → Rps K B (upd H p (dicO ks1)) ds vs ps
  | [], _, _, _, _, r => r
  | d :: ds, vs, ps, hs, hn, r => by
    unfold Rps at r ⊢
    obtain ⟨v, vr, p1, q, e1, e2, r1, r2⟩ := r
    subst e2
    simp only [D.stos, Bool.and_eq_true] at hs
    simp only [List.mem_append, not_or] at hn
    exact ⟨v, vr, p1, q, e1, rfl, rp_updD hp hb hs.1 hn.1 r1, rps_updD hp hb hs.2 hn.2 r2⟩
end
theorem rps_len : ∀ {ds : List D} {vs : List V} {ps : List Addr}, Rps K B H ds vs ps → vs.length = ds.length
  | [], _, _, r => by rw [r.1]; rfl
  | d :: ds, vs, ps, r => by
    unfold Rps at r
    obtain ⟨v, vr, p1, q, e1, e2, r1, r2⟩ := r
    subst e1
    simp [rps_len r2]
/-- a list of any kind may be read -/
theorem rp_lst {k : Kd} {xs : List D} {v : V} {ps : List Addr} (i : Same B H) (r : Rp K B H (.lst k xs) v ps) : ∃ a vs qs, v = .ref a ∧ SqL K H a vs ∧ qs.Sublist ps ∧ Rps K B H xs vs qs := by
  unfold Rp at r
  obtain ⟨a, vs, qs, e, n, q, r⟩ := r
  refine ⟨a, vs, qs, e, ?_, ?_, r⟩
  · cases k with
    | ow => exact .of n
    | bo => exact .of n
    | fz => exact .of (i _ _ n)
    | sc => exact i.seq n
  · cases k with
    | ow => subst q; exact List.sublist_cons_self _ _
    | bo => subst q; exact List.Sublist.refl _
    | fz => rw [q.2]; exact List.nil_sublist _
    | sc => rw [q.2]; exact List.nil_sublist _
/-- a list that is not the script stands there as itself -/
theorem rp_lstX {k : Kd} {xs : List D} {v : V} {ps : List Addr} (i : Same B H) (hk : k ≠ .sc) (r : Rp K B H (.lst k xs) v ps) : ∃ a vs qs, v = .ref a ∧ H a = some (.lst vs) ∧ qs.Sublist ps ∧ Rps K B H xs vs qs := by
  unfold Rp at r
  obtain ⟨a, vs, qs, e, n, q, r⟩ := r
  refine ⟨a, vs, qs, e, ?_, ?_, r⟩
  · cases k with
    | ow => exact n
    | bo => exact n
    | fz => exact i _ _ n
    | sc => exact absurd rfl hk
  · cases k with
    | ow => subst q; exact List.sublist_cons_self _ _
    | bo => subst q; exact List.Sublist.refl _
    | fz => rw [q.2]; exact List.nil_sublist _
    | sc => rw [q.2]; exact List.nil_sublist _
theorem rps_at : ∀ {ds : List D} {vs : List V} {ps : List Addr} {j : Nat} {d : D}, Rps K B H ds vs ps → ds[j]? = some d → ∃ v p, vs[j]? = some v ∧ Rp K B H d v p ∧ p.Sublist ps
  | [], _, _, j, d, _, e => by simp at e
  | d0 :: ds, vs, ps, 0, d, r, e => by
    unfold Rps at r
    obtain ⟨v, vr, p1, q, e1, e2, r1, r2⟩ := r
    simp at e
    subst e e1 e2
    exact ⟨v, p1, by simp, r1, List.sublist_append_left _ _⟩
  | d0 :: ds, vs, ps, j + 1, d, r, e => by
    unfold Rps at r
    obtain ⟨v, vr, p1, q, e1, e2, r1, r2⟩ := r
    simp at e
    subst e1 e2
    obtain ⟨w, p, h1, h2, h3⟩ := rps_at r2 e
    exact ⟨w, p, by simpa using h1, h2, h3.trans (List.sublist_append_right _ _)⟩
theorem rps_at' : ∀ {ds : List D} {vs : List V} {ps : List Addr} {j : Nat} {v : V}, Rps K B H ds vs ps → vs[j]? = some v → ∃ d p, ds[j]? = some d ∧ Rp K B H d v p ∧ p.Sublist ps := fun {ds vs ps j v} r e => by
  have hj : j < ds.length := by
    rw [← rps_len r]
    exact (List.getElem?_eq_some_iff.mp e).1
  obtain ⟨w, p, h1, h2, h3⟩ := rps_at r (List.getElem?_eq_getElem hj)
  rw [e] at h1
  cases h1
  exact ⟨_, p, List.getElem?_eq_getElem hj, h2, h3⟩
theorem rps_app : ∀ {ds es : List D} {vs ws : List V} {ps qs : List Addr}, Rps K B H ds vs ps → Rps K B H es ws qs → Rps K B H (ds ++ es) (vs ++ ws) (ps ++ qs)
  | [], es, vs, ws, ps, qs, r, t => by
    rw [r.1, r.2]
    exact t
  | d :: ds, es, vs, ws, ps, qs, r, t => by
    unfold Rps at r
    obtain ⟨v, vr, p1, q, e1, e2, r1, r2⟩ := r
    subst e1 e2
    show Rps K B H (d :: (ds ++ es)) _ _
    unfold Rps
    exact ⟨v, vr ++ ws, p1, q ++ qs, rfl, by simp, r1, rps_app r2 t⟩
theorem rps_sub : ∀ {ds : List D} {vs : List V} {ps : List Addr} (n m : Nat), Rps K B H ds vs ps → ∃ qs, qs.Sublist ps ∧ Rps K B H ((ds.drop n).take m) ((vs.drop n).take m) qs
  | [], vs, ps, n, m, r => by
    rw [r.1]
    exact ⟨[], List.nil_sublist _, by simp [Rps]⟩
  | d :: ds, vs, ps, n + 1, m, r => by
    unfold Rps at r
    obtain ⟨v, vr, p1, q, e1, e2, r1, r2⟩ := r
    subst e1 e2
    obtain ⟨qs, h1, h2⟩ := rps_sub n m r2
    exact ⟨qs, h1.trans (List.sublist_append_right _ _), by simpa using h2⟩
  | d :: ds, vs, ps, 0, 0, r => ⟨[], List.nil_sublist _, by simp [Rps]⟩
  | d :: ds, vs, ps, 0, m + 1, r => by
    unfold Rps at r
    obtain ⟨v, vr, p1, q, e1, e2, r1, r2⟩ := r
    subst e1 e2
    obtain ⟨qs, h1, h2⟩ := rps_sub 0 m r2
    refine ⟨p1 ++ qs, List.Sublist.append (List.Sublist.refl _) h1, ?_⟩
    simp only [List.drop_zero, List.take_succ_cons] at h2 ⊢
    unfold Rps
    exact ⟨v, _, p1, qs, rfl, rfl, r1, h2⟩
end
end BC

namespace BC
open PySem PySem.Spec PyProof.Rows L2

/-! ## expressions as functions of the names' values -/
/-- what is wanted of an exception of a class -/
abbrev WC := String → L2.St → Hp → Prop
def W0 : WC := fun _ _ _ => False
def SlE (K : PySem.W.Frag) (B H : Hp) (env : Env) (σ : L2.St) : Prop := σ.length = env.length ∧ ∀ (i : Nat) (d : D), env[i]? = some (some d) → ∃ v, σ[i]? = some (some v) ∧ Rp K B H d.bor v []
def Fresh (H B' : Hp) (qs : List Addr) : Prop := ∀ q ∈ qs, H q = none ∧ B' q = none
def OkE (K : PySem.W.Frag) (B H : Hp) (d : D) (Q : VK) : Prop := ∀ v B' H' qs, Step B H B' H' → Rp K B' H' d v qs → qs.Nodup → Fresh H B' qs → Q v H'
def Pst (K : PySem.W.Frag) (W : WC) (B H : Hp) (σ : L2.St) (Q : VK) : R D → Prop
  | .ok d => OkE K B H d Q
  | .er c => ∀ H', Same H H' → W c σ H'
  | .no => False
/-- an expression's reading by its function -/
def tF (K : PySem.W.Frag) (W : WC) (f : Env → R D) : TE := fun σ H Q => ∃ env B, Same B H ∧ SlE K B H env σ ∧ Pst K W B H σ Q (f env)
def PstT (W : WC) (B H : Hp) (σ : L2.St) (Q : Bool → Hp → Prop) : R Bool → Prop
  | .ok b => ∀ B' H', Step B H B' H' → Q b H'
  | .er c => ∀ H', Same H H' → W c σ H'
  | .no => False
def tFT (K : PySem.W.Frag) (W : WC) (f : Env → R Bool) : TT := fun σ H Q => ∃ env B, Same B H ∧ SlE K B H env σ ∧ PstT W B H σ Q (f env)
def OkA (K : PySem.W.Frag) (B H : Hp) (ds : List D) (Q : List V → Hp → Prop) : Prop := ∀ vs B' H' qs, Step B H B' H' → Rps K B' H' ds vs qs → qs.Nodup → Fresh H B' qs → Q vs H'
def PstA (K : PySem.W.Frag) (W : WC) (B H : Hp) (σ : L2.St) (Q : List V → Hp → Prop) : R (List D) → Prop
  | .ok ds => OkA K B H ds Q
  | .er c => ∀ H', Same H H' → W c σ H'
  | .no => False
def tFA (K : PySem.W.Frag) (W : WC) (f : Env → R (List D)) : TA := fun σ H Q => ∃ env B, Same B H ∧ SlE K B H env σ ∧ PstA K W B H σ Q (f env)

theorem SlE.step {K : PySem.W.Frag} {B H B' H' : Hp} {env : Env} {σ : L2.St} (s : SlE K B H env σ) (t : Step B H B' H') : SlE K B' H' env σ := ⟨s.1, fun i d e => by
  obtain ⟨v, h1, h2⟩ := s.2 i d e
  exact ⟨v, h1, rp_mono t.b t.h h2⟩⟩
theorem Fresh.back {H H1 B : Hp} {qs : List Addr} (s : Same H H1) (f : Fresh H1 B qs) : Fresh H B qs := fun q hq => ⟨s.free (f q hq).1, (f q hq).2⟩
/-- owned addresses that came first are not among those that come later -/
theorem nodup_later {K : PySem.W.Frag} {B H B1 H1 B2 : Hp} {d : D} {v : V} {p q : List Addr} (r : Rp K B1 H1 d v p) (hp : p.Nodup) (hq : q.Nodup) (f : Fresh H1 B2 q) : (p ++ q).Nodup := by
  refine List.nodup_append.mpr ⟨hp, hq, fun x hx y hy e => ?_⟩
  subst e
  obtain ⟨vs, h, _⟩ := rp_own r x hx
  rw [(f x hy).1] at h
  cases h
theorem nodups_later {K : PySem.W.Frag} {B1 H1 B2 : Hp} {d : List D} {v : List V} {p q : List Addr} (r : Rps K B1 H1 d v p) (hp : p.Nodup) (hq : q.Nodup) (f : Fresh H1 B2 q) : (p ++ q).Nodup := by
  refine List.nodup_append.mpr ⟨hp, hq, fun x hx y hy e => ?_⟩
  subst e
  obtain ⟨vs, h, _⟩ := rps_own r x hx
  rw [(f x hy).1] at h
  cases h
/-- what was fresh stays off the frozen part -/
theorem Fresh.on {K : PySem.W.Frag} {H B1 H1 B2 H2 : Hp} {d : D} {v : V} {p : List Addr} (r : Rp K B1 H1 d v p) (f : Fresh H B1 p) (t : Step B1 H1 B2 H2) : Fresh H B2 p := fun q hq => by
  obtain ⟨vs, h, _⟩ := rp_own r q hq
  exact ⟨(f q hq).1, t.n q vs (f q hq).2 h⟩
theorem Fresh.ons {K : PySem.W.Frag} {H B1 H1 B2 H2 : Hp} {d : List D} {v : List V} {p : List Addr} (r : Rps K B1 H1 d v p) (f : Fresh H B1 p) (t : Step B1 H1 B2 H2) : Fresh H B2 p := fun q hq => by
  obtain ⟨vs, h, _⟩ := rps_own r q hq
  exact ⟨(f q hq).1, t.n q vs (f q hq).2 h⟩
theorem Fresh.app {H B : Hp} {p q : List Addr} (a : Fresh H B p) (b : Fresh H B q) : Fresh H B (p ++ q) := fun x hx => (List.mem_append.mp hx).elim (a x) (b x)

theorem peI {X : Cx} {e : Expr} {t t' : TE} (h : PE X e t) (i : ∀ σ H Q, t' σ H Q → t σ H Q) : PE X e t' := ⟨fun pins s σ H Q I hq => h.run pins s σ H Q I (i _ _ _ hq)⟩
theorem ptI {X : Cx} {e : Expr} {t t' : TT} (h : PT X e t) (i : ∀ σ H Q, t' σ H Q → t σ H Q) : PT X e t' := ⟨fun pins s σ H Q I hq => h.run pins s σ H Q I (i _ _ _ hq)⟩
theorem pwI {X : Cx} {e : Expr} {t t' : TT} (h : PW X e t) (i : ∀ σ H Q, t' σ H Q → t σ H Q) : PW X e t' := ⟨fun wh pins s σ H Q I hq => h.run wh pins s σ H Q I (i _ _ _ hq)⟩
theorem paI {X : Cx} {e : List Expr} {t t' : TA} (h : PA X e t) (i : ∀ σ H Q, t' σ H Q → t σ H Q) : PA X e t' := ⟨fun pos pins s σ H Q I hq => h.run pos pins s σ H Q I (i _ _ _ hq)⟩
theorem psI {X : Cx} {e : Stmt} {t t' : TS} (h : PS X e t) (i : ∀ D σ H, t' D σ H → t D σ H) : PS X e t' := ⟨fun pins s σ H D I hq => h.run pins s σ H D I (i _ _ _ hq)⟩
theorem pssI {X : Cx} {e : List Stmt} {t t' : TS} (h : PSs X e t) (i : ∀ D σ H, t' D σ H → t D σ H) : PSs X e t' := ⟨fun pins s σ H D I hq => h.run pins s σ H D I (i _ _ _ hq)⟩

/-! ### one after the other -/
section
variable {K : PySem.W.Frag} {W : WC} {B H : Hp} {env : Env} {σ : L2.St}
theorem tF_of {f : Env → R D} {Q : VK} (i : Same B H) (s : SlE K B H env σ) (h : Pst K W B H σ Q (f env)) : tF K W f σ H Q := ⟨env, B, i, s, h⟩
theorem tFT_of {f : Env → R Bool} {Q : Bool → Hp → Prop} (i : Same B H) (s : SlE K B H env σ) (h : PstT W B H σ Q (f env)) : tFT K W f σ H Q := ⟨env, B, i, s, h⟩
theorem tFA_of {f : Env → R (List D)} {Q : List V → Hp → Prop} (i : Same B H) (s : SlE K B H env σ) (h : PstA K W B H σ Q (f env)) : tFA K W f σ H Q := ⟨env, B, i, s, h⟩
theorem Pst.mono {r : R D} {Q Q' : VK} (h : Pst K W B H σ Q r) (i : ∀ v B' H', Step B H B' H' → Q v H' → Q' v H') : Pst K W B H σ Q' r := by
  cases r with
  | ok d => exact fun v B' H' qs st rp nd fr => i v B' H' st (h v B' H' qs st rp nd fr)
  | er c => exact h
  | no => exact h
/-- a value, then more: the value's representation is handed on -/
theorem seqE {β : Type} {f : Env → R D} {g : D → R β} {Q : VK} {P : R β → Prop} (i : Same B H) (s : SlE K B H env σ) (hP : P (f env >>= g)) (her : ∀ c, P (.er c) → ∀ H', Same H H' → W c σ H') (hno : ¬ P .no)
    (h : ∀ d v B' H' qs, f env = .ok d → P (g d) → Step B H B' H' → Rp K B' H' d v qs → qs.Nodup → Fresh H B' qs → Q v H') : tF K W f σ H Q := by
  refine tF_of i s ?_
  cases e : f env with
  | ok d =>
    rw [e] at hP
    exact fun v B' H' qs st rp nd fr => h d v B' H' qs e hP st rp nd fr
  | er c =>
    rw [e] at hP
    exact her c hP
  | no =>
    rw [e] at hP
    exact hno hP
theorem seqA {β : Type} {f : Env → R (List D)} {g : List D → R β} {Q : List V → Hp → Prop} {P : R β → Prop} (i : Same B H) (s : SlE K B H env σ) (hP : P (f env >>= g)) (her : ∀ c, P (.er c) → ∀ H', Same H H' → W c σ H') (hno : ¬ P .no)
    (h : ∀ ds vs B' H' qs, f env = .ok ds → P (g ds) → Step B H B' H' → Rps K B' H' ds vs qs → qs.Nodup → Fresh H B' qs → Q vs H') : tFA K W f σ H Q := by
  refine tFA_of i s ?_
  cases e : f env with
  | ok d =>
    rw [e] at hP
    exact fun v B' H' qs st rp nd fr => h d v B' H' qs e hP st rp nd fr
  | er c =>
    rw [e] at hP
    exact her c hP
  | no =>
    rw [e] at hP
    exact hno hP
theorem seqT {β : Type} {f : Env → R Bool} {g : Bool → R β} {Q : Bool → Hp → Prop} {P : R β → Prop} (i : Same B H) (s : SlE K B H env σ) (hP : P (f env >>= g)) (her : ∀ c, P (.er c) → ∀ H', Same H H' → W c σ H') (hno : ¬ P .no)
    (h : ∀ b B' H', f env = .ok b → P (g b) → Step B H B' H' → Q b H') : tFT K W f σ H Q := by
  refine tFT_of i s ?_
  cases e : f env with
  | ok d =>
    rw [e] at hP
    exact fun B' H' st => h d B' H' e hP st
  | er c =>
    rw [e] at hP
    exact her c hP
  | no =>
    rw [e] at hP
    exact hno hP
theorem erBack {H' : Hp} {c : String} {P : Prop} (t : Same H H') (h : ∀ H1, Same H H1 → W c σ H1) : ∀ H1, Same H' H1 → W c σ H1 := fun H1 s => h H1 (t.trans s)
end

/-! ### operations on values -/
def R.of {α : Type} : Option α → R α
  | some a => .ok a
  | none => .no
@[simp] theorem R.of_some {α : Type} (a : α) : R.of (some a) = R.ok a := (rfl)
@[simp] theorem R.of_none {α : Type} : R.of (none : Option α) = R.no := (rfl)
/-- what an operation may hand back: owned parts out of its operands, or new -/
def OkO (K : PySem.W.Frag) (B H : Hp) (ps : List Addr) (d : D) (Q : VK) : Prop := ∀ v B' H' qs, Step B H B' H' → Rp K B' H' d v qs → qs.Nodup → (∀ q ∈ qs, (q ∈ ps ∨ H q = none) ∧ B' q = none) → Q v H'
def Op2 (K : PySem.W.Frag) (r : R2) (op : D → D → Option D) : Prop := ∀ a b d x y B H p q Q, op a b = some d → Same B H → Rp K B H a x p → Rp K B H b y q → (p ++ q).Nodup → (∀ t ∈ p ++ q, B t = none) → OkO K B H (p ++ q) d Q → r x y H Q
def Op1 (K : PySem.W.Frag) (r : V → Hp → VK → Prop) (op : D → Option D) : Prop := ∀ a d x B H p Q, op a = some d → Same B H → Rp K B H a x p → p.Nodup → (∀ t ∈ p, B t = none) → OkO K B H p d Q → r x H Q
def OpA (K : PySem.W.Frag) (r : List V → Hp → VK → Prop) (op : List D → Option D) : Prop := ∀ as d xs B H p Q, op as = some d → Same B H → Rps K B H as xs p → p.Nodup → (∀ t ∈ p, B t = none) → OkO K B H p d Q → r xs H Q
def x2 (op : D → D → Option D) (f g : Env → R D) : Env → R D := fun env => do
  let a ← f env
  let b ← g env
  R.of (op a b)
def x1 (op : D → Option D) (f : Env → R D) : Env → R D := fun env => do
  let a ← f env
  R.of (op a)
def xA (op : List D → Option D) (f : Env → R (List D)) : Env → R D := fun env => do
  let a ← f env
  R.of (op a)
section
variable {K : PySem.W.Frag} {W : WC} {σ : L2.St} {H : Hp} {Q : VK}
theorem of_ok {B : Hp} {o : Option D} (h : Pst K W B H σ Q (R.of o)) : ∃ d, o = some d ∧ OkE K B H d Q := by
  cases o with
  | some d => exact ⟨d, rfl, h⟩
  | none => exact h.elim
/-- the end: from what the operation hands back -/
theorem okO_end {B0 H0 B : Hp} {ps : List Addr} {d : D} (t : Step B0 H0 B H) (f : Fresh H0 B ps) (h : OkE K B0 H0 d Q) : OkO K B H ps d Q := fun v B' H' qs st rp nd fr =>
  h v B' H' qs (t.trans st) rp nd fun q hq => ⟨(fr q hq).1.elim (fun z => (f q z).1) fun z => t.h.free z, (fr q hq).2⟩
theorem tOp_of {r : R2} {op : D → D → Option D} {f g : Env → R D} (ho : Op2 K r op) (h : tF K W (x2 op f g) σ H Q) : tOp r (tF K W f) (tF K W g) σ H Q := by
  obtain ⟨env, B, i, s, h⟩ := h
  refine seqE (P := Pst K W B H σ Q) (g := fun a => g env >>= fun b => R.of (op a b)) i s h (fun c z => z) (fun z => z) fun a x B1 H1 p e1 h1 st1 r1 nd1 fr1 => ?_
  refine seqE (P := Pst K W B H σ Q) (g := fun b => R.of (op a b)) st1.i (s.step st1) h1 (fun c z => erBack (P := True) st1.h z) (fun z => z) fun b y B2 H2 q e2 h2 st2 r2 nd2 fr2 => ?_
  obtain ⟨d, ed, hd⟩ := of_ok h2
  have fa : Fresh H B2 (p ++ q) := (Fresh.on r1 fr1 st2).app (fr2.back st1.h)
  exact ho a b d x y B2 H2 p q Q ed st2.i (rp_mono st2.b st2.h r1) r2 (nodup_later (B := B) (H := H) r1 nd1 nd2 fr2) (fun t ht => (fa t ht).2) (okO_end (st1.trans st2) fa hd)
theorem tUn_of {r : V → Hp → VK → Prop} {op : D → Option D} {f : Env → R D} (ho : Op1 K r op) (h : tF K W (x1 op f) σ H Q) : tUn r (tF K W f) σ H Q := by
  obtain ⟨env, B, i, s, h⟩ := h
  refine seqE (P := Pst K W B H σ Q) (g := fun a => R.of (op a)) i s h (fun c z => z) (fun z => z) fun a x B1 H1 p e1 h1 st1 r1 nd1 fr1 => ?_
  obtain ⟨d, ed, hd⟩ := of_ok h1
  exact ho a d x B1 H1 p Q ed st1.i r1 nd1 (fun t ht => (fr1 t ht).2) (okO_end st1 fr1 hd)
theorem tCB_of {r : List V → Hp → VK → Prop} {op : List D → Option D} {f : Env → R (List D)} (ho : OpA K r op) (h : tF K W (xA op f) σ H Q) : tCB r (tFA K W f) σ H Q := by
  obtain ⟨env, B, i, s, h⟩ := h
  refine seqA (P := Pst K W B H σ Q) (g := fun a => R.of (op a)) i s h (fun c z => z) (fun z => z) fun a x B1 H1 p e1 h1 st1 r1 nd1 fr1 => ?_
  obtain ⟨d, ed, hd⟩ := of_ok h1
  exact ho a d x B1 H1 p Q ed st1.i r1 nd1 (fun t ht => (fr1 t ht).2) (okO_end st1 fr1 hd)
end

/-! ### the leaves, argument lists -/
def xC (d : D) : Env → R D := fun _ => .ok d
def xVar (i : Nat) : Env → R D := fun env => match env[i]? with
  | some (some d) => .ok d.bor
  | _ => .no
def xNil : Env → R (List D) := fun _ => .ok []
def xCons (f : Env → R D) (g : Env → R (List D)) : Env → R (List D) := fun env => do
  let a ← f env
  let as ← g env
  R.ok (a :: as)
section
variable {X : Cx} {W : WC}
theorem okE_plain {K : PySem.W.Frag} {B H : Hp} {d : D} {v : V} {Q : VK} (i : Same B H) (r : Rp K B H d v []) (h : OkE K B H d Q) : Q v H := h v B H [] (.refl i) r .nil (by intro q hq; cases hq)
theorem se_c {e : Expr} {v : V} {d : D} (h : PE X e (tC v)) (r : ∀ B H, Rp X.K B H d v []) : PE X e (tF X.K W (xC d)) := peI h fun σ H Q ⟨env, B, i, s, h⟩ => okE_plain i (r B H) h
theorem se_int {i j pos} : PE X (.Constant (.int i) j pos) (tF X.K W (xC (.int i))) := se_c pe_int fun _ _ => ⟨rfl, rfl⟩
theorem se_bl {b j pos} : PE X (.Constant (.bool b) j pos) (tF X.K W (xC (.bl b))) := se_c pe_bl fun _ _ => ⟨rfl, rfl⟩
theorem se_non {j pos} : PE X (.Constant .none j pos) (tF X.K W (xC .non)) := se_c pe_non fun _ _ => ⟨rfl, rfl⟩
theorem se_str {x j pos} : PE X (.Constant (.str x) j pos) (tF X.K W (xC (.str x))) := se_c pe_str fun _ _ => ⟨rfl, rfl⟩
theorem se_var (i : Nat) {x : Str} {pos : Pos} (hN : X.N[i]? = some x := by rfl) (hv : Vis X.env.scope x := by first | exact Or.inl rfl | exact Or.inr (Or.inl rfl) | exact Or.inr (Or.inr rfl)) (hd : (x == ("__debug__" : Str)) = false := by decide)
    (hcd : (x == ("__classdict__" : Str)) = false := by decide) : PE X (.Name x pos) (tF X.K W (xVar i)) := peI (pe_var hN hv hd hcd) fun σ H Q ⟨env, B, ii, s, h⟩ => by
  unfold xVar at h
  cases e : env[i]? with
  | none => rw [e] at h; exact h.elim
  | some o =>
    cases o with
    | none => rw [e] at h; exact h.elim
    | some d =>
      rw [e] at h
      obtain ⟨v, h1, h2⟩ := s.2 i d e
      exact ⟨v, h1, okE_plain ii h2 h⟩
/-- a module's constant -/
theorem se_globI {x : Str} {i : Int} {pos : Pos} (hg : Gl X x) (hm : ∃ t, X.mg x = some (.int i t)) (hd : (x == ("__debug__" : Str)) = false := by decide) : PE X (.Name x pos) (tF X.K W (xC (.int i))) := by
  obtain ⟨t, hm⟩ := hm
  exact se_c (pe_glob (v := .int i) hg hm ⟨t, rfl⟩ hd) fun _ _ => ⟨rfl, rfl⟩
theorem se_globS {x : Str} {i : Str} {pos : Pos} (hg : Gl X x) (hm : ∃ t, X.mg x = some (.str i t)) (hd : (x == ("__debug__" : Str)) = false := by decide) : PE X (.Name x pos) (tF X.K W (xC (.str i))) := by
  obtain ⟨t, hm⟩ := hm
  exact se_c (pe_glob (v := .str i) hg hm ⟨t, rfl⟩ hd) fun _ _ => ⟨rfl, rfl⟩
theorem sa_nil : PA X [] (tFA X.K W xNil) := paI pa_nil fun σ H Q ⟨env, B, i, s, h⟩ => h [] B H [] (.refl i) ⟨rfl, rfl⟩ .nil (by intro q hq; cases hq)
theorem sa_cons {e : Expr} {es : List Expr} {f : Env → R D} {g : Env → R (List D)} (ha : PE X e (tF X.K W f)) (hr : PA X es (tFA X.K W g)) (hs : starEach (e :: es) X.env = (false, eval e X.env) :: starEach es X.env := by rfl) : PA X (e :: es) (tFA X.K W (xCons f g)) := by
  refine paI (pa_cons ha hr hs) fun σ H Q ⟨env, B, i, s, h⟩ => ?_
  refine seqE (P := PstA X.K W B H σ Q) (g := fun a => g env >>= fun as => R.ok (a :: as)) i s h (fun c z => z) (fun z => z) fun a x B1 H1 p e1 h1 st1 r1 nd1 fr1 => ?_
  refine seqA (P := PstA X.K W B H σ Q) (g := fun as => R.ok (a :: as)) st1.i (s.step st1) h1 (fun c z => erBack (P := True) st1.h z) (fun z => z) fun as xs B2 H2 q e2 h2 st2 r2 nd2 fr2 => ?_
  refine h2 (x :: xs) B2 H2 (p ++ q) (st1.trans st2) ?_ (nodup_later (B := B) (H := H) r1 nd1 nd2 fr2) ((Fresh.on r1 fr1 st2).app (fr2.back st1.h))
  unfold Rps
  exact ⟨x, xs, p, q, rfl, rfl, rp_mono st2.b st2.h r1, r2⟩
end
end BC

namespace BC
open PySem PySem.Spec PyProof.Rows L2

/-! ## the operations -/
theorem sz_line {n : Nat} (h : n ≤ 16777216) : n ≤ sizeLine := by rw [sizeLine_eq]; exact h
theorem same_upd {H : Hp} {p : Addr} {o : HO} (h : H p = none) : Same H (upd H p o) := fun b x e => by
  rw [upd_ne (ne_of_none e h)]
  exact e
/-- a new object that nothing frozen is -/
theorem step_new {B H : Hp} {p : Addr} {o : HO} (i : Same B H) (h : H p = none) : Step B H B (upd H p o) := ⟨.refl _, same_upd h, i.trans (same_upd h), fun _ _ h _ => h⟩
theorem noB {B H : Hp} {p : Addr} (i : Same B H) (h : H p = none) : B p = none := i.free h
section
variable {K : PySem.W.Frag} {B H : Hp} {ps : List Addr} {Q : VK}
theorem okO_plain {d : D} {v : V} (i : Same B H) (r : Rp K B H d v []) (h : OkO K B H ps d Q) : Q v H := h v B H [] (.refl i) r .nil (by intro q hq; cases hq)
theorem okO_int {n : Int} (i : Same B H) (h : OkO K B H ps (.int n) Q) : Q (.int n) H := okO_plain i (by unfold Rp; exact ⟨rfl, rfl⟩) h
theorem okO_bl {n : Bool} (i : Same B H) (h : OkO K B H ps (.bl n) Q) : Q (.bl n) H := okO_plain i (by unfold Rp; exact ⟨rfl, rfl⟩) h
theorem okO_str {n : Str} (i : Same B H) (h : OkO K B H ps (.str n) Q) : Q (.str n) H := okO_plain i (by unfold Rp; exact ⟨rfl, rfl⟩) h
/-- a new list of parts that are at hand -/
theorem okO_lst {xs : List D} {vs : List V} {qs : List Addr} (i : Same B H) (nd : ps.Nodup) (nb : ∀ q ∈ ps, B q = none) (r : Rps K B H xs vs qs) (sub : qs.Sublist ps) (h : OkO K B H ps (.lst .ow xs) Q) :
    ∀ p, H p = none → Q (.ref p) (upd H p (.lst vs)) := fun p hp => by
  refine h (.ref p) B (upd H p (.lst vs)) (p :: qs) (step_new i hp) ?_ ?_ ?_
  · unfold Rp
    exact ⟨p, vs, qs, rfl, upd_same, rfl, rps_mono (.refl _) (same_upd hp) r⟩
  · refine List.nodup_cons.mpr ⟨fun z => ?_, nd.sublist sub⟩
    obtain ⟨ws, e, _⟩ := rps_own r p z
    rw [hp] at e
    cases e
  · intro q hq
    rcases List.mem_cons.mp hq with e | z
    · subst e
      exact ⟨.inr hp, noB i hp⟩
    · exact ⟨.inl (sub.subset z), nb q (sub.subset z)⟩
theorem okO_tup {xs : List D} {vs : List V} {qs : List Addr} (i : Same B H) (nd : ps.Nodup) (nb : ∀ q ∈ ps, B q = none) (r : Rps K B H xs vs qs) (sub : qs.Sublist ps) (h : OkO K B H ps (.tup xs) Q) :
    ∀ p, H p = none → Q (.ref p) (upd H p (.tup vs)) := fun p hp => by
  refine h (.ref p) B (upd H p (.tup vs)) qs (step_new i hp) ?_ (nd.sublist sub) fun q z => ⟨.inl (sub.subset z), nb q (sub.subset z)⟩
  unfold Rp
  exact ⟨p, vs, rfl, upd_same, rps_mono (.refl _) (same_upd hp) r⟩
/-- a part of an operand -/
theorem okO_part {d : D} {v : V} {q : List Addr} (i : Same B H) (nd : ps.Nodup) (nb : ∀ q ∈ ps, B q = none) (r : Rp K B H d v q) (sub : q.Sublist ps) (h : OkO K B H ps d Q) : Q v H := h v B H q (.refl i) r (nd.sublist sub) fun t ht => ⟨.inl (sub.subset ht), nb t (sub.subset ht)⟩
theorem rp_int {i : Int} {v : V} {p : List Addr} (r : Rp K B H (.int i) v p) : v = .int i := r.1
theorem rp_bl {i : Bool} {v : V} {p : List Addr} (r : Rp K B H (.bl i) v p) : v = .bl i := r.1
theorem rp_str {i : Str} {v : V} {p : List Addr} (r : Rp K B H (.str i) v p) : v = .str i := r.1
theorem rp_tup {xs : List D} {v : V} {p : List Addr} (r : Rp K B H (.tup xs) v p) : ∃ a vs, v = .ref a ∧ SqT K H a vs ∧ Rps K B H xs vs p := by
  unfold Rp at r
  obtain ⟨a, vs, e, n, r⟩ := r
  exact ⟨a, vs, e, .of n, r⟩
theorem rp_tupX {xs : List D} {v : V} {p : List Addr} (r : Rp K B H (.tup xs) v p) : ∃ a vs, v = .ref a ∧ H a = some (.tup vs) ∧ Rps K B H xs vs p := by
  unfold Rp at r
  exact r
theorem nodup_sub {α : Type} {p q : List α} (h : p.Sublist q) (n : q.Nodup) : p.Nodup := n.sublist h
end

/-! ### + -/
def rCatS (K : PySem.W.Frag) : R2 := fun x y H Q => ∃ l b xs zs, x = .ref l ∧ y = .ref b ∧ SqL K H l xs ∧ SqL K H b zs ∧ xs.length + zs.length ≤ sizeLine ∧ ∀ p, H p = none → Q (.ref p) (upd H p (.lst (xs ++ zs)))
theorem op_catS {X : Cx} : OpR X (binaryOp .Add) (rCatS X.K) := by
  intro pins s σ H x y v u Q I rx ry h
  obtain ⟨l, b, xs, zs, e1, e2, hl, hb, hz, q⟩ := h
  subst e1 e2
  cases rx
  cases ry
  obtain ⟨i1, r1, ⟨⟨c1, d1, t1, s1⟩, n1, g1, k1, _, m1⟩, _⟩ := I.list hl
  obtain ⟨i2, r2, ⟨⟨c2, d2, t2, s2⟩, n2, g2, k2, _, m2⟩, _⟩ := I.list hb
  simp only at k1 m1 k2 m2
  subst k1 m1 k2 m2
  refine concat_meets ⟨_, g1, rfl⟩ ⟨_, g2, rfl⟩ noFill_list_add seq_list_add PySem.F.slot_list_add PySem.F.entry_list_add (PySem.F.args_list_add_2 _ _) (list_addW l b i1.toArray i2.toArray n1 n2 d1 d2 s1 s2 (by rw [List.size_toArray, List.size_toArray, ← r1.length, ← r2.length]; exact hz)) ⟨g1, g2, ?_⟩
  have ea : i1.toArray ++ i2.toArray = (i1 ++ i2).toArray := by simp
  rw [ea]
  exact ⟨.ref _, _, I.lnew (t' := s.toks) (r1.append r2) (by rw [List.length_append]; exact hz), rfl, q _ I.fresh⟩
def addD : D → D → Option D
  | .int i, .int j => some (.int (i + j))
  | .str s, .str t => if s.length + t.length ≤ 16777216 then some (.str (s ++ t)) else none
  | .lst _ xs, .lst _ ys => if xs.length + ys.length ≤ 16777216 then some (.lst .ow (xs ++ ys)) else none
  | .tup xs, .tup ys => if xs.length + ys.length ≤ 16777216 then some (.tup (xs ++ ys)) else none
  | _, _ => none
def rAddD (K : PySem.W.Frag) : R2 := fun x y H Q => (∃ i j, x = .int i ∧ y = .int j ∧ Q (.int (i + j)) H) ∨ ((∃ i j, x = .str i ∧ y = .str j ∧ i.length + j.length ≤ sizeLine ∧ Q (.str (i ++ j)) H) ∨ (rCatS K x y H Q ∨ rCatA K x y H Q))
theorem op_addD {X : Cx} : OpR X (binaryOp .Add) (rAddD X.K) := op_add.or (op_add_str.or (op_catS.or op_catA))
theorem o2_add {K : PySem.W.Frag} : Op2 K (rAddD K) addD := by
  intro a b d x y B H p q Q e i ra rb nd fb h
  unfold addD at e
  split at e
  · cases e
    exact .inl ⟨_, _, rp_int ra, rp_int rb, okO_int i h⟩
  · split at e
    · cases e
      rename_i hz
      exact .inr (.inl ⟨_, _, rp_str ra, rp_str rb, sz_line hz, okO_str i h⟩)
    · cases e
  · split at e
    · cases e
      rename_i hz
      obtain ⟨l, vs, qs, e1, s1, u1, r1⟩ := rp_lst i ra
      obtain ⟨m, ws, rs, e2, s2, u2, r2⟩ := rp_lst i rb
      exact .inr (.inr (.inl ⟨l, m, vs, ws, e1, e2, s1, s2, by rw [rps_len r1, rps_len r2]; exact sz_line hz, okO_lst i nd fb (rps_app r1 r2) (u1.append u2) h⟩))
    · cases e
  · split at e
    · cases e
      rename_i hz
      obtain ⟨l, vs, e1, s1, r1⟩ := rp_tupX ra
      obtain ⟨m, ws, e2, s2, r2⟩ := rp_tupX rb
      refine .inr (.inr (.inr ⟨l, m, vs, ws, e1, e2, .of s1, .of s2, by rw [rps_len r1, rps_len r2]; exact sz_line hz, fun z => ?_, fun _ z => ?_, fun _ _ => okO_tup i nd fb (rps_app r1 r2) (.refl _) h⟩))
      · subst z
        have r := rps_app r1 r2
        exact okO_part i nd fb (by unfold Rp; exact ⟨m, _, rfl, s2, r⟩) (.refl _) h
      · subst z
        have r := rps_app r1 r2
        rw [List.append_nil] at r
        exact okO_part i nd fb (by unfold Rp; exact ⟨l, _, rfl, s1, r⟩) (.refl _) h
    · cases e
  · cases e

/-! ### other arithmetic -/
def subD : D → D → Option D
  | .int i, .int j => some (.int (i - j))
  | _, _ => none
theorem o2_sub {K : PySem.W.Frag} : Op2 K (rI0 fun i j => .int (i - j)) subD := by
  intro a b d x y B H p q Q e i ra rb nd fb h
  unfold subD at e
  split at e
  · cases e
    exact ⟨_, _, rp_int ra, rp_int rb, okO_int i h⟩
  · cases e
def smallM (i : Int) : Bool := decide (-18446744073709551616 < i) && decide (i < 18446744073709551616)
theorem small_ok {i : Int} (h : smallM i = true) : -(2 ^ 64) < i ∧ i < 2 ^ 64 := by
  simp [smallM] at h
  exact ⟨by have := h.1; omega, by have := h.2; omega⟩
def repS (a : Str) (n : Nat) : Str := ⟨(List.replicate n a.cps.toList).flatten.toArray⟩
def mulD : D → D → Option D
  | .int i, .int j => if smallM i || smallM j then some (.int (i * j)) else none
  | .lst k xs, .int j => if k ≠ .sc ∧ -9223372036854775808 ≤ j ∧ j < 9223372036854775808 ∧ xs.length * j.toNat ≤ 16777216 ∧ xs.all (fun d => match d with | .int _ => true | .str _ => true | .bl _ => true | .non => true | _ => false) = true then some (.lst .ow (List.replicate j.toNat xs).flatten) else none
  | .str a, .int j => if -9223372036854775808 ≤ j ∧ j < 9223372036854775808 ∧ a.length * j.toNat ≤ 16777216 then some (.str (repS a j.toNat)) else none
  | _, _ => none
theorem rps_flat {K : PySem.W.Frag} {B H : Hp} : ∀ {xs : List D} {vs : List V} {ps : List Addr}, xs.all (fun d => match d with | .int _ => true | .str _ => true | .bl _ => true | .non => true | _ => false) = true → Rps K B H xs vs ps → Rps K B H xs vs []
  | [], _, _, _, r => ⟨r.1, rfl⟩
  | d :: ds, vs, ps, h, r => by
    unfold Rps at r ⊢
    obtain ⟨v, vr, p, q, e1, e2, r1, r2⟩ := r
    rw [List.all_cons, Bool.and_eq_true] at h
    refine ⟨v, vr, [], [], e1, rfl, ?_, rps_flat h.2 r2⟩
    cases d <;> first | exact ⟨r1.1, rfl⟩ | (exact absurd h.1 (by simp))
theorem rps_rep {K : PySem.W.Frag} {B H : Hp} {xs : List D} {vs : List V} (r : Rps K B H xs vs []) : ∀ n : Nat, Rps K B H (List.replicate n xs).flatten (List.replicate n vs).flatten []
  | 0 => ⟨rfl, rfl⟩
  | n + 1 => by
    rw [List.replicate_succ, List.replicate_succ, List.flatten_cons, List.flatten_cons]
    exact rps_app (ps := []) (qs := []) r (rps_rep r n)
def rRepS : R2 := fun x y H Q => ∃ (a : Str) (n : Int), x = .str a ∧ y = .int n ∧ -9223372036854775808 ≤ n ∧ n < 9223372036854775808 ∧ a.length * n.toNat ≤ 16777216 ∧ Q (.str (repS a n.toNat)) H
theorem foldl_repA (l : List Nat) (m : Nat) : ∀ acc : List Nat, List.foldl (fun x1 x2 => x1 ++ x2) acc.toArray (List.replicate m l.toArray) = (acc ++ (List.replicate m l).flatten).toArray := by
  induction m with
  | zero => intro acc; simp
  | succ m ih =>
    intro acc
    rw [List.replicate_succ, List.foldl_cons, List.append_toArray, ih, List.replicate_succ, List.flatten_cons, List.append_assoc]
theorem mul_repS (a : Str) (n : Int) : PySem.Txt.mul a n = repS a n.toNat := by
  obtain ⟨⟨l⟩⟩ := a
  unfold PySem.Txt.mul repS
  by_cases h1 : n < 1
  · rw [if_pos h1, show n.toNat = 0 by omega]
    rfl
  · rw [if_neg h1]
    by_cases h2 : (n == 1 || (Str.mk l.toArray).length == 0) = true
    · rw [if_pos h2]
      rw [Bool.or_eq_true, beq_iff_eq, beq_iff_eq] at h2
      rcases h2 with h2 | h2
      · subst h2
        simp
      · have : l = [] := by
          cases l with
          | nil => rfl
          | cons a l => simp [Str.length] at h2
        subst this
        simp
    · rw [if_neg h2]
      have := foldl_repA l n.toNat []
      simp only [List.nil_append] at this
      exact congrArg Str.mk this
theorem op_repS {X : Cx} : OpR X (binaryOp .Mult) rRepS := by
  intro pins s σ H x y v u Q I rx ry h
  obtain ⟨a, n, rfl, rfl, h1, h2, hz, q⟩ := h
  obtain ⟨t, rfl⟩ := rx
  obtain ⟨t', rfl⟩ := ry
  refine PySem.SB.mul ⟨?_, fun g1 _ => ?_, fun g1 _ => ?_⟩ fun t' k => ⟨.str _, H, I.tok _, ⟨_, rfl⟩, ?_⟩
  · simp
    omega
  · have e : ((a.length * n.toNat : Nat) : Int) = (a.length : Int) * n := by
      rw [Int.natCast_mul, Int.toNat_of_nonneg (by omega)]
    have : (a.length : Int) ≤ (2 ^ 63 - 1) / n := (Int.le_ediv_iff_mul_le (by omega)).mpr (by rw [← e]; omega)
    omega
  · simp [Builtin.Str.tooLong]
    have := sizeLine_eq
    omega
  · rw [mul_repS]
    exact q
theorem op_mulD {X : Cx} : OpR X (binaryOp .Mult) (fun x y H Q => rI CMul (fun i j => .int (i * j)) x y H Q ∨ (rRep x y H Q ∨ rRepS x y H Q)) := op_mul.or (op_rep.or op_repS)
theorem o2_mul {K : PySem.W.Frag} : Op2 K (fun x y H Q => rI CMul (fun i j => .int (i * j)) x y H Q ∨ (rRep x y H Q ∨ rRepS x y H Q)) mulD := by
  intro a b d x y B H p q Q e i ra rb nd fb h
  unfold mulD at e
  split at e
  · split at e
    · cases e
      rename_i hz
      refine .inl ⟨_, _, rp_int ra, rp_int rb, ?_, okO_int i h⟩
      rcases Bool.or_eq_true _ _ ▸ hz with z | z
      · exact .inl (small_ok z)
      · exact .inr (small_ok z)
    · cases e
  · split at e
    · cases e
      rename_i hz
      obtain ⟨z1, z2, z3, z4, z5⟩ := hz
      obtain ⟨l, vs, qs, e1, s1, u1, r1⟩ := rp_lstX i z1 ra
      exact .inr (.inl ⟨l, _, vs, e1, rp_int rb, s1, by omega, by omega, by rw [rps_len r1]; exact sz_line z4, okO_lst i nd fb (rps_rep (rps_flat z5 r1) _) (List.nil_sublist _) h⟩)
    · cases e
  · split at e
    · cases e
      rename_i hz
      exact .inr (.inr ⟨_, _, rp_str ra, rp_int rb, hz.1, hz.2.1, hz.2.2, okO_str i h⟩)
    · cases e
  · cases e
def divD : D → D → Option D
  | .int i, .int j => if 0 < j ∧ j < 1073741824 then some (.int (i / j)) else none
  | _, _ => none
theorem o2_div {K : PySem.W.Frag} : Op2 K (rI CDiv fun i j => .int (i / j)) divD := by
  intro a b d x y B H p q Q e i ra rb nd fb h
  unfold divD at e
  split at e
  · split at e
    · cases e
      rename_i hz
      exact ⟨_, _, rp_int ra, rp_int rb, hz, okO_int i h⟩
    · cases e
  · cases e
def modD : D → D → Option D
  | .int i, .int j => if 0 < j then some (.int (i % j)) else none
  | _, _ => none
theorem o2_mod {K : PySem.W.Frag} : Op2 K (rI (fun _ j => 0 < j) fun i j => .int (i % j)) modD := by
  intro a b d x y B H p q Q e i ra rb nd fb h
  unfold modD at e
  split at e
  · split at e
    · cases e
      rename_i hz
      exact ⟨_, _, rp_int ra, rp_int rb, hz, okO_int i h⟩
    · cases e
  · cases e
def powD : D → D → Option D
  | .int i, .int j => if 0 ≤ j ∧ j ≤ 1000000 ∧ i.natAbs < 18446744073709551616 then some (.int (i ^ j.toNat)) else none
  | _, _ => none
theorem o2_pow {K : PySem.W.Frag} : Op2 K (rI CPow fun i j => .int (i ^ j.toNat)) powD := by
  intro a b d x y B H p q Q e i ra rb nd fb h
  unfold powD at e
  split at e
  · split at e
    · cases e
      rename_i hz
      exact ⟨_, _, rp_int ra, rp_int rb, ⟨hz.1, hz.2.1, by have := hz.2.2; omega⟩, okO_int i h⟩
    · cases e
  · cases e
def negD : D → Option D
  | .int i => some (.int (-i))
  | _ => none
theorem o1_neg {K : PySem.W.Frag} : Op1 K (rU fun i => .int (-i)) negD := by
  intro a d x B H p Q e i ra nd fb h
  unfold negD at e
  split at e
  · cases e
    exact ⟨_, rp_int ra, okO_int i h⟩
  · cases e

/-! ### comparisons -/
def cmpD (g : Int → Int → Bool) : D → D → Option D
  | .int i, .int j => some (.bl (g i j))
  | _, _ => none
theorem o2_cmp {K : PySem.W.Frag} {g : Int → Int → Bool} : Op2 K (rI0 fun i j => .bl (g i j)) (cmpD g) := by
  intro a b d x y B H p q Q e i ra rb nd fb h
  unfold cmpD at e
  split at e
  · cases e
    exact ⟨_, _, rp_int ra, rp_int rb, okO_bl i h⟩
  · cases e
abbrev ltD := cmpD fun i j => decide (i < j)
abbrev leD := cmpD fun i j => decide (i ≤ j)
abbrev gtD := cmpD fun i j => decide (j < i)
abbrev geD := cmpD fun i j => decide (j ≤ i)
mutual
def D.py : D → PyData
  | .lst _ xs => .list (D.pys xs)
  | .tup xs => .tuple (D.pys xs)
  | .non => .none
  | .bl b => .bool b
  | .int i => .int i
  | .str s => .str s
  | .exc _ _ => .none
  | .dic _ _ => .none
  | .loc _ => .none
  | .wit _ _ => .none
  | .obj _ _ _ _ _ => .none
def D.pys : List D → List PyData
  | [] => []
  | d :: ds => d.py :: D.pys ds
end
mutual
def D.dat : D → Bool
  | .lst _ xs => D.dats xs
  | .tup xs => D.dats xs
  | .non => true
  | .bl _ => true
  | .int _ => true
  | .str _ => true
  | .exc _ _ => false
  | .dic _ _ => false
  | .loc _ => false
  | .wit _ _ => false
  | .obj _ _ _ _ _ => false
def D.dats : List D → Bool
  | [] => true
  | d :: ds => d.dat && D.dats ds
end
section
variable {K : PySem.W.Frag} {B H : Hp}
mutual
theorem rp_dp (i : Same B H) : ∀ {d : D} {v : V} {ps : List Addr}, d.dat = true → Rp K B H d v ps → Dp K H v d.py
  | .non, _, _, _, r => by rw [r.1]; exact .non
  | .bl _, _, _, _, r => by rw [r.1]; exact .bl _
  | .int _, _, _, _, r => by rw [r.1]; exact .int _
  | .str _, _, _, _, r => by rw [r.1]; exact .str _
  | .exc _ _, _, _, h, _ => by simp [D.dat] at h
  | .dic _ _, _, _, h, _ => by simp [D.dat] at h
  | .loc _, _, _, h, _ => by simp [D.dat] at h
  | .wit _ _, _, _, h, _ => by simp [D.dat] at h
  | .obj _ _ _ _ _, _, _, h, _ => by simp [D.dat] at h
  | .lst k xs, v, ps, h, r => by
    obtain ⟨a, vs, qs, e, s, u, r2⟩ := rp_lst i r
    subst e
    unfold D.py
    exact .lst s (rps_dp i (by simpa [D.dat] using h) r2)
  | .tup xs, v, ps, h, r => by
    obtain ⟨a, vs, e, s, r2⟩ := rp_tup r
    subst e
    unfold D.py
    exact .tup s (rps_dp i (by simpa [D.dat] using h) r2)
theorem rps_dp (i : Same B H) : ∀ {ds : List D} {vs : List V} {ps : List Addr}, D.dats ds = true → Rps K B H ds vs ps → DpAll K H vs (D.pys ds)
  | [], _, _, _, r => by rw [r.1]; exact .nil
  | d :: ds, vs, ps, h, r => by
    unfold Rps at r
    obtain ⟨v, vr, p, q, e1, e2, r1, r2⟩ := r
    subst e1
    simp only [D.dats, Bool.and_eq_true] at h
    unfold D.pys
    exact .cons (rp_dp i h.1 r1) (rps_dp i h.2 r2)
end
end
def D.cmpOk (d : D) : Bool := d.dat && SeqAt.shaped d.py
def D.eqv (a b : D) : Bool := PyData.eqv a.py b.py
def eqD (a b : D) : Option D := if a.cmpOk && b.cmpOk then some (.bl (a.eqv b)) else none
def neD (a b : D) : Option D := if a.cmpOk && b.cmpOk then some (.bl (!a.eqv b)) else none
theorem o2_eq {K : PySem.W.Frag} : Op2 K (rEqD K) eqD := by
  intro a b d x y B H p q Q e i ra rb nd fb h
  unfold eqD at e
  split at e
  · cases e
    rename_i hz
    simp only [D.cmpOk, Bool.and_eq_true] at hz
    exact ⟨_, _, rp_dp i hz.1.1 ra, rp_dp i hz.2.1 rb, hz.1.2, hz.2.2, okO_bl i h⟩
  · cases e
theorem o2_ne {K : PySem.W.Frag} : Op2 K (rNeD K) neD := by
  intro a b d x y B H p q Q e i ra rb nd fb h
  unfold neD at e
  split at e
  · cases e
    rename_i hz
    simp only [D.cmpOk, Bool.and_eq_true] at hz
    exact ⟨_, _, rp_dp i hz.1.1 ra, rp_dp i hz.2.1 rb, hz.1.2, hz.2.2, okO_bl i h⟩
  · cases e
def D.isNon : D → Bool
  | .non => true
  | .wit d _ => d.isNon
  | _ => false
theorem rp_non {K : PySem.W.Frag} {B H : Hp} : ∀ {a : D} {v : V} {p : List Addr}, Rp K B H a v p → decide (v = .non) = a.isNon
  | .non, _, _, r => by rw [r.1]; rfl
  | .bl _, _, _, r => by rw [r.1]; rfl
  | .int _, _, _, r => by rw [r.1]; rfl
  | .str _, _, _, r => by rw [r.1]; rfl
  | .exc _ _, _, _, ⟨_, e, _, _⟩ => by rw [e]; rfl
  | .dic _ _, _, _, ⟨_, e, _, _⟩ => by rw [e]; rfl
  | .loc _, _, _, r => by rw [r.1]; rfl
  | .wit d _, _, _, r => by
    unfold Rp at r
    obtain ⟨_, _, _, _, r1, _⟩ := r
    show _ = d.isNon
    exact rp_non (a := d) r1
  | .obj _ _ _ _ _, _, _, r => by
    unfold Rp at r
    obtain ⟨_, _, _, e, _⟩ := r
    rw [e]
    rfl
  | .lst _ _, _, _, r => by
    unfold Rp at r
    obtain ⟨_, _, _, e, _⟩ := r
    rw [e]
    rfl
  | .tup _, _, _, r => by
    unfold Rp at r
    obtain ⟨_, _, e, _⟩ := r
    rw [e]
    rfl
/-- is None | is True, is False -/
def isD : D → D → Option D
  | a, .non => some (.bl a.isNon)
  | .bl a, .bl b => some (.bl (a == b))
  | _, _ => none
def notisD : D → D → Option D
  | a, .non => some (.bl (!a.isNon))
  | .bl a, .bl b => some (.bl (!(a == b)))
  | _, _ => none
def rIsD : R2 := fun x y H Q => (y = .non ∧ Q (.bl (decide (x = .non))) H) ∨ rIsB x y H Q
def rNotIsD : R2 := fun x y H Q => (y = .non ∧ Q (.bl (!decide (x = .non))) H) ∨ rNotB x y H Q
theorem op_isD {X : Cx} : OpR X (compareOp .Is) rIsD := op_isN.or op_isBl
theorem op_notisD {X : Cx} : OpR X (compareOp .IsNot) rNotIsD := op_notN.or op_notBl
theorem o2_is {K : PySem.W.Frag} : Op2 K rIsD isD := by
  intro a b d x y B H p q Q e i ra rb nd fb h
  unfold isD at e
  split at e
  · cases e
    refine .inl ⟨rb.1, ?_⟩
    rw [rp_non ra]
    exact okO_bl i h
  · cases e
    refine .inr ⟨_, _, rp_bl ra, rp_bl rb, ?_⟩
    rw [← Bool.beq_eq_decide_eq]
    exact okO_bl i h
  · cases e
theorem o2_notis {K : PySem.W.Frag} : Op2 K rNotIsD notisD := by
  intro a b d x y B H p q Q e i ra rb nd fb h
  unfold notisD at e
  split at e
  · cases e
    refine .inl ⟨rb.1, ?_⟩
    rw [rp_non ra]
    exact okO_bl i h
  · cases e
    refine .inr ⟨_, _, rp_bl ra, rp_bl rb, ?_⟩
    rw [← Bool.beq_eq_decide_eq]
    exact okO_bl i h
  · cases e
end BC

namespace BC
open PySem PySem.Spec PyProof.Rows L2

/-! ## in, subscripts, slices, displays, built-ins -/
def D.flat : D → Bool
  | .non => true
  | .bl _ => true
  | .int _ => true
  | .str _ => true
  | _ => false
def D.toV : D → V
  | .non => .non
  | .bl b => .bl b
  | .int i => .int i
  | .str s => .str s
  | _ => .non
section
variable {K : PySem.W.Frag} {B H : Hp}
theorem rp_flat : ∀ {a : D} {v : V} {p : List Addr}, a.flat = true → Rp K B H a v p → v = a.toV ∧ flatV v = true
  | .non, _, _, _, r => by rw [r.1]; exact ⟨rfl, rfl⟩
  | .bl _, _, _, _, r => by rw [r.1]; exact ⟨rfl, rfl⟩
  | .int _, _, _, _, r => by rw [r.1]; exact ⟨rfl, rfl⟩
  | .str _, _, _, _, r => by rw [r.1]; exact ⟨rfl, rfl⟩
  | .exc _ _, _, _, h, _ => by simp [D.flat] at h
  | .dic _ _, _, _, h, _ => by simp [D.flat] at h
  | .loc _, _, _, h, _ => by simp [D.flat] at h
  | .wit _ _, _, _, h, _ => by simp [D.flat] at h
  | .obj _ _ _ _ _, _, _, h, _ => by simp [D.flat] at h
  | .lst _ _, _, _, h, _ => by simp [D.flat] at h
  | .tup _, _, _, h, _ => by simp [D.flat] at h
theorem rps_flats : ∀ {ds : List D} {vs : List V} {p : List Addr}, ds.all D.flat = true → Rps K B H ds vs p → vs = ds.map D.toV ∧ vs.all flatV = true
  | [], _, _, _, r => by rw [r.1]; exact ⟨rfl, rfl⟩
  | d :: ds, vs, p, h, r => by
    unfold Rps at r
    obtain ⟨v, vr, p1, q, e1, e2, r1, r2⟩ := r
    rw [List.all_cons, Bool.and_eq_true] at h
    obtain ⟨h1, h2⟩ := rp_flat h.1 r1
    obtain ⟨h3, h4⟩ := rps_flats h.2 r2
    subst e1
    exact ⟨by rw [h1, h3]; rfl, by rw [List.all_cons, h2, h4]; rfl⟩
end
def inD (neg : Bool) : D → D → Option D
  | x, .lst _ xs => if x.flat && xs.all D.flat then some (.bl (if neg then !inV x.toV (xs.map D.toV) else inV x.toV (xs.map D.toV))) else none
  | x, .tup xs => if x.flat && xs.all D.flat then some (.bl (if neg then !inV x.toV (xs.map D.toV) else inV x.toV (xs.map D.toV))) else none
  | _, _ => none
theorem o2_in {K : PySem.W.Frag} {neg : Bool} : Op2 K (rIn K neg) (inD neg) := by
  intro a b d x y B H p q Q e i ra rb nd fb h
  unfold inD at e
  split at e
  · split at e
    · cases e
      rename_i hz
      rw [Bool.and_eq_true] at hz
      obtain ⟨l, vs, qs, e1, s1, u1, r1⟩ := rp_lst i rb
      obtain ⟨h1, h2⟩ := rp_flat hz.1 ra
      obtain ⟨h3, h4⟩ := rps_flats hz.2 r1
      refine ⟨l, vs, e1, .inl s1, h2, h4, ?_⟩
      rw [h1, h3]
      exact okO_bl i h
    · cases e
  · split at e
    · cases e
      rename_i hz
      rw [Bool.and_eq_true] at hz
      obtain ⟨l, vs, e1, s1, r1⟩ := rp_tup rb
      obtain ⟨h1, h2⟩ := rp_flat hz.1 ra
      obtain ⟨h3, h4⟩ := rps_flats hz.2 r1
      refine ⟨l, vs, e1, .inr s1, h2, h4, ?_⟩
      rw [h1, h3]
      exact okO_bl i h
    · cases e
  · cases e
/-- the place of the first one that is equal -/
def idxD : List D → D → Option D
  | [.lst _ xs], y => if y.flat && xs.all D.flat then ((xs.map D.toV).findIdx? (fun z => eqV z y.toV)).map fun j => .int j else none
  | _, _ => none
def ixD : D → D → Option D
  | .lst _ xs, .int i => L2.atI xs i
  | .tup xs, .int i => L2.atI xs i
  | .str z, .int i => if z.length ≤ 16777216 then (L2.atI z.cps.toList i).map fun c => .str ⟨#[c]⟩ else none
  | _, _ => none
theorem rps_atI {K : PySem.W.Frag} {B H : Hp} {ds : List D} {vs : List V} {ps : List Addr} {i : Int} {d : D} (r : Rps K B H ds vs ps) (e : L2.atI ds i = some d) : ∃ v p, L2.atI vs i = some v ∧ Rp K B H d v p ∧ p.Sublist ps := by
  unfold L2.atI at e ⊢
  rw [rps_len r]
  cases h : L2.ixN ds.length i with
  | none => rw [h] at e; cases e
  | some j =>
    rw [h] at e
    exact rps_at r e
theorem o2_ix {K : PySem.W.Frag} : Op2 K (rIx K) ixD := by
  intro a b d x y B H p q Q e i ra rb nd fb h
  unfold ixD at e
  split at e
  · obtain ⟨l, vs, qs, e1, s1, u1, r1⟩ := rp_lst i ra
    obtain ⟨v, t, h1, h2, h3⟩ := rps_atI r1 e
    exact .inl ⟨l, vs, _, v, e1, rp_int rb, s1, h1, okO_part i nd fb h2 ((h3.trans u1).trans (List.sublist_append_left _ _)) h⟩
  · obtain ⟨l, vs, e1, s1, r1⟩ := rp_tup ra
    obtain ⟨v, t, h1, h2, h3⟩ := rps_atI r1 e
    exact .inr (.inl ⟨l, vs, _, v, e1, rp_int rb, s1, h1, okO_part i nd fb h2 (h3.trans (List.sublist_append_left _ _)) h⟩)
  · split at e
    · rename_i hz
      rw [Option.map_eq_some_iff] at e
      obtain ⟨c, e, e2⟩ := e
      subst e2
      exact .inr (.inr ⟨_, _, c, rp_str ra, rp_int rb, sz_line hz, e, okO_str i h⟩)
    · cases e
  · cases e
/-! slices -/
def PstO (W : WC) (B H : Hp) (σ : L2.St) (Q : Option Int → Hp → Prop) : R (Option Int) → Prop
  | .ok b => ∀ B' H', Step B H B' H' → Q b H'
  | .er c => ∀ H', Same H H' → W c σ H'
  | .no => False
def tFO (K : PySem.W.Frag) (W : WC) (f : Env → R (Option Int)) : TO := fun σ H Q => ∃ env B, Same B H ∧ SlE K B H env σ ∧ PstO W B H σ Q (f env)
def xP0 : Env → R (Option Int) := fun _ => .ok none
def xP1 (f : Env → R D) : Env → R (Option Int) := fun env => do
  let d ← f env
  match d with
  | .int i => .ok (some i)
  | _ => .no
def cutL {α : Type} (xs : List α) (lo hi : Option Int) : List α := (xs.drop (HT.sIx xs.length 0 lo)).take (HT.sIx xs.length xs.length hi - HT.sIx xs.length 0 lo)
theorem cutL_all {α : Type} {xs : List α} {lo hi : Option Int} (z : HT.sIx xs.length 0 lo = 0 ∧ HT.sIx xs.length xs.length hi = xs.length) : cutL xs lo hi = xs := by
  unfold cutL
  rw [z.1, z.2]
  simp
def slD : D → Option Int → Option Int → Option D
  | .lst _ xs, lo, hi => some (.lst .ow (cutL xs lo hi))
  | .tup xs, lo, hi => some (.tup (cutL xs lo hi))
  | .str z, lo, hi => if z.length ≤ 16777216 then some (.str (cutS z lo hi)) else none
  | _, _, _ => none
def xSl (f : Env → R D) (l u : Env → R (Option Int)) : Env → R D := fun env => do
  let a ← f env
  let lo ← l env
  let hi ← u env
  R.of (slD a lo hi)
def rSlD (K : PySem.W.Frag) : V → Option Int → Option Int → Hp → VK → Prop := fun x lo hi H Q => rSlL K x lo hi H Q ∨ (rSlA K x lo hi H Q ∨ rSlS x lo hi H Q)
theorem sl_D {X : Cx} : SlR X (rSlD X.K) := sl_list.or (sl_tupA.or sl_str)
theorem seqO {K : PySem.W.Frag} {W : WC} {B H : Hp} {env : Env} {σ : L2.St} {β : Type} {f : Env → R (Option Int)} {g : Option Int → R β} {Q : Option Int → Hp → Prop} {P : R β → Prop} (i : Same B H) (s : SlE K B H env σ) (hP : P (f env >>= g)) (her : ∀ c, P (.er c) → ∀ H', Same H H' → W c σ H') (hno : ¬ P .no)
    (h : ∀ b B' H', P (g b) → Step B H B' H' → Q b H') : tFO K W f σ H Q := by
  refine ⟨env, B, i, s, ?_⟩
  cases e : f env with
  | ok d =>
    rw [e] at hP
    exact fun B' H' st => h d B' H' hP st
  | er c =>
    rw [e] at hP
    exact her c hP
  | no =>
    rw [e] at hP
    exact hno hP
theorem sl_end {K : PySem.W.Frag} {a : D} {lo hi : Option Int} {d : D} {x : V} {B H : Hp} {p : List Addr} {Q : VK} (e : slD a lo hi = some d) (i : Same B H) (ra : Rp K B H a x p) (nd : p.Nodup) (fb : ∀ t ∈ p, B t = none) (h : OkO K B H p d Q) : rSlD K x lo hi H Q := by
  unfold slD at e
  split at e
  · cases e
    obtain ⟨l, vs, qs, e1, s1, u1, r1⟩ := rp_lst i ra
    obtain ⟨t, h1, h2⟩ := rps_sub _ _ r1
    refine .inl ⟨l, vs, e1, s1, okO_lst i nd fb (vs := cutV vs lo hi) ?_ (h1.trans u1) h⟩
    unfold cutV
    rw [rps_len r1]
    exact h2
  · cases e
    obtain ⟨l, vs, e1, s1, r1⟩ := rp_tupX ra
    subst e1
    obtain ⟨t, h1, h2⟩ := rps_sub _ _ r1
    refine .inr (.inl ⟨l, vs, rfl, .of s1, fun z => ?_, fun _ => okO_tup i nd fb (vs := cutV vs lo hi) ?_ h1 h⟩)
    · rw [rps_len r1] at z
      have ez := cutL_all z
      rw [ez] at h
      refine okO_part i nd fb (q := p) ?_ (.refl _) h
      unfold Rp
      exact ⟨l, vs, rfl, s1, r1⟩
    · unfold cutV
      rw [rps_len r1]
      exact h2
  · split at e
    · cases e
      rename_i hz
      exact .inr (.inr ⟨_, rp_str ra, sz_line hz, okO_str i h⟩)
    · cases e
  · cases e
section
variable {X : Cx} {W : WC} {e a b : Expr} {f g : Env → R D} {pos : Pos}
theorem so_none : PO X none (tFO X.K W xP0) := by
  refine ⟨fun pins s σ H Q I h => ?_⟩
  obtain ⟨env, B, i, sl, h⟩ := h
  exact po_none.run pins s σ H Q I (h B H (.refl i))
theorem so_some (ha : PE X e (tF X.K W f)) : PO X (some e) (tFO X.K W (xP1 f)) := by
  refine ⟨fun pins s σ H Q I h => (po_some ha).run pins s σ H Q I ?_⟩
  obtain ⟨env, B, i, sl, h⟩ := h
  refine seqE (P := PstO W B H σ Q) i sl h (fun c z => z) (fun z => z) fun d v B1 H1 q e1 h1 st r nd fr => ?_
  cases d with
  | int n => exact ⟨n, rp_int r, h1 B1 H1 st⟩
  | _ => exact h1.elim
theorem se_slice {lo hi : Option Expr} {l u : Env → R (Option Int)} {p2 : Pos} (ha : PE X e (tF X.K W f)) (hl : PO X lo (tFO X.K W l)) (hu : PO X hi (tFO X.K W u)) : PE X (.Subscript e (.Slice lo hi none p2) pos) (tF X.K W (xSl f l u)) := by
  refine peI (pe_slice sl_D ha hl hu) fun σ H Q ⟨env, B, i, s, h⟩ => ?_
  refine seqE (P := Pst X.K W B H σ Q) i s h (fun c z => z) (fun z => z) fun d v B1 H1 q e1 h1 st1 r nd fr => ?_
  refine seqO (P := Pst X.K W B H σ Q) st1.i (s.step st1) h1 (fun c z => erBack (P := True) st1.h z) (fun z => z) fun o1 B2 H2 h2 st2 => ?_
  refine seqO (P := Pst X.K W B H σ Q) st2.i ((s.step st1).step st2) h2 (fun c z => erBack (P := True) (st1.trans st2).h z) (fun z => z) fun o2 B3 H3 h3 st3 => ?_
  obtain ⟨d2, ed, hd⟩ := of_ok h3
  have st := st2.trans st3
  have fr3 : Fresh H B3 q := Fresh.on r fr st
  exact sl_end ed st3.i (rp_mono st.b st.h r) nd (fun t ht => (fr3 t ht).2) (okO_end (st1.trans st) fr3 hd)
/-! operations as expressions -/
theorem se_bin {op : Operator} {r : R2} {o : D → D → Option D} (ho : OpR X (binaryOp op) r) (h2 : Op2 X.K r o) (ha : PE X a (tF X.K W f)) (hb : PE X b (tF X.K W g)) : PE X (.BinOp a op b pos) (tF X.K W (x2 o f g)) := peI (pe_op ho ha hb) fun _ _ _ h => tOp_of h2 h
theorem se_add (ha : PE X a (tF X.K W f)) (hb : PE X b (tF X.K W g)) : PE X (.BinOp a .Add b pos) (tF X.K W (x2 addD f g)) := se_bin op_addD o2_add ha hb
theorem se_sub (ha : PE X a (tF X.K W f)) (hb : PE X b (tF X.K W g)) : PE X (.BinOp a .Sub b pos) (tF X.K W (x2 subD f g)) := se_bin op_sub o2_sub ha hb
theorem se_mul (ha : PE X a (tF X.K W f)) (hb : PE X b (tF X.K W g)) : PE X (.BinOp a .Mult b pos) (tF X.K W (x2 mulD f g)) := se_bin op_mulD o2_mul ha hb
theorem se_div (ha : PE X a (tF X.K W f)) (hb : PE X b (tF X.K W g)) : PE X (.BinOp a .FloorDiv b pos) (tF X.K W (x2 divD f g)) := se_bin op_fdiv o2_div ha hb
theorem se_mod (ha : PE X a (tF X.K W f)) (hb : PE X b (tF X.K W g)) : PE X (.BinOp a .Mod b pos) (tF X.K W (x2 modD f g)) := se_bin op_mod o2_mod ha hb
theorem se_pow (ha : PE X a (tF X.K W f)) (hb : PE X b (tF X.K W g)) : PE X (.BinOp a .Pow b pos) (tF X.K W (x2 powD f g)) := se_bin op_pow o2_pow ha hb
theorem se_neg (ha : PE X a (tF X.K W f)) : PE X (.UnaryOp .USub a pos) (tF X.K W (x1 negD f)) := peI (pe_un un_neg ha) fun _ _ _ h => tUn_of o1_neg h
theorem se_ix (ha : PE X a (tF X.K W f)) (hb : PE X b (tF X.K W g)) (hs : PlainIx b := by intro _ _; rfl) : PE X (.Subscript a b pos) (tF X.K W (x2 ixD f g)) := peI (pe_ix ix_seq ha hb hs) fun _ _ _ h => tOp_of o2_ix h
/-- which comparison; hu: room for deep ones -/
theorem se_cmp {op : CmpOp} {r : R2} {o : D → D → Option D} (ho : OpR X (compareOp op) r) (h2 : Op2 X.K r o) (ha : PE X a (tF X.K W f)) (hb : PE X b (tF X.K W g)) (hm : behindInMarks op b = false := by first | exact nomark _ | rfl) : PE X (.Compare a [op] [b] pos) (tF X.K W (x2 o f g)) :=
  peI (pe_cmpR ho ha hb hm) fun _ _ _ h => tOp_of h2 h
/-! tests -/
def xB (f : Env → R D) : Env → R Bool := fun env => do
  let d ← f env
  match d with
  | .bl b => .ok b
  | _ => .no
theorem tB_of {K : PySem.W.Frag} {σ : L2.St} {H : Hp} {Q : Bool → Hp → Prop} (h : tFT K W (xB f) σ H Q) : tF K W f σ H fun x H1 => ∃ c, x = .bl c ∧ Q c H1 := by
  obtain ⟨env, B, i, s, h⟩ := h
  refine seqE (P := PstT W B H σ Q) i s h (fun c z => z) (fun z => z) fun d v B1 H1 q e1 h1 st1 r nd fr => ?_
  cases d with
  | bl n => exact ⟨n, rp_bl r, h1 B1 H1 st1⟩
  | _ => exact h1.elim
theorem st_val (ha : PE X e (tF X.K W f)) (he : ∀ whole, isTrue e X.env whole = (do let v ← whole; standAt e.pos; holding [v] (truthy v)) := by intro _; rfl) : PT X e (tFT X.K W (xB f)) := ptI (pt_val ha he) fun _ _ _ h => tB_of h
theorem tTestOp_of {K : PySem.W.Frag} {r : R2} {o : D → D → Option D} (h2 : Op2 K r o) {σ : L2.St} {H : Hp} {Q : Bool → Hp → Prop} (h : tFT K W (xB (x2 o f g)) σ H Q) : tTest (tOp r (tF K W f) (tF K W g)) σ H Q := tOp_of h2 (tB_of h)
theorem st_cmp {op : CmpOp} {r : R2} {o : D → D → Option D} (ho : OpR X (compareOp op) r) (h2 : Op2 X.K r o) (ha : PE X a (tF X.K W f)) (hb : PE X b (tF X.K W g)) (hm : behindInMarks op b = false := by first | exact nomark _ | rfl) : PT X (.Compare a [op] [b] pos) (tFT X.K W (xB (x2 o f g))) :=
  ptI (pt_cmpR ho ha hb hm) fun _ _ _ h => tTestOp_of h2 h
variable {t u : Env → R Bool} {rest : List Expr}
def xTAnd (t u : Env → R Bool) : Env → R Bool := fun env => do
  let c ← t env
  if c = true then u env else R.ok false
def xTOr (t u : Env → R Bool) : Env → R Bool := fun env => do
  let c ← t env
  if c = true then R.ok true else u env
def xTNot (t : Env → R Bool) : Env → R Bool := fun env => do
  let c ← t env
  R.ok (!c)
theorem sw_one {op : BoolOp} {tt : TT} (h : PW X (.BoolOp op [a] pos) tt) : PW X (.BoolOp op [a] pos) tt := h
theorem sw_and1 (ha : PT X a (tFT X.K W t)) : PW X (.BoolOp .And [a] pos) (tFT X.K W t) := pw_and1 ha
theorem sw_or1 (ha : PT X a (tFT X.K W t)) : PW X (.BoolOp .Or [a] pos) (tFT X.K W t) := pw_or1 ha
theorem sw_and (ha : PT X a (tFT X.K W t)) (hb : PW X (.BoolOp .And (b :: rest) pos) (tFT X.K W u)) : PW X (.BoolOp .And (a :: b :: rest) pos) (tFT X.K W (xTAnd t u)) := by
  refine pwI (pw_and ha hb) fun σ H Q ⟨env, B, i, s, h⟩ => ?_
  refine seqT (P := PstT W B H σ Q) i s h (fun c z => z) (fun z => z) fun c B1 H1 e1 h1 st1 => ?_
  cases c with
  | false => exact h1 B1 H1 st1
  | true =>
    refine tFT_of st1.i (s.step st1) ?_
    have h2 : PstT W B H σ Q (u env) := h1
    cases eu : u env with
    | ok d => rw [eu] at h2; exact fun B2 H2 st2 => h2 B2 H2 (st1.trans st2)
    | er c => rw [eu] at h2; exact fun H2 z => h2 H2 (st1.h.trans z)
    | no => rw [eu] at h2; exact h2
theorem sw_or (ha : PT X a (tFT X.K W t)) (hb : PW X (.BoolOp .Or (b :: rest) pos) (tFT X.K W u)) : PW X (.BoolOp .Or (a :: b :: rest) pos) (tFT X.K W (xTOr t u)) := by
  refine pwI (pw_or ha hb) fun σ H Q ⟨env, B, i, s, h⟩ => ?_
  refine seqT (P := PstT W B H σ Q) i s h (fun c z => z) (fun z => z) fun c B1 H1 e1 h1 st1 => ?_
  cases c with
  | true => exact h1 B1 H1 st1
  | false =>
    refine tFT_of st1.i (s.step st1) ?_
    have h2 : PstT W B H σ Q (u env) := h1
    cases eu : u env with
    | ok d => rw [eu] at h2; exact fun B2 H2 st2 => h2 B2 H2 (st1.trans st2)
    | er c => rw [eu] at h2; exact fun H2 z => h2 H2 (st1.h.trans z)
    | no => rw [eu] at h2; exact h2
theorem st_not (ha : PT X a (tFT X.K W t)) : PT X (.UnaryOp .Not a pos) (tFT X.K W (xTNot t)) := by
  refine ptI (pt_not ha) fun σ H Q ⟨env, B, i, s, h⟩ => ?_
  exact seqT (P := PstT W B H σ Q) i s h (fun c z => z) (fun z => z) fun c B1 H1 e1 h1 st1 => h1 B1 H1 st1
/-! chains -/
def xChain (o o' : D → D → Option D) (f g h : Env → R D) : Env → R D := fun env => do
  let a ← f env
  let b ← g env
  let k ← R.of (o a b)
  match k with
  | .bl true => do
    let c ← h env
    R.of (o' b c)
  | .bl false => R.ok (.bl false)
  | _ => R.no
def NoOwn (o : D → D → Option D) : Prop := ∀ a b d, o a b = some d → ∃ k, d = .bl k
theorem tChain_of {K : PySem.W.Frag} {r r' : R2} {o o' : D → D → Option D} {hh : Env → R D} (h2 : Op2 K r o) (h2' : Op2 K r' o') {σ : L2.St} {H : Hp} {Q : VK} (h : tF K W (xChain o o' f g hh) σ H Q) : tChain r r' (tF K W f) (tF K W g) (tF K W hh) σ H Q := by
  obtain ⟨env, B, i, s, h⟩ := h
  refine seqE (P := Pst K W B H σ Q) i s h (fun c z => z) (fun z => z) fun a x B1 H1 p e1 h1 st1 r1 nd1 fr1 => ?_
  refine seqE (P := Pst K W B H σ Q) st1.i (s.step st1) h1 (fun c z => erBack (P := True) st1.h z) (fun z => z) fun b y B2 H2 q e2 h3 st2 r2 nd2 fr2 => ?_
  have fa : Fresh H B2 (p ++ q) := (Fresh.on r1 fr1 st2).app (fr2.back st1.h)
  have st12 := st1.trans st2
  cases eo : o a b with
  | none => rw [eo] at h3; exact h3.elim
  | some k =>
    rw [eo] at h3
    refine h2 a b k x y B2 H2 p q _ eo st2.i (rp_mono st2.b st2.h r1) r2 (nodup_later (B := B) (H := H) r1 nd1 nd2 fr2) (fun t ht => (fa t ht).2) fun v B3 H3 q3 st3 r3 nd3 fr3 => ?_
    cases k with
    | bl k =>
      refine ⟨k, rp_bl r3, ?_⟩
      cases k with
      | false => exact okE_plain st3.i (by unfold Rp; exact ⟨rfl, rfl⟩) fun v4 B4 H4 q4 st4 r4 nd4 fr4 => h3 v4 B4 H4 q4 ((st12.trans st3).trans st4) r4 nd4 fun t ht => ⟨(st12.trans st3).h.free (fr4 t ht).1, (fr4 t ht).2⟩
      | true =>
        refine seqE (P := Pst K W B H σ Q) st3.i (s.step (st12.trans st3)) h3 (fun c z => erBack (P := True) (st12.trans st3).h z) (fun z => z) fun c z B4 H4 q4 e4 h5 st4 r4 nd4 fr4 => ?_
        obtain ⟨d, ed, hd⟩ := of_ok h5
        have st34 := st3.trans st4
        have r2' := rp_mono st34.b st34.h r2
        have fq : Fresh H B4 q := Fresh.on r2 (fr2.back st1.h) st34
        have nd5 : (q ++ q4).Nodup := nodup_later (B := B) (H := H) (rp_mono st3.b st3.h r2) nd2 nd4 fr4
        have fr5 : Fresh H B4 (q ++ q4) := fq.app (fr4.back (st12.trans st3).h)
        exact h2' b c d y z B4 H4 q q4 Q ed st4.i r2' r4 nd5 (fun t ht => (fr5 t ht).2) (okO_end ((st12.trans st3).trans st4) fr5 hd)
    | _ => exact h3.elim
theorem se_chain {c : Expr} {op op' : CmpOp} {r r' : R2} {o o' : D → D → Option D} {hh : Env → R D} (ho : OpR X (compareOp op) r) (h2 : Op2 X.K r o) (ho' : OpR X (compareOp op') r') (h2' : Op2 X.K r' o') (ha : PE X a (tF X.K W f)) (hb : PE X b (tF X.K W g)) (hc : PE X c (tF X.K W hh))
    (hm : lastMarks [op, op'] [b, c] = false := by with_unfolding_all rfl) : PE X (.Compare a [op, op'] [b, c] pos) (tF X.K W (xChain o o' f g hh)) := peI (pe_chain ho ho' ha hb hc hm) fun _ _ _ h => tChain_of h2 h2' h
theorem st_chain {c : Expr} {op op' : CmpOp} {r r' : R2} {o o' : D → D → Option D} {hh : Env → R D} (ho : OpR X (compareOp op) r) (h2 : Op2 X.K r o) (ho' : OpR X (compareOp op') r') (h2' : Op2 X.K r' o') (ha : PE X a (tF X.K W f)) (hb : PE X b (tF X.K W g)) (hc : PE X c (tF X.K W hh))
    (hm : lastMarks [op, op'] [b, c] = false := by with_unfolding_all rfl) : PT X (.Compare a [op, op'] [b, c] pos) (tFT X.K W (xB (xChain o o' f g hh))) := ptI (pt_chain ho ho' ha hb hc hm) fun _ _ _ h => tChain_of h2 h2' (tB_of h)
/-! and, or, not as values; a if t else b -/
def xAnd (f g : Env → R D) : Env → R D := fun env => do
  let d ← f env
  match d with
  | .bl true => g env
  | .bl false => R.ok (.bl false)
  | _ => R.no
def xOr (f g : Env → R D) : Env → R D := fun env => do
  let d ← f env
  match d with
  | .bl false => g env
  | .bl true => R.ok (.bl true)
  | _ => R.no
def xNot (f : Env → R D) : Env → R D := fun env => do
  let d ← f env
  match d with
  | .bl b => R.ok (.bl (!b))
  | _ => R.no
def xIf (t : Env → R Bool) (f g : Env → R D) : Env → R D := fun env => do
  let c ← t env
  if c = true then f env else g env
theorem pst_on {K : PySem.W.Frag} {B H B1 H1 : Hp} {σ : L2.St} {Q : VK} {r : R D} (st : Step B H B1 H1) (h : Pst K W B H σ Q r) : Pst K W B1 H1 σ Q r := by
  cases r with
  | ok d => exact fun v B2 H2 q st2 r nd fr => h v B2 H2 q (st.trans st2) r nd (fr.back st.h)
  | er c => exact fun H2 z => h H2 (st.h.trans z)
  | no => exact h
theorem okE_bl {K : PySem.W.Frag} {B H B1 H1 : Hp} {b : Bool} {Q : VK} (st : Step B H B1 H1) (h : OkE K B H (.bl b) Q) : Q (.bl b) H1 := h (.bl b) B1 H1 [] st (by unfold Rp; exact ⟨rfl, rfl⟩) .nil (by intro q hq; cases hq)
theorem se_one {op : BoolOp} (ha : PE X a (tF X.K W f)) : PE X (.BoolOp op [a] pos) (tF X.K W f) := pe_one ha
theorem se_and (ha : PE X a (tF X.K W f)) (hb : PE X (.BoolOp .And (b :: rest) pos) (tF X.K W g)) : PE X (.BoolOp .And (a :: b :: rest) pos) (tF X.K W (xAnd f g)) := by
  refine peI (pe_and ha hb) fun σ H Q ⟨env, B, i, s, h⟩ => ?_
  refine seqE (P := Pst X.K W B H σ Q) i s h (fun c z => z) (fun z => z) fun d x B1 H1 p e1 h1 st1 r1 nd1 fr1 => ?_
  cases d with
  | bl k =>
    refine ⟨k, rp_bl r1, ?_⟩
    cases k with
    | true => exact tF_of st1.i (s.step st1) (pst_on st1 h1)
    | false => exact okE_bl st1 h1
  | _ => exact h1.elim
theorem se_or (ha : PE X a (tF X.K W f)) (hb : PE X (.BoolOp .Or (b :: rest) pos) (tF X.K W g)) : PE X (.BoolOp .Or (a :: b :: rest) pos) (tF X.K W (xOr f g)) := by
  refine peI (pe_or ha hb) fun σ H Q ⟨env, B, i, s, h⟩ => ?_
  refine seqE (P := Pst X.K W B H σ Q) i s h (fun c z => z) (fun z => z) fun d x B1 H1 p e1 h1 st1 r1 nd1 fr1 => ?_
  cases d with
  | bl k =>
    refine ⟨k, rp_bl r1, ?_⟩
    cases k with
    | false => exact tF_of st1.i (s.step st1) (pst_on st1 h1)
    | true => exact okE_bl st1 h1
  | _ => exact h1.elim
theorem se_not (ha : PE X a (tF X.K W f)) : PE X (.UnaryOp .Not a pos) (tF X.K W (xNot f)) := by
  refine peI (pe_not ha) fun σ H Q ⟨env, B, i, s, h⟩ => ?_
  refine seqE (P := Pst X.K W B H σ Q) i s h (fun c z => z) (fun z => z) fun d x B1 H1 p e1 h1 st1 r1 nd1 fr1 => ?_
  cases d with
  | bl k => exact ⟨k, rp_bl r1, okE_bl st1 h1⟩
  | _ => exact h1.elim
theorem se_ifExp {c : Expr} (hc : PT X c (tFT X.K W t)) (ha : PE X a (tF X.K W f)) (hb : PE X b (tF X.K W g)) : PE X (.IfExp c a b pos) (tF X.K W (xIf t f g)) := by
  refine peI (pe_ifExp hc ha hb) fun σ H Q ⟨env, B, i, s, h⟩ => ?_
  refine seqT (P := Pst X.K W B H σ Q) i s h (fun c z => z) (fun z => z) fun k B1 H1 e1 h1 st1 => ?_
  cases k with
  | true => exact tF_of st1.i (s.step st1) (pst_on st1 h1)
  | false => exact tF_of st1.i (s.step st1) (pst_on st1 h1)
end
end BC

namespace BC
open PySem PySem.Spec PyProof.Rows L2

/-! ## displays, built-in functions, calls of own defs -/
def xTup (f : Env → R (List D)) : Env → R D := fun env => do
  let ds ← f env
  if ds.length ≤ 16777216 then R.ok (.tup ds) else R.no
def xLst (f : Env → R (List D)) : Env → R D := fun env => do
  let ds ← f env
  if ds.length ≤ 16777216 then R.ok (.lst .ow ds) else R.no
section
variable {X : Cx} {W : WC} {e a b : Expr} {es : List Expr} {f g : Env → R D} {fs : Env → R (List D)} {pos : Pos}
theorem se_tup {k : Nat} (h : PA X es (tFA X.K W fs)) : PE X (.Tuple es k pos) (tF X.K W (xTup fs)) := by
  refine peI (pe_tup h) fun σ H Q ⟨env, B, i, s, h⟩ => ?_
  refine seqA (P := Pst X.K W B H σ Q) i s h (fun c z => z) (fun z => z) fun ds vs B1 H1 q e1 h1 st1 r1 nd1 fr1 => ?_
  by_cases hz : ds.length ≤ 16777216
  · simp only [hz, if_true] at h1
    refine ⟨by rw [rps_len r1]; exact sz_line hz, ?_⟩
    exact okO_tup st1.i nd1 (fun t ht => (fr1 t ht).2) r1 (.refl _) (okO_end st1 fr1 h1)
  · simp only [hz, if_false] at h1
    exact h1.elim
theorem se_lst (h : PA X es (tFA X.K W fs)) : PE X (.List es pos) (tF X.K W (xLst fs)) := by
  refine peI (pe_lst h) fun σ H Q ⟨env, B, i, s, h⟩ => ?_
  refine seqA (P := Pst X.K W B H σ Q) i s h (fun c z => z) (fun z => z) fun ds vs B1 H1 q e1 h1 st1 r1 nd1 fr1 => ?_
  by_cases hz : ds.length ≤ 16777216
  · simp only [hz, if_true] at h1
    refine ⟨by rw [rps_len r1]; exact sz_line hz, ?_⟩
    exact okO_lst st1.i nd1 (fun t ht => (fr1 t ht).2) r1 (.refl _) (okO_end st1 fr1 h1)
  · simp only [hz, if_false] at h1
    exact h1.elim
/-! built-in functions -/
theorem se_blt {x : Str} {id : String} {r : List V → Hp → VK → Prop} {op : List D → Option D} {p : Pos} (hc : CallR X (.builtin id) r) (ho : OpA X.K r op) (hg : Gl X x) (hm : X.mg x = none) (hv : bootBuiltins x = some (.builtin id)) (ha : PA X (e :: es) (tFA X.K W fs)) (hn : x ≠ "__name__" := by decide)
    (hdb : (x == ("__debug__" : Str)) = false := by decide) (he : starEach (e :: es) X.env = (false, eval e X.env) :: starEach es X.env := by rfl) (hpl : (backTo pos (starEach es X.env)).any (·.1) = false := by rfl) : PE X (.Call (.Name x p) (e :: es) [] pos) (tF X.K W (xA op fs)) :=
  peI (pe_callB hc hg hm hv ha hn hdb he hpl) fun _ _ _ h => tCB_of ho h
theorem se_bty {x : Str} {T : String} {r : List V → Hp → VK → Prop} {op : List D → Option D} {p : Pos} (hc : CallR X (.type T) r) (ho : OpA X.K r op) (hg : Gl X x) (hm : X.mg x = none) (hv : bootBuiltins x = some (.type T)) (ha : PA X (e :: es) (tFA X.K W fs)) (hn : x ≠ "__name__" := by decide)
    (hdb : (x == ("__debug__" : Str)) = false := by decide) (he : starEach (e :: es) X.env = (false, eval e X.env) :: starEach es X.env := by rfl) (hpl : (backTo pos (starEach es X.env)).any (·.1) = false := by rfl) : PE X (.Call (.Name x p) (e :: es) [] pos) (tF X.K W (xA op fs)) :=
  peI (pe_callTy hc hg hm hv ha hn hdb he hpl) fun _ _ _ h => tCB_of ho h
end
section
variable {K : PySem.W.Frag} {B H : Hp}
theorem rps1 {a : D} {vs : List V} {p : List Addr} (r : Rps K B H [a] vs p) : ∃ v, vs = [v] ∧ Rp K B H a v p := by
  unfold Rps at r
  obtain ⟨v, vr, p1, q, e1, e2, r1, r2⟩ := r
  unfold Rps at r2
  obtain ⟨r2, r3⟩ := r2
  subst e1 e2 r2 r3
  exact ⟨v, rfl, by rw [List.append_nil]; exact r1⟩
theorem rps2 {a b : D} {vs : List V} {p : List Addr} (r : Rps K B H [a, b] vs p) : ∃ v w p1 p2, vs = [v, w] ∧ p = p1 ++ p2 ∧ Rp K B H a v p1 ∧ Rp K B H b w p2 := by
  unfold Rps at r
  obtain ⟨v, vr, p1, q, e1, e2, r1, r2⟩ := r
  obtain ⟨w, e3, r3⟩ := rps1 r2
  subst e1 e3
  exact ⟨v, w, p1, q, rfl, e2, r1, r3⟩
theorem rps_ints : ∀ {ns : List Int} {vs : List V} {p : List Addr}, Rps K B H (ns.map D.int) vs p → vs = ns.map V.int
  | [], _, _, r => r.1
  | n :: ns, vs, p, r => by
    rw [List.map_cons] at r
    unfold Rps at r
    obtain ⟨v, vr, p1, q, e1, e2, r1, r2⟩ := r
    subst e1
    rw [rp_int r1, rps_ints r2]
    rfl
theorem rps_of_ints (ns : List Int) : Rps K B H (ns.map D.int) (ns.map V.int) [] := by
  induction ns with
  | nil => exact ⟨rfl, rfl⟩
  | cons n ns ih =>
    rw [List.map_cons, List.map_cons]
    unfold Rps
    exact ⟨_, _, [], [], rfl, rfl, ⟨rfl, rfl⟩, ih⟩
end
/-- the ints of a list, where it holds nothing else -/
def D.ints? : List D → Option (List Int)
  | [] => some []
  | .int i :: ds => (D.ints? ds).map fun is => i :: is
  | _ => none
theorem ints?_some : ∀ {ds : List D} {ns : List Int}, D.ints? ds = some ns → ds = ns.map D.int
  | [], ns, h => by cases h; rfl
  | .int i :: ds, ns, h => by
    unfold D.ints? at h
    rw [Option.map_eq_some_iff] at h
    obtain ⟨is, h1, h2⟩ := h
    subst h2
    rw [ints?_some h1]
    rfl
  | .non :: _, _, h => by cases h
  | .bl _ :: _, _, h => by cases h
  | .str _ :: _, _, h => by cases h
  | .lst _ _ :: _, _, h => by cases h
  | .tup _ :: _, _, h => by cases h
  | .exc _ _ :: _, _, h => by cases h
  | .dic _ _ :: _, _, h => by cases h
  | .loc _ :: _, _, h => by cases h
  | .wit _ _ :: _, _, h => by cases h
  | .obj _ _ _ _ _ :: _, _, h => by cases h
@[simp] theorem ints?_map (ns : List Int) : D.ints? (ns.map D.int) = some ns := by
  induction ns with
  | nil => rfl
  | cons n ns ih => simp [D.ints?, ih]
def D.bls? : List D → Option (List Bool)
  | [] => some []
  | .bl i :: ds => (D.bls? ds).map fun is => i :: is
  | _ => none
theorem bls?_some : ∀ {ds : List D} {ns : List Bool}, D.bls? ds = some ns → ds = ns.map D.bl
  | [], ns, h => by cases h; rfl
  | .bl i :: ds, ns, h => by
    unfold D.bls? at h
    rw [Option.map_eq_some_iff] at h
    obtain ⟨is, h1, h2⟩ := h
    subst h2
    rw [bls?_some h1]
    rfl
  | .non :: _, _, h => by cases h
  | .int _ :: _, _, h => by cases h
  | .str _ :: _, _, h => by cases h
  | .lst _ _ :: _, _, h => by cases h
  | .tup _ :: _, _, h => by cases h
  | .exc _ _ :: _, _, h => by cases h
  | .dic _ _ :: _, _, h => by cases h
  | .loc _ :: _, _, h => by cases h
  | .wit _ _ :: _, _, h => by cases h
  | .obj _ _ _ _ _ :: _, _, h => by cases h
@[simp] theorem bls?_map (ns : List Bool) : D.bls? (ns.map D.bl) = some ns := by
  induction ns with
  | nil => rfl
  | cons n ns ih => simp [D.bls?, ih]
theorem rps_bls {K : PySem.W.Frag} {B H : Hp} : ∀ {ns : List Bool} {vs : List V} {p : List Addr}, Rps K B H (ns.map D.bl) vs p → vs = ns.map V.bl
  | [], _, _, r => r.1
  | n :: ns, vs, p, r => by
    rw [List.map_cons] at r
    unfold Rps at r
    obtain ⟨v, vr, p1, q, e1, e2, r1, r2⟩ := r
    subst e1
    rw [rp_bl r1, rps_bls r2]
    rfl
def lenD : List D → Option D
  | [.lst _ xs] => some (.int xs.length)
  | [.tup xs] => some (.int xs.length)
  | [.str s] => if s.length ≤ 16777216 then some (.int s.length) else none
  | _ => none
theorem oa_len {K : PySem.W.Frag} : OpA K (fun xs H Q => ∃ x n, xs = [x] ∧ LenV K x H n ∧ Q (.int n) H) lenD := by
  intro as d xs B H p Q e i r nd fb h
  unfold lenD at e
  split at e
  · cases e
    obtain ⟨v, e1, r1⟩ := rps1 r
    obtain ⟨l, vs, qs, e2, s1, u1, r2⟩ := rp_lst i r1
    subst e1 e2
    exact ⟨_, _, rfl, .inl ⟨vs, s1, (rps_len r2).symm⟩, okO_int i h⟩
  · cases e
    obtain ⟨v, e1, r1⟩ := rps1 r
    obtain ⟨l, vs, e2, s1, r2⟩ := rp_tup r1
    subst e1 e2
    exact ⟨_, _, rfl, .inr ⟨vs, s1, (rps_len r2).symm⟩, okO_int i h⟩
  · split at e
    · cases e
      rename_i hz
      obtain ⟨v, e1, r1⟩ := rps1 r
      have e2 := rp_str r1
      subst e1 e2
      exact ⟨_, _, rfl, ⟨sz_line hz, rfl⟩, okO_int i h⟩
    · cases e
  · cases e
def absD : List D → Option D
  | [.int i] => some (.int (if i < 0 then -i else i))
  | _ => none
theorem oa_abs {K : PySem.W.Frag} : OpA K (fun xs H Q => ∃ i, xs = [.int i] ∧ Q (.int (if i < 0 then -i else i)) H) absD := by
  intro as d xs B H p Q e i r nd fb h
  unfold absD at e
  split at e
  · cases e
    obtain ⟨v, e1, r1⟩ := rps1 r
    have e2 := rp_int r1
    subst e1 e2
    exact ⟨_, rfl, okO_int i h⟩
  · cases e
def max2D : List D → Option D
  | [.int i, .int j] => some (.int (if j > i then j else i))
  | _ => none
def min2D : List D → Option D
  | [.int i, .int j] => some (.int (if j < i then j else i))
  | _ => none
theorem oa_max2 {K : PySem.W.Frag} : OpA K (fun xs H Q => ∃ i j, xs = [.int i, .int j] ∧ Q (.int (if j > i then j else i)) H) max2D := by
  intro as d xs B H p Q e i r nd fb h
  unfold max2D at e
  split at e
  · cases e
    obtain ⟨v, w, p1, p2, e1, e2, r1, r2⟩ := rps2 r
    have e3 := rp_int r1
    have e4 := rp_int r2
    subst e1 e3 e4
    exact ⟨_, _, rfl, okO_int i h⟩
  · cases e
theorem oa_min2 {K : PySem.W.Frag} : OpA K (fun xs H Q => ∃ i j, xs = [.int i, .int j] ∧ Q (.int (if j < i then j else i)) H) min2D := by
  intro as d xs B H p Q e i r nd fb h
  unfold min2D at e
  split at e
  · cases e
    obtain ⟨v, w, p1, p2, e1, e2, r1, r2⟩ := rps2 r
    have e3 := rp_int r1
    have e4 := rp_int r2
    subst e1 e3 e4
    exact ⟨_, _, rfl, okO_int i h⟩
  · cases e
/-- int(x) of an int, a bool -/
def int1D : List D → Option D
  | [.int i] => some (.int i)
  | [.bl k] => some (.int (if k then 1 else 0))
  | [.str a] => if a.length ≤ 640 then (PySem.intText? a).map fun n => .int n else none
  | _ => none
theorem op_int1 {X : Cx} : CallR X (.type "int") (fun xs H Q => ((∃ i, xs = [.int i] ∧ Q (.int i) H) ∨ ∃ k, xs = [.bl k] ∧ Q (.int (if k then 1 else 0)) H) ∨ ∃ a n, xs = [.str a] ∧ PySem.intText? a = some n ∧ a.length ≤ 640 ∧ Q (.int n) H) := call_int1.or call_int_str
theorem oa_int1 {K : PySem.W.Frag} : OpA K (fun xs H Q => ((∃ i, xs = [.int i] ∧ Q (.int i) H) ∨ ∃ k, xs = [.bl k] ∧ Q (.int (if k then 1 else 0)) H) ∨ ∃ a n, xs = [.str a] ∧ PySem.intText? a = some n ∧ a.length ≤ 640 ∧ Q (.int n) H) int1D := by
  intro as d xs B H p Q e i r nd fb h
  unfold int1D at e
  split at e
  · cases e
    obtain ⟨v, e1, r1⟩ := rps1 r
    have e2 := rp_int r1
    subst e1 e2
    exact .inl (.inl ⟨_, rfl, okO_int i h⟩)
  · cases e
    obtain ⟨v, e1, r1⟩ := rps1 r
    have e2 := rp_bl r1
    subst e1 e2
    exact .inl (.inr ⟨_, rfl, okO_int i h⟩)
  · split at e
    · rename_i hz
      rw [Option.map_eq_some_iff] at e
      obtain ⟨n, e3, e4⟩ := e
      subst e4
      obtain ⟨v, e1, r1⟩ := rps1 r
      have e2 := rp_str r1
      subst e1 e2
      exact .inr ⟨_, _, rfl, e3, hz, okO_int i h⟩
    · cases e
  · cases e
def str1D : List D → Option D
  | [.int i] => if i.natAbs.log2 < 1920 then some (.str (Str.ofString (toString i))) else none
  | [.str s] => some (.str s)
  | _ => none
theorem call_str1 {X : Cx} : CallR X (.type "str") (fun xs H Q => (∃ i, xs = [.int i] ∧ i.natAbs.log2 < 1920 ∧ Q (.str (toString i)) H) ∨ ∃ a, xs = [.str a] ∧ Q (.str a) H) := call_str_int.or SkE.call_str_str
theorem oa_str1 {K : PySem.W.Frag} : OpA K (fun xs H Q => (∃ i, xs = [.int i] ∧ i.natAbs.log2 < 1920 ∧ Q (.str (toString i)) H) ∨ ∃ a, xs = [.str a] ∧ Q (.str a) H) str1D := by
  intro as d xs B H p Q e i r nd fb h
  unfold str1D at e
  split at e
  · split at e
    · cases e
      rename_i hz
      obtain ⟨v, e1, r1⟩ := rps1 r
      have e2 := rp_int r1
      subst e1 e2
      exact .inl ⟨_, rfl, hz, okO_str i h⟩
    · cases e
  · cases e
    obtain ⟨v, e1, r1⟩ := rps1 r
    have e2 := rp_str r1
    subst e1 e2
    exact .inr ⟨_, rfl, okO_str i h⟩
  · cases e
def listD : List D → Option D
  | [.lst _ xs] => some (.lst .ow xs)
  | [.tup xs] => some (.lst .ow xs)
  | _ => none
theorem oa_list {K : PySem.W.Frag} : OpA K (fun xs H Q => ∃ p ys, xs = [.ref p] ∧ (SqL K H p ys ∨ SqT K H p ys) ∧ ∀ l, H l = none → Q (.ref l) (upd H l (.lst ys))) listD := by
  intro as d xs B H p Q e i r nd fb h
  unfold listD at e
  split at e
  · cases e
    obtain ⟨v, e1, r1⟩ := rps1 r
    obtain ⟨l, vs, qs, e2, s1, u1, r2⟩ := rp_lst i r1
    subst e1 e2
    exact ⟨_, _, rfl, .inl s1, okO_lst i nd fb r2 u1 h⟩
  · cases e
    obtain ⟨v, e1, r1⟩ := rps1 r
    obtain ⟨l, vs, e2, s1, r2⟩ := rp_tup r1
    subst e1 e2
    exact ⟨_, _, rfl, .inr s1, okO_lst i nd fb r2 (.refl _) h⟩
  · cases e
def tupleD : List D → Option D
  | [.lst _ xs] => some (.tup xs)
  | [.tup xs] => some (.tup xs)
  | _ => none
theorem oa_tuple {K : PySem.W.Frag} : OpA K (fun xs H Q => ∃ p ys, xs = [.ref p] ∧ ((SqL K H p ys ∧ ∀ l, H l = none → Q (.ref l) (upd H l (.tup ys))) ∨ (SqT K H p ys ∧ Q (.ref p) H))) tupleD := by
  intro as d xs B H p Q e i r nd fb h
  unfold tupleD at e
  split at e
  · cases e
    obtain ⟨v, e1, r1⟩ := rps1 r
    obtain ⟨l, vs, qs, e2, s1, u1, r2⟩ := rp_lst i r1
    subst e1 e2
    exact ⟨_, _, rfl, .inl ⟨s1, okO_tup i nd fb r2 u1 h⟩⟩
  · cases e
    obtain ⟨v, e1, r1⟩ := rps1 r
    obtain ⟨l, vs, e2, s1, r2⟩ := rp_tup r1
    subst e1 e2
    exact ⟨_, _, rfl, .inr ⟨s1, okO_part i nd fb r1 (.refl _) h⟩⟩
  · cases e
def sumD : List D → Option D
  | [.lst _ xs] => (D.ints? xs).map fun ns => .int ns.sum
  | _ => none
theorem oa_sum {K : PySem.W.Frag} : OpA K (rSum K) sumD := by
  intro as d xs B H p Q e i r nd fb h
  unfold sumD at e
  split at e
  · rw [Option.map_eq_some_iff] at e
    obtain ⟨ns, e3, e4⟩ := e
    subst e4
    have e5 := ints?_some e3
    subst e5
    obtain ⟨v, e1, r1⟩ := rps1 r
    obtain ⟨l, vs, qs, e2, s1, u1, r2⟩ := rp_lst i r1
    subst e1 e2
    rw [rps_ints r2] at s1
    exact ⟨l, ns, rfl, s1, okO_int i h⟩
  · cases e
def allD : List D → Option D
  | [.lst _ xs] => (D.bls? xs).map fun ns => .bl (ns.all id)
  | _ => none
theorem oa_all {K : PySem.W.Frag} : OpA K (rAll K) allD := by
  intro as d xs B H p Q e i r nd fb h
  unfold allD at e
  split at e
  · rw [Option.map_eq_some_iff] at e
    obtain ⟨ns, e3, e4⟩ := e
    subst e4
    have e5 := bls?_some e3
    subst e5
    obtain ⟨v, e1, r1⟩ := rps1 r
    obtain ⟨l, vs, qs, e2, s1, u1, r2⟩ := rp_lst i r1
    subst e1 e2
    rw [rps_bls r2] at s1
    exact ⟨l, ns, rfl, s1, okO_bl i h⟩
  · cases e
/-- the rising list of the same numbers -/
def sortI (ns : List Int) : List Int := ns.mergeSort (fun a b => decide (a ≤ b))
theorem sortI_perm (ns : List Int) : (sortI ns).Perm ns := List.mergeSort_perm _ _
theorem sortI_sorted (ns : List Int) : (sortI ns).Pairwise (· ≤ ·) := by
  have h := List.pairwise_mergeSort (le := fun a b : Int => decide (a ≤ b)) (fun a b c h1 h2 => by simp at h1 h2 ⊢; omega) (fun a b => by simp; omega) ns
  exact h.imp fun h => by simpa using h
theorem sorted_unique : ∀ {l1 l2 : List Int}, l1.Perm l2 → l1.Pairwise (· ≤ ·) → l2.Pairwise (· ≤ ·) → l1 = l2 := fun p h1 h2 => p.eq_of_pairwise (fun a b _ _ h3 h4 => Int.le_antisymm h3 h4) h1 h2
def sortedD : List D → Option D
  | [.lst _ xs] => (D.ints? xs).map fun ns => .lst .ow ((sortI ns).map D.int)
  | _ => none
theorem oa_sorted {K : PySem.W.Frag} : OpA K (rSortedI K) sortedD := by
  intro as d xs B H p Q e i r nd fb h
  unfold sortedD at e
  split at e
  · rw [Option.map_eq_some_iff] at e
    obtain ⟨ns, e3, e4⟩ := e
    subst e4
    have e5 := ints?_some e3
    subst e5
    obtain ⟨v, e1, r1⟩ := rps1 r
    obtain ⟨l, vs, qs, e2, s1, u1, r2⟩ := rp_lst i r1
    subst e1 e2
    rw [rps_ints r2] at s1
    refine ⟨l, ns, rfl, s1, fun ns' q hp hs hq => ?_⟩
    rw [sorted_unique (hp.trans (sortI_perm ns).symm) hs (sortI_sorted ns)]
    exact okO_lst i nd fb (rps_of_ints _) (List.nil_sublist _) h q hq
  · cases e
def maxLD : List D → Option D
  | [.lst _ xs] => (D.ints? xs).bind fun ns => (ns.max?).map D.int
  | _ => none
def minLD : List D → Option D
  | [.lst _ xs] => (D.ints? xs).bind fun ns => (ns.min?).map D.int
  | _ => none
theorem max_is {ns : List Int} {m : Int} (hm : m ∈ ns) (h : ∀ y, y ∈ ns → y ≤ m) : ns.max? = some m := (List.max?_eq_some_iff (xs := ns)).mpr ⟨hm, h⟩
theorem min_is {ns : List Int} {m : Int} (hm : m ∈ ns) (h : ∀ y, y ∈ ns → m ≤ y) : ns.min? = some m := (List.min?_eq_some_iff (xs := ns)).mpr ⟨hm, h⟩
theorem oa_maxL {K : PySem.W.Frag} : OpA K (rMax K) maxLD := by
  intro as d xs B H p Q e i r nd fb h
  unfold maxLD at e
  split at e
  · rw [Option.bind_eq_some_iff] at e
    obtain ⟨ns, e3, e4⟩ := e
    have e5 := ints?_some e3
    subst e5
    obtain ⟨v, e1, r1⟩ := rps1 r
    obtain ⟨l, vs, qs, e2, s1, u1, r2⟩ := rp_lst i r1
    subst e1 e2
    rw [rps_ints r2] at s1
    refine ⟨l, ns, rfl, s1, ?_, fun m hm hy => ?_⟩
    · cases ns with
      | nil => simp at e4
      | cons a b => simp
    · rw [max_is hm hy] at e4
      cases e4
      exact okO_int i h
  · cases e
theorem oa_minL {K : PySem.W.Frag} : OpA K (rMin K) minLD := by
  intro as d xs B H p Q e i r nd fb h
  unfold minLD at e
  split at e
  · rw [Option.bind_eq_some_iff] at e
    obtain ⟨ns, e3, e4⟩ := e
    have e5 := ints?_some e3
    subst e5
    obtain ⟨v, e1, r1⟩ := rps1 r
    obtain ⟨l, vs, qs, e2, s1, u1, r2⟩ := rp_lst i r1
    subst e1 e2
    rw [rps_ints r2] at s1
    refine ⟨l, ns, rfl, s1, ?_, fun m hm hy => ?_⟩
    · cases ns with
      | nil => simp at e4
      | cons a b => simp
    · rw [min_is hm hy] at e4
      cases e4
      exact okO_int i h
  · cases e
/-! isinstance against one built-in type -/
inductive Ty5 | list | int | bool | tuple | str
def Ty5.nm : Ty5 → String
  | .list => "list"
  | .int => "int"
  | .bool => "bool"
  | .tuple => "tuple"
  | .str => "str"
def isiD : Ty5 → D → Option D
  | .list, .lst _ _ => some (.bl true)
  | .tuple, .tup _ => some (.bl true)
  | .int, .int _ => some (.bl true)
  | .int, .bl _ => some (.bl true)
  | .bool, .bl _ => some (.bl true)
  | .str, .str _ => some (.bl true)
  | _, .exc _ _ => none
  | _, .dic _ _ => none
  | _, .loc _ => none
  | _, .wit _ _ => none
  | _, .obj _ _ _ _ _ => none
  | _, _ => some (.bl false)
def D.tyN : D → String
  | .non => "NoneType"
  | .bl _ => "bool"
  | .int _ => "int"
  | .str _ => "str"
  | .lst _ _ => "list"
  | .tup _ => "tuple"
  | .exc _ _ => "exc"
  | .dic _ _ => "dict"
  | .loc _ => "pin"
  | .wit _ _ => "pin"
  | .obj _ _ _ _ _ => "pin"
theorem kit_all : ∀ T : Ty5, (kitB "NoneType" T.nm = some false) ∧ (kitB "bool" T.nm = some (match T with | .bool => true | .int => true | _ => false)) ∧ (kitB "int" T.nm = some (match T with | .int => true | _ => false)) ∧ (kitB "str" T.nm = some (match T with | .str => true | _ => false))
    ∧ (kitB "list" T.nm = some (match T with | .list => true | _ => false)) ∧ (kitB "tuple" T.nm = some (match T with | .tuple => true | _ => false)) := by
  intro T
  cases T <;> decide +kernel
theorem rp_ty {K : PySem.W.Frag} {B H : Hp} (i : Same B H) : ∀ {a : D} {v : V} {p : List Addr}, (∀ c b, a ≠ .exc c b) → ((∀ k b, a ≠ .dic k b) ∧ (∀ b, a ≠ .loc b) ∧ (∀ a0 a1 a2 a3 a4, a ≠ .obj a0 a1 a2 a3 a4) ∧ ∀ a1 a2, a ≠ .wit a1 a2) → Rp K B H a v p → TyX K H v (.type a.tyN)
  | .non, _, _, _, _, r => by rw [r.1]; exact .base .non
  | .bl _, _, _, _, _, r => by rw [r.1]; exact .base (.bl _)
  | .int _, _, _, _, _, r => by rw [r.1]; exact .base (.int _)
  | .str _, _, _, _, _, r => by rw [r.1]; exact .base (.str _)
  | .exc c b, _, _, h, _, r => absurd rfl (h c b)
  | .dic c b, _, _, _, h, r => absurd rfl (h.1 c b)
  | .loc b, _, _, _, h, r => absurd rfl (h.2.1 b)
  | .wit a1 a2, _, _, _, h, r => absurd rfl (h.2.2.2 a1 a2)
  | .obj a0 a1 a2 a3 a4, _, _, _, h, r => absurd rfl (h.2.2.1 a0 a1 a2 a3 a4)
  | .lst _ _, _, _, _, _, r => by
    obtain ⟨l, vs, qs, e2, s1, u1, r2⟩ := rp_lst i r
    subst e2
    rcases s1 with (s1 | ⟨o, s1⟩) | ⟨o, its, n, s1, s2, _⟩
    · exact .base (.lst s1)
    · exact .base (.frz s1)
    · exact .kList s1 s2
  | .tup _, _, _, _, _, r => by
    obtain ⟨l, vs, e2, s1, r2⟩ := rp_tup r
    subst e2
    rcases s1 with (s1 | ⟨o, s1⟩) | ⟨o, its, n, s1, s2, _⟩
    · exact .base (.tup s1)
    · exact .fTuple s1
    · exact .kTuple s1 s2
theorem isi_kit {T : Ty5} {a d : D} (e : isiD T a = some d) : (∀ c b, a ≠ .exc c b) ∧ ((∀ c b, a ≠ .dic c b) ∧ (∀ b, a ≠ .loc b) ∧ (∀ a0 a1 a2 a3 a4, a ≠ .obj a0 a1 a2 a3 a4) ∧ ∀ a1 a2, a ≠ .wit a1 a2) ∧ ∃ k, d = .bl k ∧ kitB a.tyN T.nm = some k := by
  obtain ⟨k1, k2, k3, k4, k5, k6⟩ := kit_all T
  cases a <;> cases T <;> simp only [isiD] at e <;> first | (cases e; done) | (cases e; exact ⟨(fun c b z => by cases z), ⟨(fun c b z => by cases z), (fun b z => by cases z), (fun _ _ _ _ _ z => by cases z), fun _ _ z => by cases z⟩, _, rfl, by first | exact k1 | exact k2 | exact k3 | exact k4 | exact k5 | exact k6⟩)
theorem o1_isi {K : PySem.W.Frag} {T : Ty5} : Op1 K (fun x H Q => rIsi K [x, .ty T.nm] H Q) (isiD T) := by
  intro a d x B H p Q e i r nd fb h
  obtain ⟨h1, h0, k, e1, h2⟩ := isi_kit e
  subst e1
  exact ⟨x, .ty T.nm, .type a.tyN, .type T.nm, k, rfl, .ty _, rp_ty i h1 h0 r, kit_ty h2, okO_bl i h⟩
section
variable {X : Cx} {W : WC} {e a b : Expr} {es : List Expr} {f g : Env → R D} {fs : Env → R (List D)} {pos : Pos}
theorem se_isi (T : Ty5) {p p2 : Pos} {x y : Str} (hx : x = "isinstance") (hg : Gl X x) (hm : X.mg x = none) (hy : y = Str.ofString T.nm) (hg2 : Gl X y) (hm2 : X.mg y = none) (hv : bootBuiltins x = some (.builtin "isinstance")) (hv2 : bootBuiltins y = some (.type T.nm)) (ha : PE X a (tF X.K W f))
    (hn : x ≠ "__name__" := by decide) (hdb : (x == ("__debug__" : Str)) = false := by decide) (hn2 : y ≠ "__name__" := by decide) (hdb2 : (y == ("__debug__" : Str)) = false := by decide)
    (he1 : starEach [a, .Name y p2] X.env = (false, eval a X.env) :: starEach [.Name y p2] X.env := by rfl) (he2 : starEach [.Name y p2] X.env = (false, eval (.Name y p2) X.env) :: starEach [] X.env := by rfl)
    (hpl : (backTo pos (starEach [.Name y p2] X.env)).any (·.1) = false := by rfl) : PE X (.Call (.Name x p) [a, .Name y p2] [] pos) (tF X.K W (x1 (isiD T) f)) := by
  refine peI (pe_callB call_isi hg hm hv (pa_cons ha (pa_cons (pe_bltn (v := .ty T.nm) hg2 hm2 hv2 rfl hn2 hdb2) pa_nil he2) he1) hn hdb he1 hpl) fun σ H Q h => ?_
  exact tUn_of (r := fun x H Q => rIsi X.K [x, .ty T.nm] H Q) o1_isi h
end

/-! own defs -/
/-- the address of each exception class -/
def wx (cl : String → Addr) (W : WC) : WX := fun cls d σ H => ∃ c, cls = .ref (cl c) ∧ d = none ∧ W c σ H
/-- a def's contract -/
def Ctr (K : PySem.W.Frag) (cl : String → Addr) (n : Nat) (m : List D → R D) : Sp := fun vs H Q E => ∃ B ds, Same B H ∧ Rps K B H ds vs [] ∧ D.stos ds = true ∧ vs.length = n ∧ Pst K (fun c _ H' => E (.ref (cl c)) none H') B H [] Q (m ds)
theorem stos_frzs : ∀ ds : List D, D.stos (D.frzs ds) = true := by
  have h : ∀ d : D, d.frz.sto = true ∧ True := fun d => D.rec (motive_1 := fun d => d.frz.sto = true ∧ True) (motive_2 := fun ds => D.stos (D.frzs ds) = true)
    ⟨rfl, trivial⟩ (fun _ => ⟨rfl, trivial⟩) (fun _ => ⟨rfl, trivial⟩) (fun _ => ⟨rfl, trivial⟩) (fun k xs ih => by cases k <;> exact ⟨by simpa [D.frz, D.sto, Kd.frz] using ih, trivial⟩) (fun xs ih => ⟨by simpa [D.frz, D.sto] using ih, trivial⟩) (fun _ _ => ⟨rfl, trivial⟩) (fun k _ => ⟨by cases k <;> rfl, trivial⟩) (fun _ => ⟨rfl, trivial⟩) (fun k _ _ _ fs ih => by cases k <;> exact ⟨by simpa [D.frz, D.sto, Kd.frz] using ih, trivial⟩) (fun d o ih _ => ⟨by show d.frz.sto = true; exact ih.1, trivial⟩) rfl (fun d ds h1 h2 => by simp only [D.frzs, D.stos, h1.1, h2]; rfl) d
  intro ds
  induction ds with
  | nil => rfl
  | cons d ds ih => simp only [D.frzs, D.stos, (h d).1, ih]; rfl
def xCall (m : List D → R D) (fs : Env → R (List D)) : Env → R D := fun env => do
  let ds ← fs env
  if D.stos ds = true then m (D.frzs ds) else do
    let r ← m (D.frzs ds)
    if r.nsc = true then R.ok r.unf else R.no
section
variable {X : Cx} {W : WC} {cl : String → Addr} {e : Expr} {es : List Expr} {fs : Env → R (List D)} {pos : Pos}
theorem tCallS_of {m : List D → R D} {n : Nat} {σ : L2.St} {H : Hp} {Q : VK} (h : tF X.K W (xCall m fs) σ H Q) (hn : ∀ env ds, fs env = .ok ds → ds.length = n) : tCallS (Ctr X.K cl n m) (WE (wx cl W)) (tFA X.K W fs) σ H Q := by
  obtain ⟨env, B, i, s, h⟩ := h
  refine seqA (P := Pst X.K W B H σ Q) i s h (fun c z => z) (fun z => z) fun ds vs B1 H1 q e1 h1 st1 r1 nd1 fr1 => ?_
  by_cases hs : D.stos ds = true
  · simp only [hs, if_true] at h1
    have k1 : Same B1 (ovr B1 H1 q) := same_ovr st1.i
    have r2 : Rps X.K (ovr B1 H1 q) H1 (D.frzs ds) vs [] := rps_frz k1 hs (fun p hp o ho => ovr_mem hp ho) r1
    have st2 : Step B H (ovr B1 H1 q) H1 := ⟨st1.b.trans k1, st1.h, ovr_same st1.i, fun p xs hb hh => ovr_none (fun z => by rw [(fr1 p z).1] at hh; cases hh) (st1.n p xs hb hh)⟩
    refine ⟨ovr B1 H1 q, D.frzs ds, ovr_same st1.i, r2, stos_frzs ds, by rw [rps_len r1]; exact hn env ds e1, ?_⟩
    cases em : m (D.frzs ds) with
    | ok d =>
      rw [em] at h1
      exact fun v B3 H3 q3 st3 r3 nd3 fr3 => h1 v B3 H3 q3 (st2.trans st3) r3 nd3 (fr3.back st1.h)
    | er c =>
      rw [em] at h1
      exact fun H3 z => ⟨c, rfl, rfl, h1 H3 (st1.h.trans z)⟩
    | no => rw [em] at h1; exact h1
  · simp only [hs] at h1
    have r2 : Rps X.K H1 H1 (D.frzs ds) vs [] := rps_all st1.i r1
    refine ⟨H1, D.frzs ds, .refl _, r2, stos_frzs ds, by rw [rps_len r1]; exact hn env ds e1, ?_⟩
    cases em : m (D.frzs ds) with
    | ok d =>
      rw [em] at h1
      have h2 : Pst X.K W B H σ Q (if d.nsc = true then R.ok d.unf else R.no) := h1
      by_cases hk : d.nsc = true
      · rw [if_pos hk] at h2
        refine fun v B3 H3 q3 st3 r3 nd3 fr3 => h2 v B1 H3 q3 ⟨st1.b, st1.h.trans st3.h, st1.i.trans st3.h, fun p xs hb hh => st1.n p xs hb hh⟩ (rp_unf st3.i hk r3) nd3 fun t ht => ⟨st1.h.free (fr3 t ht).1, st1.i.free (fr3 t ht).1⟩
      · rw [if_neg hk] at h2
        exact h2.elim
    | er c =>
      rw [em] at h1
      exact fun H3 z => ⟨c, rfl, rfl, h1 H3 (st1.h.trans z)⟩
    | no => rw [em] at h1; exact h1
theorem se_call {x : Str} {k j : Nat} {f : Addr} {fd : FuncData} {ps : List Str} {m : List D → R D} {n : Nat} {p : Pos} (F : FnOk X.prog X.w X.K X.mg X.base (L2.CX X.prog X.w) k f fd ps (Ctr X.K cl n m)) (hr : Room j X.A) (hj : k ≤ j) (hg : Gl X x) (hm : X.mg x = some (.ref f)) (hk : PySem.W.keepIn X.K (.ref f) = true) (hb : Binds X.K fd ps []) (tk : Takes X (wx cl W))
    (ha : PA X (e :: es) (tFA X.K W fs)) (hn : ∀ env ds, fs env = .ok ds → ds.length = n) (hdb : (x == ("__debug__" : Str)) = false := by decide) (he : starEach (e :: es) X.env = (false, eval e X.env) :: starEach es X.env := by rfl) (hpl : (backTo pos (starEach es X.env)).any (·.1) = false := by rfl) :
    PE X (.Call (.Name x p) (e :: es) [] pos) (tF X.K W (xCall m fs)) := peI (pe_callS F (hr.mono hj) hg hm hk hb (fun σ => passAt tk σ) ha hdb he hpl) fun _ _ _ h => tCallS_of h hn
theorem takesW0 : Takes X (wx cl W0) := takes0.imp fun _ _ _ _ ⟨_, _, _, z⟩ => z
end
/-- as many arguments as written -/
theorem xa0 : ∀ env ds, xNil env = .ok ds → ds.length = 0 := fun env ds e => by cases e; rfl
theorem xa1 {f : Env → R D} {g : Env → R (List D)} {n : Nat} (h : ∀ env ds, g env = .ok ds → ds.length = n) : ∀ env ds, xCons f g env = .ok ds → ds.length = n + 1 := fun env ds e => by
  unfold xCons at e
  cases ef : f env with
  | ok a =>
    rw [ef] at e
    cases eg : g env with
    | ok as =>
      have e' : (do let as ← g env; R.ok (a :: as)) = R.ok ds := e
      rw [eg] at e'
      cases e'
      rw [List.length_cons, h env as eg]
    | er c =>
      have e' : (do let as ← g env; R.ok (a :: as)) = R.ok ds := e
      rw [eg] at e'
      cases e'
    | no =>
      have e' : (do let as ← g env; R.ok (a :: as)) = R.ok ds := e
      rw [eg] at e'
      cases e'
  | er c => rw [ef] at e; cases e
  | no => rw [ef] at e; cases e
end BC

namespace BC
open PySem PySem.Spec PyProof.Rows L2

/-! ## what is walked -/
/-- the heap without the lists that are not frozen -/
def kp (B H : Hp) : Hp := fun p => match H p with
  | some o => if Mu o = true then B p else some o
  | none => none
theorem kp_same {B H : Hp} (i : Same B H) : Same (kp B H) H := fun p o e => by
  unfold kp at e
  split at e
  · rename_i o' h
    split at e
    · exact i p o e
    · rw [h]; exact e
  · cases e
theorem kp_none {B H : Hp} {p : Addr} {o : HO} (h : H p = some o) (m : Mu o = true) (b : B p = none) : kp B H p = none := by
  unfold kp
  rw [h]
  show (if Mu o = true then B p else some o) = none
  rw [if_pos m]
  exact b
theorem kp_b {B H : Hp} {p : Addr} {o : HO} (i : Same B H) (b : B p = some o) : kp B H p = some o := by
  unfold kp
  rw [i p _ b]
  show (if Mu o = true then B p else some o) = some o
  rw [b]
  split <;> rfl
theorem kp_h {B H : Hp} {p : Addr} {o : HO} (h : H p = some o) (n : Mu o = false) : kp B H p = some o := by
  unfold kp
  rw [h]
  show (if Mu o = true then B p else some o) = some o
  rw [if_neg (by rw [n]; simp)]
theorem kp_up {B B' H : Hp} (k : Same B B') : Same (kp B H) (kp B' H) := fun p o e => by
  unfold kp at e ⊢
  split
  · rename_i o' hv
    rw [hv] at e
    replace e : (if Mu o' = true then B p else some o') = some o := e
    split
    · rename_i m
      rw [if_pos m] at e
      exact k p o e
    · rename_i m
      rw [if_neg m] at e
      exact e
  · rename_i hv
    rw [hv] at e
    cases e
def hs (b : Bool) (B H : Hp) : Hp := if b = true then H else kp B H
theorem hs_same {b : Bool} {B H : Hp} (i : Same B H) : Same (hs b B H) H := by
  unfold hs
  split
  · exact .refl _
  · exact kp_same i
section
variable {K : PySem.W.Frag} {B H : Hp}
theorem sqT_kp {a : Addr} {vs : List V} (h : SqT K H a vs) : SqT K (kp B H) a vs := by
  rcases h with (h | ⟨o, h⟩) | h
  · exact .inl (.inl (kp_h h rfl))
  · exact .inl (.inr ⟨o, kp_h h rfl⟩)
  · exact .inr h
theorem sqL_kp {a : Addr} {vs : List V} (i : Same B H) (h : SqL K B a vs) : SqL K (kp B H) a vs := by
  rcases h with (h | ⟨o, h⟩) | h
  · exact .inl (.inl (kp_b i h))
  · exact .inl (.inr ⟨o, kp_h (i _ _ h) rfl⟩)
  · exact .inr h
mutual
theorem rp_kp (i : Same B H) : ∀ {d : D} {v : V}, d.sto = true → Rp K B H d v [] → Rp K B (kp B H) d v []
  | .loc _, _, _, r => r
  | .wit _ _, _, hs, r => by simp [D.sto] at hs
  | .obj k a C ns fs, v, hs, r => by
    unfold Rp at r ⊢
    obtain ⟨dx, vs, qs, e, n, l, o, q, r⟩ := r
    have o' : objD (kp B H) C a dx := by
      cases C with
      | none => trivial
      | some C => exact kp_h o rfl
    cases k with
    | ow => cases q
    | bo => simp [D.sto] at hs
    | fz => rw [q.2] at r; exact ⟨dx, vs, [], e, n, l, o', ⟨rfl, rfl⟩, rps_kp i (by simpa [D.sto] using hs) r⟩
    | sc => exact n.elim
  | .non, _, _, r => r
  | .bl _, _, _, r => r
  | .int _, _, _, r => r
  | .str _, _, _, r => r
  | .exc _ _, _, _, ⟨a, e1, e2, e3⟩ => ⟨a, e1, kp_h e2 rfl, e3⟩
  | .dic k _, _, hs, ⟨a, e1, e2, e3⟩ => ⟨a, e1, by
      cases k with
      | ow => cases e3
      | bo => simp [D.sto] at hs
      | fz => exact e2
      | sc => exact e2, e3⟩
  | .lst k xs, v, hs, r => by
    unfold Rp at r ⊢
    obtain ⟨a, vs, qs, e, n, q, r⟩ := r
    cases k with
    | ow => cases q
    | bo => simp [D.sto] at hs
    | fz => rw [q.2] at r; exact ⟨a, vs, [], e, n, ⟨rfl, rfl⟩, rps_kp i (by simpa [D.sto] using hs) r⟩
    | sc => rw [q.2] at r; exact ⟨a, vs, [], e, n, ⟨rfl, rfl⟩, rps_kp i (by simpa [D.sto] using hs) r⟩
  | .tup xs, v, hs, r => by
    unfold Rp at r ⊢
    obtain ⟨a, vs, e, n, r⟩ := r
    exact ⟨a, vs, e, kp_h n rfl, rps_kp i (by simpa [D.sto] using hs) r⟩
theorem rps_kp (i : Same B H) : ∀ {ds : List D} {vs : List V}, D.stos ds = true → Rps K B H ds vs [] → Rps K B (kp B H) ds vs []
  | [], _, _, r => r
  | d :: ds, vs, hs, r => by
    unfold Rps at r ⊢
    obtain ⟨v, vr, p, q, e1, e2, r1, r2⟩ := r
    simp only [D.stos, Bool.and_eq_true] at hs
    have e3 : p = [] ∧ q = [] := by simpa using e2.symm
    rw [e3.1] at r1
    rw [e3.2] at r2
    exact ⟨v, vr, [], [], e1, rfl, rp_kp i hs.1 r1, rps_kp i hs.2 r2⟩
end
end
/-- the iterator J gives the items xs as long as B is frozen and Hs stands -/
def Wk (K : PySem.W.Frag) (B Hs : Hp) (J : It) (xs : List D) : Prop := ∀ (i : Nat) (B1 H : Hp), Same B B1 → Same B1 H → Same Hs H →
  (∀ d, xs[i]? = some d → J.go i H ∧ ∀ x H', J.yld i H x H' → ∃ B', Step B1 H B' H' ∧ Rp K B' H' d x []) ∧ (xs[i]? = none → J.stop i H)
def PstI (K : PySem.W.Frag) (W : WC) (B H : Hp) (σ : L2.St) (R' : It → Hp → Prop) : R (Bool × List D) → Prop
  | .ok (b, xs) => ∀ J B' H', Step B H B' H' → Wk K B' (hs b B' H') J xs → R' J H'
  | .er c => ∀ H', Same H H' → W c σ H'
  | .no => False
def tI (K : PySem.W.Frag) (W : WC) (f : Env → R (Bool × List D)) : TI := fun σ H R' => ∃ env B, Same B H ∧ SlE K B H env σ ∧ PstI K W B H σ R' (f env)
theorem piI {X : Cx} {tg e : Expr} {t t' : TI} (h : PI X tg e t) (i : ∀ σ H Q, t' σ H Q → t σ H Q) : PI X tg e t' := ⟨fun pins s σ H Q I hq => h.run pins s σ H Q I (i _ _ _ hq)⟩
/-- a list as a source: is it borrowed, its items -/
def srcL : D → Option (Bool × List D)
  | .lst .fz xs => if D.stos xs = true then some (false, xs) else none
  | .lst .sc xs => if D.stos xs = true then some (false, xs) else none
  | .lst .bo xs => some (true, D.bors xs)
  | .lst .ow xs => if D.stos xs = true then some (false, D.frzs xs) else some (true, D.bors xs)
  | _ => none
def srcT : D → Option (Bool × List D)
  | .tup xs => if D.stos xs = true then some (false, D.frzs xs) else some (true, D.bors xs)
  | _ => none
theorem rps_get {K : PySem.W.Frag} {B H : Hp} {ds : List D} {vs : List V} {i : Nat} {d : D} (r : Rps K B H ds vs []) (e : ds[i]? = some d) : ∃ v, vs[i]? = some v ∧ Rp K B H d v [] := by
  obtain ⟨v, p, h1, h2, h3⟩ := rps_at r e
  have : p = [] := List.sublist_nil.mp h3
  subst this
  exact ⟨v, h1, h2⟩
theorem stos_at : ∀ {ds : List D} {i : Nat} {d : D}, D.stos ds = true → ds[i]? = some d → d.sto = true
  | [], i, d, _, e => by simp at e
  | a :: ds, 0, d, h, e => by
    simp at e
    subst e
    simp only [D.stos, Bool.and_eq_true] at h
    exact h.1
  | a :: ds, i + 1, d, h, e => by
    simp only [D.stos, Bool.and_eq_true] at h
    exact stos_at h.2 (by simpa using e)
/-- a list that stands is walked -/
theorem wk_list {K : PySem.W.Frag} {B Hs : Hp} {a : Addr} {xs : List D} {vs : List V} (hq : SqL K Hs a vs) (hr : Rps K B Hs xs vs []) : Wk K B Hs (Itl K a) xs := fun i B1 H e1 e2 e3 => by
  have s1 : SqL K H a vs := e3.seq hq
  refine ⟨fun d hd => ?_, fun hn => ⟨vs, s1, ?_⟩⟩
  · obtain ⟨v, h1, h2⟩ := rps_get hr hd
    refine ⟨⟨vs, v, s1, h1⟩, fun x H' hy => ?_⟩
    obtain ⟨eH, hx⟩ := hy
    subst eH
    have := hx vs s1
    rw [h1] at this
    cases this
    exact ⟨B1, .refl e2, rp_mono e1 e3 h2⟩
  · rw [rps_len hr]
    exact List.getElem?_eq_none_iff.mp hn
theorem wk_tup {K : PySem.W.Frag} {B Hs : Hp} {a : Addr} {xs : List D} {vs : List V} (hq : SqT K Hs a vs) (hr : Rps K B Hs xs vs []) : Wk K B Hs (Itt K a) xs := fun i B1 H e1 e2 e3 => by
  have s1 : SqT K H a vs := sqT_mono e3 hq
  refine ⟨fun d hd => ?_, fun hn => ⟨vs, s1, ?_⟩⟩
  · obtain ⟨v, h1, h2⟩ := rps_get hr hd
    refine ⟨⟨vs, v, s1, h1⟩, fun x H' hy => ?_⟩
    obtain ⟨eH, hx⟩ := hy
    subst eH
    have := hx vs s1
    rw [h1] at this
    cases this
    exact ⟨B1, .refl e2, rp_mono e1 e3 h2⟩
  · rw [rps_len hr]
    exact List.getElem?_eq_none_iff.mp hn
theorem wk_rev {K : PySem.W.Frag} {B Hs : Hp} {a : Addr} {xs : List D} {vs : List V} (hq : SqL K Hs a vs) (hr : Rps K B Hs xs vs []) : Wk K B Hs (Itv K a vs.length) xs.reverse := fun i B1 H e1 e2 e3 => by
  have s1 : SqL K H a vs := e3.seq hq
  have hl := rps_len hr
  refine ⟨fun d hd => ?_, fun hn => ?_⟩
  · have hi : i < xs.length := by simpa using (List.getElem?_eq_some_iff.mp hd).1
    rw [List.getElem?_reverse hi] at hd
    obtain ⟨v, h1, h2⟩ := rps_get hr hd
    rw [← hl] at h1
    refine ⟨⟨by omega, vs, v, s1, h1⟩, fun x H' hy => ?_⟩
    obtain ⟨eH, hx⟩ := hy
    subst eH
    have := hx vs s1
    rw [h1] at this
    cases this
    exact ⟨B1, .refl e2, rp_mono e1 e3 h2⟩
  · have := List.getElem?_eq_none_iff.mp hn
    simp at this
    show vs.length ≤ i
    omega
theorem rp_pair {K : PySem.W.Frag} {B H : Hp} {x y : V} {d e : D} {T : Addr} (i : Same B H) (hT : H T = none) (r1 : Rp K B H d x []) (r2 : Rp K B H e y []) : Step B H B (upd H T (.tup [x, y])) ∧ Rp K B (upd H T (.tup [x, y])) (.tup [d, e]) (.ref T) [] := by
  have st : Step B H B (upd H T (.tup [x, y])) := step_new i hT
  refine ⟨st, ?_⟩
  unfold Rp
  refine ⟨T, _, rfl, upd_same, ?_⟩
  unfold Rps
  refine ⟨_, _, [], [], rfl, rfl, rp_mono st.b st.h r1, ?_⟩
  unfold Rps
  exact ⟨_, _, [], [], rfl, rfl, rp_mono st.b st.h r2, ⟨rfl, rfl⟩⟩
def enumL : Nat → List D → List D
  | _, [] => []
  | n, d :: ds => .tup [.int n, d] :: enumL (n + 1) ds
theorem enumL_at : ∀ (n : Nat) (ds : List D) (i : Nat), (enumL n ds)[i]? = ds[i]?.map fun d => .tup [.int ((n + i : Nat) : Int), d]
  | _, [], i => by simp [enumL]
  | n, d :: ds, 0 => by simp [enumL]
  | n, d :: ds, i + 1 => by
    simp only [enumL, List.getElem?_cons_succ]
    rw [enumL_at (n + 1) ds i]
    congr 2
    funext d
    rw [show n + 1 + i = n + (i + 1) by omega]
theorem wk_enum {K : PySem.W.Frag} {B Hs : Hp} {a : Addr} {xs : List D} {vs : List V} (hq : SqL K Hs a vs) (hr : Rps K B Hs xs vs []) : Wk K B Hs (Ite K a) (enumL 0 xs) := fun i B1 H e1 e2 e3 => by
  have s1 : SqL K H a vs := e3.seq hq
  rw [enumL_at]
  refine ⟨fun d hd => ?_, fun hn => ⟨vs, s1, ?_⟩⟩
  · rw [Option.map_eq_some_iff] at hd
    obtain ⟨d0, hd, e⟩ := hd
    subst e
    obtain ⟨v, h1, h2⟩ := rps_get hr hd
    refine ⟨⟨vs, v, s1, h1⟩, fun x H' hy => ?_⟩
    obtain ⟨T, y, ex, hT, eH, hx⟩ := hy
    subst ex eH
    have := hx vs s1
    rw [h1] at this
    cases this
    obtain ⟨st, r⟩ := rp_pair (K := K) (d := .int i) (e := d0) e2 hT (x := .int i) ⟨rfl, rfl⟩ (rp_mono e1 e3 h2)
    exact ⟨B1, st, by rw [Nat.zero_add]; exact r⟩
  · rw [Option.map_eq_none_iff] at hn
    rw [rps_len hr]
    exact List.getElem?_eq_none_iff.mp hn
def zipL : List D → List D → List D
  | d :: ds, e :: es => .tup [d, e] :: zipL ds es
  | _, _ => []
theorem zipL_at : ∀ (ds es : List D) (i : Nat), (zipL ds es)[i]? = (ds[i]?).bind fun d => (es[i]?).map fun e => .tup [d, e]
  | [], es, i => by simp [zipL]
  | d :: ds, [], i => by
    simp only [zipL, List.getElem?_nil, Option.map_none]
    cases (d :: ds)[i]? <;> rfl
  | d :: ds, e :: es, 0 => by simp [zipL]
  | d :: ds, e :: es, i + 1 => by
    simp only [zipL, List.getElem?_cons_succ]
    exact zipL_at ds es i
theorem wk_zip {K : PySem.W.Frag} {B Hs : Hp} {a b : Addr} {xs ys : List D} {vs ws : List V} (hq : SqL K Hs a vs) (hr : Rps K B Hs xs vs []) (hq2 : SqL K Hs b ws) (hr2 : Rps K B Hs ys ws []) : Wk K B Hs (Itz K a b) (zipL xs ys) := fun i B1 H e1 e2 e3 => by
  have s1 : SqL K H a vs := e3.seq hq
  have s2 : SqL K H b ws := e3.seq hq2
  rw [zipL_at]
  refine ⟨fun d hd => ?_, fun hn => ⟨vs, ws, s1, s2, ?_⟩⟩
  · rw [Option.bind_eq_some_iff] at hd
    obtain ⟨d0, hd0, hd⟩ := hd
    rw [Option.map_eq_some_iff] at hd
    obtain ⟨e0, he0, e⟩ := hd
    subst e
    obtain ⟨v, h1, h2⟩ := rps_get hr hd0
    obtain ⟨w, h3, h4⟩ := rps_get hr2 he0
    refine ⟨⟨vs, ws, v, w, s1, s2, h1, h3⟩, fun x H' hy => ?_⟩
    obtain ⟨T, x1, y1, ex, hT, eH, hx, hy⟩ := hy
    subst ex eH
    have e5 := hx vs s1
    rw [h1] at e5
    cases e5
    have e6 := hy ws s2
    rw [h3] at e6
    cases e6
    obtain ⟨st, r⟩ := rp_pair e2 hT (rp_mono e1 e3 h2) (rp_mono e1 e3 h4)
    exact ⟨B1, st, r⟩
  · rw [rps_len hr, rps_len hr2]
    cases h1 : xs[i]? with
    | none => exact .inl (List.getElem?_eq_none_iff.mp h1)
    | some d =>
      rw [h1] at hn
      have : (ys[i]?) = none := by simpa using hn
      exact .inr (List.getElem?_eq_none_iff.mp this)
/-- lo, lo + c, .. -/
def rngL (lo c : Int) (n : Nat) : List D := (List.range n).map fun (i : Nat) => .int (lo + (i : Int) * c)
theorem rngL_at (lo c : Int) (n i : Nat) : (rngL lo c n)[i]? = if i < n then some (.int (lo + (i : Int) * c)) else none := by
  unfold rngL
  rw [List.getElem?_map]
  split
  · rename_i h
    rw [List.getElem?_range h]
    rfl
  · rename_i h
    rw [List.getElem?_eq_none (by simpa using h)]
    rfl
theorem wk_rng {K : PySem.W.Frag} {B Hs : Hp} {lo : Int} {n : Nat} : Wk K B Hs (Itr lo n) (rngL lo 1 n) := fun i B1 H e1 e2 e3 => by
  rw [rngL_at]
  refine ⟨fun d hd => ?_, fun hn => ?_⟩
  · split at hd
    · rename_i hi
      cases hd
      refine ⟨hi, fun x H' hy => ?_⟩
      obtain ⟨e4, e5⟩ := hy
      subst e4 e5
      exact ⟨B1, .refl e2, by unfold Rp; exact ⟨by rw [Int.mul_one], rfl⟩⟩
    · cases hd
  · split at hn
    · cases hn
    · rename_i h
      exact Nat.le_of_not_lt h
theorem wk_rngC {K : PySem.W.Frag} {B Hs : Hp} {lo c : Int} {n : Nat} : Wk K B Hs (Itc lo c n) (rngL lo c n) := fun i B1 H e1 e2 e3 => by
  rw [rngL_at]
  refine ⟨fun d hd => ?_, fun hn => ?_⟩
  · split at hd
    · rename_i hi
      cases hd
      refine ⟨hi, fun x H' hy => ?_⟩
      obtain ⟨e4, e5⟩ := hy
      subst e4 e5
      exact ⟨B1, .refl e2, by unfold Rp; exact ⟨rfl, rfl⟩⟩
    · cases hd
  · split at hn
    · cases hn
    · rename_i h
      exact Nat.le_of_not_lt h
/-- what a value gives as a source: where it stands -/
theorem srcL_of {K : PySem.W.Frag} {d : D} {b : Bool} {xs : List D} {B0 H0 B H : Hp} {v : V} {q : List Addr} (e : srcL d = some (b, xs)) (st : Step B0 H0 B H) (r : Rp K B H d v q) (fr : ∀ p ∈ q, H0 p = none) :
    ∃ a vs B', v = .ref a ∧ Step B0 H0 B' H ∧ Same B B' ∧ SqL K (hs b B' H) a vs ∧ Rps K B' (hs b B' H) xs vs [] := by
  have fz : ∀ {a : Addr} {vs : List V} {ys : List D}, Nd K B H .fz a vs ∨ Nd K B H .sc a vs → D.stos ys = true → Rps K B H ys vs [] → v = .ref a → b = false → xs = ys → ∃ a vs B', v = .ref a ∧ Step B0 H0 B' H ∧ Same B B' ∧ SqL K (hs b B' H) a vs ∧ Rps K B' (hs b B' H) xs vs [] := fun {a vs ys} n h1 r e1 e2 e3 => by
    subst e2 e3
    refine ⟨a, vs, B, e1, st, .refl _, ?_, rps_kp st.i h1 r⟩
    rcases n with n | n
    · exact sqL_kp st.i (.of n)
    · exact sqL_kp st.i n
  unfold srcL at e
  split at e
  · split at e
    · cases e
      rename_i hz
      unfold Rp at r
      obtain ⟨a, vs, qs, e1, n, q2, r⟩ := r
      rw [q2.2] at r
      exact fz (.inl n) hz r e1 rfl rfl
    · cases e
  · split at e
    · cases e
      rename_i hz
      unfold Rp at r
      obtain ⟨a, vs, qs, e1, n, q2, r⟩ := r
      rw [q2.2] at r
      exact fz (.inr n) hz r e1 rfl rfl
    · cases e
  · cases e
    unfold Rp at r
    obtain ⟨a, vs, qs, e1, n, q2, r⟩ := r
    exact ⟨a, vs, B, e1, st, .refl _, .of n, rps_bor r⟩
  · unfold Rp at r
    obtain ⟨a, vs, qs, e1, n, q2, r⟩ := r
    split at e
    · cases e
      rename_i hz
      subst q2
      have k1 : Same B (ovr B H (a :: qs)) := same_ovr st.i
      have r2 := rps_frz k1 hz (fun p hp o ho => ovr_mem (ps := a :: qs) (by simp [hp]) ho) r
      have st2 : Step B0 H0 (ovr B H (a :: qs)) H := ⟨st.b.trans k1, st.h, ovr_same st.i, fun p ys hb hh => ovr_none (fun z => by rw [fr p z] at hh; cases hh) (st.n p ys hb hh)⟩
      exact ⟨a, vs, _, e1, st2, k1, sqL_kp st2.i (.of (ovr_mem (by simp) n)), rps_kp st2.i (stos_frzs _) r2⟩
    · cases e
      exact ⟨a, vs, B, e1, st, .refl _, .of n, rps_bor r⟩
  · cases e
theorem srcT_of {K : PySem.W.Frag} {d : D} {b : Bool} {xs : List D} {B0 H0 B H : Hp} {v : V} {q : List Addr} (e : srcT d = some (b, xs)) (st : Step B0 H0 B H) (r : Rp K B H d v q) (fr : ∀ p ∈ q, H0 p = none) :
    ∃ a vs B', v = .ref a ∧ Step B0 H0 B' H ∧ SqT K (hs b B' H) a vs ∧ Rps K B' (hs b B' H) xs vs [] := by
  unfold srcT at e
  split at e
  · unfold Rp at r
    obtain ⟨a, vs, e1, n, r⟩ := r
    split at e
    · cases e
      rename_i hz
      have k1 : Same B (ovr B H q) := same_ovr st.i
      have r2 := rps_frz k1 hz (fun p hp o ho => ovr_mem hp ho) r
      have st2 : Step B0 H0 (ovr B H q) H := ⟨st.b.trans k1, st.h, ovr_same st.i, fun p ys hb hh => ovr_none (fun z => by rw [fr p z] at hh; cases hh) (st.n p ys hb hh)⟩
      exact ⟨a, vs, _, e1, st2, sqT_kp (.of n), rps_kp st2.i (stos_frzs _) r2⟩
    · cases e
      exact ⟨a, vs, B, e1, st, .of n, rps_bor r⟩
  · cases e
def R.src (o : Option (Bool × List D)) (k : List D → List D) : R (Bool × List D) := match o with
  | some (b, xs) => .ok (b, k xs)
  | none => .no
def xSrc (f : Env → R D) : Env → R (Bool × List D) := fun env => do
  let d ← f env
  R.of (srcL d)
def xSrcT (f : Env → R D) : Env → R (Bool × List D) := fun env => do
  let d ← f env
  R.of (srcT d)
def xSrcRev (f : Env → R D) : Env → R (Bool × List D) := fun env => do
  let d ← f env
  let s ← R.of (srcL d)
  R.ok (s.1, s.2.reverse)
def xSrcEnum (f : Env → R D) : Env → R (Bool × List D) := fun env => do
  let d ← f env
  let s ← R.of (srcL d)
  R.ok (s.1, enumL 0 s.2)
def xSrcZip (f g : Env → R D) : Env → R (Bool × List D) := fun env => do
  let d ← f env
  let e ← g env
  let s ← R.of (srcL d)
  let t ← R.of (srcL e)
  R.ok (s.1 || t.1, zipL s.2 t.2)
def intR : D → R Int
  | .int i => if -4611686018427387904 ≤ i ∧ i < 4611686018427387904 then .ok i else .no
  | _ => .no
def xRng1 (f : Env → R D) : Env → R (Bool × List D) := fun env => do
  let d ← f env
  let n ← intR d
  R.ok (false, rngL 0 1 n.toNat)
def xRng2 (f g : Env → R D) : Env → R (Bool × List D) := fun env => do
  let d ← f env
  let e ← g env
  let lo ← intR d
  let hi ← intR e
  R.ok (false, rngL lo 1 (hi - lo).toNat)
/-- range(a, b, -1) -/
def xRng3 (f g : Env → R D) : Env → R (Bool × List D) := fun env => do
  let d ← f env
  let e ← g env
  let lo ← intR d
  let hi ← intR e
  R.ok (false, rngL lo (-1) (lo - hi).toNat)
def xRevRng1 (f : Env → R D) : Env → R (Bool × List D) := fun env => do
  let d ← f env
  let n ← intR d
  R.ok (false, rngL ((n.toNat : Int) - 1) (-1) n.toNat)
theorem intR_ok {W : WC} {K : PySem.W.Frag} {d : D} {B H : Hp} {σ : L2.St} {R' : It → Hp → Prop} {g : Int → R (Bool × List D)} (h : PstI K W B H σ R' (intR d >>= g)) : ∃ i, d = .int i ∧ -(2 ^ 62) ≤ i ∧ i < 2 ^ 62 ∧ PstI K W B H σ R' (g i) := by
  cases d with
  | int i =>
    by_cases hz : -4611686018427387904 ≤ i ∧ i < 4611686018427387904
    · have e : intR (.int i) = .ok i := if_pos hz
      rw [e] at h
      exact ⟨i, rfl, by omega, by omega, h⟩
    · have e : intR (.int i) = .no := if_neg hz
      rw [e] at h
      exact h.elim
  | _ => exact h.elim
section
variable {X : Cx} {W : WC} {tg e a b : Expr} {f g : Env → R D} {pos : Pos}
theorem of_src {K : PySem.W.Frag} {B H : Hp} {σ : L2.St} {R' : It → Hp → Prop} {o : Option (Bool × List D)} {g : Bool × List D → R (Bool × List D)} (h : PstI K W B H σ R' (R.of o >>= g)) : ∃ b xs, o = some (b, xs) ∧ PstI K W B H σ R' (g (b, xs)) := by
  cases o with
  | some s => exact ⟨s.1, s.2, rfl, h⟩
  | none => exact h.elim
theorem of_src' {K : PySem.W.Frag} {B H : Hp} {σ : L2.St} {R' : It → Hp → Prop} {o : Option (Bool × List D)} (h : PstI K W B H σ R' (R.of o)) : ∃ b xs, o = some (b, xs) ∧ PstI K W B H σ R' (.ok (b, xs)) := by
  cases o with
  | some s => exact ⟨s.1, s.2, rfl, h⟩
  | none => exact h.elim
theorem si_list (h : PE X e (tF X.K W f)) : PI X tg e (tI X.K W (xSrc f)) := by
  refine piI (pi_list h) fun σ H R' ⟨env, B, i, s, h⟩ => ?_
  refine seqE (P := PstI X.K W B H σ R') i s h (fun c z => z) (fun z => z) fun d v B1 H1 q e1 h1 st1 r nd fr => ?_
  obtain ⟨b, xs, e2, h2⟩ := of_src' h1
  obtain ⟨a, vs, B2, ev, st2, _, s2, r2⟩ := srcL_of e2 st1 r fun t ht => (fr t ht).1
  exact ⟨a, ev, ⟨vs, (hs_same st2.i).seq s2⟩, h2 (Itl X.K a) B2 H1 st2 (wk_list s2 r2)⟩
theorem si_tup (h : PE X e (tF X.K W f)) : PI X tg e (tI X.K W (xSrcT f)) := by
  refine piI (pi_tup h) fun σ H R' ⟨env, B, i, s, h⟩ => ?_
  refine seqE (P := PstI X.K W B H σ R') i s h (fun c z => z) (fun z => z) fun d v B1 H1 q e1 h1 st1 r nd fr => ?_
  obtain ⟨b, xs, e2, h2⟩ := of_src' h1
  obtain ⟨a, vs, B2, ev, st2, s2, r2⟩ := srcT_of e2 st1 r fun t ht => (fr t ht).1
  exact ⟨a, ev, ⟨vs, sqT_mono (hs_same st2.i) s2⟩, h2 (Itt X.K a) B2 H1 st2 (wk_tup s2 r2)⟩
theorem si_rev {p : Pos} {x : Str} (hx : x = "reversed") (hg : Gl X "reversed") (hm : X.mg "reversed" = none) (ha : PE X e (tF X.K W f)) (hs1 : starEach [e] X.env = [(false, eval e X.env)] := by rfl) : PI X tg (.Call (.Name "reversed" p) [e] [] pos) (tI X.K W (xSrcRev f)) := by
  refine piI (pi_reversed hg hm (pa_cons ha pa_nil hs1) hs1) fun σ H R' ⟨env, B, i, s, h⟩ => ?_
  refine seqE (P := PstI X.K W B H σ R') i s h (fun c z => z) (fun z => z) fun d v B1 H1 q e1 h1 st1 r nd fr => ?_
  obtain ⟨b, xs, e2, h2⟩ := of_src h1
  obtain ⟨a, vs, B2, ev, st2, _, s2, r2⟩ := srcL_of e2 st1 r fun t ht => (fr t ht).1
  subst ev
  exact ⟨a, vs, rfl, (hs_same st2.i).seq s2, h2 (Itv X.K a vs.length) B2 H1 st2 (wk_rev s2 r2)⟩
theorem si_enum {p tpos : Pos} {elts : List Expr} {kk : Nat} (hg : Gl X "enumerate") (hm : X.mg "enumerate" = none) (ha : PE X e (tF X.K W f)) (hs1 : starEach [e] X.env = [(false, eval e X.env)] := by rfl) : PI X (.Tuple elts kk tpos) (.Call (.Name "enumerate" p) [e] [] pos) (tI X.K W (xSrcEnum f)) := by
  refine piI (pi_enum hg hm (pa_cons ha pa_nil hs1) hs1) fun σ H R' ⟨env, B, i, s, h⟩ => ?_
  refine seqE (P := PstI X.K W B H σ R') i s h (fun c z => z) (fun z => z) fun d v B1 H1 q e1 h1 st1 r nd fr => ?_
  obtain ⟨b, xs, e2, h2⟩ := of_src h1
  obtain ⟨a, vs, B2, ev, st2, _, s2, r2⟩ := srcL_of e2 st1 r fun t ht => (fr t ht).1
  subst ev
  exact ⟨a, vs, rfl, (hs_same st2.i).seq s2, h2 (Ite X.K a) B2 H1 st2 (wk_enum s2 r2)⟩
theorem si_zip {e2 : Expr} {p tpos : Pos} {elts : List Expr} {kk : Nat} (hg : Gl X "zip") (hm : X.mg "zip" = none) (ha : PE X e (tF X.K W f)) (hb : PE X e2 (tF X.K W g))
    (hs1 : starEach [e, e2] X.env = (false, eval e X.env) :: starEach [e2] X.env := by rfl) (hs2 : starEach [e2] X.env = (false, eval e2 X.env) :: starEach [] X.env := by rfl) (hpl : (backTo pos (starEach [e2] X.env)).any (·.1) = false := by rfl) : PI X (.Tuple elts kk tpos) (.Call (.Name "zip" p) [e, e2] [] pos) (tI X.K W (xSrcZip f g)) := by
  refine piI (pi_zip hg hm (pa_cons ha (pa_cons hb pa_nil hs2) hs1) hs1 hpl) fun σ H R' ⟨env, B, i, s, h⟩ => ?_
  refine seqE (P := PstI X.K W B H σ R') i s h (fun c z => z) (fun z => z) fun d v B1 H1 q e1 h1 st1 r nd fr => ?_
  refine seqE (P := PstI X.K W B H σ R') st1.i (s.step st1) h1 (fun c z => erBack (P := True) st1.h z) (fun z => z) fun d2 w B2 H2 q2 e2 h2 st2 r2 nd2 fr2 => ?_
  obtain ⟨b1, xs1, e3, h3⟩ := of_src h2
  obtain ⟨b2, xs2, e4, h4⟩ := of_src h3
  have st := st1.trans st2
  obtain ⟨a, vs, B3, ev, st3, k3, s3, r3⟩ := srcL_of e3 st (rp_mono st2.b st2.h r) fun t ht => (fr t ht).1
  obtain ⟨a', vs', B4, ev', st4, k4, s4, r4⟩ := srcL_of e4 st3 (rp_mono k3 (.refl _) r2) fun t ht => st1.h.free (fr2 t ht).1
  subst ev ev'
  have q3 : Same (hs b1 B3 H2) (hs (b1 || b2) B4 H2) := by
    cases b1 with
    | true => exact .refl _
    | false =>
      cases b2 with
      | true => exact kp_same st3.i
      | false => exact kp_up k4
  have q4 : Same (hs b2 B4 H2) (hs (b1 || b2) B4 H2) := by
    cases b2 with
    | true => rw [Bool.or_true]; exact .refl _
    | false =>
      cases b1 with
      | true => exact kp_same st4.i
      | false => exact .refl _
  exact ⟨a, a', vs, vs', rfl, (hs_same st3.i).seq s3, (hs_same st4.i).seq s4, h4 (Itz X.K a a') B4 H2 st4 (wk_zip (q3.seq s3) (rps_mono k4 q3 r3) (q4.seq s4) (rps_mono (.refl _) q4 r4))⟩
theorem si_rng1 {p : Pos} (hg : Gl X "range") (hm : X.mg "range" = none) (ha : PE X a (tF X.K W f)) (hs1 : starEach [a] X.env = [(false, eval a X.env)] := by rfl) : PI X tg (.Call (.Name "range" p) [a] [] pos) (tI X.K W (xRng1 f)) := by
  refine piI (pi_range1 hg hm (pa_cons ha pa_nil hs1) hs1) fun σ H R' ⟨env, B, i, s, h⟩ => ?_
  refine seqE (P := PstI X.K W B H σ R') i s h (fun c z => z) (fun z => z) fun d v B1 H1 q e1 h1 st1 r nd fr => ?_
  obtain ⟨n, e2, b1, b2, h2⟩ := intR_ok h1
  subst e2
  rw [rp_int r]
  exact ⟨n, rfl, b1, b2, h2 (Itr 0 n.toNat) B1 H1 st1 wk_rng⟩
theorem si_rng2 {p : Pos} (hg : Gl X "range") (hm : X.mg "range" = none) (ha : PE X a (tF X.K W f)) (hb : PE X b (tF X.K W g)) (hs1 : starEach [a, b] X.env = [(false, eval a X.env), (false, eval b X.env)] := by rfl) (hs2 : starEach [b] X.env = [(false, eval b X.env)] := by rfl) : PI X tg (.Call (.Name "range" p) [a, b] [] pos) (tI X.K W (xRng2 f g)) := by
  refine piI (pi_range2 hg hm (pa_cons ha (pa_cons hb pa_nil hs2) (by rw [hs1, hs2])) hs1 hs2) fun σ H R' ⟨env, B, i, s, h⟩ => ?_
  refine seqE (P := PstI X.K W B H σ R') i s h (fun c z => z) (fun z => z) fun d v B1 H1 q e1 h1 st1 r nd fr => ?_
  refine seqE (P := PstI X.K W B H σ R') st1.i (s.step st1) h1 (fun c z => erBack (P := True) st1.h z) (fun z => z) fun d2 w B2 H2 q2 e2 h2 st2 r2 nd2 fr2 => ?_
  obtain ⟨n, e3, b1, b2, h3⟩ := intR_ok h2
  obtain ⟨m, e4, b3, b4, h4⟩ := intR_ok h3
  subst e3 e4
  rw [rp_int r, rp_int r2]
  exact ⟨n, m, rfl, ⟨b1, b2, b3, b4⟩, h4 (Itr n (m - n).toNat) B2 H2 (st1.trans st2) wk_rng⟩
theorem si_rng3 {p p2 p3 : Pos} {kc : Nat} (hg : Gl X "range") (hm : X.mg "range" = none) (ha : PE X a (tF X.K W f)) (hb : PE X b (tF X.K W g)) (hs1 : starEach [a, b, .UnaryOp .USub (.Constant (.int 1) kc p2) p3] X.env = (false, eval a X.env) :: starEach [b, .UnaryOp .USub (.Constant (.int 1) kc p2) p3] X.env := by rfl)
    (hs2 : starEach [b, .UnaryOp .USub (.Constant (.int 1) kc p2) p3] X.env = (false, eval b X.env) :: starEach [.UnaryOp .USub (.Constant (.int 1) kc p2) p3] X.env := by rfl) (hs3 : starEach [.UnaryOp .USub (.Constant (.int 1) kc p2) p3] X.env = (false, eval (.UnaryOp .USub (.Constant (.int 1) kc p2) p3) X.env) :: starEach [] X.env := by rfl)
    (hi : ∀ ta : TA, PA X [a, b, .UnaryOp .USub (.Constant (.int 1) kc p2) p3] ta → PI X tg (.Call (.Name "range" p) [a, b, .UnaryOp .USub (.Constant (.int 1) kc p2) p3] [] pos) (iRng3 ta)) : PI X tg (.Call (.Name "range" p) [a, b, .UnaryOp .USub (.Constant (.int 1) kc p2) p3] [] pos) (tI X.K W (xRng3 f g)) := by
  refine piI (hi _ (pa_cons ha (pa_cons hb (pa_cons (pe_un un_neg pe_int) pa_nil hs3) hs2) hs1)) fun σ H R' ⟨env, B, i, s, h⟩ => ?_
  refine seqE (P := PstI X.K W B H σ R') i s h (fun c z => z) (fun z => z) fun d v B1 H1 q e1 h1 st1 r nd fr => ?_
  refine seqE (P := PstI X.K W B H σ R') st1.i (s.step st1) h1 (fun c z => erBack (P := True) st1.h z) (fun z => z) fun d2 w B2 H2 q2 e2 h2 st2 r2 nd2 fr2 => ?_
  obtain ⟨n, e3, b1, b2, h3⟩ := intR_ok h2
  obtain ⟨m, e4, b3, b4, h4⟩ := intR_ok h3
  subst e3 e4
  rw [rp_int r, rp_int r2]
  exact ⟨1, rfl, n, m, -1, (n - m).toNat, rfl, RgC.neg b1 b2 b3 b4, h4 (Itc n (-1) (n - m).toNat) B2 H2 (st1.trans st2) wk_rngC⟩
theorem si_revRng1 {p p2 pos2 : Pos} (hg : Gl X "reversed") (hm : X.mg "reversed" = none) (hg2 : Gl X "range") (hm2 : X.mg "range" = none) (ha : PE X a (tF X.K W f)) (hs1 : starEach [.Call (.Name "range" p2) [a] [] pos2] X.env = (false, eval (.Call (.Name "range" p2) [a] [] pos2) X.env) :: starEach [] X.env := by rfl)
    (hs2 : starEach [a] X.env = (false, eval a X.env) :: starEach [] X.env := by rfl) : PI X tg (.Call (.Name "reversed" p) [.Call (.Name "range" p2) [a] [] pos2] [] pos) (tI X.K W (xRevRng1 f)) := by
  refine piI (pi_revR hg hm (prg_1 hg2 hm2 ha hs2) hs1) fun σ H R' ⟨env, B, i, s, h⟩ => ?_
  refine seqE (P := PstI X.K W B H σ R') i s h (fun c z => z) (fun z => z) fun d v B1 H1 q e1 h1 st1 r nd fr => ?_
  obtain ⟨n, e2, b1, b2, h2⟩ := intR_ok h1
  subst e2
  rw [rp_int r]
  refine ⟨n, rfl, by omega, by omega, b1, b2, ?_⟩
  rw [show (n - 0).toNat = n.toNat by omega, show (0 : Int) + (n.toNat : Int) - 1 = (n.toNat : Int) - 1 by omega]
  exact h2 (Itc ((n.toNat : Int) - 1) (-1) n.toNat) B1 H1 st1 wk_rngC
end
end BC

namespace BC
open PySem PySem.Spec PyProof.Rows L2

/-! ## list comprehensions -/
def wipeE (env : Env) : List Nat → Env
  | [] => env
  | v :: vs => (wipeE env vs).set v none
theorem wipeE_length (env : Env) : ∀ vs : List Nat, (wipeE env vs).length = env.length
  | [] => rfl
  | v :: vs => by unfold wipeE; rw [List.length_set, wipeE_length env vs]
theorem wipeE_some {env : Env} {i : Nat} {x : D} : ∀ {vs : List Nat}, (wipeE env vs)[i]? = some (some x) → env[i]? = some (some x) ∧ i ∉ vs
  | [], h => ⟨h, by simp⟩
  | v :: vs, h => by
    unfold wipeE at h
    by_cases hi : v = i
    · subst hi
      by_cases hv : v < (wipeE env vs).length
      · rw [List.getElem?_set_self hv] at h; cases h
      · rw [List.getElem?_eq_none (by simpa using hv)] at h; cases h
    · rw [List.getElem?_set_ne hi] at h
      obtain ⟨h1, h2⟩ := wipeE_some h
      exact ⟨h1, by simp only [List.mem_cons, not_or]; exact ⟨fun e => hi e.symm, h2⟩⟩
theorem wipe_same {σ : L2.St} {j : Nat} {x : Option V} : ∀ {vs : List Nat}, j ∈ vs → wipe (σ.set j x) vs = wipe σ vs
  | [], h => by cases h
  | v :: vs, h => by
    unfold wipe
    by_cases hv : v = j
    · subst hv
      by_cases hm : v ∈ vs
      · rw [wipe_same hm]
      · rw [wipe_set_out hm, List.set_set]
    · have hm : j ∈ vs := by
        rcases List.mem_cons.mp h with z | z
        · exact absurd z.symm hv
        · exact z
      rw [wipe_same hm]
where
  wipe_set_out {σ : L2.St} {j : Nat} {x : Option V} : ∀ {vs : List Nat}, j ∉ vs → wipe (σ.set j x) vs = (wipe σ vs).set j x
    | [], _ => rfl
    | v :: vs, h => by
      simp only [List.mem_cons, not_or] at h
      unfold wipe
      rw [wipe_set_out h.2, List.set_comm _ _ h.1]
theorem wipe_wipe {σ : L2.St} : ∀ {vs us : List Nat}, (∀ v ∈ vs, v ∈ us) → wipe (wipe σ vs) us = wipe σ us
  | [], us, _ => rfl
  | v :: vs, us, h => by
    show wipe ((wipe σ vs).set v none) us = _
    rw [wipe_same (h v (by simp)), wipe_wipe fun x hx => h x (by simp [hx])]
section
variable {K : PySem.W.Frag} {W : WC} {B H : Hp} {env : Env} {σ : L2.St}
theorem SlE.wipe (s : SlE K B H env σ) (vs : List Nat) : SlE K B H (wipeE env vs) (L2.wipe σ vs) := ⟨by rw [L2.wipe_length, wipeE_length, s.1], fun i d e => by
  obtain ⟨e1, e2⟩ := wipeE_some e
  obtain ⟨v, h1, h2⟩ := s.2 i d e1
  exact ⟨v, by rw [wipe_out e2]; exact h1, h2⟩⟩
theorem SlE.set (s : SlE K B H env σ) {d : D} {v : V} {p : List Addr} (r : Rp K B H d v p) (j : Nat) : SlE K B H (env.set j (some d)) (σ.set j (some v)) := ⟨by simp [s.1], fun i d' e => by
  by_cases h : j = i
  · subst h
    have hj : j < env.length := by
      have := (List.getElem?_eq_some_iff.mp e).1
      simpa using this
    rw [List.getElem?_set_self hj] at e
    cases e
    exact ⟨v, List.getElem?_set_self (by rw [s.1]; exact hj), rp_bor r⟩
  · rw [List.getElem?_set_ne h] at e
    obtain ⟨w, h1, h2⟩ := s.2 i d' e
    exact ⟨w, by rw [List.getElem?_set_ne h]; exact h1, h2⟩⟩
end
/-- a target, told by what it does to the names' values -/
abbrev Tgt := D → Env → Option Env
def tgN (j : Nat) : Tgt := fun d env => some (env.set j (some d))
def setAll : List Nat → List D → Env → Option Env
  | [], [], env => some env
  | j :: js, d :: ds, env => setAll js ds (env.set j (some d))
  | _, _, _ => none
def tgT (js : List Nat) : Tgt := fun d env => match d with
  | .tup ds => setAll js ds env
  | _ => none
def gAll : List Nat → TGs
  | [] => gNil
  | j :: js => gCons (gName j) (gAll js)
def TgE (K : PySem.W.Frag) (g : TG) (tg : Tgt) (vs : List Nat) : Prop := ∀ d v env env' σ B H Q, tg d env = some env' → Same B H → SlE K B H env σ → Rp K B H d v [] → (∀ σ', SlE K B H env' σ' → wipe σ' vs = wipe σ vs → Q σ' H) → g v σ H Q
theorem te_name {K : PySem.W.Frag} {j : Nat} {vs : List Nat} (h : j ∈ vs) : TgE K (gName j) (tgN j) vs := fun d v env env' σ B H Q e i s r k => by
  cases e
  exact k _ (s.set r j) (wipe_same h)
theorem te_all {K : PySem.W.Frag} {vs us : List Nat} {B H : Hp} : ∀ {js : List Nat} {ds : List D} {ws : List V} {env env' : Env} {σ : L2.St} {Q : L2.St → Hp → Prop}, (∀ j ∈ js, j ∈ vs) → setAll js ds env = some env' → SlE K B H env σ → Rps K B H ds ws [] →
    (∀ σ', SlE K B H env' σ' → wipe σ' vs = wipe σ vs → Q σ' H) → gAll js ws σ H Q
  | [], [], ws, env, env', σ, Q, _, e, s, r, k => by
    cases e
    exact ⟨r.1, k σ s rfl⟩
  | j :: js, d :: ds, ws, env, env', σ, Q, hj, e, s, r, k => by
    unfold Rps at r
    obtain ⟨w, wr, p, q, e1, e2, r1, r2⟩ := r
    have e3 : p = [] ∧ q = [] := by simpa using e2.symm
    rw [e3.1] at r1
    rw [e3.2] at r2
    refine ⟨w, wr, e1, ?_⟩
    exact te_all (us := us) (fun x hx => hj x (by simp [hx])) e (s.set r1 j) r2 fun σ' s' hw => k σ' s' (hw.trans (wipe_same (hj j (by simp))))
  | [], _ :: _, _, _, _, _, _, _, e, _, _, _ => by cases e
  | _ :: _, [], _, _, _, _, _, _, e, _, _, _ => by cases e
theorem setAll_len : ∀ {js : List Nat} {ds : List D} {env env' : Env}, setAll js ds env = some env' → js.length = ds.length
  | [], [], _, _, _ => rfl
  | j :: js, d :: ds, env, env', e => by simp [setAll_len (show setAll js ds (env.set j (some d)) = some env' from e)]
  | [], _ :: _, _, _, e => by cases e
  | _ :: _, [], _, _, e => by cases e
theorem te_tup {K : PySem.W.Frag} {js vs : List Nat} {n : Nat} (h : ∀ j ∈ js, j ∈ vs) (hn : n = js.length) : TgE K (gTup K n (gAll js)) (tgT js) vs := fun d v env env' σ B H Q e i s r k => by
  cases d with
  | tup ds =>
    obtain ⟨a, ws, ev, s1, r1⟩ := rp_tup r
    refine ⟨a, ws, ev, s1, ?_, te_all (us := []) h e s r1 k⟩
    rw [rps_len r1, hn]
    exact (setAll_len e).symm
  | _ => cases e
def lcGo (tg : Tgt) (c : Env → R Bool) (f : Env → R D) (env : Env) : List D → R (List D)
  | [] => .ok []
  | d :: ds => match tg d env with
    | none => .no
    | some e => do
      let b ← c e
      if b = true then do
        let y ← f e
        if y.sto = true then do
          let ys ← lcGo tg c f env ds
          R.ok (y :: ys)
        else R.no
      else lcGo tg c f env ds
def xLc (src : Env → R (Bool × List D)) (tg : Tgt) (c : Env → R Bool) (f : Env → R D) (vs : List Nat) : Env → R D := fun env => do
  let s ← src env
  match lcGo tg c f (wipeE env vs) s.2 with
  | .ok ys => if s.2.length ≤ 16777216 then R.ok (.lst .ow ys) else R.no
  | _ => R.no
theorem stos_app : ∀ {xs ys : List D}, D.stos xs = true → D.stos ys = true → D.stos (xs ++ ys) = true
  | [], _, _, h => h
  | x :: xs, ys, h1, h2 => by
    simp only [D.stos, Bool.and_eq_true] at h1
    show (x.sto && D.stos (xs ++ ys)) = true
    rw [h1.1, stos_app h1.2 h2]
    rfl
theorem tLc_of {K : PySem.W.Frag} {W : WC} {src : Env → R (Bool × List D)} {g : TG} {tg : Tgt} {c : Env → R Bool} {f : Env → R D} {vs : List Nat} {σ : L2.St} {H : Hp} {Q : VK} (hg : TgE K g tg vs) (h : tF K W (xLc src tg c f vs) σ H Q) :
    tLc (tI K W src) g (tFT K W0 c) (tF K W0 f) vs σ H Q := by
  obtain ⟨env, B, i0, s0, h⟩ := h
  refine ⟨env, B, i0, s0, ?_⟩
  unfold xLc at h
  cases es : src env with
  | er cc => rw [es] at h; exact h
  | no => rw [es] at h; exact h.elim
  | ok bx =>
    rw [es] at h
    obtain ⟨bb, xs⟩ := bx
    replace h : Pst K W B H σ Q (match lcGo tg c f (wipeE env vs) xs with | .ok ys => if xs.length ≤ 16777216 then R.ok (.lst .ow ys) else R.no | _ => R.no) := h
    cases el : lcGo tg c f (wipeE env vs) xs with
    | er cc => rw [el] at h; exact h.elim
    | no => rw [el] at h; exact h.elim
    | ok total =>
      rw [el] at h
      by_cases hz : xs.length ≤ 16777216
      · replace h : Pst K W B H σ Q (if xs.length ≤ 16777216 then R.ok (.lst .ow total) else R.no) := h
        rw [if_pos hz] at h
        intro J B1 H1 st1 wk Dl hD
        refine ⟨fun i m Hc => ∃ B2 ys ws qs zs, m = xs.length - i ∧ i ≤ xs.length ∧ Step B1 H1 B2 Hc ∧ Hc Dl = some (.lst ws) ∧ B2 Dl = none ∧ Rps K B2 Hc ys ws qs ∧ D.stos ys = true ∧ qs.Nodup ∧ Dl ∉ qs ∧ (∀ q ∈ qs, H1 q = none ∧ B2 q = none) ∧ ys.length ≤ i ∧
          lcGo tg c f (wipeE env vs) (xs.drop i) = .ok zs ∧ total = ys ++ zs, ⟨xs.length, B1, [], [], [], total, rfl, Nat.zero_le _, step_new st1.i hD, upd_same, noB st1.i hD, ⟨rfl, rfl⟩, rfl, .nil, by simp, (by intro q hq; cases hq), Nat.le_refl _, el, rfl⟩, ?_⟩
        rintro i m Hc ⟨B2, ys, ws, qs, zs, rfl, hi, st2, hDl, hBl, ry, hst, nd, nDl, fr, hly, egl, etot⟩
        have wki := wk i B2 Hc st2.b st2.i ((hs_same st1.i).trans st2.h)
        cases ex : xs[i]? with
        | none =>
          refine .inl ⟨wki.2 ex, ?_⟩
          have hlen := List.getElem?_eq_none_iff.mp ex
          rw [List.drop_of_length_le hlen] at egl
          cases egl
          rw [List.append_nil] at etot
          subst etot
          refine h (.ref Dl) B2 Hc (Dl :: qs) (st1.trans st2) ?_ (List.nodup_cons.mpr ⟨nDl, nd⟩) fun q hq => ?_
          · unfold Rp
            exact ⟨Dl, ws, qs, rfl, hDl, rfl, ry⟩
          · rcases List.mem_cons.mp hq with e | e
            · subst e
              exact ⟨st1.h.free hD, hBl⟩
            · exact ⟨st1.h.free (fr q e).1, (fr q e).2⟩
        | some d =>
          obtain ⟨hgo, hy⟩ := wki.1 d ex
          have hlt := (List.getElem?_eq_some_iff.mp ex).1
          have edrop : xs.drop i = d :: xs.drop (i + 1) := by
            rw [List.drop_eq_getElem_cons hlt]
            congr 1
            exact (List.getElem?_eq_some_iff.mp ex).2
          rw [edrop] at egl
          refine .inr ⟨hgo, fun H' => ∃ m', m' < xs.length - i ∧ ∃ B2 ys ws qs zs, m' = xs.length - (i + 1) ∧ i + 1 ≤ xs.length ∧ Step B1 H1 B2 H' ∧ H' Dl = some (.lst ws) ∧ B2 Dl = none ∧ Rps K B2 H' ys ws qs ∧ D.stos ys = true ∧ qs.Nodup ∧ Dl ∉ qs ∧ (∀ q ∈ qs, H1 q = none ∧ B2 q = none) ∧ ys.length ≤ i + 1 ∧
            lcGo tg c f (wipeE env vs) (xs.drop (i + 1)) = .ok zs ∧ total = ys ++ zs, fun H' z => z, fun x H' hx => ?_⟩
          obtain ⟨B3, st3, rx⟩ := hy x H' hx
          have st23 := st2.trans st3
          have sl := (s0.step (st1.trans st23)).wipe vs
          unfold lcGo at egl
          cases et : tg d (wipeE env vs) with
          | none => rw [et] at egl; cases egl
          | some e1 =>
            rw [et] at egl
            refine hg d x (wipeE env vs) e1 (wipe σ vs) B3 H' _ et st3.i sl rx fun σ2 sl2 hw => ?_
            refine ⟨hw.trans (wipe_wipe fun _ z => z), ?_⟩
            refine ⟨e1, B3, st3.i, sl2, ?_⟩
            cases ec : c e1 with
            | er cc => simp only [ec, R.bind_er] at egl; cases egl
            | no => simp only [ec, R.bind_no] at egl; cases egl
            | ok b =>
              simp only [ec, R.bind_ok] at egl
              intro B4 H4 st4
              cases b with
              | false =>
                simp only [Bool.false_eq_true, if_false] at egl
                have st24 := st3.trans st4
                show ∃ m', _
                refine ⟨xs.length - (i + 1), by omega, B4, ys, ws, qs, zs, rfl, hlt, st2.trans st24, st24.h _ _ hDl, st24.n _ _ hBl hDl, rps_mono st24.b st24.h ry, hst, nd, nDl, fun q hq => ⟨(fr q hq).1, ?_⟩, by omega, egl, etot⟩
                obtain ⟨us, hu, _⟩ := rps_own ry q hq
                exact st24.n q us (fr q hq).2 hu
              | true =>
                simp only [if_true] at egl
                show tF K W0 f σ2 H4 _
                have sl4 := sl2.step st4
                refine ⟨e1, B4, st4.i, sl4, ?_⟩
                cases ef : f e1 with
                | er cc => simp only [ef, R.bind_er] at egl; cases egl
                | no => simp only [ef, R.bind_no] at egl; cases egl
                | ok y =>
                  simp only [ef, R.bind_ok] at egl
                  by_cases hys : y.sto = true
                  · simp only [hys, if_true] at egl
                    cases eg2 : lcGo tg c f (wipeE env vs) (xs.drop (i + 1)) with
                    | er cc => simp only [eg2, R.bind_er] at egl; cases egl
                    | no => simp only [eg2, R.bind_no] at egl; cases egl
                    | ok zs2 =>
                      simp only [eg2, R.bind_ok] at egl
                      cases egl
                      intro v B5 H5 q5 st5 r5 nd5 fr5
                      have st24 := st3.trans st4
                      have st25 := st24.trans st5
                      have hD5 := st25.h _ _ hDl
                      have hD4 := st24.h _ _ hDl
                      refine ⟨ws, hD5, by rw [rps_len ry, sizeLine_eq]; omega, ?_⟩
                      have nq5 : Dl ∉ q5 := fun z => by rw [(fr5 Dl z).1] at hD4; cases hD4
                      have nall : Dl ∉ qs ++ q5 := by simp only [List.mem_append, not_or]; exact ⟨nDl, nq5⟩
                      have hB5 : B5 Dl = none := st25.n _ _ hBl hDl
                      have ry5 := rps_mono st25.b st25.h ry
                      have rall : Rps K B5 H5 (ys ++ [y]) (ws ++ [v]) (qs ++ q5) := rps_app ry5 (by
                        unfold Rps
                        exact ⟨v, [], q5, [], rfl, by simp, r5, ⟨rfl, rfl⟩⟩)
                      have sall : D.stos (ys ++ [y]) = true := stos_app hst (by simp [D.stos, hys])
                      have hH1 : H1 Dl = none := hD
                      refine ⟨xs.length - (i + 1), by omega, B5, ys ++ [y], ws ++ [v], qs ++ q5, zs2, rfl, hlt, ?_, upd_same, hB5, rps_upd hD5 hB5 sall nall rall, sall, ?_, nall, ?_, by simp; omega, rfl, by simp [etot]⟩
                      · have stt := st2.trans st25
                        refine ⟨stt.b, fun p o e => ?_, fun p o e => ?_, stt.n⟩
                        · have : p ≠ Dl := fun z => by subst z; rw [hH1] at e; cases e
                          rw [upd_ne this]
                          exact stt.h p o e
                        · have : p ≠ Dl := fun z => by subst z; rw [hB5] at e; cases e
                          rw [upd_ne this]
                          exact stt.i p o e
                      · refine List.nodup_append.mpr ⟨nd, nd5, fun a ha b hb e => ?_⟩
                        subst e
                        obtain ⟨us, hu, _⟩ := rps_own ry a ha
                        have := st24.h _ _ hu
                        rw [(fr5 a hb).1] at this
                        cases this
                      · intro q hq
                        rcases List.mem_append.mp hq with z | z
                        · obtain ⟨us, hu, _⟩ := rps_own ry q z
                          exact ⟨(fr q z).1, st25.n q us (fr q z).2 hu⟩
                        · exact ⟨(st2.trans st24).h.free (fr5 q z).1, (fr5 q z).2⟩
                  · simp only [hys] at egl
                    cases egl
      · replace h : Pst K W B H σ Q (if xs.length ≤ 16777216 then R.ok (.lst .ow total) else R.no) := h
        rw [if_neg hz] at h
        exact h.elim
def xYes : Env → R Bool := fun _ => .ok true
section
variable {X : Cx} {W : WC} {f : Env → R D} {c : Env → R Bool} {src : Env → R (Bool × List D)}
theorem spt_nil {X : Cx} {K : PySem.W.Frag} : PTs X [] (tFT K W0 xYes) := ⟨fun pins s σ H Q I h => by
  obtain ⟨env, B, i, sl, h⟩ := h
  exact pts_nil.run pins s σ H Q I (h B H (.refl i))⟩
theorem spt_one {X : Cx} {e : Expr} {K : PySem.W.Frag} (h : PT X e (tFT K W0 c)) : PTs X [e] (tFT K W0 c) := pts_one h
theorem se_lc {elt tgx iter : Expr} {ifs : List Expr} {scope : Scope} (own : List (Str × Nat)) {pos : Pos} {g : TG} {tg : Tgt} (hc : X.calm = true) (hN : X.N.Nodup) (hi : PI X tgx iter (tI X.K W src)) (ok : BlkOk X.N X.env.scope scope own)
    (hg : ∀ (s : Shared) (H : Hp) (C : Addr) (cl : List (Str × Addr)) (fp : List Addr), PG (X.blk s H scope (compEnvC scope cl C X.env) fp) tgx g) (ht : ∀ (s : Shared) (H : Hp) (C : Addr) (cl : List (Str × Addr)) (fp : List Addr), PTs (X.blk s H scope (compEnvC scope cl C X.env) fp) ifs (tFT X.K W0 c))
    (he : ∀ (s : Shared) (H : Hp) (C : Addr) (cl : List (Str × Addr)) (fp : List Addr), PE (X.blk s H scope (compEnvC scope cl C X.env) fp) elt (tF X.K W0 f)) (tgo : TgE X.K g tg (own.map (·.2))) (hs : ∀ x, foldedSetIterable iter X.env x = pure x := by intro _; rfl) :
    PE X (.ListComp elt [⟨tgx, iter, ifs, 0⟩] scope pos) (tF X.K W (xLc src tg c f (own.map (·.2)))) := peI (pe_lc hc hN hi ok hg ht he hs) fun _ _ _ h => tLc_of tgo h
end

/-! ## list(range(n)), list(reversed(x)) -/
def ofR (r : R Int) (k : Int → Option D) : Option D := match r with
  | .ok i => k i
  | _ => none
def lrngD : D → Option D
  | .int n => if -4611686018427387904 ≤ n ∧ n ≤ 16777216 then some (.lst .ow (rngL 0 1 n.toNat)) else none
  | _ => none
theorem rps_rng {K : PySem.W.Frag} {B H : Hp} (n : Nat) (f : Nat → Int) : Rps K B H ((List.range n).map fun i => .int (f i)) ((List.range n).map fun i => .int (f i)) [] := by
  have : ∀ l : List Nat, Rps K B H (l.map fun i => D.int (f i)) (l.map fun i => V.int (f i)) [] := fun l => by
    induction l with
    | nil => exact ⟨rfl, rfl⟩
    | cons a l ih =>
      rw [List.map_cons, List.map_cons]
      unfold Rps
      exact ⟨_, _, [], [], rfl, rfl, ⟨rfl, rfl⟩, ih⟩
  exact this _
section
variable {X : Cx} {W : WC} {f : Env → R D} {a : Expr} {pos : Pos}
theorem se_listRng {p p2 pos2 : Pos} (hc : X.calm = true) (hg : Gl X "list") (hm : X.mg "list" = none) (hg2 : Gl X "range") (hm2 : X.mg "range" = none) (ha : PE X a (tF X.K W f)) (na : starEach [a] X.env = (false, eval a X.env) :: starEach [] X.env := by rfl)
    (nb : starEach [.Call (.Name "range" p2) [a] [] pos2] X.env = (false, eval (.Call (.Name "range" p2) [a] [] pos2) X.env) :: starEach [] X.env := by rfl) : PE X (.Call (.Name "list" p) [.Call (.Name "range" p2) [a] [] pos2] [] pos) (tF X.K W (x1 lrngD f)) := by
  refine peI (pe_listRg hc hg hm (prg_1 hg2 hm2 ha na) nb) fun σ H Q ⟨env, B, i, s, h⟩ => ?_
  refine seqE (P := Pst X.K W B H σ Q) i s h (fun c z => z) (fun z => z) fun d v B1 H1 q e1 h1 st1 r nd fr => ?_
  obtain ⟨d2, ed, hd⟩ := of_ok h1
  unfold lrngD at ed
  split at ed
  · split at ed
    · cases ed
      rename_i n hz
      refine ⟨n, rp_int r, ⟨by decide, by decide, by omega, by omega, by omega⟩, ?_⟩
      refine okO_lst st1.i nd (fun t ht => (fr t ht).2) (vs := rgV 0 n) (qs := []) ?_ (List.nil_sublist _) (okO_end st1 fr hd)
      unfold rngL rgV
      rw [show (n - 0).toNat = n.toNat by omega]
      have := rps_rng (K := X.K) (B := B1) (H := H1) n.toNat (fun i => (0 : Int) + (i : Nat) * 1)
      simpa using this
    · cases ed
  · cases ed
/-- list(reversed(x)), x a list -/
def lrevD : D → Option D
  | .lst _ xs => some (.lst .ow xs.reverse)
  | _ => none
theorem rps_revE {K : PySem.W.Frag} {B H : Hp} : ∀ {ds : List D} {vs : List V} {ps : List Addr}, Rps K B H ds vs ps → ∃ qs, qs.Perm ps ∧ Rps K B H ds.reverse vs.reverse qs
  | [], vs, ps, r => ⟨[], by rw [r.2], by rw [r.1]; exact ⟨rfl, rfl⟩⟩
  | d :: ds, vs, ps, r => by
    unfold Rps at r
    obtain ⟨v, vr, p, q, e1, e2, r1, r2⟩ := r
    subst e1 e2
    obtain ⟨qs, h1, h2⟩ := rps_revE r2
    refine ⟨qs ++ p, (List.perm_append_comm.trans (List.Perm.append_left p h1)), ?_⟩
    rw [List.reverse_cons, List.reverse_cons]
    refine rps_app h2 ?_
    unfold Rps
    exact ⟨v, [], p, [], rfl, by simp, r1, ⟨rfl, rfl⟩⟩
end
end BC

namespace BC
open PySem PySem.Spec PyProof.Rows L2

/-! ## statements -/
inductive Ou
  | nx (e : Env) | rt (d : D) | bk (e : Env) | ct (e : Env) | rz (c : String) (e : Env)
/-- what a statement does: what is wanted of each way it may end -/
abbrev G := Env → (Ou → Prop) → Prop
/-- a run's state: Bf, Hf: a floor that stays; B0, H0: the entry of the def -/
structure SRb (K : PySem.W.Frag) (Bf Hf B0 H0 : Hp) (σ : L2.St) (H : Hp) (env : Env) (B : Hp) (ps : Nat → List Addr) : Prop where
  fb : Same Bf B
  fh : Same Hf H
  st : Step B0 H0 B H
  len : σ.length = env.length
  sl : ∀ (i : Nat) (d : D), env[i]? = some (some d) → d.sto = true ∧ ∃ v, σ[i]? = some (some v) ∧ Rp K B H d v (ps i)
  nd : ∀ i, (ps i).Nodup
  dj : ∀ i j p, p ∈ ps i → p ∈ ps j → i = j
  ow : ∀ i p, p ∈ ps i → H0 p = none ∧ Hf p = none ∧ B p = none ∧ ∃ o, H p = some o ∧ Mu o = true
def SR (K : PySem.W.Frag) (Bf Hf B0 H0 : Hp) (σ : L2.St) (H : Hp) (env : Env) : Prop := ∃ B ps, SRb K Bf Hf B0 H0 σ H env B ps
def RetOk (K : PySem.W.Frag) (B0 H0 H : Hp) (d : D) (v : V) : Prop := ∃ B qs, Step B0 H0 B H ∧ Rp K B H d v qs ∧ qs.Nodup ∧ ∀ q ∈ qs, H0 q = none ∧ B q = none
structure EOk (K : PySem.W.Frag) (W : WC) (Bf Hf B0 H0 : Hp) (D : Ends) (Q : Ou → Prop) : Prop where
  nx : ∀ e, Q (.nx e) → ∀ σ H, SR K Bf Hf B0 H0 σ H e → D.nx σ H
  bk : ∀ e, Q (.bk e) → ∀ σ H, SR K Bf Hf B0 H0 σ H e → D.bk σ H
  ct : ∀ e, Q (.ct e) → ∀ σ H, SR K Bf Hf B0 H0 σ H e → D.ct σ H
  rt : ∀ d, Q (.rt d) → ∀ v H, RetOk K B0 H0 H d v → D.rt v H
  rz : ∀ c e, Q (.rz c e) → ∀ σ H, SR K Bf Hf B0 H0 σ H e → W c σ H
def tG (K : PySem.W.Frag) (W : WC) (g : G) : TS := fun D σ H => ∃ Bf Hf B0 H0 env Q, SR K Bf Hf B0 H0 σ H env ∧ g env Q ∧ EOk K W Bf Hf B0 H0 D Q

section
variable {K : PySem.W.Frag} {W : WC} {Bf Hf B0 H0 B H B' H' : Hp} {σ : L2.St} {env : Env} {ps : Nat → List Addr}
theorem SRb.sle (s : SRb K Bf Hf B0 H0 σ H env B ps) : SlE K B H env σ := ⟨s.len, fun i d e => by
  obtain ⟨_, v, h1, h2⟩ := s.sl i d e
  exact ⟨v, h1, rp_bor h2⟩⟩
theorem SRb.step (s : SRb K Bf Hf B0 H0 σ H env B ps) (t : Step B H B' H') : SRb K Bf Hf B0 H0 σ H' env B' ps where
  fb := s.fb.trans t.b
  fh := s.fh.trans t.h
  st := s.st.trans t
  len := s.len
  sl := fun i d e => by
    obtain ⟨h0, v, h1, h2⟩ := s.sl i d e
    exact ⟨h0, v, h1, rp_mono t.b t.h h2⟩
  nd := s.nd
  dj := s.dj
  ow := fun i p hp => by
    obtain ⟨h1, h2, h3, vs, h4, hm⟩ := s.ow i p hp
    exact ⟨h1, h2, t.n p vs h3 h4, vs, t.h _ _ h4, hm⟩
theorem SRb.same (s : SRb K Bf Hf B0 H0 σ H env B ps) (t : Same H H') : SRb K Bf Hf B0 H0 σ H' env B ps := s.step ⟨.refl _, t, s.st.i.trans t, fun _ _ h _ => h⟩
/-- a name's slot takes a value that nobody else holds -/
theorem SRb.set (s : SRb K Bf Hf B0 H0 σ H env B ps) {d : D} {v : V} {qs : List Addr} (hd : d.sto = true) (r : Rp K B H d v qs) (nd : qs.Nodup) (fr : ∀ q ∈ qs, H0 q = none ∧ Hf q = none ∧ B q = none ∧ ∀ i, i ≠ j → q ∉ ps i) : SRb K Bf Hf B0 H0 (σ.set j (some v)) H (env.set j (some d)) B (fun i => if i = j then qs else ps i) where
  fb := s.fb
  fh := s.fh
  st := s.st
  len := by simp [s.len]
  sl := fun i d' e => by
    by_cases h : j = i
    · subst h
      have hj : j < env.length := by
        have := (List.getElem?_eq_some_iff.mp e).1
        simpa using this
      rw [List.getElem?_set_self hj] at e
      cases e
      exact ⟨hd, v, List.getElem?_set_self (by rw [s.len]; exact hj), by simp only [if_true]; exact r⟩
    · rw [List.getElem?_set_ne h] at e
      obtain ⟨h0, w, h1, h2⟩ := s.sl i d' e
      exact ⟨h0, w, by rw [List.getElem?_set_ne h]; exact h1, by rw [if_neg (Ne.symm h)]; exact h2⟩
  nd := fun i => by
    split
    · exact nd
    · exact s.nd i
  dj := fun i k p h1 h2 => by
    by_cases hi : i = j
    · rw [if_pos hi] at h1
      by_cases hk : k = j
      · exact hi.trans hk.symm
      · rw [if_neg hk] at h2
        exact absurd h2 ((fr p h1).2.2.2 k hk)
    · rw [if_neg hi] at h1
      by_cases hk : k = j
      · rw [if_pos hk] at h2
        exact absurd h1 ((fr p h2).2.2.2 i hi)
      · rw [if_neg hk] at h2
        exact s.dj i k p h1 h2
  ow := fun i p hp => by
    by_cases hi : i = j
    · rw [if_pos hi] at hp
      obtain ⟨h1, h2, h3, _⟩ := fr p hp
      exact ⟨h1, h2, h3, rp_own r p hp⟩
    · rw [if_neg hi] at hp
      exact s.ow i p hp
/-- what an expression made is nobody else's -/
theorem SRb.fresh (s : SRb K Bf Hf B0 H0 σ H env B ps) (t : Step B H B' H') {qs : List Addr} (fr : Fresh H B' qs) : ∀ q ∈ qs, H0 q = none ∧ Hf q = none ∧ B' q = none ∧ ∀ i, q ∉ ps i := fun q hq => by
  obtain ⟨h1, h2⟩ := fr q hq
  refine ⟨s.st.h.free h1, s.fh.free h1, h2, fun i hp => ?_⟩
  obtain ⟨_, _, _, vs, h, _⟩ := s.ow i q hp
  rw [h1] at h
  cases h
/-- a slot's owned parts become frozen -/
theorem SRb.frz (s : SRb K Bf Hf B0 H0 σ H env B ps) (j : Nat) : ∃ B2 ps2, SRb K Bf Hf B0 H0 σ H (env.modify j (Option.map D.frz)) B2 ps2 := by
  have k1 : Same B (ovr B H (ps j)) := same_ovr s.st.i
  refine ⟨ovr B H (ps j), fun i => if i = j then [] else ps i, s.fb.trans k1, s.fh, ⟨s.st.b.trans k1, s.st.h, ovr_same s.st.i, fun p vs hb hh => ovr_none (fun z => by rw [(s.ow j p z).1] at hh; cases hh) (s.st.n p vs hb hh)⟩, by simp [s.len], fun i d e => ?_, fun i => ?_, fun i k p h1 h2 => ?_, fun i p hp => ?_⟩
  · by_cases h : j = i
    · subst h
      rw [List.getElem?_modify_eq] at e
      cases e2 : env[j]? with
      | none => rw [e2] at e; cases e
      | some o =>
        rw [e2] at e
        cases o with
        | none => cases e
        | some d0 =>
          cases e
          obtain ⟨h0, v, h1, h2⟩ := s.sl j d0 e2
          refine ⟨by have := stos_frzs [d0]; simpa [D.frzs, D.stos] using this, v, h1, ?_⟩
          rw [if_pos rfl]
          exact rp_frz k1 h0 (fun p hp o ho => ovr_mem hp ho) h2
    · rw [List.getElem?_modify_ne (h := h)] at e
      obtain ⟨h0, v, h1, h2⟩ := s.sl i d e
      refine ⟨h0, v, h1, ?_⟩
      rw [if_neg (Ne.symm h)]
      exact rp_mono k1 (.refl _) h2
  · split
    · exact .nil
    · exact s.nd i
  · by_cases hi : i = j
    · rw [if_pos hi] at h1; cases h1
    · by_cases hk : k = j
      · rw [if_pos hk] at h2; cases h2
      · rw [if_neg hi] at h1
        rw [if_neg hk] at h2
        exact s.dj i k p h1 h2
  · by_cases hi : i = j
    · rw [if_pos hi] at hp; cases hp
    · rw [if_neg hi] at hp
      obtain ⟨h1, h2, h3, h4⟩ := s.ow i p hp
      exact ⟨h1, h2, ovr_none (fun z => hi (s.dj i j p hp z)) h3, h4⟩
end
/-- the value of an expression, then more -/
def gEv {α : Type} (r : R α) (env : Env) (Q : Ou → Prop) (k : α → Prop) : Prop := match r with
  | .ok a => k a
  | .er c => Q (.rz c env)
  | .no => False
@[simp] theorem gEv_ok {α : Type} (a : α) (env : Env) (Q : Ou → Prop) (k : α → Prop) : gEv (.ok a) env Q k = k a := rfl
@[simp] theorem gEv_er {α : Type} (c : String) (env : Env) (Q : Ou → Prop) (k : α → Prop) : gEv (.er c : R α) env Q k = Q (.rz c env) := rfl
@[simp] theorem gEv_no {α : Type} (env : Env) (Q : Ou → Prop) (k : α → Prop) : gEv (.no : R α) env Q k = False := rfl
def gNext : G := fun env Q => Q (.nx env)
def gSeq (g h : G) : G := fun env Q => g env fun o => match o with
  | .nx e => h e Q
  | o => Q o
def gAsg (i : Nat) (f : Env → R D) : G := fun env Q => gEv (f env) env Q fun d => d.sto = true ∧ Q (.nx (env.set i (some d)))
def gUnp (is : List Nat) (f : Env → R D) : G := fun env Q => gEv (f env) env Q fun d => d.sto = true ∧ match d with
  | .tup ds => ∃ e, setAll is ds env = some e ∧ Q (.nx e)
  | _ => False
def gRet (f : Env → R D) : G := fun env Q => gEv (f env) env Q fun d => Q (.rt d)
def gRetV (i : Nat) : G := fun env Q => match env[i]? with
  | some (some d) => Q (.rt d)
  | _ => False
def gRetN : G := fun _ Q => Q (.rt .non)
def gIf (c : Env → R Bool) (g h : G) : G := fun env Q => gEv (c env) env Q fun b => if b = true then g env Q else h env Q
def gDrop (f : Env → R D) : G := fun env Q => gEv (f env) env Q fun _ => Q (.nx env)
def gBreak : G := fun env Q => Q (.bk env)
def gCont : G := fun env Q => Q (.ct env)
def gFrz (i : Nat) (g : G) : G := fun env Q => g (env.modify i (Option.map D.frz)) Q
def gForL (tg : Tgt) (body : G) : List D → G
  | [], env, Q => Q (.nx env)
  | d :: ds, env, Q => d.sto = true ∧ ∃ e, tg d env = some e ∧ body e fun o => match o with
    | .nx e => gForL tg body ds e Q
    | .ct e => gForL tg body ds e Q
    | .bk e => Q (.nx e)
    | o => Q o
def gFor (src : Env → R (Bool × List D)) (tg : Tgt) (body : G) : G := fun env Q => gEv (src env) env Q fun s => s.1 = false ∧ gForL tg body s.2 env Q
def gWhile (c : Env → R Bool) (body : G) : G := fun env Q => ∃ Wv : Nat → Env → Prop, (∃ m, Wv m env) ∧ ∀ m env, Wv m env → gEv (c env) env Q fun b => if b = true then body env fun o => match o with
    | .nx e => ∃ m', m' < m ∧ Wv m' e
    | .ct e => ∃ m', m' < m ∧ Wv m' e
    | .bk e => Q (.nx e)
    | o => Q o
  else Q (.nx env)
section
variable {K : PySem.W.Frag} {W : WC} {Bf Hf B0 H0 : Hp} {σ : L2.St} {H : Hp} {env : Env} {De : Ends} {Q : Ou → Prop}
theorem EOk.withNx {R' : L2.St → Hp → Prop} {Q' : Ou → Prop} (e : EOk K W Bf Hf B0 H0 De Q) (h : ∀ o, (∀ x, o ≠ .nx x) → Q' o → Q o) (k : ∀ e, Q' (.nx e) → ∀ σ H, SR K Bf Hf B0 H0 σ H e → R' σ H) : EOk K W Bf Hf B0 H0 { De with nx := R' } Q' :=
  ⟨k, fun e1 q => e.bk e1 (h _ (fun x z => by cases z) q), fun e1 q => e.ct e1 (h _ (fun x z => by cases z) q), fun d q => e.rt d (h _ (fun x z => by cases z) q), fun c e1 q => e.rz c e1 (h _ (fun x z => by cases z) q)⟩
/-- an expression is read in a state of a run -/
theorem runE {f : Env → R D} {k : D → Prop} {R' : VK} (s : SR K Bf Hf B0 H0 σ H env) (h : gEv (f env) env Q k) (er : ∀ c, Q (.rz c env) → ∀ σ H, SR K Bf Hf B0 H0 σ H env → W c σ H)
    (kk : ∀ d v B B' H' qs ps, k d → SRb K Bf Hf B0 H0 σ H env B ps → SRb K Bf Hf B0 H0 σ H' env B' ps → Step B H B' H' → Rp K B' H' d v qs → qs.Nodup → Fresh H B' qs → R' v H') : tF K W f σ H R' := by
  obtain ⟨B, ps, s⟩ := s
  refine tF_of s.st.i s.sle ?_
  cases e : f env with
  | ok d =>
    rw [e] at h
    exact fun v B' H' qs st rp nd fr => kk d v B B' H' qs ps h s (s.step st) st rp nd fr
  | er c =>
    rw [e] at h
    exact fun H' hs => er c h σ H' ⟨B, ps, s.same hs⟩
  | no => rw [e] at h; exact h.elim
theorem runT {f : Env → R Bool} {k : Bool → Prop} {R' : Bool → Hp → Prop} (s : SR K Bf Hf B0 H0 σ H env) (h : gEv (f env) env Q k) (er : ∀ c, Q (.rz c env) → ∀ σ H, SR K Bf Hf B0 H0 σ H env → W c σ H)
    (kk : ∀ b H', k b → SR K Bf Hf B0 H0 σ H' env → R' b H') : tFT K W f σ H R' := by
  obtain ⟨B, ps, s⟩ := s
  refine tFT_of s.st.i s.sle ?_
  cases e : f env with
  | ok d =>
    rw [e] at h
    exact fun B' H' st => kk d H' h ⟨B', ps, s.step st⟩
  | er c =>
    rw [e] at h
    exact fun H' hs => er c h σ H' ⟨B, ps, s.same hs⟩
  | no => rw [e] at h; exact h.elim
theorem SRb.sets : ∀ {is : List Nat} {ds : List D} {vs : List V} {env env' : Env} {σ : L2.St} {B : Hp} {ps : Nat → List Addr} {qs : List Addr} {R' : L2.St → Hp → Prop}, setAll is ds env = some env' → SRb K Bf Hf B0 H0 σ H env B ps → D.stos ds = true → Rps K B H ds vs qs → qs.Nodup →
    (∀ q ∈ qs, H0 q = none ∧ Hf q = none ∧ B q = none ∧ ∀ i, q ∉ ps i) → (∀ σ' ps', SRb K Bf Hf B0 H0 σ' H env' B ps' → R' σ' H) → gAll is vs σ H R'
  | [], [], vs, env, env', σ, B, ps, qs, R', e, s, _, r, _, _, k => by
    cases e
    exact ⟨r.1, k σ ps s⟩
  | i :: is, d :: ds, vs, env, env', σ, B, ps, qs, R', e, s, hst, r, nd, fr, k => by
    unfold Rps at r
    obtain ⟨v, vr, p, q, e1, e2, r1, r2⟩ := r
    subst e2
    simp only [D.stos, Bool.and_eq_true] at hst
    obtain ⟨n1, n2, n3⟩ := List.nodup_append.mp nd
    have s2 := s.set (j := i) hst.1 r1 n1 fun x hx => by
      obtain ⟨a, b, c, dd⟩ := fr x (by simp [hx])
      exact ⟨a, b, c, fun k _ => dd k⟩
    refine ⟨v, vr, e1, ?_⟩
    refine SRb.sets (ps := fun k => if k = i then p else ps k) e s2 hst.2 r2 n2 (fun x hx => ?_) k
    obtain ⟨a, b, c, dd⟩ := fr x (by simp [hx])
    refine ⟨a, b, c, fun k => ?_⟩
    split
    · exact fun z => n3 x z x hx rfl
    · exact dd k
  | [], _ :: _, _, _, _, _, _, _, _, _, e, _, _, _, _, _, _ => by cases e
  | _ :: _, [], _, _, _, _, _, _, _, _, e, _, _, _, _, _, _ => by cases e
end
section
variable {X : Cx} {W : WC} {st : Stmt} {rest a b : List Stmt} {e c : Expr} {f : Env → R D} {t : Env → R Bool} {g h : G} {pos : Pos}
theorem sss_nil : PSs X [] (tG X.K W gNext) := pssI pss_nil fun D σ H ⟨Bf, Hf, B0, H0, env, Q, s, h, eo⟩ => eo.nx env h σ H s
theorem sss_cons (h1 : PS X st (tG X.K W g)) (h2 : PSs X rest (tG X.K W h)) : PSs X (st :: rest) (tG X.K W (gSeq g h)) := by
  refine pssI (pss_cons h1 h2) fun D σ H ⟨Bf, Hf, B0, H0, env, Q, s, hh, eo⟩ => ?_
  refine ⟨Bf, Hf, B0, H0, env, _, s, hh, eo.withNx (fun o ho q => ?_) fun e q σ' H' s' => ⟨Bf, Hf, B0, H0, e, Q, s', q, eo⟩⟩
  cases o with
  | nx x => exact absurd rfl (ho x)
  | _ => exact q
theorem sss_one (h1 : PS X st (tG X.K W g)) : PSs X [st] (tG X.K W g) := pss_one h1
/-- at any place of a block a name's list may be frozen -/
theorem sss_frz (i : Nat) (h1 : PSs X rest (tG X.K W g)) : PSs X rest (tG X.K W (gFrz i g)) := pssI h1 fun D σ H ⟨Bf, Hf, B0, H0, env, Q, ⟨B, ps, s⟩, hh, eo⟩ => by
  obtain ⟨B2, ps2, s2⟩ := s.frz i
  exact ⟨Bf, Hf, B0, H0, _, Q, ⟨B2, ps2, s2⟩, hh, eo⟩
theorem ss_pass : PS X (.Pass pos) (tG X.K W gNext) := psI ps_pass fun D σ H ⟨Bf, Hf, B0, H0, env, Q, s, h, eo⟩ => eo.nx env h σ H s
theorem ss_break : PS X (.Break pos) (tG X.K W gBreak) := psI ps_break fun D σ H ⟨Bf, Hf, B0, H0, env, Q, s, h, eo⟩ => eo.bk env h σ H s
theorem ss_cont : PS X (.Continue pos) (tG X.K W gCont) := psI ps_continue fun D σ H ⟨Bf, Hf, B0, H0, env, Q, s, h, eo⟩ => eo.ct env h σ H s
theorem asg_of {K : PySem.W.Frag} {i : Nat} {D : Ends} {σ : L2.St} {H : Hp} (hh : tG K W (gAsg i f) D σ H) : tAsg (tF K W f) (gName i) D σ H := by
  obtain ⟨Bf, Hf, B0, H0, env, Q, s, h, eo⟩ := hh
  refine runE s h (fun c q => eo.rz c env q) fun d v B B' H' qs ps k s0 s1 st rp nd fr => ?_
  have f1 := s0.fresh st fr
  exact eo.nx _ k.2 _ H' ⟨B', _, s1.set (j := i) k.1 rp nd fun q hq => ⟨(f1 q hq).1, (f1 q hq).2.1, (f1 q hq).2.2.1, fun i _ => (f1 q hq).2.2.2 i⟩⟩
/-- name = e -/
theorem ss_set (i : Nat) {x : Str} {pos' : Pos} (hN : X.N.Nodup) (he : PE X e (tF X.K W f)) (hi : X.N[i]? = some x := by rfl) (hx : Loc X.env.scope x := by first | exact Or.inl rfl | exact Or.inr rfl) (hs : swapsWith e (some (.Name x pos')) pos.line X.env = pure false := by rfl) (hf : X.fn x = true ∨ X.env.scope.names.lookup x = some .local := by first | exact .inl rfl | exact .inr rfl | assumption) :
    PS X (.Assign [.Name x pos'] e pos) (tG X.K W (gAsg i f)) := psI (ps_set hN hi hx he hs hf) fun D σ H hh => asg_of hh
/-- name = [.. for ..] on one line -/
theorem ss_setLc (i : Nat) {y : Str} {py : Pos} {elt tgx iter : Expr} {ifs : List Expr} {scope : Scope} (own : List (Str × Nat)) {pos spos : Pos} {gt : TG} {tg : Tgt} {cc : Env → R Bool} {src : Env → R (Bool × List D)} (hc : X.calm = true) (hN : X.N.Nodup) (hsw : swapsWith (.ListComp elt [⟨tgx, iter, ifs, 0⟩] scope pos) (some (.Name y py)) spos.line X.env = pure true) (hi : PI X tgx iter (tI X.K W src)) (ok : BlkOk X.N X.env.scope scope own)
    (hg : ∀ (s : Shared) (H : Hp) (C : Addr) (cl : List (Str × Addr)) (fp : List Addr), PG (X.blk s H scope (compEnvC scope cl C X.env) fp) tgx gt) (ht : ∀ (s : Shared) (H : Hp) (C : Addr) (cl : List (Str × Addr)) (fp : List Addr), PTs (X.blk s H scope (compEnvC scope cl C X.env) fp) ifs (tFT X.K W0 cc))
    (he : ∀ (s : Shared) (H : Hp) (C : Addr) (cl : List (Str × Addr)) (fp : List Addr), PE (X.blk s H scope (compEnvC scope cl C X.env) fp) elt (tF X.K W0 f)) (tgo : TgE X.K gt tg (own.map (·.2))) (hy : X.N[i]? = some y := by rfl) (hyl : X.env.scope.names.lookup y = some .local := by rfl) (hs : ∀ x, foldedSetIterable iter X.env x = pure x := by intro _; rfl) :
    PS X (.Assign [.Name y py] (.ListComp elt [⟨tgx, iter, ifs, 0⟩] scope pos) spos) (tG X.K W (gAsg i (xLc src tg cc f (own.map (·.2))))) := by
  refine psI (ps_setLc hc hN hy hyl hsw hi ok hg ht he hs) fun D σ H hh => ?_
  have h1 := asg_of hh
  exact tLc_of tgo h1
theorem ss_unp {es : List Expr} {k : Nat} {pos' : Pos} (is : List Nat) (hc : X.calm = true) (he : PE X e (tF X.K W f)) (hg : PGs X es (gAll is)) (hs : swapsWithSole [.Tuple es k pos'] e pos.line X.env = pure false := by rfl) (hw : swappedStores [.Tuple es k pos'] e X.env = pure none := by rfl)
    (h1 : (assignEach [.Tuple es k pos'] X.env).map (·.2) = [assign (.Tuple es k pos') X.env] := by rfl) (hn : (assignEach es X.env).length = is.length := by rfl) (hst : (assignEach es X.env).findIdx? (·.1) = none := by rfl) : PS X (.Assign [.Tuple es k pos'] e pos) (tG X.K W (gUnp is f)) := by
  refine psI (ps_asg he (pg_tup hc hg hn hst) hs hw h1) fun De σ H ⟨Bf, Hf, B0, H0, env, Q, s, h, eo⟩ => ?_
  refine runE s h (fun c q => eo.rz c env q) fun d v B B' H' qs ps k s0 s1 st rp nd fr => ?_
  obtain ⟨hd, k⟩ := k
  cases d with
  | tup ds =>
    obtain ⟨env', e1, q⟩ := k
    obtain ⟨a, vs, ev, sq, r⟩ := rp_tup rp
    refine ⟨a, vs, ev, sq, by rw [rps_len r]; exact (setAll_len e1).symm, ?_⟩
    have f1 := s0.fresh st fr
    exact SRb.sets e1 s1 (by simpa [BC.D.sto] using hd) r nd f1 fun σ' ps' s' => eo.nx _ q _ _ ⟨B', ps', s'⟩
  | _ => exact k.elim
def gPar (i j : Nat) (fs : Env → R (List D)) : G := fun env Q => gEv (fs env) env Q fun ds => D.stos ds = true ∧ ∃ e, setAll [i, j] ds env = some e ∧ Q (.nx e)
/-- a, b = e1, e2 -/
theorem ss_par (i j : Nat) {x y : Str} {e1 e2 : Expr} {fs : Env → R (List D)} {px py pt : Pos} {kt k2 pt2} (hc : X.calm = true) (hN : X.N.Nodup) (hij : i ≠ j) (ha : PA X [e1, e2] (tFA X.K W fs))
    (hw : swappedStores [.Tuple [.Name x px, .Name y py] kt pt] (.Tuple [e1, e2] k2 pt2) X.env = pure (some [x, y])) (hi : X.N[i]? = some x := by rfl) (hj : X.N[j]? = some y := by rfl)
    (hx : X.env.scope.names.lookup x = some .local := by rfl) (hy : X.env.scope.names.lookup y = some .local := by rfl)
    (hs : swapsWithSole [.Tuple [.Name x px, .Name y py] kt pt] (.Tuple [e1, e2] k2 pt2) pos.line X.env = pure false := by rfl) :
    PS X (.Assign [.Tuple [.Name x px, .Name y py] kt pt] (.Tuple [e1, e2] k2 pt2) pos) (tG X.K W (gPar i j fs)) := by
  refine psI (ps_par hc hN hi hj hij hx hy ha hw hs) fun D σ H ⟨Bf, Hf, B0, H0, env, Q, ⟨B, ps, s⟩, h, eo⟩ => ?_
  refine tFA_of s.st.i s.sle ?_
  have h' : gEv (fs env) env Q _ := h
  cases e : fs env with
  | er c =>
    rw [e] at h'
    exact fun H' hs => eo.rz c env h' σ H' ⟨B, ps, s.same hs⟩
  | no => rw [e] at h'; exact h'.elim
  | ok ds =>
    rw [e] at h'
    obtain ⟨hst, env', e3, q⟩ := h'
    intro vs B' H' qs st rp nd fr
    have f1 := s.fresh st fr
    obtain ⟨v, vr, ev, v2, vr2, ev2, ee, hq⟩ : gAll [i, j] vs σ H' (fun σ' H' => D.nx σ' H') := SRb.sets e3 (s.step st) hst rp nd f1 fun σ' ps' s' => eo.nx _ q _ _ ⟨B', ps', s'⟩
    subst ev ev2 ee
    exact ⟨v, v2, rfl, hq⟩
theorem ss_ret (he : PE X e (tF X.K W f)) : PS X (.Return (some e) pos) (tG X.K W (gRet f)) := by
  refine psI (ps_ret he) fun D σ H ⟨Bf, Hf, B0, H0, env, Q, s, h, eo⟩ => ?_
  refine runE s h (fun c q => eo.rz c env q) fun d v B B' H' qs ps k s0 s1 st rp nd fr => ?_
  exact eo.rt d k v H' ⟨B', qs, s1.st, rp, nd, fun q hq => ⟨s0.st.h.free (fr q hq).1, (fr q hq).2⟩⟩
/-- return of a name's own value -/
theorem ss_retV (i : Nat) {x : Str} {pos' : Pos} (he : PE X (.Name x pos') (tVar i)) : PS X (.Return (some (.Name x pos')) pos) (tG X.K W (gRetV i)) := by
  refine psI (ps_ret he) fun D σ H ⟨Bf, Hf, B0, H0, env, Q, ⟨B, ps, s⟩, h, eo⟩ => ?_
  unfold gRetV at h
  cases e : env[i]? with
  | none => rw [e] at h; exact h.elim
  | some o =>
    rw [e] at h
    cases o with
    | none => exact h.elim
    | some d =>
      obtain ⟨_, v, h1, h2⟩ := s.sl i d e
      exact ⟨v, h1, eo.rt d h v H ⟨B, ps i, s.st, h2, s.nd i, fun q hq => ⟨(s.ow i q hq).1, (s.ow i q hq).2.2.1⟩⟩⟩
theorem ss_retN : PS X (.Return none pos) (tG X.K W gRetN) := psI ps_retN fun D σ H ⟨Bf, Hf, B0, H0, env, Q, ⟨B, ps, s⟩, h, eo⟩ => eo.rt .non h .non H ⟨B, [], s.st, by unfold Rp; exact ⟨rfl, rfl⟩, .nil, by intro q hq; cases hq⟩
theorem ss_if (hc : PT X c (tFT X.K W t)) (ha : PSs X a (tG X.K W g)) (hb : PSs X b (tG X.K W h)) : PS X (.If c a b pos) (tG X.K W (gIf t g h)) := by
  refine psI (ps_if hc ha hb) fun D σ H ⟨Bf, Hf, B0, H0, env, Q, s, hh, eo⟩ => ?_
  refine runT s hh (fun c q => eo.rz c env q) fun k H' hk s' => ?_
  cases k with
  | true => exact ⟨Bf, Hf, B0, H0, env, Q, s', hk, eo⟩
  | false => exact ⟨Bf, Hf, B0, H0, env, Q, s', hk, eo⟩
theorem ss_drop (he : PE X e (tF X.K W f)) (hs : swapsWith e none pos.line X.env = pure false := by rfl) : PS X (.Expr e pos) (tG X.K W (gDrop f)) := by
  refine psI (ps_expr he hs) fun D σ H ⟨Bf, Hf, B0, H0, env, Q, s, h, eo⟩ => ?_
  exact runE s h (fun c q => eo.rz c env q) fun d v B B' H' qs ps k s0 s1 st rp nd fr => eo.nx env k σ H' ⟨B', ps, s1⟩
theorem ss_doc {x j pos pos'} : PS X (.Expr (.Constant (.str x) j pos) pos') (tG X.K W gNext) := psI ps_doc fun D σ H ⟨Bf, Hf, B0, H0, env, Q, s, h, eo⟩ => eo.nx env h σ H s
/-- two parts of one heap together -/
def uni (A C : Hp) : Hp := fun p => match A p with
  | some o => some o
  | none => C p
theorem uni_l {A C : Hp} : Same A (uni A C) := fun p o e => by unfold uni; rw [e]
theorem uni_r {A C H : Hp} (a : Same A H) (c : Same C H) : Same C (uni A C) := fun p o e => by
  unfold uni
  cases q : A p with
  | none => exact e
  | some u =>
    have h1 := a p u q
    have h2 := c p o e
    rw [h1] at h2
    exact h2
theorem uni_in {A C H : Hp} (a : Same A H) (c : Same C H) : Same (uni A C) H := fun p o e => by
  unfold uni at e
  cases q : A p with
  | none => rw [q] at e; exact c p o e
  | some u => rw [q] at e; cases e; exact a p _ q
theorem uni_none {A C : Hp} {p : Addr} (a : A p = none) (c : C p = none) : uni A C p = none := by unfold uni; rw [a]; exact c
theorem none_uni {A C : Hp} {p : Addr} (h : uni A C p = none) : A p = none ∧ C p = none := by
  unfold uni at h
  cases q : A p with
  | none => rw [q] at h; exact ⟨rfl, h⟩
  | some u => rw [q] at h; cases h
/-- a target of a for -/
def TgS (K : PySem.W.Frag) (g : TG) (tg : Tgt) : Prop := ∀ (Bf Hf B0 H0 : Hp) (d : D) (v : V) (env env' : Env) (σ : L2.St) (H B : Hp) (ps : Nat → List Addr) (R' : L2.St → Hp → Prop), tg d env = some env' → d.sto = true → SRb K Bf Hf B0 H0 σ H env B ps → Rp K B H d v [] → (∀ σ' ps', SRb K Bf Hf B0 H0 σ' H env' B ps' → R' σ' H) → g v σ H R'
theorem ts_name {K : PySem.W.Frag} {j : Nat} : TgS K (gName j) (tgN j) := fun Bf Hf B0 H0 d v env env' σ H B ps R' e hd s r k => by
  cases e
  exact k _ _ (s.set hd r .nil (by intro q hq; cases hq))
theorem ts_tup {K : PySem.W.Frag} {js : List Nat} {n : Nat} (hn : n = js.length) : TgS K (gTup K n (gAll js)) (tgT js) := fun Bf Hf B0 H0 d v env env' σ H B ps R' e hd s r k => by
  cases d with
  | tup ds =>
    obtain ⟨a, ws, ev, s1, r1⟩ := rp_tup r
    refine ⟨a, ws, ev, s1, ?_, SRb.sets e s (by simpa [D.sto] using hd) r1 .nil (by intro q hq; cases hq) k⟩
    rw [rps_len r1, hn]
    exact (setAll_len e).symm
  | _ => cases e
theorem SRb.floor {K : PySem.W.Frag} {Bf Hf B0 H0 B H Bg Hg : Hp} {σ : L2.St} {env : Env} {ps : Nat → List Addr} (s : SRb K Bf Hf B0 H0 σ H env B ps) (b : Same Bg B) (h : Same Hg H) (n : ∀ i p, p ∈ ps i → Hg p = none) : SRb K Bg Hg B0 H0 σ H env B ps :=
  ⟨b, h, s.st, s.len, s.sl, s.nd, s.dj, fun i p hp => ⟨(s.ow i p hp).1, n i p hp, (s.ow i p hp).2.2.1, (s.ow i p hp).2.2.2⟩⟩
theorem ss_for {tgx iter : Expr} {body : List Stmt} {src : Env → R (Bool × List D)} {gt : TG} {tg : Tgt} (hp : PassesOwn (model X.prog X.w) X.A X.env X.xe) (hc : X.calm = true) (hi : PI X tgx iter (tI X.K W src)) (hg : PG X tgx gt) (htg : TgS X.K gt tg) (hb : PSs X body (tG X.K W g))
    (hs : ∀ x, foldedSetIterable iter X.env x = pure x := by intro _; rfl) : PS X (.For tgx iter body [] pos) (tG X.K W (gFor src tg g)) := by
  refine psI (ps_for hp hc hi hg hb hs) fun De σ H ⟨Bf, Hf, B0, H0, env, Q, ⟨B, ps, s⟩, h, eo⟩ => ?_
  refine ⟨env, B, s.st.i, s.sle, ?_⟩
  have h' : gEv (src env) env Q _ := h
  cases es : src env with
  | er cc => rw [es] at h'; exact fun H' hs => eo.rz cc env h' σ H' ⟨B, ps, s.same hs⟩
  | no => rw [es] at h'; exact h'.elim
  | ok bx =>
    rw [es] at h'
    obtain ⟨bb, xs⟩ := bx
    obtain ⟨hbb, h'⟩ := h'
    replace hbb : bb = false := hbb
    subst hbb
    intro J B1 H1 st1 wk
    have s1 := s.step st1
    -- the floor of the loop: what the source leans on
    refine ⟨fun i m σ' H' => ∃ B' env' ps', m = xs.length - i ∧ i ≤ xs.length ∧ SRb X.K Bf Hf B0 H0 σ' H' env' B' ps' ∧ Same B1 B' ∧ Same (kp B1 H1) H' ∧ (∀ j p, p ∈ ps' j → kp B1 H1 p = none) ∧ gForL tg g (xs.drop i) env' Q,
      ⟨xs.length, B1, env, ps, rfl, Nat.zero_le _, s1, .refl _, kp_same st1.i, fun j p hp => by
        obtain ⟨_, _, h3, vs, h4, hm⟩ := s1.ow j p hp
        exact kp_none h4 hm h3, h'⟩, ?_⟩
    rintro i m σ' H' ⟨B', env', ps', rfl, hi2, s2, kb, kh, kn, hf⟩
    have wki := wk i B' H' kb s2.st.i kh
    cases ex : xs[i]? with
    | none =>
      refine .inl ⟨wki.2 ex, ?_⟩
      rw [List.drop_of_length_le (List.getElem?_eq_none_iff.mp ex)] at hf
      exact eo.nx env' hf σ' H' ⟨B', ps', s2⟩
    | some d =>
      obtain ⟨hgo, hy⟩ := wki.1 d ex
      have hlt := (List.getElem?_eq_some_iff.mp ex).1
      have edrop : xs.drop i = d :: xs.drop (i + 1) := by
        rw [List.drop_eq_getElem_cons hlt]
        congr 1
        exact (List.getElem?_eq_some_iff.mp ex).2
      rw [edrop] at hf
      obtain ⟨hd, e1, et, hbody⟩ := hf
      refine .inr ⟨hgo, fun σ3 H3 => ∃ m', m' < xs.length - i ∧ ∃ B' env' ps', m' = xs.length - (i + 1) ∧ i + 1 ≤ xs.length ∧ SRb X.K Bf Hf B0 H0 σ3 H3 env' B' ps' ∧ Same B1 B' ∧ Same (kp B1 H1) H3 ∧ (∀ j p, p ∈ ps' j → kp B1 H1 p = none) ∧ gForL tg g (xs.drop (i + 1)) env' Q, fun _ _ z => z, fun x H3 hx => ?_⟩
      obtain ⟨B3, st3, rx⟩ := hy x H3 hx
      have s3 := s2.step st3
      refine htg Bf Hf B0 H0 d x env' e1 σ' H3 B3 ps' _ et hd s3 rx fun σ4 ps4 s4 => ?_
      -- the body's run, over the loop's floor
      have kb4 : Same B1 B3 := kb.trans st3.b
      have kh4 : Same (kp B1 H1) H3 := kh.trans st3.h
      have q1 : Same Hf H1 := s.fh.trans st1.h
      have q2 : Same (kp B1 H1) H1 := kp_same st1.i
      have s5 : SRb X.K B1 (uni Hf (kp B1 H1)) B0 H0 σ4 H3 e1 B3 ps4 := s4.floor kb4 (uni_in s4.fh kh4) fun j p hp => by
        refine uni_none (s4.ow j p hp).2.1 ?_
        -- what is owned is in no frozen list
        obtain ⟨_, _, h3, vs, h4, hm⟩ := s4.ow j p hp
        cases ek : kp B1 H1 p with
        | none => rfl
        | some o =>
          have e5 := kh4 p o ek
          rw [h4] at e5
          cases e5
          have e6 := q2 p _ ek
          have : kp B1 H1 p = B1 p := by unfold kp; rw [e6]; exact if_pos hm
          rw [this] at ek
          rw [kb4 p _ ek] at h3
          cases h3
      have back : ∀ {σ5 H5 e5}, SR X.K B1 (uni Hf (kp B1 H1)) B0 H0 σ5 H5 e5 → ∃ B' ps', SRb X.K Bf Hf B0 H0 σ5 H5 e5 B' ps' ∧ Same B1 B' ∧ Same (kp B1 H1) H5 ∧ ∀ j p, p ∈ ps' j → kp B1 H1 p = none := fun {σ5 H5 e5} ⟨B5, ps5, s5⟩ =>
        ⟨B5, ps5, s5.floor (s1.fb.trans s5.fb) ((uni_l).trans s5.fh) fun j p hp => (none_uni (s5.ow j p hp).2.1).1, s5.fb, (uni_r q1 q2).trans s5.fh, fun j p hp => (none_uni (s5.ow j p hp).2.1).2⟩
      have again : ∀ {σ5 H5 e5}, gForL tg g (xs.drop (i + 1)) e5 Q → SR X.K B1 (uni Hf (kp B1 H1)) B0 H0 σ5 H5 e5 → ∃ m', m' < xs.length - i ∧ ∃ B' env' ps', m' = xs.length - (i + 1) ∧ i + 1 ≤ xs.length ∧ SRb X.K Bf Hf B0 H0 σ5 H5 env' B' ps' ∧ Same B1 B' ∧ Same (kp B1 H1) H5 ∧ (∀ j p, p ∈ ps' j → kp B1 H1 p = none) ∧ gForL tg g (xs.drop (i + 1)) env' Q := fun {σ5 H5 e5} hq s5 => by
        obtain ⟨B', ps', a1, a2, a3, a4⟩ := back s5
        exact ⟨_, by omega, B', e5, ps', rfl, hlt, a1, a2, a3, a4, hq⟩
      refine ⟨B1, uni Hf (kp B1 H1), B0, H0, e1, _, ⟨B3, ps4, s5⟩, hbody, ⟨fun e q σ5 H5 s6 => again q s6, fun e q σ5 H5 s6 => ?_, fun e q σ5 H5 s6 => again q s6, fun d q v H5 r => eo.rt d q v H5 r, fun c e q σ5 H5 s6 => ?_⟩⟩
      · obtain ⟨B', ps', a1, _⟩ := back s6
        exact eo.nx e q σ5 H5 ⟨B', ps', a1⟩
      · obtain ⟨B', ps', a1, _⟩ := back s6
        exact eo.rz c e q σ5 H5 ⟨B', ps', a1⟩
theorem ss_while {body : List Stmt} (hp : PassesOwn (model X.prog X.w) X.A X.env X.xe) (hc : PT X c (tFT X.K W t)) (hb : PSs X body (tG X.K W g)) : PS X (.While c body [] pos) (tG X.K W (gWhile t g)) := by
  refine psI (ps_while hp hc hb) fun De σ H ⟨Bf, Hf, B0, H0, env, Q, s, h, eo⟩ => ?_
  obtain ⟨Wv, ⟨m0, w0⟩, turn⟩ := h
  refine ⟨fun m σ' H' => ∃ env', SR X.K Bf Hf B0 H0 σ' H' env' ∧ Wv m env', ⟨m0, env, s, w0⟩, ?_⟩
  rintro m σ' H' ⟨env', s', w'⟩
  refine runT s' (turn m env' w') (fun c q => eo.rz c env' q) fun b H2 hk s2 => ?_
  cases b with
  | false => exact eo.nx env' hk σ' H2 s2
  | true =>
    refine ⟨fun σ3 H3 => ∃ m', m' < m ∧ ∃ env', SR X.K Bf Hf B0 H0 σ3 H3 env' ∧ Wv m' env', fun _ _ z => z, Bf, Hf, B0, H0, env', _, s2, hk, ⟨fun e q σ5 H5 s6 => ?_, fun e q σ5 H5 s6 => eo.nx e q σ5 H5 s6, fun e q σ5 H5 s6 => ?_, fun d q v H5 r => eo.rt d q v H5 r, fun c e q σ5 H5 s6 => eo.rz c e q σ5 H5 s6⟩⟩
    · obtain ⟨m', h1, h2⟩ := q
      exact ⟨m', h1, e, s6, h2⟩
    · obtain ⟨m', h1, h2⟩ := q
      exact ⟨m', h1, e, s6, h2⟩
end
end BC

namespace BC
open PySem PySem.Spec PyProof.Rows L2

/-! ## lists changed at a place: a name, then indices -/
def getP : D → List Int → Option D
  | d, [] => some d
  | .lst .sc _, _ :: _ => none
  | .lst .ow xs, i :: π => (L2.atI xs i).bind fun d => getP d π
  | .lst .fz xs, i :: π => (L2.atI xs i).bind fun d => getP d π
  | .lst .bo xs, i :: π => (L2.atI xs i).bind fun d => getP d π
  | .tup xs, i :: π => (L2.atI xs i).bind fun d => getP d π
  | _, _ :: _ => none
/-- the value at a place, read off the heap -/
def sel (H : Hp) : V → List Int → Option V
  | v, [] => some v
  | .ref a, i :: π => match H a with
    | some (.lst vs) => (L2.atI vs i).bind fun v => sel H v π
    | some (.tup vs) => (L2.atI vs i).bind fun v => sel H v π
    | _ => none
  | _, _ :: _ => none
theorem getP_lst {k : Kd} {xs : List D} {i : Int} {π : List Int} {e : D} (h : getP (.lst k xs) (i :: π) = some e) : k ≠ .sc ∧ (L2.atI xs i).bind (fun d => getP d π) = some e := by
  cases k with
  | sc => cases h
  | ow => exact ⟨by decide, h⟩
  | fz => exact ⟨by decide, h⟩
  | bo => exact ⟨by decide, h⟩
theorem sel_lst {H : Hp} {a : Addr} {vs : List V} {i : Int} {π : List Int} (h : H a = some (.lst vs)) : sel H (.ref a) (i :: π) = (L2.atI vs i).bind fun v => sel H v π := by
  show (match H a with | some (.lst vs) => (L2.atI vs i).bind fun v => sel H v π | some (.tup vs) => (L2.atI vs i).bind fun v => sel H v π | _ => none) = _
  rw [h]
theorem sel_tup {H : Hp} {a : Addr} {vs : List V} {i : Int} {π : List Int} (h : H a = some (.tup vs)) : sel H (.ref a) (i :: π) = (L2.atI vs i).bind fun v => sel H v π := by
  show (match H a with | some (.lst vs) => (L2.atI vs i).bind fun v => sel H v π | some (.tup vs) => (L2.atI vs i).bind fun v => sel H v π | _ => none) = _
  rw [h]
theorem sel_snoc {H : Hp} : ∀ {π : List Int} {v : V} {i : Int}, sel H v (π ++ [i]) = (sel H v π).bind fun w => sel H w [i]
  | [], v, i => rfl
  | j :: π, .ref a, i => by
    cases e : H a with
    | none => simp [sel, e]
    | some o =>
      cases o with
      | lst vs =>
        rw [List.cons_append, sel_lst e, sel_lst e]
        cases L2.atI vs j with
        | none => rfl
        | some w => exact sel_snoc
      | tup vs =>
        rw [List.cons_append, sel_tup e, sel_tup e]
        cases L2.atI vs j with
        | none => rfl
        | some w => exact sel_snoc
      | _ => simp [sel, e]
  | j :: π, .non, i => rfl
  | j :: π, .bl _, i => rfl
  | j :: π, .int _, i => rfl
  | j :: π, .str _, i => rfl
  | j :: π, .byt _, i => rfl
  | j :: π, .flt _, i => rfl
  | j :: π, .ty _, i => rfl
theorem sel_mono {H H' : Hp} (h : Same H H') : ∀ {π : List Int} {v w : V}, sel H v π = some w → sel H' v π = some w
  | [], v, w, e => e
  | j :: π, .ref a, w, e => by
    cases q : H a with
    | none => simp [sel, q] at e
    | some o =>
      cases o with
      | lst vs =>
        rw [sel_lst q, Option.bind_eq_some_iff] at e
        obtain ⟨x, e1, e2⟩ := e
        rw [sel_lst (h _ _ q), e1]
        exact sel_mono h e2
      | tup vs =>
        rw [sel_tup q, Option.bind_eq_some_iff] at e
        obtain ⟨x, e1, e2⟩ := e
        rw [sel_tup (h _ _ q), e1]
        exact sel_mono h e2
      | _ => simp [sel, q] at e
  | j :: π, .non, _, e => by cases e
  | j :: π, .bl _, _, e => by cases e
  | j :: π, .int _, _, e => by cases e
  | j :: π, .str _, _, e => by cases e
  | j :: π, .byt _, _, e => by cases e
  | j :: π, .flt _, _, e => by cases e
  | j :: π, .ty _, _, e => by cases e
def setP : D → List Int → D → D
  | _, [], e => e
  | .lst k xs, i :: π, e => match L2.ixN xs.length i with
    | some j => .lst k (xs.set j (setP (xs.getD j .non) π e))
    | none => .lst k xs
  | .tup xs, i :: π, e => match L2.ixN xs.length i with
    | some j => .tup (xs.set j (setP (xs.getD j .non) π e))
    | none => .tup xs
  | d, _ :: _, _ => d
section
variable {K : PySem.W.Frag} {B H : Hp}
theorem rps_split : ∀ {ds : List D} {vs : List V} {ps : List Addr} {j : Nat} {d : D}, Rps K B H ds vs ps → D.stos ds = true → ds[j]? = some d → ∃ v l m r, vs[j]? = some v ∧ ps = l ++ m ++ r ∧ Rp K B H d v m ∧
    ∀ (p : Addr) (vs0 ws : List V) (d' : D) (m' : List Addr), H p = some (.lst vs0) → B p = none → p ∉ l → p ∉ r → Rp K B (upd H p (.lst ws)) d' v m' → Rps K B (upd H p (.lst ws)) (ds.set j d') vs (l ++ m' ++ r)
  | [], _, _, j, d, _, _, e => by simp at e
  | d0 :: ds, vs, ps, 0, d, r, hs, e => by
    unfold Rps at r
    obtain ⟨v, vr, p1, q, e1, e2, r1, r2⟩ := r
    simp only [D.stos, Bool.and_eq_true] at hs
    simp at e
    subst e e1 e2
    refine ⟨v, [], p1, q, rfl, rfl, r1, fun p vs0 ws d' m' hp hb nl nr rr => ?_⟩
    show Rps K B _ (d' :: ds) _ _
    unfold Rps
    exact ⟨v, vr, m', q, rfl, rfl, rr, rps_upd hp hb hs.2 nr r2⟩
  | d0 :: ds, vs, ps, j + 1, d, r, hs, e => by
    unfold Rps at r
    obtain ⟨v, vr, p1, q, e1, e2, r1, r2⟩ := r
    simp only [D.stos, Bool.and_eq_true] at hs
    simp at e
    subst e1 e2
    obtain ⟨w, l, m, rr, h1, h2, h3, h4⟩ := rps_split r2 hs.2 e
    refine ⟨w, p1 ++ l, m, rr, by simpa using h1, by rw [h2]; simp, h3, fun p vs0 ws d' m' hp hb nl nr rp => ?_⟩
    simp only [List.mem_append, not_or] at nl
    show Rps K B _ (d0 :: ds.set j d') _ _
    unfold Rps
    exact ⟨v, vr, p1, l ++ m' ++ rr, rfl, by simp, rp_upd hp hb hs.1 nl.1 r1, h4 p vs0 ws d' m' hp hb nl.2 nr rp⟩
theorem atI_ix {α : Type} {xs : List α} {i : Int} {d : α} (h : L2.atI xs i = some d) : ∃ j, L2.ixN xs.length i = some j ∧ xs[j]? = some d := by
  unfold L2.atI at h
  rw [Option.bind_eq_some_iff] at h
  exact h
theorem place (ib : Same B H) : ∀ {π : List Int} {d : D} {v : V} {ps : List Addr} {xs : List D}, Rp K B H d v ps → ps.Nodup → d.sto = true → (∀ t ∈ ps, B t = none) → getP d π = some (.lst .ow xs) →
    ∃ p vs qs a c, ps = a ++ (p :: qs) ++ c ∧ H p = some (.lst vs) ∧ Rps K B H xs vs qs ∧ sel H v π = some (.ref p) ∧
      ∀ (xs' : List D) (ws : List V) (qs' : List Addr), Rps K B (upd H p (.lst ws)) xs' ws qs' → Rp K B (upd H p (.lst ws)) (setP d π (.lst .ow xs')) v (a ++ (p :: qs') ++ c)
  | [], d, v, ps, xs, r, nd, hs, fb, e => by
    cases e
    unfold Rp at r
    obtain ⟨a, vs, qs, e1, n, q, r⟩ := r
    subst e1 q
    refine ⟨a, vs, qs, [], [], by simp, n, r, rfl, fun xs' ws qs' rr => ?_⟩
    unfold setP Rp
    exact ⟨a, ws, qs', rfl, upd_same, by simp, rr⟩
  | i :: π, .lst k ys, v, ps, xs, r, nd, hs, fb, e => by
    obtain ⟨hk, e⟩ := getP_lst e
    rw [Option.bind_eq_some_iff] at e
    obtain ⟨d, e1, e2⟩ := e
    obtain ⟨j, e3, e4⟩ := atI_ix e1
    unfold Rp at r
    obtain ⟨a0, vs0, qs0, ev, n, q, r⟩ := r
    have hsy : D.stos ys = true := by cases k <;> simpa [D.sto] using hs
    obtain ⟨w, l, m, rr, h1, h2, h3, h4⟩ := rps_split r hsy e4
    have hsub : qs0.Sublist ps := by
      cases k with
      | ow => rw [q]; exact List.sublist_cons_self _ _
      | bo => rw [q]; exact .refl _
      | fz => rw [q.2]; exact List.nil_sublist _
      | sc => rw [q.2]; exact List.nil_sublist _
    have hm : m.Sublist ps := ((List.sublist_append_right l m).trans (List.sublist_append_left _ rr)).trans (h2 ▸ hsub)
    obtain ⟨p, vs, qs, a, c, g1, g2, g3, gs, g4⟩ := place ib (π := π) h3 (nd.sublist hm) (stos_at hsy e4) (fun t ht => fb t (hm.subset ht)) e2
    have hpm : p ∈ m := by rw [g1]; simp
    cases k with
    | ow =>
      subst q
      obtain ⟨na, nq⟩ := List.nodup_cons.mp nd
      rw [h2] at nq na
      obtain ⟨n1, n2, n3⟩ := List.nodup_append.mp nq
      obtain ⟨n4, n5, n6⟩ := List.nodup_append.mp n1
      have nl : p ∉ l := fun z => n6 p z p hpm rfl
      have nr : p ∉ rr := fun z => n3 p (by simp [hpm]) p z rfl
      have npa : p ≠ a0 := fun z => na (by rw [← z]; simp [hpm])
      have gsel : sel H v (i :: π) = some (.ref p) := by
        rw [ev, sel_lst (show H a0 = some (.lst vs0) from n)]
        unfold L2.atI
        rw [rps_len r, e3]
        show (vs0[j]?).bind _ = _
        rw [h1]
        exact gs
      refine ⟨p, vs, qs, a0 :: (l ++ a), c ++ rr, by rw [h2, g1]; simp, g2, g3, gsel, fun xs' ws qs' rq => ?_⟩
      have r5 := g4 xs' ws qs' rq
      have r6 := h4 p vs ws _ _ g2 (fb p (hm.subset hpm)) nl nr r5
      unfold setP
      rw [e3]
      have eg : ys.getD j .non = d := by rw [List.getD_eq_getElem?_getD, e4]; rfl
      show Rp K B _ (.lst .ow (ys.set j (setP (ys.getD j .non) π (.lst .ow xs')))) _ _
      rw [eg]
      unfold Rp
      refine ⟨a0, vs0, _, ev, (upd_ne (Ne.symm npa)).trans n, ?_, r6⟩
      simp
    | bo => simp [D.sto] at hs
    | fz =>
      rw [q.2] at h2
      simp at h2
      rw [h2.2.1] at hpm
      cases hpm
    | sc =>
      rw [q.2] at h2
      simp at h2
      rw [h2.2.1] at hpm
      cases hpm
  | i :: π, .tup ys, v, ps, xs, r, nd, hs, fb, e => by
    replace e : (L2.atI ys i).bind (fun d => getP d π) = some (.lst .ow xs) := e
    rw [Option.bind_eq_some_iff] at e
    obtain ⟨d, e1, e2⟩ := e
    obtain ⟨j, e3, e4⟩ := atI_ix e1
    unfold Rp at r
    obtain ⟨a0, vs0, ev, n, r⟩ := r
    have hsy : D.stos ys = true := by simpa [D.sto] using hs
    obtain ⟨w, l, m, rr, h1, h2, h3, h4⟩ := rps_split r hsy e4
    have hm : m.Sublist ps := ((List.sublist_append_right l m).trans (List.sublist_append_left _ rr)).trans (h2 ▸ .refl _)
    obtain ⟨p, vs, qs, a, c, g1, g2, g3, gs, g4⟩ := place ib (π := π) h3 (nd.sublist hm) (stos_at hsy e4) (fun t ht => fb t (hm.subset ht)) e2
    have hpm : p ∈ m := by rw [g1]; simp
    rw [h2] at nd
    obtain ⟨n1, n2, n3⟩ := List.nodup_append.mp nd
    obtain ⟨n4, n5, n6⟩ := List.nodup_append.mp n1
    have nl : p ∉ l := fun z => n6 p z p hpm rfl
    have nr : p ∉ rr := fun z => n3 p (by simp [hpm]) p z rfl
    have gsel : sel H v (i :: π) = some (.ref p) := by
      rw [ev, sel_tup n]
      unfold L2.atI
      rw [rps_len r, e3]
      show (vs0[j]?).bind _ = _
      rw [h1]
      exact gs
    refine ⟨p, vs, qs, l ++ a, c ++ rr, by rw [h2, g1]; simp, g2, g3, gsel, fun xs' ws qs' rq => ?_⟩
    have r5 := g4 xs' ws qs' rq
    have r6 := h4 p vs ws _ _ g2 (fb p (hm.subset hpm)) nl nr r5
    unfold setP
    rw [e3]
    have eg : ys.getD j .non = d := by rw [List.getD_eq_getElem?_getD, e4]; rfl
    show Rp K B _ (.tup (ys.set j (setP (ys.getD j .non) π (.lst .ow xs')))) _ _
    rw [eg]
    unfold Rp
    refine ⟨a0, vs0, ev, ?_, by simpa using r6⟩
    have : a0 ≠ p := fun z => by subst z; rw [g2] at n; cases n
    exact (upd_ne this).trans n
  | i :: π, .non, _, _, _, _, _, _, _, e => by cases e
  | i :: π, .bl _, _, _, _, _, _, _, _, e => by cases e
  | i :: π, .int _, _, _, _, _, _, _, _, e => by cases e
  | i :: π, .str _, _, _, _, _, _, _, _, e => by cases e
  | i :: π, .exc _ _, _, _, _, _, _, _, _, e => by cases e
end
theorem stos_set : ∀ {xs : List D} {j : Nat} {d : D}, D.stos xs = true → d.sto = true → D.stos (xs.set j d) = true
  | [], j, d, _, _ => rfl
  | a :: xs, 0, d, h, hd => by
    simp only [D.stos, Bool.and_eq_true] at h
    show (d.sto && D.stos xs) = true
    rw [hd, h.2]
    rfl
  | a :: xs, j + 1, d, h, hd => by
    simp only [D.stos, Bool.and_eq_true] at h
    show (a.sto && D.stos (xs.set j d)) = true
    rw [h.1, stos_set h.2 hd]
    rfl
theorem sto_getD {xs : List D} {j : Nat} (h : D.stos xs = true) : (xs.getD j .non).sto = true := by
  rw [List.getD_eq_getElem?_getD]
  cases e : xs[j]? with
  | none => rfl
  | some d => exact stos_at h e
theorem sto_setP : ∀ {π : List Int} {d e : D}, d.sto = true → e.sto = true → (setP d π e).sto = true
  | [], _, _, _, h => by unfold setP; exact h
  | i :: π, .lst k xs, e, h, he => by
    have hx : D.stos xs = true := by cases k <;> first | (simpa [D.sto] using h) | (simp [D.sto] at h)
    unfold setP
    split
    · rename_i j hj
      have := stos_set (j := j) hx (sto_setP (π := π) (sto_getD (j := j) hx) he)
      cases k <;> first | (simpa [D.sto] using this) | (simp [D.sto] at h)
    · exact h
  | i :: π, .tup xs, e, h, he => by
    have hx : D.stos xs = true := by simpa [D.sto] using h
    unfold setP
    split
    · rename_i j hj
      have := stos_set (j := j) hx (sto_setP (π := π) (sto_getD (j := j) hx) he)
      simpa [D.sto] using this
    · exact h
  | i :: π, .non, e, h, _ => h
  | i :: π, .bl _, e, h, _ => h
  | i :: π, .int _, e, h, _ => h
  | i :: π, .str _, e, h, _ => h
  | i :: π, .exc _ _, e, h, _ => h
  | i :: π, .dic _ _, e, h, _ => h
  | i :: π, .loc _, e, h, _ => h
  | i :: π, .wit _ _, e, h, _ => h
  | i :: π, .obj _ _ _ _ _, e, h, _ => h
section
variable {K : PySem.W.Frag} {W : WC} {Bf Hf B0 H0 B H : Hp} {σ : L2.St} {env : Env} {ps : Nat → List Addr}
theorem SRb.place (s : SRb K Bf Hf B0 H0 σ H env B ps) {i : Nat} {d : D} {π : List Int} {xs : List D} (e : env[i]? = some (some d)) (hp : getP d π = some (.lst .ow xs)) :
    ∃ v p vs qs, σ[i]? = some (some v) ∧ sel H v π = some (.ref p) ∧ H p = some (.lst vs) ∧ Rps K B H xs vs qs ∧ (∀ t ∈ p :: qs, t ∈ ps i) ∧ qs.Nodup ∧ ∀ (xs' : List D) (ws : List V) (qs' : List Addr), D.stos xs' = true → Rps K B H xs' ws qs' → qs'.Nodup → (∀ q ∈ qs', q ∈ qs ∨ (H0 q = none ∧ Hf q = none ∧ B q = none ∧ ∀ j, q ∉ ps j)) →
      SR K Bf Hf B0 H0 σ (upd H p (.lst ws)) (env.set i (some (setP d π (.lst .ow xs')))) := by
  obtain ⟨hd, v, hv, r⟩ := s.sl i d e
  have fb : ∀ t ∈ ps i, B t = none := fun t ht => (s.ow i t ht).2.2.1
  obtain ⟨p, vs, qs, a, c, g1, g2, g3, gs, g4⟩ := BC.place s.st.i r (s.nd i) hd fb hp
  have hpi : p ∈ ps i := by rw [g1]; simp
  have nd := s.nd i
  rw [g1] at nd
  obtain ⟨m1, m2, m3⟩ := List.nodup_append.mp nd
  obtain ⟨m4, m5, m6⟩ := List.nodup_append.mp m1
  obtain ⟨m7, m8⟩ := List.nodup_cons.mp m5
  have sub : ∀ t ∈ p :: qs, t ∈ ps i := fun t ht => by rw [g1]; simp only [List.mem_append]; exact .inl (.inr ht)
  refine ⟨v, p, vs, qs, hv, gs, g2, g3, sub, m8, fun xs' ws qs' hst rr ndq hq => ?_⟩
  obtain ⟨o1, o2, o3, _⟩ := s.ow i p hpi
  have npq : p ∉ qs' := fun z => by
    rcases hq p z with h | h
    · exact m7 h
    · exact h.2.2.2 i hpi
  have r2 : Rps K B (upd H p (.lst ws)) xs' ws qs' := rps_upd g2 o3 hst npq rr
  have r3 := g4 xs' ws qs' r2
  have nw : ∀ q ∈ qs', q ∉ a ∧ q ∉ c ∧ (∀ j, j ≠ i → q ∉ ps j) := fun q hqm => by
    rcases hq q hqm with h | h
    · have hi : q ∈ ps i := sub q (by simp [h])
      exact ⟨fun z => m6 q z q (by simp [h]) rfl, fun z => m3 q (by simp [h]) q z rfl, fun j hj z => hj (s.dj j i q z hi)⟩
    · have ni := h.2.2.2 i
      rw [g1] at ni
      simp only [List.mem_append, not_or] at ni
      exact ⟨ni.1.1, ni.2, fun j _ => h.2.2.2 j⟩
  refine ⟨B, fun j => if j = i then a ++ (p :: qs') ++ c else ps j, s.fb, fun t o e => ?_, ⟨s.st.b, fun t o e => ?_, fun t o e => ?_, s.st.n⟩, by simp [s.len], fun j d' e' => ?_, fun j => ?_, fun j k t h1 h2 => ?_, fun j t ht => ?_⟩
  · rw [upd_ne (fun z => by subst z; rw [o2] at e; cases e)]
    exact s.fh t o e
  · rw [upd_ne (fun z => by subst z; rw [o1] at e; cases e)]
    exact s.st.h t o e
  · rw [upd_ne (fun z => by subst z; rw [o3] at e; cases e)]
    exact s.st.i t o e
  · by_cases h : j = i
    · subst h
      have hj : j < env.length := by
        have := (List.getElem?_eq_some_iff.mp e).1
        simpa using this
      rw [List.getElem?_set_self hj] at e'
      cases e'
      refine ⟨sto_setP hd (by simpa [D.sto] using hst), v, hv, ?_⟩
      rw [if_pos rfl]
      exact r3
    · rw [List.getElem?_set_ne (Ne.symm h)] at e'
      obtain ⟨h0, w, h1, h2⟩ := s.sl j d' e'
      refine ⟨h0, w, h1, ?_⟩
      rw [if_neg h]
      exact rp_upd g2 o3 h0 (fun z => h (s.dj j i p z hpi)) h2
  · split
    · refine List.nodup_append.mpr ⟨List.nodup_append.mpr ⟨m4, List.nodup_cons.mpr ⟨npq, ndq⟩, fun x hx y hy z => ?_⟩, m2, fun x hx y hy z => ?_⟩
      · subst z
        rcases List.mem_cons.mp hy with z | z
        · subst z
          exact m6 x hx x (by simp) rfl
        · exact (nw x z).1 hx
      · subst z
        rcases List.mem_append.mp hx with z | z
        · exact m3 x (by simp [z]) x hy rfl
        · rcases List.mem_cons.mp z with z | z
          · subst z
            exact m3 x (by simp) x hy rfl
          · exact (nw x z).2.1 hy
    · exact s.nd j
  · have key : ∀ t, t ∈ a ++ (p :: qs') ++ c → ∀ k, k ≠ i → t ∉ ps k := fun t ht k hk => by
      simp only [List.mem_append, List.mem_cons] at ht
      rcases ht with (ht | ht | ht) | ht
      · exact fun z => hk (s.dj k i t z (by rw [g1]; simp [ht]))
      · subst ht
        exact fun z => hk (s.dj k i t z hpi)
      · exact (nw t ht).2.2 k hk
      · exact fun z => hk (s.dj k i t z (by rw [g1]; simp [ht]))
    by_cases hj : j = i
    · rw [if_pos hj] at h1
      by_cases hk : k = i
      · exact hj.trans hk.symm
      · rw [if_neg hk] at h2
        exact absurd h2 (key t h1 k hk)
    · rw [if_neg hj] at h1
      by_cases hk : k = i
      · rw [if_pos hk] at h2
        exact absurd h1 (key t h2 j hj)
      · rw [if_neg hk] at h2
        exact s.dj j k t h1 h2
  · by_cases hj : j = i
    · rw [if_pos hj] at ht
      have old : ∀ t, t ∈ ps i → H0 t = none ∧ Hf t = none ∧ B t = none ∧ ∃ o, upd H p (.lst ws) t = some o ∧ Mu o = true := fun t hti => by
        obtain ⟨q1, q2, q3, us, q4, q5⟩ := s.ow i t hti
        refine ⟨q1, q2, q3, ?_⟩
        by_cases htp : t = p
        · subst htp
          exact ⟨_, upd_same, rfl⟩
        · exact ⟨us, (upd_ne htp).trans q4, q5⟩
      simp only [List.mem_append, List.mem_cons] at ht
      rcases ht with (ht | ht | ht) | ht
      · exact old t (by rw [g1]; simp [ht])
      · exact old t (by rw [ht]; exact hpi)
      · rcases hq t ht with h | h
        · exact old t (sub t (by simp [h]))
        · exact ⟨h.1, h.2.1, h.2.2.1, rps_own r2 t ht⟩
      · exact old t (by rw [g1]; simp [ht])
    · rw [if_neg hj] at ht
      obtain ⟨q1, q2, q3, us, q4, q5⟩ := s.ow j t ht
      exact ⟨q1, q2, q3, us, (upd_ne (fun z => hj (s.dj j i t ht (by rw [z]; exact hpi)))).trans q4, q5⟩
end
/-! places as expressions -/
def tPl (K : PySem.W.Frag) (W : WC) (i : Nat) : List (Env → R D) → TE
  | [] => tVar i
  | g :: gs => tOp (rIx K) (tPl K W i gs) (tF K W g)
def xPath : List (Env → R D) → Env → Option (List Int)
  | [], _ => some []
  | g :: gs, env => match xPath gs env, g env with
    | some π, .ok (.int i) => some (π ++ [i])
    | _, _ => none
theorem getP_snoc : ∀ {π : List Int} {d : D} {i : Int}, getP d (π ++ [i]) = (getP d π).bind fun e => getP e [i]
  | [], d, i => rfl
  | j :: π, .lst k xs, i => by
    cases k with
    | sc => rfl
    | _ =>
      show ((L2.atI xs j).bind fun d => getP d (π ++ [i])) = ((L2.atI xs j).bind fun d => getP d π).bind _
      cases L2.atI xs j with
      | none => rfl
      | some d => exact getP_snoc
  | j :: π, .tup xs, i => by
    show ((L2.atI xs j).bind fun d => getP d (π ++ [i])) = ((L2.atI xs j).bind fun d => getP d π).bind _
    cases L2.atI xs j with
    | none => rfl
    | some d => exact getP_snoc
  | j :: π, .non, i => rfl
  | j :: π, .bl _, i => rfl
  | j :: π, .int _, i => rfl
  | j :: π, .str _, i => rfl
  | j :: π, .exc _ _, i => rfl
  | j :: π, .dic _ _, i => rfl
  | j :: π, .loc _, i => rfl
  | j :: π, .wit _ _, i => rfl
  | j :: π, .obj _ _ _ _ _, i => rfl
theorem atI_sel {H : Hp} {a : Addr} {vs : List V} {n : Int} {v : V} (h : H a = some (.lst vs) ∨ H a = some (.tup vs)) (e : L2.atI vs n = some v) : sel H (.ref a) [n] = some v := by
  rcases h with h | h
  · rw [sel_lst h, e]; rfl
  · rw [sel_tup h, e]; rfl
section
variable {K : PySem.W.Frag} {W : WC} {Bf Hf B0 H0 : Hp} {σ : L2.St} {env : Env} {ps : Nat → List Addr} {i : Nat} {d : D}
theorem runP (he : env[i]? = some (some d)) : ∀ {gs : List (Env → R D)} {π : List Int} {e : D} {H B : Hp} {R' : VK}, xPath gs env = some π → getP d π = some e → SRb K Bf Hf B0 H0 σ H env B ps →
    (∀ v0 v B' H' p, σ[i]? = some (some v0) → sel H' v0 π = some v → Step B H B' H' → SRb K Bf Hf B0 H0 σ H' env B' ps → Rp K B' H' e v p → R' v H') → tPl K W i gs σ H R'
  | [], π, e, H, B, R', hx, hg, s, k => by
    cases hx
    cases hg
    obtain ⟨_, v, h1, h2⟩ := s.sl i d he
    exact ⟨v, h1, k v v B H (ps i) h1 rfl (.refl s.st.i) s h2⟩
  | g :: gs, π, e, H, B, R', hx, hg, s, k => by
    unfold xPath at hx
    split at hx
    · rename_i π0 n h1 h2
      cases hx
      rw [getP_snoc, Option.bind_eq_some_iff] at hg
      obtain ⟨e0, h3, h4⟩ := hg
      refine runP he (gs := gs) h1 h3 s fun v0 x B1 H1 p1 hv0 hsel st1 s1 r1 => ?_
      refine tF_of s1.st.i s1.sle ?_
      rw [h2]
      intro y B2 H2 q2 st2 r2 nd2 fr2
      have ey := rp_int r2
      have r12 := rp_mono st2.b st2.h r1
      have s2 := s1.step st2
      have hsel2 := sel_mono st2.h hsel
      cases e0 with
      | lst kk xs =>
        obtain ⟨hk, h4⟩ := getP_lst h4
        have h5 : L2.atI xs n = some e := by
          rw [Option.bind_eq_some_iff] at h4
          obtain ⟨d1, q1, q2⟩ := h4
          cases q2
          exact q1
        obtain ⟨l, vs, qs, e1, sq, u1, rr⟩ := rp_lstX s2.st.i hk r12
        obtain ⟨v, t, g1, g2, g3⟩ := rps_atI rr h5
        refine .inl ⟨l, vs, n, v, e1, ey, .of sq, g1, k v0 v B2 H2 t hv0 ?_ (st1.trans st2) s2 g2⟩
        rw [sel_snoc, hsel2, e1]
        exact atI_sel (.inl sq) g1
      | tup xs =>
        have h5 : L2.atI xs n = some e := by
          have : (L2.atI xs n).bind (fun d => getP d []) = some e := h4
          rw [Option.bind_eq_some_iff] at this
          obtain ⟨d1, q1, q2⟩ := this
          cases q2
          exact q1
        obtain ⟨l, vs, e1, sq, rr⟩ := rp_tupX r12
        obtain ⟨v, t, g1, g2, g3⟩ := rps_atI rr h5
        refine .inr (.inl ⟨l, vs, n, v, e1, ey, .of sq, g1, k v0 v B2 H2 t hv0 ?_ (st1.trans st2) s2 g2⟩)
        rw [sel_snoc, hsel2, e1]
        exact atI_sel (.inr sq) g1
      | _ => cases h4
    · cases hx
end
/-- the owned list at a place -/
def gPl (i : Nat) (gs : List (Env → R D)) (k : D → List Int → List D → G) : G := fun env Q => match env[i]? with
  | some (some d) => match xPath gs env with
    | some π => match getP d π with
      | some (.lst .ow xs) => k d π xs env Q
      | _ => False
    | none => False
  | _ => False
theorem gPl_of {i : Nat} {gs : List (Env → R D)} {k : D → List Int → List D → G} {env : Env} {Q : Ou → Prop} (h : gPl i gs k env Q) : ∃ d π xs, env[i]? = some (some d) ∧ xPath gs env = some π ∧ getP d π = some (.lst .ow xs) ∧ k d π xs env Q := by
  unfold gPl at h
  split at h
  · split at h
    · split at h
      · exact ⟨_, _, _, by assumption, by assumption, by assumption, h⟩
      · exact h.elim
    · exact h.elim
  · exact h.elim
def gApp (i : Nat) (gs : List (Env → R D)) (f : Env → R D) : G := gPl i gs fun d π xs env Q => gEv (f env) env Q fun y => y.sto = true ∧ xs.length < 16777216 ∧ Q (.nx (env.set i (some (setP d π (.lst .ow (xs ++ [y]))))))
def gPop (i : Nat) (gs : List (Env → R D)) : G := gPl i gs fun d π xs env Q => xs ≠ [] ∧ Q (.nx (env.set i (some (setP d π (.lst .ow xs.dropLast)))))
def gIns (i : Nat) (gs : List (Env → R D)) (f g : Env → R D) : G := gPl i gs fun d π xs env Q => gEv (f env) env Q fun n => gEv (g env) env Q fun y => y.sto = true ∧ xs.length < 16777216 ∧ match n with
  | .int n => 0 ≤ n ∧ n < 9223372036854775808 ∧ Q (.nx (env.set i (some (setP d π (.lst .ow (xs.take n.toNat ++ [y] ++ xs.drop n.toNat))))))
  | _ => False
def gExt (i : Nat) (gs : List (Env → R D)) (f : Env → R D) : G := gPl i gs fun d π xs env Q => gEv (f env) env Q fun y => match y with
  | .lst k ys => k ≠ .sc ∧ D.stos ys = true ∧ xs.length + ys.length ≤ 16777216 ∧ Q (.nx (env.set i (some (setP d π (.lst .ow (xs ++ ys))))))
  | _ => False
def gSetI (i : Nat) (gs : List (Env → R D)) (g f : Env → R D) : G := gPl i gs fun d π xs env Q => gEv (f env) env Q fun y => gEv (g env) env Q fun n => y.sto = true ∧ match n with
  | .int n => match L2.ixN xs.length n with
    | some j => Q (.nx (env.set i (some (setP d π (.lst .ow (xs.set j y))))))
    | none => False
  | _ => False
def gAugI (i : Nat) (gs : List (Env → R D)) (op : Int → Int → Int) (g f : Env → R D) : G := gPl i gs fun d π xs env Q => gEv (g env) env Q fun n => match n, f env with
  | .int n, .ok (.int y) => match L2.ixN xs.length n with
    | some j => match xs[j]? with
      | some (.int x) => Q (.nx (env.set i (some (setP d π (.lst .ow (xs.set j (.int (op x y))))))))
      | _ => False
    | none => False
  | _, _ => False
def gAug (i : Nat) (op : Int → Int → Int) (f : Env → R D) : G := fun env Q => match env[i]? with
  | some (some (.int x)) => gEv (f env) env Q fun y => match y with
    | .int y => Q (.nx (env.set i (some (.int (op x y)))))
    | _ => False
  | _ => False
theorem pget_list {X : Cx} : PGet X (rIxL X.K) := by
  intro pins s σ H o i ov iv Q I ro ri h
  obtain ⟨p, xs, n, z, e1, e2, hq, he, q⟩ := h
  subst e1 e2
  cases ro
  obtain ⟨t, e3⟩ := ri
  subst e3
  obtain ⟨its, r, pl, hz⟩ := I.list hq
  obtain ⟨j, h1, h2, h3, h4, h5⟩ := atI_get he
  obtain ⟨u, ew, ru⟩ := r.get h2
  have hl := r.length
  have hn := line63
  have fin : EP X pins σ Q u s := ⟨z, H, I, ru, q⟩
  by_cases h0 : 0 ≤ n
  · have hj : n.toNat = j := by
      rw [seqIndex_of h0 h5] at h1
      exact Option.some.inj h1
    exact wpAny_getItem_list pl.isList h0 (by omega) (by rw [hj]; simpa using ew) fin
  · have hj : (n + (its.toArray.size : Int)).toNat = j := by
      rw [seqIndex_neg (by omega) h4] at h1
      rw [List.size_toArray, ← hl]
      exact Option.some.inj h1
    exact wpAny_getItem_list_neg pl.isList (by omega) (by rw [List.size_toArray] <;> omega) (by omega) (by rw [hj]; simpa using ew) fin
theorem stos_of {K : PySem.W.Frag} {Bf Hf B0 H0 B H : Hp} {σ : L2.St} {env : Env} {ps : Nat → List Addr} {i : Nat} {d : D} (s : SRb K Bf Hf B0 H0 σ H env B ps) (e : env[i]? = some (some d)) : d.sto = true := (s.sl i d e).1
theorem sto_getP : ∀ {π : List Int} {d e : D}, d.sto = true → getP d π = some e → e.sto = true
  | [], _, _, h, e => by cases e; exact h
  | i :: π, .lst k xs, e, h, he => by
    have hx : D.stos xs = true := by cases k <;> first | (simpa [D.sto] using h) | (simp [D.sto] at h)
    obtain ⟨_, he⟩ := getP_lst he
    rw [Option.bind_eq_some_iff] at he
    obtain ⟨d, e1, e2⟩ := he
    obtain ⟨j, e3, e4⟩ := atI_ix e1
    exact sto_getP (stos_at hx e4) e2
  | i :: π, .tup xs, e, h, he => by
    have hx : D.stos xs = true := by simpa [D.sto] using h
    replace he : (L2.atI xs i).bind (fun d => getP d π) = some e := he
    rw [Option.bind_eq_some_iff] at he
    obtain ⟨d, e1, e2⟩ := he
    obtain ⟨j, e3, e4⟩ := atI_ix e1
    exact sto_getP (stos_at hx e4) e2
  | i :: π, .non, e, h, he => by cases he
  | i :: π, .bl _, e, h, he => by cases he
  | i :: π, .int _, e, h, he => by cases he
  | i :: π, .str _, e, h, he => by cases he
  | i :: π, .exc _ _, e, h, he => by cases he
  | i :: π, .dic _ _, e, h, he => by cases he
  | i :: π, .loc _, e, h, he => by cases he
  | i :: π, .wit _ _, e, h, he => by cases he
  | i :: π, .obj _ _ _ _ _, e, h, he => by cases he
section
variable {X : Cx} {W : WC} {e o b : Expr} {f g : Env → R D} {gs : List (Env → R D)} {i : Nat} {pos apos cpos : Pos}
theorem sp_var (i : Nat) {x : Str} {pos : Pos} (hN : X.N[i]? = some x := by rfl) (hv : Vis X.env.scope x := by first | exact Or.inl rfl | exact Or.inr (Or.inl rfl) | exact Or.inr (Or.inr rfl)) (hd : (x == ("__debug__" : Str)) = false := by decide)
    (hcd : (x == ("__classdict__" : Str)) = false := by decide) : PE X (.Name x pos) (tPl X.K W i []) := pe_var hN hv hd hcd
theorem sp_ix (h : PE X o (tPl X.K W i gs)) (hb : PE X b (tF X.K W g)) (hs : PlainIx b := by intro _ _; rfl) : PE X (.Subscript o b pos) (tPl X.K W i (g :: gs)) := pe_ix ix_seq h hb hs
/-- an expression read in a run's state, the state kept -/
theorem runE2 {K : PySem.W.Frag} {Bf Hf B0 H0 B H : Hp} {σ : L2.St} {env : Env} {ps : Nat → List Addr} {Q : Ou → Prop} {f : Env → R D} {k : D → Prop} {R' : VK} (s : SRb K Bf Hf B0 H0 σ H env B ps) (h : gEv (f env) env Q k) (er : ∀ c, Q (.rz c env) → ∀ σ H, SR K Bf Hf B0 H0 σ H env → W c σ H)
    (kk : ∀ d v B' H' qs, k d → SRb K Bf Hf B0 H0 σ H' env B' ps → Step B H B' H' → Rp K B' H' d v qs → qs.Nodup → Fresh H B' qs → R' v H') : tF K W f σ H R' := by
  refine tF_of s.st.i s.sle ?_
  cases e : f env with
  | ok d =>
    rw [e] at h
    exact fun v B' H' qs st rp nd fr => kk d v B' H' qs h (s.step st) st rp nd fr
  | er c =>
    rw [e] at h
    exact fun H' hs => er c h σ H' ⟨B, ps, s.same hs⟩
  | no => rw [e] at h; exact h.elim
/-- the node at a place, told again in a later state -/
theorem SRb.node {K : PySem.W.Frag} {Bf Hf B0 H0 B H : Hp} {σ : L2.St} {env : Env} {ps : Nat → List Addr} {v : V} {xs : List D} {p : List Addr} (r : Rp K B H (.lst .ow xs) v p) : ∃ a vs qs, v = .ref a ∧ H a = some (.lst vs) ∧ p = a :: qs ∧ Rps K B H xs vs qs := by
  unfold Rp at r
  obtain ⟨a, vs, qs, e, n, q, r⟩ := r
  exact ⟨a, vs, qs, e, n, q, r⟩
end
end BC

namespace BC
open PySem PySem.Spec PyProof.Rows L2

/-! ## statements that change a list -/
section
variable {K : PySem.W.Frag} {Bf Hf B0 H0 B H : Hp} {σ : L2.St} {env : Env} {ps : Nat → List Addr} {i : Nat} {d : D} {π : List Int} {xs : List D} {v0 v : V}
theorem SRb.at (s : SRb K Bf Hf B0 H0 σ H env B ps) (e : env[i]? = some (some d)) (hp : getP d π = some (.lst .ow xs)) (h0 : σ[i]? = some (some v0)) (hv : sel H v0 π = some v) :
    ∃ p vs qs, v = .ref p ∧ H p = some (.lst vs) ∧ Rps K B H xs vs qs ∧ qs.Nodup ∧ (∀ t ∈ qs, t ∈ ps i) ∧ ∀ (xs' : List D) (ws : List V) (qs' : List Addr), D.stos xs' = true → Rps K B H xs' ws qs' → qs'.Nodup → (∀ q ∈ qs', q ∈ qs ∨ (H0 q = none ∧ Hf q = none ∧ B q = none ∧ ∀ j, q ∉ ps j)) →
      SR K Bf Hf B0 H0 σ (upd H p (.lst ws)) (env.set i (some (setP d π (.lst .ow xs')))) := by
  obtain ⟨w, p, vs, qs, h1, h2, h3, h4, h5, h6, h7⟩ := s.place e hp
  rw [h0] at h1
  cases h1
  rw [hv] at h2
  cases h2
  exact ⟨p, vs, qs, rfl, h3, h4, h6, fun t ht => h5 t (by simp [ht]), h7⟩
end
theorem stos_sub {xs ys : List D} (h : D.stos ys = true) (s : xs.Sublist ys) : D.stos xs = true := by
  induction s with
  | slnil => rfl
  | cons a _ ih =>
    simp only [D.stos, Bool.and_eq_true] at h
    exact ih h.2
  | cons_cons a _ ih =>
    simp only [D.stos, Bool.and_eq_true] at h ⊢
    exact ⟨h.1, ih h.2⟩
theorem nodup_new {K : PySem.W.Frag} {B H Ho B' : Hp} {ds : List D} {vs : List V} {p q : List Addr} (r : Rps K B H ds vs p) (hp : p.Nodup) (hq : q.Nodup) (f : ∀ t ∈ q, ∀ i, t ∉ (fun _ : Nat => p) i) : (p ++ q).Nodup :=
  List.nodup_append.mpr ⟨hp, hq, fun x hx y hy e => by subst e; exact f x hy 0 hx⟩
section
variable {X : Cx} {W : WC} {e o b : Expr} {f g : Env → R D} {gs : List (Env → R D)} {i : Nat} {pos apos cpos : Pos}
theorem ss_app {pos' : Pos} (ho : PE X o (tPl X.K W i gs)) (he : PE X e (tF X.K W f)) (hbase : attributeBase o "append" X.env (eval o X.env) = eval o X.env := by rfl)
    (hfew : ((backTo cpos (starEach [e] X.env)).all (fun x => !x.1) && (backToKw cpos (keywordEach [] X.env)).all (fun x => x.1.isSome)
      && decide ([e].length + ([] : List Keyword).length + (if ([] : List Keyword).isEmpty then 0 else 1) < 30)) = true := by rfl)
    (hline : (apos.endLine == cpos.line) = true := by rfl) (hs : starEach [e] X.env = (false, eval e X.env) :: starEach [] X.env := by rfl) (hplain : (backTo cpos (starEach [] X.env)).any (·.1) = false := by rfl)
    (hsw : swapsWith (.Call (.Attribute o "append" apos) [e] [] cpos) none pos'.line X.env = pure false := by rfl) : PS X (.Expr (.Call (.Attribute o "append" apos) [e] [] cpos) pos') (tG X.K W (gApp i gs f)) := by
  refine psI (ps_expr (pe_bm PySem.F.plainAttrs_list PySem.F.slot_list_append PySem.F.type_list_append mt_append ho (pa_cons he pa_nil hs) hbase hfew hline hs hplain) hsw) fun De σ H ⟨Bf, Hf, B0, H0, env, Q, ⟨B, ps, s⟩, h, eo⟩ => ?_
  obtain ⟨d, π, xs, e0, hx, hg, hk⟩ := gPl_of h
  refine runP e0 hx hg s fun v0 v B1 H1 p1 hv0 hsel st1 s1 r1 => ?_
  obtain ⟨a, vs1, qs1, ev, h1, _, _⟩ := SRb.node (Bf := Bf) (Hf := Hf) (B0 := B0) (H0 := H0) (σ := σ) (env := env) (ps := ps) r1
  subst ev
  refine ⟨.inl ⟨rfl, vs1, .of h1⟩, ?_⟩
  refine runE2 (Q := Q) s1 hk (fun c q => eo.rz c env q) fun y w B2 H2 q2 k2 s2 st2 r2 nd2 fr2 => ?_
  obtain ⟨hy, hz, hq⟩ := k2
  obtain ⟨p, vs, qs, ep, hp, rr, nd, sub, K⟩ := s2.at e0 hg hv0 (sel_mono st2.h hsel)
  cases ep
  have f2 := s1.fresh st2 fr2
  refine ⟨a, vs, w, rfl, rfl, hp, by rw [rps_len rr, sizeLine_eq]; exact hz, ?_⟩
  refine eo.nx _ hq σ _ (K (xs ++ [y]) (vs ++ [w]) (qs ++ q2) ?_ ?_ ?_ fun q hqm => ?_)
  · refine stos_app ?_ (by simp [D.stos, hy])
    have := sto_getP (stos_of s2 e0) hg
    simpa [D.sto] using this
  · refine rps_app rr ?_
    unfold Rps
    exact ⟨w, [], q2, [], rfl, by simp, r2, ⟨rfl, rfl⟩⟩
  · exact List.nodup_append.mpr ⟨nd, nd2, fun x hx y hy z => (f2 y hy).2.2.2 i (z ▸ sub x hx)⟩
  · rcases List.mem_append.mp hqm with z | z
    · exact .inl z
    · exact .inr (f2 q z)
theorem ss_pop {pos' : Pos} (ho : PE X o (tPl X.K W i gs)) (hbase : attributeBase o "pop" X.env (eval o X.env) = eval o X.env := by rfl) (hline : (apos.endLine == cpos.line) = true := by rfl)
    (hsw : swapsWith (.Call (.Attribute o "pop" apos) [] [] cpos) none pos'.line X.env = pure false := by rfl) : PS X (.Expr (.Call (.Attribute o "pop" apos) [] [] cpos) pos') (tG X.K W (gPop i gs)) := by
  refine psI (ps_expr (pe_bm0 PySem.F.plainAttrs_list PySem.F.slot_list_pop PySem.F.type_list_pop mt_pop ho hbase hline) hsw) fun De σ H ⟨Bf, Hf, B0, H0, env, Q, ⟨B, ps, s⟩, h, eo⟩ => ?_
  obtain ⟨d, π, xs, e0, hx, hg, hne, hq⟩ := gPl_of h
  refine runP e0 hx hg s fun v0 v B1 H1 p1 hv0 hsel st1 s1 r1 => ?_
  obtain ⟨p, vs, qs, ep, hp, rr, nd, sub, K⟩ := s1.at e0 hg hv0 hsel
  subst ep
  refine ⟨.inl ⟨rfl, vs, .of hp⟩, ?_⟩
  have hl := rps_len rr
  have hpos : 0 < vs.length := by
    rw [hl]
    exact List.length_pos_iff.mpr hne
  have hlast : vs[vs.length - 1]? = some (vs[vs.length - 1]'(by omega)) := List.getElem?_eq_getElem _
  refine ⟨p, vs, _, rfl, rfl, hp, hlast, ?_⟩
  obtain ⟨qs', h1, h2⟩ := rps_sub 0 (xs.length - 1) rr
  rw [List.drop_zero, List.drop_zero, ← List.dropLast_eq_take, ← hl, ← List.dropLast_eq_take] at h2
  refine eo.nx _ hq σ _ (K xs.dropLast vs.dropLast qs' ?_ h2 (nd.sublist h1) fun q hqm => .inl (h1.subset hqm))
  have hs1 := sto_getP (stos_of s1 e0) hg
  have hs2 : D.stos xs = true := by simpa [D.sto] using hs1
  exact stos_sub hs2 (List.dropLast_sublist xs)
theorem ss_ins {pos' : Pos} {e2 : Expr} (ho : PE X o (tPl X.K W i gs)) (he : PE X e (tF X.K W f)) (he2 : PE X e2 (tF X.K W g)) (hbase : attributeBase o "insert" X.env (eval o X.env) = eval o X.env := by rfl)
    (hfew : ((backTo cpos (starEach [e, e2] X.env)).all (fun x => !x.1) && (backToKw cpos (keywordEach [] X.env)).all (fun x => x.1.isSome)
      && decide ([e, e2].length + ([] : List Keyword).length + (if ([] : List Keyword).isEmpty then 0 else 1) < 30)) = true := by rfl)
    (hline : (apos.endLine == cpos.line) = true := by rfl) (hs : starEach [e, e2] X.env = (false, eval e X.env) :: starEach [e2] X.env := by rfl) (hs2 : starEach [e2] X.env = (false, eval e2 X.env) :: starEach [] X.env := by rfl) (hplain : (backTo cpos (starEach [e2] X.env)).any (·.1) = false := by rfl)
    (hsw : swapsWith (.Call (.Attribute o "insert" apos) [e, e2] [] cpos) none pos'.line X.env = pure false := by rfl) : PS X (.Expr (.Call (.Attribute o "insert" apos) [e, e2] [] cpos) pos') (tG X.K W (gIns i gs f g)) := by
  refine psI (ps_expr (pe_bm PySem.F.plainAttrs_list PySem.F.slot_list_insert PySem.F.type_list_insert mt_insert ho (pa_cons he (pa_cons he2 pa_nil hs2) hs) hbase hfew hline hs hplain) hsw) fun De σ H ⟨Bf, Hf, B0, H0, env, Q, ⟨B, ps, s⟩, h, eo⟩ => ?_
  obtain ⟨d, π, xs, e0, hx, hg, hk⟩ := gPl_of h
  refine runP e0 hx hg s fun v0 v B1 H1 p1 hv0 hsel st1 s1 r1 => ?_
  obtain ⟨a, vs1, qs1, ev, h1, _, _⟩ := SRb.node (Bf := Bf) (Hf := Hf) (B0 := B0) (H0 := H0) (σ := σ) (env := env) (ps := ps) r1
  subst ev
  refine ⟨.inl ⟨rfl, vs1, .of h1⟩, ?_⟩
  refine runE2 (Q := Q) s1 hk (fun c q => eo.rz c env q) fun n wn B2 H2 q2 k2 s2 st2 r2 nd2 fr2 => ?_
  refine runE2 (Q := Q) s2 k2 (fun c q => eo.rz c env q) fun y w B3 H3 q3 k3 s3 st3 r3 nd3 fr3 => ?_
  obtain ⟨hy, hz, hq⟩ := k3
  cases n with
  | int n =>
    obtain ⟨n0, n1, hq⟩ := hq
    have en := rp_int r2
    subst en
    obtain ⟨p, vs, qs, ep, hp, rr, nd, sub, K⟩ := s3.at e0 hg hv0 (sel_mono st3.h (sel_mono st2.h hsel))
    cases ep
    have f3 := s2.fresh st3 fr3
    refine ⟨a, vs, n, w, rfl, rfl, hp, by rw [rps_len rr, sizeLine_eq]; exact hz, n0, by omega, ?_⟩
    have hst : D.stos xs = true := by
      have := sto_getP (stos_of s3 e0) hg
      simpa [D.sto] using this
    obtain ⟨qa, a1, a2, qb, b1, b2, hab⟩ := rps_cut n.toNat rr
    have ndab : (qa ++ qb).Nodup := hab ▸ nd
    obtain ⟨na, nb, nab⟩ := List.nodup_append.mp ndab
    refine eo.nx _ hq σ _ (K (xs.take n.toNat ++ [y] ++ xs.drop n.toNat) (vs.take n.toNat ++ [w] ++ vs.drop n.toNat) (qa ++ q3 ++ qb) ?_ ?_ ?_ fun q hqm => ?_)
    · exact stos_app (stos_app (stos_sub hst (List.take_sublist _ _)) (by simp [D.stos, hy])) (stos_sub hst (List.drop_sublist _ _))
    · refine rps_app (rps_app a2 ?_) b2
      unfold Rps
      exact ⟨w, [], q3, [], rfl, by simp, r3, ⟨rfl, rfl⟩⟩
    · have fa : ∀ x ∈ qa, x ∉ q3 := fun x hx z => (f3 x z).2.2.2 i (sub x (by rw [hab]; simp [hx]))
      have fb : ∀ x ∈ qb, x ∉ q3 := fun x hx z => (f3 x z).2.2.2 i (sub x (by rw [hab]; simp [hx]))
      refine List.nodup_append.mpr ⟨List.nodup_append.mpr ⟨na, nd3, fun x hx y hy z => fa x hx (z ▸ hy)⟩, nb, fun x hx y hy z => ?_⟩
      rcases List.mem_append.mp hx with t | t
      · exact nab x t y hy z
      · exact fb y hy (z ▸ t)
    · simp only [List.mem_append] at hqm
      rcases hqm with (z | z) | z
      · exact .inl (by rw [hab]; simp [z])
      · exact .inr (f3 q z)
      · exact .inl (by rw [hab]; simp [z])
  | _ => exact hq.elim
where
  rps_cut {K : PySem.W.Frag} {B H : Hp} : ∀ {ds : List D} {vs : List V} {ps : List Addr} (n : Nat), Rps K B H ds vs ps → ∃ qa, True ∧ Rps K B H (ds.take n) (vs.take n) qa ∧ ∃ qb, True ∧ Rps K B H (ds.drop n) (vs.drop n) qb ∧ ps = qa ++ qb
    | [], vs, ps, n, r => by
      rw [r.1, r.2]
      exact ⟨[], trivial, by simp [Rps], [], trivial, by simp [Rps], rfl⟩
    | d :: ds, vs, ps, 0, r => ⟨[], trivial, by simp [Rps], ps, trivial, r, rfl⟩
    | d :: ds, vs, ps, n + 1, r => by
      unfold Rps at r
      obtain ⟨v, vr, p, q, e1, e2, r1, r2⟩ := r
      subst e1 e2
      obtain ⟨qa, _, h1, qb, _, h2, h3⟩ := rps_cut n r2
      refine ⟨p ++ qa, trivial, ?_, qb, trivial, h2, by rw [h3]; simp⟩
      rw [List.take_succ_cons, List.take_succ_cons]
      unfold Rps
      exact ⟨v, _, p, qa, rfl, rfl, r1, h1⟩
theorem ss_ext {pos' : Pos} (ho : PE X o (tPl X.K W i gs)) (he : PE X e (tF X.K W f)) (hbase : attributeBase o "extend" X.env (eval o X.env) = eval o X.env := by rfl)
    (hfew : ((backTo cpos (starEach [e] X.env)).all (fun x => !x.1) && (backToKw cpos (keywordEach [] X.env)).all (fun x => x.1.isSome)
      && decide ([e].length + ([] : List Keyword).length + (if ([] : List Keyword).isEmpty then 0 else 1) < 30)) = true := by rfl)
    (hline : (apos.endLine == cpos.line) = true := by rfl) (hs : starEach [e] X.env = (false, eval e X.env) :: starEach [] X.env := by rfl) (hplain : (backTo cpos (starEach [] X.env)).any (·.1) = false := by rfl)
    (hsw : swapsWith (.Call (.Attribute o "extend" apos) [e] [] cpos) none pos'.line X.env = pure false := by rfl) : PS X (.Expr (.Call (.Attribute o "extend" apos) [e] [] cpos) pos') (tG X.K W (gExt i gs f)) := by
  refine psI (ps_expr (pe_bm PySem.F.plainAttrs_list PySem.F.slot_list_extend PySem.F.type_list_extend mt_extend ho (pa_cons he pa_nil hs) hbase hfew hline hs hplain) hsw) fun De σ H ⟨Bf, Hf, B0, H0, env, Q, ⟨B, ps, s⟩, h, eo⟩ => ?_
  obtain ⟨d, π, xs, e0, hx, hg, hk⟩ := gPl_of h
  refine runP e0 hx hg s fun v0 v B1 H1 p1 hv0 hsel st1 s1 r1 => ?_
  obtain ⟨a, vs1, qs1, ev, h1, _, _⟩ := SRb.node (Bf := Bf) (Hf := Hf) (B0 := B0) (H0 := H0) (σ := σ) (env := env) (ps := ps) r1
  subst ev
  refine ⟨.inl ⟨rfl, vs1, .of h1⟩, ?_⟩
  refine runE2 (Q := Q) s1 hk (fun c q => eo.rz c env q) fun y w B2 H2 q2 k2 s2 st2 r2 nd2 fr2 => ?_
  cases y with
  | lst kk ys =>
    obtain ⟨hkk, hys, hz, hq⟩ := k2
    obtain ⟨p, vs, qs, ep, hp, rr, nd, sub, K⟩ := s2.at e0 hg hv0 (sel_mono st2.h hsel)
    cases ep
    have f2 := s1.fresh st2 fr2
    obtain ⟨l, ws, qy, el, hl, suby, ry⟩ := rp_lstX s2.st.i hkk r2
    subst el
    refine ⟨a, l, vs, ws, rfl, rfl, hp, hl, by rw [rps_len rr, rps_len ry, sizeLine_eq]; exact hz, ?_⟩
    refine eo.nx _ hq σ _ (K (xs ++ ys) (vs ++ ws) (qs ++ qy) ?_ (rps_app rr ry) ?_ fun q hqm => ?_)
    · refine stos_app ?_ hys
      have := sto_getP (stos_of s2 e0) hg
      simpa [D.sto] using this
    · exact List.nodup_append.mpr ⟨nd, nd2.sublist suby, fun x hx y hy z => (f2 y (suby.subset hy)).2.2.2 i (z ▸ sub x hx)⟩
    · rcases List.mem_append.mp hqm with z | z
      · exact .inl z
      · exact .inr (f2 q (suby.subset z))
  | _ => exact k2.elim
theorem rps_set {K : PySem.W.Frag} {B H : Hp} : ∀ {ds : List D} {vs : List V} {ps : List Addr} {j : Nat} {d : D} {v : V} {q : List Addr}, Rps K B H ds vs ps → j < ds.length → Rp K B H d v q → ps.Nodup → q.Nodup → (∀ t ∈ q, t ∉ ps) → ∃ qs, Rps K B H (ds.set j d) (vs.set j v) qs ∧ qs.Nodup ∧ ∀ t ∈ qs, t ∈ ps ∨ t ∈ q
  | [], _, _, j, d, v, q, _, hj, _, _, _, _ => absurd hj (Nat.not_lt_zero _)
  | d0 :: ds, vs, ps, 0, d, v, q, r, hj, rd, nd, ndq, dj => by
    unfold Rps at r
    obtain ⟨w, vr, p1, q1, e1, e2, r1, r2⟩ := r
    subst e1 e2
    obtain ⟨n1, n2, n3⟩ := List.nodup_append.mp nd
    refine ⟨q ++ q1, ?_, List.nodup_append.mpr ⟨ndq, n2, fun x hx y hy z => dj x hx (by rw [z]; simp [hy])⟩, fun t ht => ?_⟩
    · show Rps K B H (d :: ds) (v :: vr) _
      unfold Rps
      exact ⟨v, vr, q, q1, rfl, rfl, rd, r2⟩
    · rcases List.mem_append.mp ht with z | z
      · exact .inr z
      · exact .inl (by simp [z])
  | d0 :: ds, vs, ps, j + 1, d, v, q, r, hj, rd, nd, ndq, dj => by
    unfold Rps at r
    obtain ⟨w, vr, p1, q1, e1, e2, r1, r2⟩ := r
    subst e1 e2
    obtain ⟨n1, n2, n3⟩ := List.nodup_append.mp nd
    obtain ⟨qs, h1, h2, h3⟩ := rps_set (j := j) r2 (by simpa using hj) rd n2 ndq (fun t ht z => dj t ht (by simp [z]))
    refine ⟨p1 ++ qs, ?_, List.nodup_append.mpr ⟨n1, h2, fun x hx y hy z => ?_⟩, fun t ht => ?_⟩
    · show Rps K B H (d0 :: ds.set j d) (w :: vr.set j v) _
      unfold Rps
      exact ⟨w, _, p1, qs, rfl, rfl, r1, h1⟩
    · subst z
      rcases h3 x hy with t | t
      · exact n3 x hx x t rfl
      · exact dj x t (by simp [hx])
    · rcases List.mem_append.mp ht with z | z
      · exact .inl (by simp [z])
      · rcases h3 t z with u | u
        · exact .inl (by simp [u])
        · exact .inr u
theorem ixN_lt {n : Nat} {i : Int} {j : Nat} (h : L2.ixN n i = some j) : j < n := (ixN_seq h).2.1
/-- x[..][i] = e -/
theorem ss_setI {p1 : Pos} (he : PE X e (tF X.K W f)) (ho : PE X o (tPl X.K W i gs)) (hb : PE X b (tF X.K W g)) (ha : ∀ v, assign (.Subscript o b p1) X.env v = (do
      let ov ← holding [v] (eval o X.env)
      let iv ← holding [v, ov] (eval b X.env)
      standAt p1
      holding [v, ov, iv] (setItem ov iv v)
      release [v, ov, iv] []) := by intro _; rfl) (hs : swapsWithSole [.Subscript o b p1] e pos.line X.env = pure false := by rfl) (hw : swappedStores [.Subscript o b p1] e X.env = pure none := by rfl)
    (h1 : (assignEach [.Subscript o b p1] X.env).map (·.2) = [assign (.Subscript o b p1) X.env] := by rfl) : PS X (.Assign [.Subscript o b p1] e pos) (tG X.K W (gSetI i gs g f)) := by
  refine psI (ps_asg he (pg_sub ho hb set_list ha) hs hw h1) fun De σ H ⟨Bf, Hf, B0, H0, env, Q, ⟨B, ps, s⟩, h, eo⟩ => ?_
  obtain ⟨d, π, xs, e0, hx, hg, hk⟩ := gPl_of h
  refine runE2 (Q := Q) s hk (fun c q => eo.rz c env q) fun y w B1 H1 q1 k1 s1 st1 r1 nd1 fr1 => ?_
  refine runP e0 hx hg s1 fun v0 v B2 H2 p2 hv0 hsel st2 s2 r2 => ?_
  refine runE2 (Q := Q) s2 k1 (fun c q => eo.rz c env q) fun n wn B3 H3 q3 k3 s3 st3 r3 nd3 fr3 => ?_
  obtain ⟨hy, k3⟩ := k3
  cases n with
  | int n =>
    have en := rp_int r3
    subst en
    cases ej : L2.ixN xs.length n with
    | none => simp only [ej] at k3
    | some j =>
      simp only [ej] at k3
      obtain ⟨p, vs, qs, ep, hp, rr, nd, sub, K⟩ := s3.at e0 hg hv0 (sel_mono st3.h hsel)
      subst ep
      have f1 := s.fresh st1 fr1
      have st13 := st2.trans st3
      have fB : ∀ q ∈ q1, B3 q = none := fun q hq => by
        obtain ⟨us, hu, _⟩ := rp_own r1 q hq
        exact st13.n q us (fr1 q hq).2 hu
      have rw' := rp_mono st13.b st13.h r1
      obtain ⟨qs', g1, g2, g3⟩ := rps_set rr (ixN_lt ej) rw' nd nd1 fun t ht z => (f1 t ht).2.2.2 i (sub t z)
      refine ⟨p, vs, n, j, rfl, rfl, hp, by rw [rps_len rr]; exact ej, ?_⟩
      refine eo.nx _ k3 σ _ (K (xs.set j y) (vs.set j w) qs' ?_ g1 g2 fun q hqm => ?_)
      · refine stos_set ?_ hy
        have := sto_getP (stos_of s3 e0) hg
        simpa [D.sto] using this
      · rcases g3 q hqm with z | z
        · exact .inl z
        · exact .inr ⟨(f1 q z).1, (f1 q z).2.1, fB q z, (f1 q z).2.2.2⟩
  | _ => exact k3.elim
/-- x[..][i] op= e, ints -/
theorem ss_augI {p1 : Pos} {op : Operator} {fo : Int → Int → Int} (hip : PIp X op (ipI fo)) (ho : PE X o (tPl X.K W i gs)) (hb : PE X b (tF X.K W g)) (he : PE X e (tF X.K W f))
    (ha : ∀ ov iv new, augStore b ov iv new = (do holding [new, ov, iv] (setItem ov iv new); release [new, ov, iv] []; pure .next) := by intros; rfl) : PS X (.AugAssign (.Subscript o b p1) op e pos) (tG X.K W (gAugI i gs fo g f)) := by
  refine psI (ps_augS ho hb pget_list he hip set_list ha) fun De σ H ⟨Bf, Hf, B0, H0, env, Q, ⟨B, ps, s⟩, h, eo⟩ => ?_
  obtain ⟨d, π, xs, e0, hx, hg, hk⟩ := gPl_of h
  refine runP e0 hx hg s fun v0 v B1 H1 p1 hv0 hsel st1 s1 r1 => ?_
  refine runE2 (Q := Q) s1 hk (fun c q => eo.rz c env q) fun n wn B2 H2 q2 k2 s2 st2 r2 nd2 fr2 => ?_
  obtain ⟨p, vs, qs, ep, hp, rr, nd, sub, _⟩ := s2.at e0 hg hv0 (sel_mono st2.h hsel)
  subst ep
  split at k2
  · rename_i n y ef
    have en := rp_int r2
    subst en
    split at k2
    · rename_i j ej
      split at k2
      · rename_i x exj
        obtain ⟨vx, px, gx, rx, _⟩ := rps_at rr exj
        have evx := rp_int rx
        subst evx
        refine ⟨p, vs, n, .int x, rfl, rfl, .of hp, ?_, ?_⟩
        · unfold L2.atI
          rw [rps_len rr, ej]
          exact gx
        · refine tF_of s2.st.i s2.sle ?_
          rw [ef]
          intro wy B3 H3 q3 st3 r3 nd3 fr3
          have ey := rp_int r3
          subst ey
          have s3 := s2.step st3
          obtain ⟨p', vs', qs', ep', hp', rr', nd', sub', K⟩ := s3.at e0 hg hv0 (sel_mono st3.h (sel_mono st2.h hsel))
          cases ep'
          refine ⟨x, y, rfl, rfl, p, vs', n, j, rfl, rfl, hp', by rw [rps_len rr']; exact ej, ?_⟩
          obtain ⟨qs2, g1, g2, g3⟩ := rps_set (d := .int (fo x y)) (v := .int (fo x y)) (q := []) rr' (ixN_lt ej) (by unfold Rp; exact ⟨rfl, rfl⟩) nd' .nil (by intro t ht; cases ht)
          refine eo.nx _ k2 σ _ (K _ _ qs2 ?_ g1 g2 fun q hqm => ?_)
          · refine stos_set ?_ rfl
            have := sto_getP (stos_of s3 e0) hg
            simpa [D.sto] using this
          · rcases g3 q hqm with z | z
            · exact .inl z
            · cases z
      · exact k2.elim
    · exact k2.elim
  · exact k2.elim
/-- x += e, ints -/
theorem ss_aug (i : Nat) {x : Str} {op : Operator} {fo : Int → Int → Int} {pos' : Pos} (hip : PIp X op (ipI fo)) (hN : X.N.Nodup) (he : PE X e (tF X.K W f)) (hi : X.N[i]? = some x := by rfl) (hx : Loc X.env.scope x := by first | exact Or.inl rfl | exact Or.inr rfl) (hf : X.fn x = true ∨ X.env.scope.names.lookup x = some .local := by first | exact .inl rfl | exact .inr rfl | assumption) :
    PS X (.AugAssign (.Name x pos') op e pos) (tG X.K W (gAug i fo f)) := by
  refine psI (ps_aug hN hi hx he hip hf) fun De σ H ⟨Bf, Hf, B0, H0, env, Q, ⟨B, ps, s⟩, h, eo⟩ => ?_
  unfold gAug at h
  split at h
  · rename_i n en
    obtain ⟨_, v, h1, h2⟩ := s.sl i _ en
    have ev := rp_int h2
    subst ev
    refine ⟨_, h1, ?_⟩
    refine runE2 (Q := Q) s h (fun c q => eo.rz c env q) fun y w B2 H2 q2 k2 s2 st2 r2 nd2 fr2 => ?_
    cases y with
    | int y =>
      have ey := rp_int r2
      subst ey
      exact ⟨n, y, rfl, rfl, eo.nx _ k2 _ H2 ⟨B2, _, s2.set (j := i) (qs := []) rfl (by unfold Rp; exact ⟨rfl, rfl⟩) .nil (by intro q hq; cases hq)⟩⟩
    | _ => exact k2.elim
  · exact h.elim
end
end BC

namespace BC
open PySem PySem.Spec PyProof.Rows L2

/-! ## list(reversed(..)) -/
section
variable {prog : Program} {w : World} {A : Around} {E : Value → Shared → Prop} {s : Shared}
theorem init_rev {R : Result → Shared → Prop} {it l S : Addr} {items : Array Value} (hh : A.handled = none) (hit : s.heap.IsRevIter it l ((items.size : Int) - 1)) (hl : s.heap.IsList l items) (hne : l ≠ it) (hn : items.size ≤ sizeLine)
    (hS : s.heap.get? S = some { cls := .type "list", data := .seq #[] }) (hSl : S ≠ l) (hSi : S ≠ it)
    (hR : ∀ h' tk acc' c', (∀ b o, b ≠ S → b ≠ it → s.heap.get? b = some o → h'.get? b = some o) → h'.get? S = some { cls := .type "list", dict := none, data := .seq acc' c', slots := #[] } →
      ItemsOf (fun i v => items[items.size - 1 - i]? = some v) acc' items.size → R (.ok (.ret .none)) { s with heap := h', toks := tk }) :
    wpAny (model prog w) A.in1 (Builtin.«list.__init__» ⟨[.ref S, .ref it], []⟩)
      (fun fin s' => match fin with | .done f => R (.ok f) s' | .again c' => c'.quiet = true ∧ codeAny (model prog w) A c' R s') (fun e s' => R (.error e) s') s := by
  show wpAny _ _ (do let old ← Builtin.List.listItems (.ref S); Builtin.List.listUpdate (.ref S) (fun _ => #[]); letGo old.toList.reverse; Builtin.List.listExtendWith (.ref S) (.ref it) .none) _ _ s
  refine wpAny_bind ?_
  unfold Builtin.List.listItems
  refine wpAny_bind (wpAny_seqItems hS rfl (wpAny_pure ?_))
  show wpAny _ _ (updateSeq S (fun _ => #[]) >>= fun _ => letGo (#[] : Array Value).toList.reverse >>= fun _ => Builtin.List.listExtendWith (.ref S) (.ref it) .none) _ _ s
  refine wpAny_bind (wpAny_updateSeq hS rfl ?_)
  have hS₂ := Heap.get?_update_self (Obj.mapSeq (fun _ => (#[] : Array Value))) hS rfl
  have oth : ∀ b o, b ≠ S → s.heap.get? b = some o → (s.heap.update S (Obj.mapSeq (fun _ => (#[] : Array Value)))).get? b = some o :=
    fun b o hb e => (Heap.get?_update_other _ _ (Ne.symm hb)).trans e
  refine wpAny_bind (wpAny_letGo ?_)
  have W := (Walks.listRev (prog := prog) (w := w) (A := A.in1) hh it l hne items).toS
  have hSf : S ∉ [it, l] := by simp only [List.mem_cons, List.not_mem_nil, or_false, not_or]; exact ⟨hSi, hSl⟩
  have hit1 : (s.heap.update S (Obj.mapSeq (fun _ => (#[] : Array Value)))).IsRevIter it l ((items.size : Int) - 1) := hit.at fun o e => oth it o (Ne.symm hSi) e
  have hl1 : (s.heap.update S (Obj.mapSeq (fun _ => (#[] : Array Value)))).IsList l items := hl.at fun o e => oth l o (Ne.symm hSl) e
  have hT : ({ s with heap := s.heap.update S (Obj.mapSeq (fun _ => (#[] : Array Value))) } : Shared).TypeIs (.ref it) "list_reverseiterator" := Heap.IsRevIter.typeIs (s := { s with heap := s.heap.update S (Obj.mapSeq (fun _ => (#[] : Array Value))) }) hit1
  have h1 : Builtin.List.listSameRef (.ref S) (.ref it) = false := by simp [Builtin.List.listSameRef, hSi]
  unfold Builtin.List.listExtendWith
  refine wpAny_bind (wpAny_typeOf hT ?_)
  rw [if_neg (by rw [h1]; decide)]
  refine wpAny_bind (wpAny_pyIter_revIter (s := { s with heap := s.heap.update S (Obj.mapSeq (fun _ => (#[] : Array Value))) }) hit1 ?_)
  refine wpAny_bind (wpAny_holding ?_)
  unfold Builtin.List.listLengthHint
  refine wpAny_bind (wpAny_specialOf hT RT.nolen_lri ?_)
  show wpAny _ A.in1 (specialOf (Value.ref it) (Str.ofString "__length_hint__") >>= _) _ _ _
  refine wpAny_bind (wpAny_specialOf hT RT.hint_lri ?_)
  generalize hid : ("list_reverseiterator.__length_hint__" : String) = id0
  wp_delta
  rw [show splitId id0 = some ("list_reverseiterator", "__length_hint__") from by subst hid; decide +kernel]
  subst hid
  refine wpAny_bind (wpAny_isInstance (b := true) hT (by rw [isSubtype_type]; kernel_rfl) ?_)
  refine wpAny_pure ?_
  rw [if_neg (by decide)]
  have e0 : ((items.size : Nat) : Int) - 1 - ((0 : Nat) : Int) = (items.size : Int) - 1 := by omega
  refine wpAny_pure ⟨plainId_quiet F.plain_extend_loop _, codeAny_extend_loopS W hn _ hSf _ items.size 0 _ _ _ rfl (Nat.zero_le _) ⟨Nat.zero_le _, by rw [e0]; exact hit1, hl1⟩ hS₂ (ItemsOf.nil _) fun s' acc' c' hm hS' hacc => ?_⟩
  rw [Moved.eq_with hm]
  refine hR s'.heap s'.toks acc' c' (fun b o hb hb2 e => hm.heap b o (fun hmem => ?_) (oth b o hb e)) hS' hacc
  rcases List.mem_cons.mp hmem with e' | hmem
  · exact hb e'
  · exact hb2 (List.mem_singleton.mp hmem)
theorem call_list_rev {it l : Addr} {items : Array Value} {Q : Value → Shared → Prop} (hh : A.handled = none) (hit : s.heap.IsRevIter it l ((items.size : Int) - 1)) (hl : s.heap.IsList l items) (hne : l ≠ it) (hn : items.size ≤ sizeLine)
    (hQ : ∀ h' tk acc' c', (∀ b o, b ≠ it → s.heap.get? b = some o → h'.get? b = some o) →
      h'.get? s.heap.objs.size = some { cls := .type "list", dict := none, data := .seq acc' c', slots := #[] } → ItemsOf (fun i v => items[items.size - 1 - i]? = some v) acc' items.size → Q (.ref s.heap.objs.size) { s with heap := h', toks := tk }) :
    wpAny (model prog w) A (call (.type "list") [.ref it]) Q E s := by
  obtain ⟨oi, hoi, _⟩ := id hit
  obtain ⟨ol, hol, _⟩ := id hl
  refine callType_codes (Q₁ := fun obj s₁ => obj = .ref s.heap.objs.size ∧ s₁ = { s with heap := s.heap.push { cls := .type "list", data := .seq #[] } }) F.called_list (F.typeCall_list_1 _) F.entry_list_init
    (code_list_new _ ⟨rfl, rfl⟩) fun obj s₁ h₁ => ?_
  obtain ⟨rfl, rfl⟩ := h₁
  have hS : (s.heap.push { cls := .type "list", data := .seq #[] }).get? s.heap.objs.size = some { cls := .type "list", data := .seq #[] } := Heap.get?_push_size _ rfl
  refine ⟨⟨_, hS, rfl⟩, F.args_list_init_2 _ _, init_rev (A := A.in1) (s := { s with heap := s.heap.push { cls := .type "list", data := .seq #[] } }) hh (hit.at fun o e => Heap.get?_push_of_some _ e) (hl.push _) hne hn hS (Nat.ne_of_gt (Heap.lt_size hol)) (Nat.ne_of_gt (Heap.lt_size hoi)) fun h' tk acc' c' hk hS' hacc => ?_⟩
  exact ⟨rfl, hQ h' tk acc' c' (fun b o hb e => hk b o (Nat.ne_of_lt (Heap.lt_size e)) hb (Heap.get?_push_of_some _ e)) hS' hacc⟩
theorem hint_rit {it : Addr} {x left step : Int} (hit : IsRangeIter s.heap it x left step) {Q : Value → Shared → Prop} (h : ∀ u, Q (.int left u) { s with toks := s.toks + 1 }) : wpAny (model prog w) A (call (.builtin "range_iterator.__length_hint__") [.ref it]) Q E s := by
  have hT : s.TypeIs (.ref it) "range_iterator" := ⟨_, hit, rfl⟩
  refine wpAny_call_entry F.slot_range_iterator_length_hint hT F.entry_range_iterator_length_hint ?_ (F.args_range_iterator_length_hint_1 _)
  obtain ⟨hp, g, d, tk, os⟩ := s
  wp_walk using wpAny_field hit rfl rfl
  exact ⟨_, rfl, h _⟩
theorem init_rit {R : Result → Shared → Prop} {it S : Addr} {a c : Int} {n : Nat} (hh : A.handled = none) (hit : IsRangeIter s.heap it a n c) (hn : n ≤ sizeLine)
    (hS : s.heap.get? S = some { cls := .type "list", data := .seq #[] }) (hSi : S ≠ it)
    (hR : ∀ h' tk acc' c', (∀ b o, b ≠ S → b ≠ it → s.heap.get? b = some o → h'.get? b = some o) → h'.get? S = some { cls := .type "list", dict := none, data := .seq acc' c', slots := #[] } →
      ItemsOf (fun i v => ∃ t, v = .int (a + i * c) t) acc' n → R (.ok (.ret .none)) { s with heap := h', toks := tk }) :
    wpAny (model prog w) A.in1 (Builtin.«list.__init__» ⟨[.ref S, .ref it], []⟩)
      (fun fin s' => match fin with | .done f => R (.ok f) s' | .again c' => c'.quiet = true ∧ codeAny (model prog w) A c' R s') (fun e s' => R (.error e) s') s := by
  show wpAny _ _ (do let old ← Builtin.List.listItems (.ref S); Builtin.List.listUpdate (.ref S) (fun _ => #[]); letGo old.toList.reverse; Builtin.List.listExtendWith (.ref S) (.ref it) .none) _ _ s
  refine wpAny_bind ?_
  unfold Builtin.List.listItems
  refine wpAny_bind (wpAny_seqItems hS rfl (wpAny_pure ?_))
  show wpAny _ _ (updateSeq S (fun _ => #[]) >>= fun _ => letGo (#[] : Array Value).toList.reverse >>= fun _ => Builtin.List.listExtendWith (.ref S) (.ref it) .none) _ _ s
  refine wpAny_bind (wpAny_updateSeq hS rfl ?_)
  have hS₂ := Heap.get?_update_self (Obj.mapSeq (fun _ => (#[] : Array Value))) hS rfl
  have oth : ∀ b o, b ≠ S → s.heap.get? b = some o → (s.heap.update S (Obj.mapSeq (fun _ => (#[] : Array Value)))).get? b = some o :=
    fun b o hb e => (Heap.get?_update_other _ _ (Ne.symm hb)).trans e
  refine wpAny_bind (wpAny_letGo ?_)
  have W := (Walks.range (prog := prog) (w := w) (A := A.in1) hh it a c n).toS
  have hSf : S ∉ [it] := by simp only [List.mem_cons, List.not_mem_nil, or_false]; exact hSi
  have hit1 : IsRangeIter (s.heap.update S (Obj.mapSeq (fun _ => (#[] : Array Value)))) it a n c := oth it _ (Ne.symm hSi) hit
  have hT : ({ s with heap := s.heap.update S (Obj.mapSeq (fun _ => (#[] : Array Value))) } : Shared).TypeIs (.ref it) "range_iterator" := ⟨_, hit1, rfl⟩
  have h1 : Builtin.List.listSameRef (.ref S) (.ref it) = false := by simp [Builtin.List.listSameRef, hSi]
  unfold Builtin.List.listExtendWith
  refine wpAny_bind (wpAny_typeOf hT ?_)
  rw [if_neg (by rw [h1]; decide)]
  refine wpAny_bind (wpAny_pyIter_rangeiter (s := { s with heap := s.heap.update S (Obj.mapSeq (fun _ => (#[] : Array Value))) }) hit1 ?_)
  refine wpAny_bind (wpAny_holding ?_)
  unfold Builtin.List.listLengthHint
  refine wpAny_bind (wpAny_specialOf hT F.nolen_ra ?_)
  show wpAny _ A.in1 (specialOf (Value.ref it) (Str.ofString "__length_hint__") >>= _) _ _ _
  refine wpAny_bind (wpAny_specialOf hT F.hint_ra ?_)
  (generalize hid : ("range_iterator.__length_hint__" : String) = id0; (fail_if_success (clear hid id0)); wp_delta; rw [show splitId id0 = some ("range_iterator", "__length_hint__") from by subst hid; decide +kernel]; subst hid)
  refine wpAny_bind (wpAny_isInstance (b := true) hT (by rw [isSubtype_type]; kernel_rfl) ?_)
  show wpAny _ A.in1 (call (.builtin "range_iterator.__length_hint__") [.ref it] >>= _) _ _ _
  refine wpAny_bind (hint_rit (s := { s with heap := s.heap.update S (Obj.mapSeq (fun _ => (#[] : Array Value))) }) hit1 fun u => ?_)
  refine wpAny_bind (m := asInt? (.int n u)) (wpAny_pure ?_)
  dsimp only
  have hk : Builtin.List.listTooLong (Int.toNat n) = false := by simp [Builtin.List.listTooLong]; omega
  rw [if_neg (by rw [hk]; decide)]
  refine wpAny_pure ?_
  rw [if_neg (by decide)]
  have e0 : a + ((0 : Nat) : Int) * c = a := by simp
  have e1 : (n : Int) - ((0 : Nat) : Int) = n := by simp
  refine wpAny_pure ⟨plainId_quiet F.plain_extend_loop _, codeAny_extend_loopS W hn _ hSf _ n 0 _ _ _ rfl (Nat.zero_le _) (by rw [e0, e1]; exact hit1) hS₂ (ItemsOf.nil _) fun s' acc' c' hm hS' hacc => ?_⟩
  rw [Moved.eq_with hm]
  refine hR s'.heap s'.toks acc' c' (fun b o hb hb2 e => hm.heap b o (fun hmem => ?_) (oth b o hb e)) hS' hacc
  rcases List.mem_cons.mp hmem with e' | hmem
  · exact hb e'
  · exact hb2 (List.mem_singleton.mp hmem)
theorem call_list_rit {it : Addr} {a c : Int} {n : Nat} {Q : Value → Shared → Prop} (hh : A.handled = none) (hit : IsRangeIter s.heap it a n c) (hn : n ≤ sizeLine)
    (hQ : ∀ h' tk acc' c', (∀ b o, b ≠ it → s.heap.get? b = some o → h'.get? b = some o) →
      h'.get? s.heap.objs.size = some { cls := .type "list", dict := none, data := .seq acc' c', slots := #[] } → ItemsOf (fun i v => ∃ t, v = .int (a + i * c) t) acc' n → Q (.ref s.heap.objs.size) { s with heap := h', toks := tk }) :
    wpAny (model prog w) A (call (.type "list") [.ref it]) Q E s := by
  refine callType_codes (Q₁ := fun obj s₁ => obj = .ref s.heap.objs.size ∧ s₁ = { s with heap := s.heap.push { cls := .type "list", data := .seq #[] } }) F.called_list (F.typeCall_list_1 _) F.entry_list_init
    (code_list_new _ ⟨rfl, rfl⟩) fun obj s₁ h₁ => ?_
  obtain ⟨rfl, rfl⟩ := h₁
  have hS : (s.heap.push { cls := .type "list", data := .seq #[] }).get? s.heap.objs.size = some { cls := .type "list", data := .seq #[] } := Heap.get?_push_size _ rfl
  have hlt : it < s.heap.objs.size := Heap.lt_size hit
  refine ⟨⟨_, hS, rfl⟩, F.args_list_init_2 _ _, init_rit (A := A.in1) (s := { s with heap := s.heap.push { cls := .type "list", data := .seq #[] } }) hh (Heap.get?_push_of_some _ hit) hn hS (Nat.ne_of_gt hlt) fun h' tk acc' c' hk hS' hacc => ?_⟩
  exact ⟨rfl, hQ h' tk acc' c' (fun b o hb e => hk b o (Nat.ne_of_lt (Heap.lt_size e)) hb (Heap.get?_push_of_some _ e)) hS' hacc⟩
end
/-- list(reversed(x)), x a list: a new list -/
def tLstRev (K : PySem.W.Frag) (te : TE) : TE := fun σ H Q => te σ H fun v H1 => ∃ (a : Addr) (xs : List V), v = .ref a ∧ SqL K H1 a xs ∧ ∀ q, H1 q = none → Q (.ref q) (upd H1 q (.lst xs.reverse))
def tLstRevRg (te : L2.St → Hp → (Int → Int → Hp → Prop) → Prop) : TE := fun σ H Q => te σ H fun a b H1 => RgOk a b ∧ ∀ q, H1 q = none → Q (.ref q) (upd H1 q (.lst ((rgV a b).reverse)))
section
variable {X : Cx}
theorem pe_lstRev {e : Expr} {te : TE} {p p2 pos pos2 : Pos} (hc : X.calm = true) (hg : Gl X "list") (hm : X.mg "list" = none) (hg2 : Gl X "reversed") (hm2 : X.mg "reversed" = none) (he : PE X e te)
    (hs : starEach [e] X.env = (false, eval e X.env) :: starEach [] X.env := by rfl)
    (hs2 : starEach [.Call (.Name "reversed" p2) [e] [] pos2] X.env = (false, eval (.Call (.Name "reversed" p2) [e] [] pos2) X.env) :: starEach [] X.env := by rfl) :
    PE X (.Call (.Name "list" p) [.Call (.Name "reversed" p2) [e] [] pos2] [] pos) (tLstRev X.K te) := by
  refine ⟨fun pins s σ H Q I h => ?_⟩
  refine Call_ (ld_blt I hg hm boot_list (PyProof.Rows.callWith_type1 (args_cons (Call_ (ld_blt I hg2 hm2 PyProof.Rows.boot_reversed (PyProof.Rows.callWith_type1 (args_cons (thn (he.run pins s σ H _ I h) fun u s1 ⟨v, H1, I1, r1, q1⟩ => args_nil ?_) hs) hs rfl))) hs2) hs2 rfl))
  obtain ⟨a, xs, ev, hq, q⟩ := q1
  subst ev
  obtain rfl : u = Value.ref a := r1
  obtain ⟨its, rv, p', hz⟩ := I1.list hq
  refine call_reversed_list p'.isList (args_nil ?_)
  have k0 : ∀ b o, s1.heap.get? b = some o → (s1.heap.push (revObj a ((its.toArray.size : Int) - 1))).get? b = some o := fun b o e => Heap.get?_push_of_some _ e
  have hl := p'.isList
  obtain ⟨ol, hol, _⟩ := id hl
  have hne : a ≠ s1.heap.objs.size := Nat.ne_of_lt (Heap.lt_size hol)
  have hn : its.toArray.size ≤ sizeLine := by rw [List.size_toArray, ← rv.length]; exact hz
  refine call_list_rev (s := { s1 with heap := s1.heap.push (revObj a ((its.toArray.size : Int) - 1)) }) (I1.ok.hd hc) ⟨_, Heap.get?_push_size _ rfl, rfl, rfl⟩ (hl.push _) hne hn fun h' tk acc c' hk e' hi => ?_
  have hz2 : (s1.heap.push (revObj a ((its.toArray.size : Int) - 1))).objs.size = s1.heap.objs.size + 1 := Heap.size_push _ _
  refine ⟨.ref (s1.heap.push (revObj a ((its.toArray.size : Int) - 1))).objs.size, upd H1 (s1.heap.push (revObj a ((its.toArray.size : Int) - 1))).objs.size (.lst xs.reverse), I1.laid (t' := tk) (fun b o e => hk b o (Nat.ne_of_lt (Heap.lt_size e)) (k0 b o e)) (by rw [hz2]; exact Nat.le_succ _) (show ObjOk X.prog X.w _ _ _ (.lst xs.reverse) from ⟨by rw [List.length_reverse]; exact hz, acc.toList, c', RT.vals_rev rv hi, ?_⟩), rfl, q _ (I1.hok.fresh (by rw [hz2]; exact Nat.le_succ _))⟩
  rw [Array.toArray_toList]
  exact e'
theorem rgV_rev (a b : Int) : (rgV a b).reverse = (List.range (b - a).toNat).map fun (i : Nat) => V.int (a + (((b - a).toNat : Nat) : Int) - 1 + (i : Int) * (-1)) := by
  unfold rgV
  apply List.ext_getElem?
  intro j
  rw [← List.map_reverse, List.getElem?_map, List.getElem?_map]
  by_cases hj : j < (b - a).toNat
  · rw [List.getElem?_reverse (by simpa using hj), List.getElem?_range hj, List.length_range, List.getElem?_range (by omega)]
    simp
    omega
  · rw [List.getElem?_eq_none (by simpa using hj), List.getElem?_eq_none (by simpa using hj)]
    rfl
theorem pe_lstRevRg {e : Expr} {te : L2.St → Hp → (Int → Int → Hp → Prop) → Prop} {p p2 pos pos2 : Pos} (hc : X.calm = true) (hg : Gl X "list") (hm : X.mg "list" = none) (hg2 : Gl X "reversed") (hm2 : X.mg "reversed" = none) (he : PRg X e te)
    (hs : starEach [e] X.env = (false, eval e X.env) :: starEach [] X.env := by rfl)
    (hs2 : starEach [.Call (.Name "reversed" p2) [e] [] pos2] X.env = (false, eval (.Call (.Name "reversed" p2) [e] [] pos2) X.env) :: starEach [] X.env := by rfl) :
    PE X (.Call (.Name "list" p) [.Call (.Name "reversed" p2) [e] [] pos2] [] pos) (tLstRevRg te) := by
  refine ⟨fun pins s σ H Q I h => ?_⟩
  refine Call_ (ld_blt I hg hm boot_list (PyProof.Rows.callWith_type1 (args_cons (Call_ (ld_blt I hg2 hm2 PyProof.Rows.boot_reversed (PyProof.Rows.callWith_type1 (args_cons (thn (he pins s σ H _ I h) fun u s1 hx => args_nil ?_) hs) hs rfl))) hs2) hs2 rfl))
  obtain ⟨r, a, b, t, w1, v, H1, eu, hr, I1, ⟨b1, b2, b3, b4, b5⟩, q⟩ := hx
  subst eu
  have hn : Builtin.Range.rangeSize a b 1 = (((b - a).toNat : Nat) : Int) := rangeSize_nat a b
  refine call_reversed_range hr (smallRev_one b1 b2 b3 b4) (args_nil ?_)
  have hit : IsRangeIter (s1.heap.push (rngRevObj a b 1)) s1.heap.objs.size (a + (((b - a).toNat : Nat) : Int) - 1) (((b - a).toNat : Nat) : Int) (-1) := by
    have e1 : a + (((b - a).toNat : Nat) : Int) - 1 = a + (Builtin.Range.rangeSize a b 1 - 1) * 1 := by rw [hn]; omega
    rw [e1, ← hn]
    exact Heap.get?_push_size _ rfl
  have k0 : ∀ b' o, s1.heap.get? b' = some o → (s1.heap.push (rngRevObj a b 1)).get? b' = some o := fun b o e => Heap.get?_push_of_some _ e
  have hz2 : (s1.heap.push (rngRevObj a b 1)).objs.size = s1.heap.objs.size + 1 := Heap.size_push _ _
  refine call_list_rit (s := { s1 with heap := s1.heap.push (rngRevObj a b 1) }) (I1.ok.hd hc) hit (by rw [sizeLine_eq]; omega) fun h' tk acc c' hk e' hi => ?_
  refine ⟨.ref (s1.heap.push (rngRevObj a b 1)).objs.size, upd H1 (s1.heap.push (rngRevObj a b 1)).objs.size (.lst (rgV a b).reverse), I1.laid (t' := tk) (fun b o e => hk b o (Nat.ne_of_lt (Heap.lt_size e)) (k0 b o e)) (by rw [hz2]; exact Nat.le_succ _) (show ObjOk X.prog X.w _ _ _ (.lst (rgV a b).reverse) from ⟨by rw [List.length_reverse, rgV_length, sizeLine_eq]; omega, acc.toList, c', ?_, ?_⟩), rfl, q _ (I1.hok.fresh (by rw [hz2]; exact Nat.le_succ _))⟩
  · have e : acc.toList.length = (b - a).toNat := by rw [Array.length_toList]; exact hi.1
    rw [rgV_rev, ← e]
    refine vals_of_get acc.toList _ fun j u hj => ?_
    obtain ⟨t, rfl⟩ := hi.2 j u (by rw [← hj, Array.getElem?_toList])
    exact ⟨t, by rw [e]⟩
  · rw [Array.toArray_toList]; exact e'
end
section
variable {X : Cx} {W : WC} {f : Env → R D} {a : Expr} {pos : Pos}
theorem se_listRev {p p2 pos2 : Pos} (hc : X.calm = true) (hg : Gl X "list") (hm : X.mg "list" = none) (hg2 : Gl X "reversed") (hm2 : X.mg "reversed" = none) (ha : PE X a (tF X.K W f)) (na : starEach [a] X.env = (false, eval a X.env) :: starEach [] X.env := by rfl)
    (nb : starEach [.Call (.Name "reversed" p2) [a] [] pos2] X.env = (false, eval (.Call (.Name "reversed" p2) [a] [] pos2) X.env) :: starEach [] X.env := by rfl) : PE X (.Call (.Name "list" p) [.Call (.Name "reversed" p2) [a] [] pos2] [] pos) (tF X.K W (x1 lrevD f)) := by
  refine peI (pe_lstRev hc hg hm hg2 hm2 ha na nb) fun σ H Q ⟨env, B, i, s, h⟩ => ?_
  refine seqE (P := Pst X.K W B H σ Q) i s h (fun c z => z) (fun z => z) fun d v B1 H1 q e1 h1 st1 r nd fr => ?_
  obtain ⟨d2, ed, hd⟩ := of_ok h1
  unfold lrevD at ed
  split at ed
  · cases ed
    obtain ⟨l, vs, qs, e1, s1, u1, r1⟩ := rp_lst st1.i r
    obtain ⟨qs2, h2, h3⟩ := rps_revE r1
    refine ⟨l, vs, e1, s1, fun p hp => ?_⟩
    have ok := okO_end st1 fr hd
    refine ok (.ref p) B1 (upd H1 p (.lst vs.reverse)) (p :: qs2) (step_new st1.i hp) ?_ ?_ ?_
    · unfold Rp
      exact ⟨p, vs.reverse, qs2, rfl, upd_same, rfl, rps_mono (.refl _) (same_upd hp) h3⟩
    · refine List.nodup_cons.mpr ⟨fun z => ?_, h2.nodup_iff.mpr (nd.sublist u1)⟩
      obtain ⟨ws, e, _⟩ := rps_own h3 p z
      rw [hp] at e
      cases e
    · intro q hq
      rcases List.mem_cons.mp hq with e | z
      · subst e
        exact ⟨.inr hp, noB st1.i hp⟩
      · exact ⟨.inl (u1.subset (h2.mem_iff.mp z)), (fr q (u1.subset (h2.mem_iff.mp z))).2⟩
  · cases ed
/-- list(reversed(range(n))) -/
def lrevrngD : D → Option D
  | .int n => if -4611686018427387904 ≤ n ∧ n ≤ 16777216 then some (.lst .ow (rngL 0 1 n.toNat).reverse) else none
  | _ => none
theorem se_listRevRng {p p2 p3 pos2 pos3 : Pos} (hc : X.calm = true) (hg : Gl X "list") (hm : X.mg "list" = none) (hg2 : Gl X "reversed") (hm2 : X.mg "reversed" = none) (hg3 : Gl X "range") (hm3 : X.mg "range" = none) (ha : PE X a (tF X.K W f)) (n0 : starEach [a] X.env = (false, eval a X.env) :: starEach [] X.env := by rfl)
    (na : starEach [.Call (.Name "range" p3) [a] [] pos3] X.env = (false, eval (.Call (.Name "range" p3) [a] [] pos3) X.env) :: starEach [] X.env := by rfl)
    (nb : starEach [.Call (.Name "reversed" p2) [.Call (.Name "range" p3) [a] [] pos3] [] pos2] X.env = (false, eval (.Call (.Name "reversed" p2) [.Call (.Name "range" p3) [a] [] pos3] [] pos2) X.env) :: starEach [] X.env := by rfl) : PE X (.Call (.Name "list" p) [.Call (.Name "reversed" p2) [.Call (.Name "range" p3) [a] [] pos3] [] pos2] [] pos) (tF X.K W (x1 lrevrngD f)) := by
  refine peI (pe_lstRevRg hc hg hm hg2 hm2 (prg_1 hg3 hm3 ha n0) na nb) fun σ H Q ⟨env, B, i, s, h⟩ => ?_
  refine seqE (P := Pst X.K W B H σ Q) i s h (fun c z => z) (fun z => z) fun d v B1 H1 q e1 h1 st1 r nd fr => ?_
  obtain ⟨d2, ed, hd⟩ := of_ok h1
  unfold lrevrngD at ed
  split at ed
  · split at ed
    · cases ed
      rename_i n hz
      refine ⟨n, rp_int r, ⟨by decide, by decide, by omega, by omega, by omega⟩, ?_⟩
      refine okO_lst st1.i nd (fun t ht => (fr t ht).2) (vs := (rgV 0 n).reverse) (qs := []) ?_ (List.nil_sublist _) (okO_end st1 fr hd)
      have h0 : Rps X.K B1 H1 (rngL 0 1 n.toNat) (rgV 0 n) [] := by
        unfold rngL rgV
        rw [show (n - 0).toNat = n.toNat by omega]
        have := rps_rng (K := X.K) (B := B1) (H := H1) n.toNat (fun i => (0 : Int) + (i : Nat) * 1)
        simpa using this
      obtain ⟨qs2, h2, h3⟩ := rps_revE h0
      have : qs2 = [] := List.perm_nil.mp h2
      subst this
      exact h3
    · cases ed
  · cases ed
end
end BC

namespace BC
open PySem PySem.Spec PyProof.Rows L2

/-! ## methods of one argument -/
def xM (ok : D → Bool) (op : D → D → Option D) (f g : Env → R D) : Env → R D := fun env => do
  let a ← f env
  if ok a = true then do
    let b ← g env
    R.of (op a b)
  else R.no
def D.isL : D → Bool
  | .lst _ _ => true
  | _ => false
def D.isS : D → Bool
  | .str _ => true
  | _ => false
theorem ty_L {K : PySem.W.Frag} : ∀ a x B H p, Same B H → Rp K B H a x p → D.isL a = true → tyV K "list" x H := fun a x B H p i r h => by
  cases a with
  | lst k xs =>
    obtain ⟨l, vs, qs, e2, s1, u1, r2⟩ := rp_lst i r
    subst e2
    exact .inl ⟨rfl, _, s1⟩
  | _ => cases h
theorem ty_S {K : PySem.W.Frag} : ∀ a x B H p, Same B H → Rp K B H a x p → D.isS a = true → tyV K "str" x H := fun a x B H p i r h => by
  cases a with
  | str s =>
    rw [rp_str r]
    rfl
  | _ => cases h
section
variable {X : Cx} {W : WC} {e o b : Expr} {f g : Env → R D} {pos apos cpos : Pos}
theorem tBM_of {K : PySem.W.Frag} {T : String} {r : V → List V → Hp → VK → Prop} {ok : D → Bool} {op : D → D → Option D} {σ : L2.St} {H : Hp} {Q : VK} (hty : ∀ a x B H p, Same B H → Rp K B H a x p → ok a = true → tyV K T x H) (ho : Op2 K (fun x y H Q => r x [y] H Q) op) (h : tF K W (xM ok op f g) σ H Q) :
    tBM K T r (tF K W f) (tCons (tF K W g) tNil) σ H Q := by
  obtain ⟨env, B, i, s, h⟩ := h
  refine seqE (P := Pst K W B H σ Q) (g := fun a => if ok a = true then g env >>= fun b => R.of (op a b) else R.no) i s h (fun c z => z) (fun z => z) fun a x B1 H1 p e1 h1 st1 r1 nd1 fr1 => ?_
  by_cases hk : ok a = true
  · rw [if_pos hk] at h1
    refine ⟨hty a x B1 H1 p st1.i r1 hk, ?_⟩
    refine seqE (P := Pst K W B H σ Q) (g := fun b => R.of (op a b)) st1.i (s.step st1) h1 (fun c z => erBack (P := True) st1.h z) (fun z => z) fun b y B2 H2 q e2 h2 st2 r2 nd2 fr2 => ?_
    obtain ⟨d, ed, hd⟩ := of_ok h2
    have fa : Fresh H B2 (p ++ q) := (Fresh.on r1 fr1 st2).app (fr2.back st1.h)
    exact ho a b d x y B2 H2 p q Q ed st2.i (rp_mono st2.b st2.h r1) r2 (nodup_later (B := B) (H := H) r1 nd1 nd2 fr2) (fun t ht => (fa t ht).2) (okO_end (st1.trans st2) fa hd)
  · rw [if_neg hk] at h1
    exact h1.elim
theorem se_meth1 {T : String} {name : Str} {id : String} {r : V → List V → Hp → VK → Prop} {ok : D → Bool} {op : D → D → Option D} (pa : PlainAttrs T) (slot : Slot T name id) (hty : typeOf (.builtin id) = pure (.type "method_descriptor")) (hm : MtR X id r)
    (ht : ∀ a x B H p, Same B H → Rp X.K B H a x p → ok a = true → tyV X.K T x H) (hop : Op2 X.K (fun x y H Q => r x [y] H Q) op) (ho : PE X o (tF X.K W f)) (ha : PE X e (tF X.K W g))
    (hbase : attributeBase o name X.env (eval o X.env) = eval o X.env := by rfl)
    (hfew : ((backTo cpos (starEach (e :: []) X.env)).all (fun x => !x.1) && (backToKw cpos (keywordEach [] X.env)).all (fun x => x.1.isSome)
      && decide ((e :: ([] : List Expr)).length + ([] : List Keyword).length + (if ([] : List Keyword).isEmpty then 0 else 1) < 30)) = true := by rfl)
    (hline : (apos.endLine == cpos.line) = true := by rfl) (hs : starEach (e :: []) X.env = (false, eval e X.env) :: starEach [] X.env := by rfl) (hplain : (backTo cpos (starEach [] X.env)).any (·.1) = false := by rfl) :
    PE X (.Call (.Attribute o name apos) (e :: []) [] cpos) (tF X.K W (xM ok op f g)) :=
  peI (pe_bm pa slot hty hm ho (pa_cons ha pa_nil hs) hbase hfew hline hs hplain) fun _ _ _ h => tBM_of ht hop h
end
/-! list.index, of ints -/
def indexD : D → D → Option D
  | .lst _ xs, .int i => (D.ints? xs).bind fun ns => if i ∈ ns then some (.int (ns.idxOf i : Nat)) else none
  | _, _ => none
theorem flat_ints (ns : List Int) : (ns.map V.int).all flatV = true := by
  rw [List.all_map]
  exact List.all_eq_true.mpr fun _ _ => rfl
theorem idxOf_at {ns : List Int} {i : Int} (h : i ∈ ns) : ns[ns.idxOf i]? = some i := by
  have hl := List.idxOf_lt_length_of_mem h
  rw [List.getElem?_eq_getElem hl, List.getElem_idxOf]
theorem idxOf_min : ∀ {ns : List Int} {i j : Int} {m : Nat}, m < ns.idxOf i → ns[m]? = some j → j ≠ i
  | [], i, j, m, h, e => by simp at e
  | n :: ns, i, j, m, h, e => by
    rw [List.idxOf_cons] at h
    by_cases hn : n = i
    · subst hn
      simp at h
    · have hb : (n == i) = false := by simpa using hn
      rw [hb] at h
      cases m with
      | zero =>
        simp at e
        rw [← e]
        exact hn
      | succ m =>
        simp at e
        exact idxOf_min (m := m) (by simpa using h) e
theorem o2_index {K : PySem.W.Frag} : Op2 K (fun x y H Q => rIndex K x [y] H Q) indexD := by
  intro a b d x y B H p q Q e i ra rb nd fb h
  unfold indexD at e
  split at e
  · rw [Option.bind_eq_some_iff] at e
    obtain ⟨ns, e3, e4⟩ := e
    split at e4
    · cases e4
      rename_i k xs n hz
      have e5 := ints?_some e3
      subst e5
      obtain ⟨l, vs, qs, e1, s1, u1, r1⟩ := rp_lst i ra
      rw [rps_ints r1] at s1
      have ey := rp_int rb
      subst ey
      refine ⟨l, _, .int n, ns.idxOf n, .int n, e1, rfl, s1, rfl, flat_ints ns, ?_, ?_, fun m z hm hz' => ?_, okO_int i h⟩
      · rw [List.getElem?_map, idxOf_at hz]; rfl
      · show decide _ = true; simp
      · rw [List.getElem?_map, Option.map_eq_some_iff] at hz'
        obtain ⟨j, h1, h2⟩ := hz'
        subst h2
        have := idxOf_min hm h1
        show decide _ = false
        simp [this]
    · cases e4
  · cases e
/-! texts -/
def D.strs? : List D → Option (List Str)
  | [] => some []
  | .str i :: ds => (D.strs? ds).map fun is => i :: is
  | _ => none
theorem strs?_some : ∀ {ds : List D} {ns : List Str}, D.strs? ds = some ns → ds = ns.map D.str
  | [], ns, h => by cases h; rfl
  | .str i :: ds, ns, h => by
    unfold D.strs? at h
    rw [Option.map_eq_some_iff] at h
    obtain ⟨is, h1, h2⟩ := h
    subst h2
    rw [strs?_some h1]
    rfl
  | .non :: _, _, h => by cases h
  | .bl _ :: _, _, h => by cases h
  | .int _ :: _, _, h => by cases h
  | .lst _ _ :: _, _, h => by cases h
  | .tup _ :: _, _, h => by cases h
  | .exc _ _ :: _, _, h => by cases h
  | .dic _ _ :: _, _, h => by cases h
  | .loc _ :: _, _, h => by cases h
  | .wit _ _ :: _, _, h => by cases h
  | .obj _ _ _ _ _ :: _, _, h => by cases h
@[simp] theorem strs?_map (ns : List Str) : D.strs? (ns.map D.str) = some ns := by
  induction ns with
  | nil => rfl
  | cons n ns ih => simp [D.strs?, ih]
theorem rps_strs {K : PySem.W.Frag} {B H : Hp} : ∀ {ns : List Str} {vs : List V} {p : List Addr}, Rps K B H (ns.map D.str) vs p → vs = ns.map V.str
  | [], _, _, r => r.1
  | n :: ns, vs, p, r => by
    rw [List.map_cons] at r
    unfold Rps at r
    obtain ⟨v, vr, p1, q, e1, e2, r1, r2⟩ := r
    subst e1
    rw [rp_str r1, rps_strs r2]
    rfl
theorem rps_of_strs {K : PySem.W.Frag} {B H : Hp} (ns : List Str) : Rps K B H (ns.map D.str) (ns.map V.str) [] := by
  induction ns with
  | nil => exact ⟨rfl, rfl⟩
  | cons n ns ih =>
    rw [List.map_cons, List.map_cons]
    unfold Rps
    exact ⟨_, _, [], [], rfl, rfl, ⟨rfl, rfl⟩, ih⟩
def joinD : D → D → Option D
  | .str a, .lst _ xs => (D.strs? xs).bind fun ys => if (ys.map (·.length)).sum + ys.length * a.length ≤ 16777216 then some (.str (Txt.join a ys)) else none
  | .str a, .str b => if b.length + b.length * a.length ≤ 16777216 then some (.str (Txt.join a (PyProof.Rows.signs b))) else none
  | _, _ => none
def rJoinL (K : PySem.W.Frag) : V → List V → Hp → VK → Prop := fun x xs H Q => ∃ a p, ∃ ys : List Str, x = .str a ∧ xs = [.ref p] ∧ (SqL K H p (ys.map V.str) ∨ SqT K H p (ys.map V.str)) ∧ (ys.map (·.length)).sum + ys.length * a.length ≤ 16777216 ∧ Q (.str (Txt.join a ys)) H
def rJoinS : V → List V → Hp → VK → Prop := fun x xs H Q => ∃ a b : Str, x = .str a ∧ xs = [.str b] ∧ b.length + b.length * a.length ≤ 16777216 ∧ Q (.str (Txt.join a (PyProof.Rows.signs b))) H
theorem mt_joinS {X : Cx} (hc : X.calm = true) : MtR X "str.join" rJoinS := by
  intro pins s σ H x xs v us Q I rx ru h
  obtain ⟨a, b, rfl, rfl, hz, q⟩ := h
  obtain ⟨t, rfl⟩ := rx
  obtain ⟨u, rfl, t', rfl⟩ := vals1 ru
  refine PySem.SC.joinStr (I.ok.hd hc) (PyProof.Rows.joinOk_of (by rw [PyProof.Rows.signs_sumLen, PyProof.Rows.signs_length]; exact hz)) fun h' k t' hk => ?_
  exact ⟨.str _, H, I.kept (t' := k) hk, ⟨_, rfl⟩, q⟩
theorem o2_join {K : PySem.W.Frag} : Op2 K (fun x y H Q => (fun x xs H Q => rJoinL K x xs H Q ∨ rJoinS x xs H Q) x [y] H Q) joinD := by
  intro a b d x y B H p q Q e i ra rb nd fb h
  unfold joinD at e
  split at e
  · rw [Option.bind_eq_some_iff] at e
    obtain ⟨ns, e3, e4⟩ := e
    split at e4
    · cases e4
      rename_i hz
      have e5 := strs?_some e3
      subst e5
      obtain ⟨l, vs, qs, e1, s1, u1, r1⟩ := rp_lst i rb
      rw [rps_strs r1] at s1
      subst e1
      exact .inl ⟨_, l, ns, rp_str ra, rfl, .inl s1, hz, okO_str i h⟩
    · cases e4
  · split at e
    · cases e
      rename_i hz
      exact .inr ⟨_, _, rp_str ra, by rw [rp_str rb], hz, okO_str i h⟩
    · cases e
  · cases e
def splitD : D → D → Option D
  | .str a, .str b => if (b.length == 0) = false ∧ a.length + 2 ≤ 16777216 then some (.lst .ow ((Txt.split a b).map .str)) else none
  | _, _ => none
theorem o2_split {K : PySem.W.Frag} : Op2 K (fun x y H Q => (fun x xs H Q => ∃ a b, x = .str a ∧ xs = [.str b] ∧ (b.length == 0) = false ∧ a.length + 2 ≤ sizeLine ∧ rNewStrs (Txt.split a b) H Q) x [y] H Q) splitD := by
  intro a b d x y B H p q Q e i ra rb nd fb h
  unfold splitD at e
  split at e
  · split at e
    · cases e
      rename_i hz
      have ey := rp_str rb
      subst ey
      exact ⟨_, _, rp_str ra, rfl, hz.1, sz_line hz.2, okO_lst i nd fb (rps_of_strs _) (List.nil_sublist _) h⟩
    · cases e
  · cases e
def stripD : D → D → Option D
  | .str a, .str b => if a.length ≤ 16777216 then some (.str (Txt.stripChars a b)) else none
  | _, _ => none
theorem o2_strip {K : PySem.W.Frag} : Op2 K (fun x y H Q => (fun x xs H Q => ∃ a b, x = .str a ∧ xs = [.str b] ∧ a.length ≤ sizeLine ∧ Q (.str (Txt.stripChars a b)) H) x [y] H Q) stripD := by
  intro a b d x y B H p q Q e i ra rb nd fb h
  unfold stripD at e
  split at e
  · split at e
    · cases e
      rename_i hz
      have ey := rp_str rb
      subst ey
      exact ⟨_, _, rp_str ra, rfl, sz_line hz, okO_str i h⟩
    · cases e
  · cases e
def startsD : D → D → Option D
  | .str a, .str b => some (.bl (Txt.startswith a b))
  | _, _ => none
theorem o2_starts {K : PySem.W.Frag} : Op2 K (fun x y H Q => (fun x xs H Q => ∃ a b, x = .str a ∧ xs = [.str b] ∧ Q (.bl (Txt.startswith a b)) H) x [y] H Q) startsD := by
  intro a b d x y B H p q Q e i ra rb nd fb h
  unfold startsD at e
  split at e
  · cases e
    have ey := rp_str rb
    subst ey
    exact ⟨_, _, rp_str ra, rfl, okO_bl i h⟩
  · cases e
/-! x in y: y a list, a tuple, a text -/
def inXD (neg : Bool) : D → D → Option D
  | .str i, .str j => some (.bl (if neg then !(!(Builtin.Str.occurrences j i 0 j.length 1).isEmpty) else !(Builtin.Str.occurrences j i 0 j.length 1).isEmpty))
  | a, b => inD neg a b
theorem op_inX {X : Cx} : OpR X (compareOp .In) (fun x y H Q => rIn X.K false x y H Q ∨ ∃ i j, x = .str i ∧ y = .str j ∧ Q (.bl (!(Builtin.Str.occurrences j i 0 j.length 1).isEmpty)) H) := op_in_seq.or op_in_str
theorem op_notInX {X : Cx} : OpR X (compareOp .NotIn) (fun x y H Q => rIn X.K true x y H Q ∨ ∃ i j, x = .str i ∧ y = .str j ∧ Q (.bl (!(!(Builtin.Str.occurrences j i 0 j.length 1).isEmpty))) H) := op_notIn_seq.or op_notin_str
theorem o2_inX {K : PySem.W.Frag} : Op2 K (fun x y H Q => rIn K false x y H Q ∨ ∃ i j, x = .str i ∧ y = .str j ∧ Q (.bl (!(Builtin.Str.occurrences j i 0 j.length 1).isEmpty)) H) (inXD false) := by
  intro a b d x y B H p q Q e i ra rb nd fb h
  unfold inXD at e
  split at e
  · cases e
    exact .inr ⟨_, _, rp_str ra, rp_str rb, okO_bl i h⟩
  · exact .inl (o2_in a b d x y B H p q Q e i ra rb nd fb h)
theorem o2_notInX {K : PySem.W.Frag} : Op2 K (fun x y H Q => rIn K true x y H Q ∨ ∃ i j, x = .str i ∧ y = .str j ∧ Q (.bl (!(!(Builtin.Str.occurrences j i 0 j.length 1).isEmpty))) H) (inXD true) := by
  intro a b d x y B H p q Q e i ra rb nd fb h
  unfold inXD at e
  split at e
  · cases e
    exact .inr ⟨_, _, rp_str ra, rp_str rb, okO_bl i h⟩
  · exact .inl (o2_in a b d x y B H p q Q e i ra rb nd fb h)
section
variable {X : Cx} {W : WC} {e o b : Expr} {f g : Env → R D} {apos cpos : Pos}
theorem se_index (ho : PE X o (tF X.K W f)) (ha : PE X e (tF X.K W g)) (hbase : attributeBase o "index" X.env (eval o X.env) = eval o X.env := by rfl)
    (hfew : ((backTo cpos (starEach (e :: []) X.env)).all (fun x => !x.1) && (backToKw cpos (keywordEach [] X.env)).all (fun x => x.1.isSome)
      && decide ((e :: ([] : List Expr)).length + ([] : List Keyword).length + (if ([] : List Keyword).isEmpty then 0 else 1) < 30)) = true := by rfl)
    (hline : (apos.endLine == cpos.line) = true := by rfl) (hs : starEach (e :: []) X.env = (false, eval e X.env) :: starEach [] X.env := by rfl) (hplain : (backTo cpos (starEach [] X.env)).any (·.1) = false := by rfl) :
    PE X (.Call (.Attribute o "index" apos) (e :: []) [] cpos) (tF X.K W (xM D.isL indexD f g)) := se_meth1 PySem.F.plainAttrs_list PySem.F.slot_list_index PySem.F.type_list_index mt_index ty_L o2_index ho ha hbase hfew hline hs hplain
theorem se_join (hc : X.calm = true) (ho : PE X o (tF X.K W f)) (ha : PE X e (tF X.K W g)) (hbase : attributeBase o "join" X.env (eval o X.env) = eval o X.env := by rfl)
    (hfew : ((backTo cpos (starEach (e :: []) X.env)).all (fun x => !x.1) && (backToKw cpos (keywordEach [] X.env)).all (fun x => x.1.isSome)
      && decide ((e :: ([] : List Expr)).length + ([] : List Keyword).length + (if ([] : List Keyword).isEmpty then 0 else 1) < 30)) = true := by rfl)
    (hline : (apos.endLine == cpos.line) = true := by rfl) (hs : starEach (e :: []) X.env = (false, eval e X.env) :: starEach [] X.env := by rfl) (hplain : (backTo cpos (starEach [] X.env)).any (·.1) = false := by rfl) :
    PE X (.Call (.Attribute o "join" apos) (e :: []) [] cpos) (tF X.K W (xM D.isS joinD f g)) := se_meth1 PySem.F.plainAttrs_str PySem.F.slot_str_join PySem.F.type_str_join (MtR.or mt_join (mt_joinS hc)) ty_S o2_join ho ha hbase hfew hline hs hplain
theorem se_split (ho : PE X o (tF X.K W f)) (ha : PE X e (tF X.K W g)) (hbase : attributeBase o "split" X.env (eval o X.env) = eval o X.env := by rfl)
    (hfew : ((backTo cpos (starEach (e :: []) X.env)).all (fun x => !x.1) && (backToKw cpos (keywordEach [] X.env)).all (fun x => x.1.isSome)
      && decide ((e :: ([] : List Expr)).length + ([] : List Keyword).length + (if ([] : List Keyword).isEmpty then 0 else 1) < 30)) = true := by rfl)
    (hline : (apos.endLine == cpos.line) = true := by rfl) (hs : starEach (e :: []) X.env = (false, eval e X.env) :: starEach [] X.env := by rfl) (hplain : (backTo cpos (starEach [] X.env)).any (·.1) = false := by rfl) :
    PE X (.Call (.Attribute o "split" apos) (e :: []) [] cpos) (tF X.K W (xM D.isS splitD f g)) := se_meth1 PySem.F.plainAttrs_str PySem.F.slot_str_split PySem.F.type_str_split mt_split ty_S o2_split ho ha hbase hfew hline hs hplain
theorem se_strip (ho : PE X o (tF X.K W f)) (ha : PE X e (tF X.K W g)) (hbase : attributeBase o "strip" X.env (eval o X.env) = eval o X.env := by rfl)
    (hfew : ((backTo cpos (starEach (e :: []) X.env)).all (fun x => !x.1) && (backToKw cpos (keywordEach [] X.env)).all (fun x => x.1.isSome)
      && decide ((e :: ([] : List Expr)).length + ([] : List Keyword).length + (if ([] : List Keyword).isEmpty then 0 else 1) < 30)) = true := by rfl)
    (hline : (apos.endLine == cpos.line) = true := by rfl) (hs : starEach (e :: []) X.env = (false, eval e X.env) :: starEach [] X.env := by rfl) (hplain : (backTo cpos (starEach [] X.env)).any (·.1) = false := by rfl) :
    PE X (.Call (.Attribute o "strip" apos) (e :: []) [] cpos) (tF X.K W (xM D.isS stripD f g)) := se_meth1 PySem.F.plainAttrs_str PySem.F.slot_str_strip PySem.F.type_str_strip mt_stripChars ty_S o2_strip ho ha hbase hfew hline hs hplain
theorem se_startswith (ho : PE X o (tF X.K W f)) (ha : PE X e (tF X.K W g)) (hbase : attributeBase o "startswith" X.env (eval o X.env) = eval o X.env := by rfl)
    (hfew : ((backTo cpos (starEach (e :: []) X.env)).all (fun x => !x.1) && (backToKw cpos (keywordEach [] X.env)).all (fun x => x.1.isSome)
      && decide ((e :: ([] : List Expr)).length + ([] : List Keyword).length + (if ([] : List Keyword).isEmpty then 0 else 1) < 30)) = true := by rfl)
    (hline : (apos.endLine == cpos.line) = true := by rfl) (hs : starEach (e :: []) X.env = (false, eval e X.env) :: starEach [] X.env := by rfl) (hplain : (backTo cpos (starEach [] X.env)).any (·.1) = false := by rfl) :
    PE X (.Call (.Attribute o "startswith" apos) (e :: []) [] cpos) (tF X.K W (xM D.isS startsD f g)) := se_meth1 PySem.F.plainAttrs_str PySem.F.slot_str_startswith PySem.F.type_str_startswith mt_startswith ty_S o2_starts ho ha hbase hfew hline hs hplain
end
end BC

namespace BC
open PySem PySem.Spec PyProof.Rows L2

/-! ## x += e, lists -/
theorem fillsI_list : fillsInplaceSlot (.type "list") "add" true = pure false := by
  unfold fillsInplaceSlot
  show (typeLookup (.type "list") (dunderI "add") >>= fun fi => pure (fi.isSome && !isSeqSlot fi)) = pure false
  rw [PySem.F.slot_list_iadd.lookup, pure_bind, show isSeqSlot (some (.builtin "list.__iadd__")) = true by decide +kernel]
  rfl
theorem seqI_list : seqSlot? (.type "list") (dunderI "add") = pure (some (.builtin "list.__iadd__")) := PySem.seqSlot_of PySem.F.slot_list_iadd.lookup (by decide +kernel)
def rAugL : TIp := fun x y H Q => ∃ l b xs zs, x = .ref l ∧ y = .ref b ∧ H l = some (.lst xs) ∧ H b = some (.lst zs) ∧ xs.length + zs.length ≤ sizeLine ∧ Q (.ref l) (upd H l (.lst (xs ++ zs)))
theorem ip_augL {X : Cx} : PIp X .Add rAugL := by
  intro pins s σ H x y v u Q I rx ry h
  obtain ⟨l, b, xs, zs, rfl, rfl, hH, hB, hz, q⟩ := h
  cases rx
  cases ry
  obtain ⟨z, its, n, r, hl, e⟩ := I.lstM hH
  obtain ⟨z2, its2, n2, r2, hl2, e2⟩ := I.lstM hB
  have hsz : its.toArray.size + its2.toArray.size ≤ sizeLine := by rw [List.size_toArray, List.size_toArray]; omega
  have hlong : ¬ (!its.toArray.isEmpty && Builtin.List.listTooLong (its.toArray.size + its2.toArray.size)) = true := by
    rw [notLongL hsz, Bool.and_false]
    exact Bool.false_ne_true
  have hT : s.TypeIs (.ref l) "list" := ⟨_, e, rfl⟩
  have hT2 : s.TypeIs (.ref b) "list" := ⟨_, e2, rfl⟩
  unfold inplaceOp
  refine wpAny_holding ?_
  refine wpAny_bind (wpAny_typeOf hT (wpAny_bind (wpAny_of_eq fillsI_list ?_)))
  show wpAny _ X.A (if false = true then _ else _) _ _ _
  rw [if_neg Bool.false_ne_true]
  refine wpAny_bind (wpAny_binaryOp1_none (nm := "add") hT hT2 noFill_list_add ?_)
  refine wpAny_bind (wpAny_of_eq seqI_list ?_)
  refine wpAny_bind (wpAny_rule ?_)
  refine call_meets PySem.F.slot_list_iadd hT PySem.F.entry_list_iadd (PySem.F.args_list_iadd_2 _ _) (AutoSeq1.list___iadd___list_list_0 l its.toArray n b its2.toArray n2 hlong (by rw [List.size_toArray]; omega) (by omega)) ⟨e, e2, ?_⟩
  refine ⟨.ref l, _, I.lset (its' := its ++ its2) hH e (by simp) (r.append r2) ?_, rfl, q⟩
  rw [List.length_append]
  omega
def gAugL (i : Nat) (f : Env → R D) : G := fun env Q => match env[i]? with
  | some (some (.lst .ow xs)) => gEv (f env) env Q fun y => match y with
    | .lst k ys => k ≠ .sc ∧ D.stos ys = true ∧ xs.length + ys.length ≤ 16777216 ∧ Q (.nx (env.set i (some (.lst .ow (xs ++ ys)))))
    | _ => False
  | _ => False
theorem set_self {α : Type} {l : List α} {i : Nat} {a : α} (h : l[i]? = some a) : l.set i a = l := by
  apply List.ext_getElem?
  intro j
  by_cases hj : i = j
  · subst hj
    rw [List.getElem?_set_self (List.getElem?_eq_some_iff.mp h).1, h]
  · rw [List.getElem?_set_ne hj]
section
variable {X : Cx} {W : WC} {e : Expr} {f : Env → R D} {pos : Pos}
theorem ss_augL (i : Nat) {x : Str} {pos' : Pos} (hN : X.N.Nodup) (he : PE X e (tF X.K W f)) (hi : X.N[i]? = some x := by rfl) (hx : Loc X.env.scope x := by first | exact Or.inl rfl | exact Or.inr rfl) (hf : X.fn x = true ∨ X.env.scope.names.lookup x = some .local := by first | exact .inl rfl | exact .inr rfl | assumption) :
    PS X (.AugAssign (.Name x pos') .Add e pos) (tG X.K W (gAugL i f)) := by
  refine psI (ps_aug hN hi hx he ip_augL hf) fun De σ H ⟨Bf, Hf, B0, H0, env, Q, ⟨B, ps, s⟩, h, eo⟩ => ?_
  unfold gAugL at h
  split at h
  · rename_i xs en
    obtain ⟨_, v0, hv0, r0⟩ := s.sl i _ en
    obtain ⟨a0, vs0, qs0, ev0, h0, _, _⟩ := SRb.node (Bf := Bf) (Hf := Hf) (B0 := B0) (H0 := H0) (σ := σ) (env := env) (ps := ps) r0
    subst ev0
    refine ⟨_, hv0, ?_⟩
    refine runE2 (Q := Q) s h (fun c q => eo.rz c env q) fun y w B2 H2 q2 k2 s2 st2 r2 nd2 fr2 => ?_
    cases y with
    | lst kk ys =>
      obtain ⟨hkk, hys, hz, hq⟩ := k2
      obtain ⟨p, vs, qs, ep, hp, rr, nd, sub, K⟩ := s2.at (π := []) en rfl hv0 rfl
      cases ep
      have f2 := s.fresh st2 fr2
      obtain ⟨l, ws, qy, el, hl, suby, ry⟩ := rp_lstX s2.st.i hkk r2
      subst el
      refine ⟨a0, l, vs, ws, rfl, rfl, hp, hl, by rw [rps_len rr, rps_len ry, sizeLine_eq]; exact hz, ?_⟩
      show De.nx (σ.set i (some (.ref a0))) _
      rw [set_self hv0]
      refine eo.nx _ hq σ _ (K (xs ++ ys) (vs ++ ws) (qs ++ qy) ?_ (rps_app rr ry) ?_ fun q hqm => ?_)
      · refine stos_app ?_ hys
        have := stos_of s2 en
        simpa [D.sto] using this
      · exact List.nodup_append.mpr ⟨nd, nd2.sublist suby, fun x hx y hy z => (f2 y (suby.subset hy)).2.2.2 i (z ▸ sub x hx)⟩
      · rcases List.mem_append.mp hqm with z | z
        · exact .inl z
        · exact .inr (f2 q (suby.subset z))
    | _ => exact k2.elim
  · exact h.elim
end
end BC

namespace BC
open PySem PySem.Spec PyProof.Rows L2

/-! ## exceptions -/
/-- what the written part says of an own class of exceptions at C -/
structure ExF (K : PySem.W.Frag) (C : Addr) : Prop where
  q : PySem.W.excIn K C [.type "ValueError", .type "Exception", .type "BaseException", .type "object"] "ValueError.__new__" = true
  kp : PySem.W.keepIn K (.ref C) = true
  c : ExcC K C
  ty : PySem.W.typeIn K (.ref C) = some (.type "type")
def gRaise (x : String) : G := fun env Q => Q (.rz x env)
section
variable {X : Cx} {W : WC} {cl : String → Addr}
theorem ss_raise {x m : Str} {z : String} {j : Nat} {p p2 pos pos2 : Pos} (E : ExF X.K (cl z)) (gC : X.mg x = some (.ref (cl z))) (hc : X.calm = true) (tk : Takes X (wx cl W)) (hg : Gl X x) (hdb : (x == ("__debug__" : Str)) = false := by decide) :
    PS X (.Raise (some (.Call (.Name x p) [.Constant (.str m) j p2] [] pos)) none pos2) (tG X.K W (gRaise z)) :=
  psI (ps_raise hc tk (pmk_own PySem.F.excBase_ValueError E.q gC E.kp (raises_own E.c.hs E.ty) hg hdb)) fun D σ H ⟨Bf, Hf, B0, H0, env, Q, s, h, eo⟩ => ⟨z, rfl, rfl, eo.rz z env h σ H s⟩
/-- what a def lets out -/
theorem takesD {E : XK} {X : Cx} {cl : String → Addr} (t : Takes X (fun cls d _ H => E cls d H)) : Takes X (wx cl (fun c _ H => E (.ref (cl c)) none H)) := t.imp fun cls d σ H ⟨c, e1, e2, h⟩ => by
  subst e1 e2
  exact h
/-- what a try's body lets out -/
theorem takesB {V : WX} (t : Takes X V) : Takes X (wx cl (fun c σ H => V (.ref (cl c)) none σ H)) := t.imp fun cls d σ H ⟨c, e1, e2, h⟩ => by
  subst e1 e2
  exact h
end

/-! ### try: except X: -/
/-- which classes a clause takes -/
abbrev Cat := String → Option Bool
def CatOk (K : PySem.W.Frag) (cl : String → Addr) (cv : Value) (cat : Cat) : Prop := ∀ c b, cat c = some b → PySem.W.exmOne K (.ref (cl c)) cv = some b
/-- nothing is raised -/
def noRz (Q : Ou → Prop) : Ou → Prop
  | .rz _ _ => False
  | .nx e => Q (.nx e)
  | .rt d => Q (.rt d)
  | .bk e => Q (.bk e)
  | .ct e => Q (.ct e)
def gTry (cat : Cat) (g h : G) : G := fun env Q => g env fun o => match o with
  | .rz c e => match cat c with
    | some true => h e (noRz Q)
    | some false => Q (.rz c e)
    | none => False
  | o => Q o
section
variable {X : Cx} {W : WC} {cl : String → Addr} {x : Str} {cv : Value} {body suite : List Stmt} {b₀ : Stmt} {np pos pos' : Pos} {cat : Cat} {g h : G}
theorem ss_try (hs : X.stack = X.env :: X.outer) (hf : X.env.frame = some X.env.locals) (hc : Names X x cv) (hk : CatOk X.K cl cv cat) (tk : Takes X (wx cl W))
    (hb : ∀ (W : WC) (pn : List (Addr × Obj)) (xe : Value → Shared → Prop), Takes (X.tr pn xe) (wx cl W) → PassesOwn (model X.prog X.w) X.A X.env xe → PSs (X.tr pn xe) body (tG X.K W g))
    (hsu : ∀ (a : Addr) (pn : List (Addr × Obj)), PSs (X.suite a pn) (b₀ :: suite) (tG X.K W0 h)) :
    PS X (.Try body [.ExceptHandler (some (.Name x np)) none (b₀ :: suite) pos'] [] [] pos) (tG X.K W (gTry cat g h)) := by
  refine psI (ps_try_only (tb := fun V => tG X.K (fun c σ H => V (.ref (cl c)) none σ H) g) (ts := fun _ _ _ => tG X.K W0 h) (Wout := wx cl W) hs hf hc tk (fun V pn xe t p => hb _ pn xe (takesB t) p) (fun a oe cls d pn _ _ => hsu a _)) fun D σ H ⟨Bf, Hf, B0, H0, env, Q, s, hh, eo⟩ => ?_
  refine ⟨Bf, Hf, B0, H0, env, _, s, hh, ⟨fun e q => eo.nx e q, fun e q => eo.bk e q, fun e q => eo.ct e q, fun d q => eo.rt d q, fun c e q σ' H' s' => ?_⟩⟩
  replace q : match cat c with | some true => h e (noRz Q) | some false => Q (.rz c e) | none => False := q
  cases ec : cat c with
  | none => rw [ec] at q; exact q.elim
  | some b =>
    rw [ec] at q
    refine ⟨b, hk c b ec, fun e1 a na => ?_, fun e1 => ?_⟩
    · subst e1
      exact ⟨Bf, Hf, B0, H0, e, noRz Q, s', q, ⟨eo.nx, eo.bk, eo.ct, eo.rt, fun c e q => q.elim⟩⟩
    · subst e1
      exact ⟨c, rfl, rfl, eo.rz c e q σ' H' s'⟩
end

/-! ### several clauses, else -/
inductive HdsG (X : Cx) (cl : String → Addr) : List ExceptHandler → List (Cat × G) → Prop
  | nil : HdsG X cl [] []
  | cons {x : Str} {cv : Value} {cat : Cat} {h : G} {b₀ : Stmt} {suite : List Stmt} {np pos' : Pos} {hds : List ExceptHandler} {l : List (Cat × G)} (hc : Names X x cv) (hk : CatOk X.K cl cv cat)
      (hsu : ∀ (a : Addr) (pn : List (Addr × Obj)), PSs (X.suite a pn) (b₀ :: suite) (tG X.K W0 h)) (r : HdsG X cl hds l) : HdsG X cl (.ExceptHandler (some (.Name x np)) none (b₀ :: suite) pos' :: hds) ((cat, h) :: l)
/-- by the first clause that takes it -/
def gCatch (Q : Ou → Prop) (c : String) (e : Env) : List (Cat × G) → Prop
  | [] => Q (.rz c e)
  | (cat, h) :: r => match cat c with
    | some true => h e (noRz Q)
    | some false => gCatch Q c e r
    | none => False
def gTryM (g : G) (l : List (Cat × G)) : G := fun env Q => g env fun o => match o with
  | .rz c e => gCatch Q c e l
  | o => Q o
theorem hds_of {X : Cx} {cl : String → Addr} {hds : List ExceptHandler} {l : List (Cat × G)} (hh : HdsG X cl hds l) : ∃ l2 : List (Value × (Addr → Value → Option Addr → TS)), HdsOk X hds l2 ∧ ∀ (W : WC) (Bf Hf B0 H0 : Hp) (D : Ends) (Q : Ou → Prop), EOk X.K W Bf Hf B0 H0 D Q → ∀ c e σ H, SR X.K Bf Hf B0 H0 σ H e → gCatch Q c e l → wMany X.K (wx cl W) D l2 (.ref (cl c)) none σ H := by
  induction hh with
  | nil => exact ⟨[], .nil, fun W Bf Hf B0 H0 D Q eo c e σ H s q => ⟨c, rfl, rfl, eo.rz c e q σ H s⟩⟩
  | @cons x cv cat h b₀ suite np pos' hds l hc hk hsu r ih =>
    obtain ⟨l2, h1, h2⟩ := ih
    refine ⟨(cv, fun _ _ _ => tG X.K W0 h) :: l2, .cons hc (fun a oe cls d pn _ _ => hsu a _) h1, fun W Bf Hf B0 H0 D Q eo c e σ H s q => ?_⟩
    unfold gCatch at q
    cases ec : cat c with
    | none => rw [ec] at q; exact q.elim
    | some b =>
      rw [ec] at q
      refine ⟨b, hk c b ec, fun e1 a na => ?_, fun e1 => ?_⟩
      · subst e1
        exact ⟨Bf, Hf, B0, H0, e, noRz Q, s, q, ⟨eo.nx, eo.bk, eo.ct, eo.rt, fun c e q => q.elim⟩⟩
      · subst e1
        exact h2 W Bf Hf B0 H0 D Q eo c e σ H s q
section
variable {X : Cx} {W : WC} {cl : String → Addr} {x : Str} {cv : Value} {body suite orelse : List Stmt} {b₀ : Stmt} {h₀ : ExceptHandler} {hds : List ExceptHandler} {l : List (Cat × G)} {np pos pos' : Pos} {cat : Cat} {g h k : G}
theorem ss_tryM (hs : X.stack = X.env :: X.outer) (hf : X.env.frame = some X.env.locals) (hh : HdsG X cl (h₀ :: hds) l) (tk : Takes X (wx cl W))
    (hb : ∀ (W : WC) (pn : List (Addr × Obj)) (xe : Value → Shared → Prop), Takes (X.tr pn xe) (wx cl W) → PassesOwn (model X.prog X.w) X.A X.env xe → PSs (X.tr pn xe) body (tG X.K W g)) :
    PS X (.Try body (h₀ :: hds) [] [] pos) (tG X.K W (gTryM g l)) := by
  obtain ⟨l2, h1, h2⟩ := hds_of hh
  refine psI (ps_try_many (tb := fun V => tG X.K (fun c σ H => V (.ref (cl c)) none σ H) g) (Wout := wx cl W) hs hf tk (fun V pn xe t p => hb _ pn xe (takesB t) p) h1) fun D σ H ⟨Bf, Hf, B0, H0, env, Q, s, hh, eo⟩ => ?_
  exact ⟨Bf, Hf, B0, H0, env, _, s, hh, ⟨fun e q => eo.nx e q, fun e q => eo.bk e q, fun e q => eo.ct e q, fun d q => eo.rt d q, fun c e q σ' H' s' => h2 W Bf Hf B0 H0 D Q eo c e σ' H' s' q⟩⟩
/-- try: body except X: suite else: orelse -/
def gTryE (cat : Cat) (g h k : G) : G := fun env Q => g env fun o => match o with
  | .rz c e => match cat c with
    | some true => h e (noRz Q)
    | some false => Q (.rz c e)
    | none => False
  | .nx e => k e Q
  | o => Q o
theorem ss_tryE (ho : PSs X orelse (tG X.K W k)) (hs : X.stack = X.env :: X.outer) (hf : X.env.frame = some X.env.locals) (hc : Names X x cv) (hk : CatOk X.K cl cv cat) (tk : Takes X (wx cl W))
    (hb : ∀ (W : WC) (pn : List (Addr × Obj)) (xe : Value → Shared → Prop), Takes (X.tr pn xe) (wx cl W) → PassesOwn (model X.prog X.w) X.A X.env xe → PSs (X.tr pn xe) body (tG X.K W g))
    (hsu : ∀ (a : Addr) (pn : List (Addr × Obj)), PSs (X.suite a pn) (b₀ :: suite) (tG X.K W0 h)) :
    PS X (.Try body [.ExceptHandler (some (.Name x np)) none (b₀ :: suite) pos'] orelse [] pos) (tG X.K W (gTryE cat g h k)) := by
  refine psI (ps_try_onlyE (tb := fun V => tG X.K (fun c σ H => V (.ref (cl c)) none σ H) g) (ts := fun _ _ _ => tG X.K W0 h) (Wout := wx cl W) ho hs hf hc tk (fun V pn xe t p => hb _ pn xe (takesB t) p) (fun a oe cls d pn _ _ => hsu a _)) fun D σ H ⟨Bf, Hf, B0, H0, env, Q, s, hh, eo⟩ => ?_
  refine ⟨Bf, Hf, B0, H0, env, _, s, hh, ⟨fun e q σ' H' s' => ⟨Bf, Hf, B0, H0, e, Q, s', q, eo⟩, fun e q => eo.bk e q, fun e q => eo.ct e q, fun d q => eo.rt d q, fun c e q σ' H' s' => ?_⟩⟩
  replace q : match cat c with | some true => h e (noRz Q) | some false => Q (.rz c e) | none => False := q
  cases ec : cat c with
  | none => rw [ec] at q; exact q.elim
  | some b =>
    rw [ec] at q
    refine ⟨b, hk c b ec, fun e1 a na => ?_, fun e1 => ?_⟩
    · subst e1
      exact ⟨Bf, Hf, B0, H0, e, noRz Q, s', q, ⟨eo.nx, eo.bk, eo.ct, eo.rt, fun c e q => q.elim⟩⟩
    · subst e1
      exact ⟨c, rfl, rfl, eo.rz c e q σ' H' s'⟩
end
end BC

namespace BC
open PySem PySem.Spec PyProof.Rows L2

/-! ## except X as n: the exception stands in the heap from there on -/
theorem exT_ok {P : Program} {w : World} {H : Hp} {h : Heap} {a C : Addr} {oe : Obj} {vs : Array Value} (e : h.get? a = some oe) (z : Zc (.ref C) none oe) (d : oe.data = .fields vs) : ObjOk P w H h a (ExT C a) :=
  ⟨⟨oe, vs, e, z, d⟩, ⟨oe, e⟩, fun _ _ ⟨o, v, q, r⟩ k => ⟨o, v, k o q, r⟩⟩
section
variable {X : Cx} {pins : List (Addr × Obj)} {σ : L2.St} {H : Hp} {s : Shared}
/-- an untracked object, newer than the def's entry, is tracked -/
theorem track {a C : Addr} {oe : Obj} {vs : Array Value} (I : Inv X pins σ H s) (h0 : X.s_0.heap.get? a = none) (na : H a = none) (he : s.heap.get? a = some oe) (z : Zc (.ref C) none oe) (d : oe.data = .fields vs) (nL : a ≠ X.env.locals) (nC : ∀ v, oe.data ≠ .cell v) (np : ∀ p ∈ X.pn ++ pins, p.1 ≠ a) :
    Inv X pins σ (upd H a (ExT C a)) s where
  ok := I.ok
  os := I.os
  bare := I.bare
  base := {
    keep := I.base.keep
    slot := I.base.slot
    free := fun b o q n hx => by rw [upd_ne (fun z => by rw [z, h0] at q; cases q)]; exact I.base.free b o q n hx
    there := I.base.there
    tups := fun b xs q => by
      have q2 := I.base.tups b xs q
      rw [upd_ne (ne_of_none q2 na)]; exact q2
    frzs := fun b u xs q => by
      have q2 := I.base.frzs b u xs q
      rw [upd_ne (ne_of_none q2 na)]; exact q2
    tbls := fun b ps q => by
      obtain ⟨m, q2⟩ := I.base.tbls b ps q
      exact ⟨m, by rw [upd_ne (ne_of_none q2 na)]; exact q2⟩ }
  loc := I.loc
  cell := I.cell
  free := by rw [upd_ne (Ne.symm nL)]; exact I.free
  freeC := fun x c e => by
    obtain ⟨v, o, e1, e2⟩ := I.cell x c e
    rw [upd_ne (fun q => by subst q; rw [he] at e1; cases e1; exact nC v e2)]
    exact I.freeC x c e
  pin := fun p hp => by
    obtain ⟨e1, e2, e3, e4, e5⟩ := I.pin p hp
    exact ⟨e1, by rw [upd_ne (np p hp)]; exact e2, e3, e4, e5⟩
  hok := HOk.laidN I.hok (fun _ _ q => q) na (exT_ok he z d)
  len := I.len
theorem suiteT (I : Inv X pins σ H s) (a : Addr) : Inv (X.suite a X.pn) pins σ H s :=
  ⟨I.ok.suite a _, I.os, I.bare, I.base, I.loc, I.cell, I.free, I.freeC, I.pin, I.hok, I.len⟩
theorem unsuiteT {a : Addr} (ok : X.Ok) (I : Inv (X.suite a X.pn) pins σ H s) : Inv X pins σ H s :=
  ⟨ok, I.os, I.bare, I.base, I.loc, I.cell, I.free, I.freeC, I.pin, I.hok, I.len⟩
end
/-- what the clause 'except x as n' wishes of an exception of the body: slot i is n's; the exception is tracked -/
def wAsT (K : PySem.W.Frag) (c : Value) (i : Nat) (ts : Addr → TS) (Wout : WX) (D : Ends) : WX := fun cls d σ H =>
  ∃ b, PySem.W.exmOne K cls c = some b ∧ (b = true → ∃ C, cls = .ref C ∧ d = none ∧ ∀ a, H a = none → ts a { nx := fun σ' H' => D.nx (σ'.set i none) H', rt := D.rt, bk := fun σ' H' => D.bk (σ'.set i none) H', ct := fun σ' H' => D.ct (σ'.set i none) H' } (σ.set i (some (.ref a))) (upd H a (ExT C a))) ∧
    (b = false → Wout cls d σ H)
section
variable {X : Cx} {x n : Str} {c : Value} {i : Nat} {body suite : List Stmt} {b₀ : Stmt} {np pos pos' : Pos} {tb : WX → TS} {ts : Addr → TS} {Wout : WX}
theorem ps_try_asT (hs : X.stack = X.env :: X.outer) (hex : X.ex = []) (hf : X.env.frame = some X.env.locals) (hN : X.N.Nodup) (hi : X.N[i]? = some n) (hln : X.env.kindOf n = some .local) (hc : Names X x c) (tk : Takes X Wout)
    (hb : ∀ (W : WX) (pn : List (Addr × Obj)) (xe : Value → Shared → Prop), Takes (X.tr pn xe) W → PassesOwn (model X.prog X.w) X.A X.env xe → PSs (X.tr pn xe) body (tb W))
    (hsu : ∀ (a : Addr), PSs (X.suite a X.pn) (b₀ :: suite) (ts a)) :
    PS X (.Try body [.ExceptHandler (some (.Name x np)) (some n) (b₀ :: suite) pos'] [] [] pos) (fun D σ H => tb (wAsT X.K c i ts Wout D) D σ H) := by
  refine ⟨fun pins s σ H D I h => ?_⟩
  have ok := I.ok
  have hfr : X.A.frames = some (X.env :: X.outer) := by rw [ok.frames, hs]
  have hloc : Loc X.env.scope n := .inl hln
  refine wpAny_Try_except ?_
  refine wpAny_mono ((hb (wAsT X.K c i ts Wout D) (X.pn ++ pins) (fun e s₁ => wpAny (model X.prog X.w) X.A (noteFrame e X.env) (fun _ s₂ => wpAny (model X.prog X.w) X.A (setFlight e none) (fun _ s₃ =>
    wpAny (model X.prog X.w) X.A (handleBy e X.env [.ExceptHandler (some (.Name x np)) (some n) (b₀ :: suite) pos']) (SP X pins D) X.xe s₃) X.xe s₂) X.xe s₁) (fun u s' xx => ?_) PassesOwn.looking).run [] s σ H D (I.toTry _) h) (fun f s1 hsp => ?_) (fun e s1 he => he)
  · obtain ⟨a, B, sI, pins', σ', H', cls, d, rfl, J', nb, up, sky, na, os, ag, b, hb1, hyes, hno⟩ := xx
    have J : Inv X pins σ' H' sI := J'.ofTry ok
    have sky' : Sky B (X.env :: X.outer) a (Zc cls d) X.env.locals s'.heap := by rw [← hs]; exact sky
    show wpAny (model X.prog X.w) X.A (noteFrame (.ref a) X.env) _ _ _
    refine Sky.land Zc.steady hfr hf sky' fun h3 fl3 up3 => ?_
    have J3 : Inv X pins σ' H' { s' with heap := h3 } := J.landed nb fl3.1 (up.trans up3) os ag
    obtain ⟨oe3, vs3, he3, hz3, hd3⟩ := fl3.there
    have notFr : ∀ {h : Heap} {o : Obj} {vs : Array Value}, h.FunFrames B (X.env :: X.outer) → h.get? a = some o → o.data = .fields vs → a ∉ frs (X.env :: X.outer) := fun {h o vs} ff e dd hm => by
      obtain ⟨_, o', e', hnf⟩ := ff.mem hm
      rw [e] at e'; cases e'
      exact hnf _ dd
    have nfr := notFr fl3.2.2.1 he3 hd3
    have nL : a ≠ X.env.locals := fun z => nfr (List.mem_filterMap.mpr ⟨X.env, List.mem_cons_self, by rw [hf, z]⟩)
    have nF : a ∉ X.fs := fun hm => by
      obtain ⟨e, he, q⟩ := List.mem_filterMap.mp hm
      exact nfr (List.mem_filterMap.mpr ⟨e, List.mem_cons_of_mem _ he, q⟩)
    have nst : a ∉ frs X.stack := by rw [hs]; exact nfr
    have hBa : B.get? a = none := fl3.2.1
    have nold : ∀ o, sI.heap.get? a ≠ some o := fun o e => by
      have := nb a o e nst
      rw [hBa] at this; cases this
    have h0 : X.s_0.heap.get? a = none := by
      cases e : X.s_0.heap.get? a with
      | none => rfl
      | some o =>
        obtain ⟨o', e1⟩ := J.base.there a o e (by rw [hex]; simp)
        exact absurd e1 (nold o')
    have npin : ∀ p ∈ X.pn ++ pins, p.1 ≠ a := fun p hp z => by
      have := (J.pin p hp).1
      rw [z] at this
      exact nold _ this
    have S3 := J3.suite he3 hd3 na nL nF
    refine wpAny_handleBy_cons (codeAny_handlers_test ?_) (by intro q; cases q)
    have LT : PySem.W.Looks (model X.prog X.w) h3 (typeOf (.ref a)) cls := fun A Q E s k q => wpAny_typeOf_ref (k _ _ he3) (by rw [hz3.1]; exact q)
    have LM := PySem.W.exm_one (M := model X.prog X.w) (J3.kIn) LT hb1
    have test : ∀ {Q : Value → Shared → Prop} {E : Value → Shared → Prop}, Q c { s' with heap := h3 } → wpAny (model X.prog X.w) (X.A.mark (some (.ref a))) (eval (.Name x np) X.env) Q E { s' with heap := h3 } := fun {Q E} q => by
      obtain ⟨hg, hdbg, hm | ⟨hm, hv, hnn⟩⟩ := hc
      · exact ld_glob (X := X.suite a ((a, oe3) :: (X.pn ++ pins))) S3 hg hm q hdbg
      · exact ld_blt (X := X.suite a ((a, oe3) :: (X.pn ++ pins))) S3 hg hm hv q hnn hdbg
    refine test (LM.here ?_)
    cases b with
    | true =>
      refine codeAny_handlers_suite_as ?_
      refine HandSPX.lands_againZ fl3 fun h4 fl4 up4 => ?_
      have J4 : Inv X pins σ' H' { s' with heap := h4 } := J.landed nb fl4.1 ((up.trans up3).trans up4) os ag
      obtain ⟨oe4, vs4, he4, hz4, hd4⟩ := fl4.there
      obtain ⟨C, rfl, rfl, hy⟩ := hyes rfl
      have J5 := track (s := { s' with heap := h4 }) J4 h0 na he4 hz4 hd4 nL (fun v z => by rw [hd4] at z; cases z) npin
      have S4 := suiteT J5 a
      refine store_ok (X := X.suite a X.pn) (v := .ref a) S4 hN hi hloc rfl (fun s5 S5 => ?_) (.inr hln)
      refine wpAny_mono ((hsu a).run pins s5 _ _ _ S5 (hy a na)) (fun f s6 hsp => ?_) (fun _ _ z => False.elim z)
      have end_ : ∀ {σ6 : L2.St} {H6 : Hp} {Q : Shared → Prop}, Inv (X.suite a X.pn) pins σ6 H6 s6 → (∀ s7, Inv X pins (σ6.set i none) H6 s7 → Q s7) →
          wpAny (model X.prog X.w) X.A (do bindName X.env n .none; unbindBehindTheSuite X.env n pos') (fun _ s7 => Q s7) X.xe s6 := fun {σ6 H6 Q} S6 hq => gone_ok (unsuiteT ok S6) hN hi hln hq
      cases f with
      | next =>
        obtain ⟨σ6, H6, S6, q6⟩ := hsp
        exact end_ S6 fun s7 J7 => ⟨_, _, J7, q6⟩
      | brk =>
        obtain ⟨σ6, H6, S6, q6⟩ := hsp
        exact end_ S6 fun s7 J7 => ⟨_, _, J7, q6⟩
      | cont =>
        obtain ⟨σ6, H6, S6, q6⟩ := hsp
        exact end_ S6 fun s7 J7 => ⟨_, _, J7, q6⟩
      | ret u =>
        obtain ⟨v6, σ6, H6, S6, r6, q6⟩ := hsp
        exact end_ S6 fun s7 J7 => ⟨_, _, _, J7, r6, q6⟩
    | false =>
      show wpAny _ X.A (handleBy (.ref a) X.env []) _ _ _
      refine wpAny_handleBy_nil ?_
      obtain ⟨k1, k2, k3, oe, vs, T, oT, ts', he, hz, hd, h1, hr⟩ := id fl3
      unfold PySem.passOn
      refine wpAny_bind (wpAny_field he hd h1 ?_)
      rw [if_neg (show ¬ ((Value.ref T == Value.none) = true) from by simp)]
      have fin : wpAny (model X.prog X.w) X.A (setFlight (.ref a) X.env.frame) (fun _ s4 => wpAny (model X.prog X.w) X.A (throw (.ref a) : Sem Flow) (SP X pins D) X.xe s4) X.xe { s' with heap := h3 } := by
        rw [hf]
        refine HandSPX.setFlight_upZ fl3 fun h4 hh4 up4 => wpAny_throw (tk _ _ ?_)
        exact ⟨a, B, sI, pins, σ', H', cls, d, rfl, J, nb, (up.trans up3).trans up4, .inr (.inr (by rw [hs]; exact hh4)), na, os, ag, hno rfl⟩
      first
        | exact wpAny_bind (wpAny_pure (wpAny_bind fin))
        | exact wpAny_bind fin
  · cases f with
    | next =>
      obtain ⟨σ', H', J', q⟩ := hsp
      exact wpAny_execs_nil ⟨σ', H', J'.ofTry ok, q⟩
    | brk =>
      obtain ⟨σ', H', J', q⟩ := hsp
      exact ⟨σ', H', J'.ofTry ok, q⟩
    | cont =>
      obtain ⟨σ', H', J', q⟩ := hsp
      exact ⟨σ', H', J'.ofTry ok, q⟩
    | ret u =>
      obtain ⟨v, σ', H', J', r, q⟩ := hsp
      exact ⟨v, σ', H', J'.ofTry ok, r, q⟩
end
/-- what stands behind a suite, the name gone -/
def gGone (i : Nat) (Q : Ou → Prop) : Ou → Prop
  | .rz _ _ => False
  | .nx e => Q (.nx (e.set i none))
  | .rt d => Q (.rt d)
  | .bk e => Q (.bk (e.set i none))
  | .ct e => Q (.ct (e.set i none))
def gTryAs (cl : String → Addr) (cat : Cat) (i : Nat) (g h : G) : G := fun env Q => g env fun o => match o with
  | .rz c e => match cat c with
    | some true => h (e.set i (some (.exc c (cl c)))) (gGone i Q)
    | some false => Q (.rz c e)
    | none => False
  | o => Q o
section
variable {K : PySem.W.Frag} {Bf Hf B0 H0 B H : Hp} {σ : L2.St} {env : Env} {ps : Nat → List Addr}
theorem SRb.same' {H' : Hp} (s : SRb K Bf Hf B0 H0 σ H env B ps) (t : Same H H') : SRb K Bf Hf B0 H0 σ H' env B ps := s.same t
theorem SRb.unset (s : SRb K Bf Hf B0 H0 σ H env B ps) (i : Nat) : SRb K Bf Hf B0 H0 (σ.set i none) H (env.set i none) B ps where
  fb := s.fb
  fh := s.fh
  st := s.st
  len := by simp [s.len]
  sl := fun j d e => by
    by_cases h : i = j
    · subst h
      have hj : i < env.length := by
        have := (List.getElem?_eq_some_iff.mp e).1
        simpa using this
      rw [List.getElem?_set_self hj] at e
      cases e
    · rw [List.getElem?_set_ne h] at e
      obtain ⟨h0, w, h1, h2⟩ := s.sl j d e
      exact ⟨h0, w, by rw [List.getElem?_set_ne h]; exact h1, h2⟩
  nd := s.nd
  dj := s.dj
  ow := s.ow
end
section
variable {X : Cx} {W : WC} {cl : String → Addr} {x n : Str} {cv : Value} {body suite : List Stmt} {b₀ : Stmt} {np pos pos' : Pos} {cat : Cat} {g h : G}
theorem ss_tryAs (i : Nat) (hs : X.stack = X.env :: X.outer) (hex : X.ex = []) (hf : X.env.frame = some X.env.locals) (hN : X.N.Nodup) (hc : Names X x cv) (hk : CatOk X.K cl cv cat) (tk : Takes X (wx cl W))
    (hb : ∀ (W : WC) (pn : List (Addr × Obj)) (xe : Value → Shared → Prop), Takes (X.tr pn xe) (wx cl W) → PassesOwn (model X.prog X.w) X.A X.env xe → PSs (X.tr pn xe) body (tG X.K W g))
    (hsu : ∀ (a : Addr) (pn : List (Addr × Obj)), PSs (X.suite a pn) (b₀ :: suite) (tG X.K W0 h)) (hi : X.N[i]? = some n := by rfl) (hln : X.env.kindOf n = some .local := by rfl) :
    PS X (.Try body [.ExceptHandler (some (.Name x np)) (some n) (b₀ :: suite) pos'] [] [] pos) (tG X.K W (gTryAs cl cat i g h)) := by
  refine psI (ps_try_asT (tb := fun V => tG X.K (fun c σ H => V (.ref (cl c)) none σ H) g) (ts := fun _ => tG X.K W0 h) (Wout := wx cl W) hs hex hf hN hi hln hc tk (fun V pn xe t p => hb _ pn xe (takesB t) p) (fun a => hsu a _)) fun D σ H ⟨Bf, Hf, B0, H0, env, Q, s, hh, eo⟩ => ?_
  refine ⟨Bf, Hf, B0, H0, env, _, s, hh, ⟨fun e q => eo.nx e q, fun e q => eo.bk e q, fun e q => eo.ct e q, fun d q => eo.rt d q, fun c e q σ' H' s' => ?_⟩⟩
  replace q : match cat c with | some true => h (e.set i (some (.exc c (cl c)))) (gGone i Q) | some false => Q (.rz c e) | none => False := q
  cases ec : cat c with
  | none => rw [ec] at q; exact q.elim
  | some b =>
    rw [ec] at q
    refine ⟨b, hk c b ec, fun e1 => ⟨cl c, rfl, rfl, fun a na => ?_⟩, fun e1 => ?_⟩
    · subst e1
      obtain ⟨B, ps, s1⟩ := s'
      have s2 := s1.same (same_upd (o := ExT (cl c) a) na)
      have s3 := s2.set (j := i) (d := .exc c (cl c)) (v := .ref a) (qs := []) rfl (by unfold Rp; exact ⟨a, rfl, upd_same, rfl⟩) .nil (by intro q hq; cases hq)
      have gone : ∀ {σ7 H7 e7}, SR X.K Bf Hf B0 H0 σ7 H7 e7 → SR X.K Bf Hf B0 H0 (σ7.set i none) H7 (e7.set i none) := fun ⟨B7, ps7, s7⟩ => ⟨B7, ps7, s7.unset i⟩
      exact ⟨Bf, Hf, B0, H0, _, gGone i Q, ⟨B, _, s3⟩, q, ⟨fun e q σ H s => eo.nx _ q _ H (gone s), fun e q σ H s => eo.bk _ q _ H (gone s), fun e q σ H s => eo.ct _ q _ H (gone s), eo.rt, fun c e q => q.elim⟩⟩
    · subst e1
      exact ⟨c, rfl, rfl, eo.rz c e q σ' H' s'⟩
end
end BC

namespace BC
open PySem PySem.Spec PyProof.Rows L2

/-! ## isinstance of a kept exception, or of None -/
structure IsF (K : PySem.W.Frag) (cl : String → Addr) (us : List Value) (tab : Cat) : Prop where
  exc : ∀ c b, tab c = some b → ExcC K (cl c) ∧ PySem.W.kitAny K (.ref (cl c)) us = some b
  non : PySem.W.kitAny K (.type "NoneType") us = some false
structure IsF1 (K : PySem.W.Frag) (cl : String → Addr) (u : Value) (tab : Cat) : Prop where
  exc : ∀ c b, tab c = some b → ExcC K (cl c) ∧ PySem.W.kitOne K (.ref (cl c)) u = some b
  non : PySem.W.kitOne K (.type "NoneType") u = some false
def isiXD (cl : String → Addr) (tab : Cat) : D → Option D
  | .exc c C => if C = cl c then (tab c).map .bl else none
  | .non => some (.bl false)
  | _ => none
def rIsX (K : PySem.W.Frag) : List V → Hp → VK → Prop := fun xs H Q => ∃ (a C : Addr) (c : V) (u : Value) (b : Bool), xs = [.ref a, c] ∧ H a = some (ExT C a) ∧ ExcC K C ∧ ClsV c u ∧ PySem.W.kitOne K (.ref C) u = some b ∧ Q (.bl b) H
def rIsXT (K : PySem.W.Frag) : List V → Hp → VK → Prop := fun xs H Q => ∃ (a C tp : Addr) (cs : List V) (us : List Value) (b : Bool), xs = [.ref a, .ref tp] ∧ H a = some (ExT C a) ∧ ExcC K C ∧ H tp = some (.tup cs) ∧ Paired ClsV cs us ∧ PySem.W.kitAny K (.ref C) us = some b ∧ Q (.bl b) H
section
variable {X : Cx}
theorem exT_at {pins : List (Addr × Obj)} {σ : L2.St} {H : Hp} {s : Shared} {a C : Addr} (I : Inv X pins σ H s) (e : H a = some (ExT C a)) : ∃ oe, PySem.W.InstAt s.heap a oe C none := by
  obtain ⟨⟨oe, vs, h1, ⟨h2, h3⟩, h4⟩, _, _⟩ := I.hok a _ e
  obtain ⟨oc, od, oda, osl⟩ := oe
  dsimp only at h2 h3 h4
  subst h2 h3 h4
  exact ⟨_, h1, rfl, rfl, trivial⟩
theorem call_isX : CallR X (.builtin "isinstance") (rIsX X.K) := by
  intro pins s σ H xs us Q I r h
  obtain ⟨a, C, c, u, b, rfl, ea, EC, k, e, q⟩ := h
  obtain ⟨u1, u2, rfl, r1, r2⟩ := vals2 r
  cases (show u1 = Value.ref a from r1)
  have e2 := k.eq r2
  subst e2
  obtain ⟨oe, J⟩ := exT_at I ea
  exact PySem.W.kia_one (PySem.W.handS_kitx_exc EC.hg EC.hk EC.hs EC.hd EC.ha EC.hn EC.ht EC.hm) I.kIn J e (fun z => nomatch z) fun tk => ⟨.bl b, H, I.tok tk, rfl, q⟩
theorem call_isXT : CallR X (.builtin "isinstance") (rIsXT X.K) := by
  intro pins s σ H xs us Q I r h
  obtain ⟨a, C, tp, cs, ws, b, rfl, ea, EC, hT, k, e, q⟩ := h
  obtain ⟨u1, u2, rfl, r1, r2⟩ := vals2 r
  cases (show u1 = Value.ref a from r1)
  cases (show u2 = Value.ref tp from r2)
  obtain ⟨oe, J⟩ := exT_at I ea
  obtain ⟨_, its, rv, o, h1, h2, n, h3⟩ := (show ObjOk X.prog X.w H s.heap tp (.tup cs) from I.hok tp _ hT)
  have e3 := ClsV.all k rv
  subst e3
  obtain ⟨oc, od, dt, sl⟩ := o
  simp only at h2 h3
  subst h2 h3
  exact PySem.W.kia_tup (PySem.W.handS_kitx_exc EC.hg EC.hk EC.hs EC.hd EC.ha EC.hn EC.ht EC.hm) I.kIn J h1 e (fun z => nomatch z) fun tk => ⟨.bl b, H, I.tok tk, rfl, q⟩
/-- the classes that are named -/
def tCl (cs : List V) : TA := fun _ H Q => Q cs H
inductive ClE (X : Cx) : List Expr → List V → List Value → Prop
  | nil : ClE X [] [] []
  | cons {e : Expr} {es : List Expr} {c : V} {cs : List V} {u : Value} {us : List Value} (h : PE X e (tC c)) (k : ClsV c u) (hs : starEach (e :: es) X.env = (false, eval e X.env) :: starEach es X.env) (r : ClE X es cs us) : ClE X (e :: es) (c :: cs) (u :: us)
theorem ClE.pa {es : List Expr} {cs : List V} {us : List Value} (h : ClE X es cs us) : PA X es (tCl cs) := by
  induction h with
  | nil => exact pa_nil
  | @cons e es c cs u us h k hs r ih => exact paI (pa_cons h ih hs) fun σ H Q q => q
theorem ClE.cls {es : List Expr} {cs : List V} {us : List Value} (h : ClE X es cs us) : Paired ClsV cs us := by
  induction h with
  | nil => exact .nil
  | cons h k hs r ih => exact .cons k ih
theorem ClE.len {es : List Expr} {cs : List V} {us : List Value} (h : ClE X es cs us) : cs.length = es.length := by
  induction h with
  | nil => rfl
  | cons h k hs r ih => simp [ih]
theorem ce_own {y : Str} {C : Addr} {p : Pos} (hg : Gl X y) (hm : X.mg y = some (.ref C)) (hd : (y == ("__debug__" : Str)) = false := by decide) : PE X (.Name y p) (tC (.ref C)) := pe_glob (v := .ref C) hg hm rfl hd
theorem ce_ty {y : Str} {n : String} {p : Pos} (hg : Gl X y) (hm : X.mg y = none) (hv : bootBuiltins y = some (.type n)) (hn : y ≠ "__name__" := by decide) (hdb : (y == ("__debug__" : Str)) = false := by decide) : PE X (.Name y p) (tC (.ty n)) := pe_bltn (v := .ty n) hg hm hv rfl hn hdb
end
section
variable {X : Cx} {W : WC} {cl : String → Addr} {a e2 : Expr} {es : List Expr} {f : Env → R D} {tab : Cat} {c : V} {cs : List V} {u : Value} {us : List Value} {x : Str} {p p2 pos : Pos} {kk : Nat}
theorem se_isX (hx : x = "isinstance") (hg : Gl X x) (hm : X.mg x = none) (hv : bootBuiltins x = some (.builtin "isinstance")) (hF : IsF1 X.K cl u tab) (ha : PE X a (tF X.K W f)) (h2 : PE X e2 (tC c)) (hc : ClsV c u)
    (hn : x ≠ "__name__" := by decide) (hdb : (x == ("__debug__" : Str)) = false := by decide)
    (he1 : starEach [a, e2] X.env = (false, eval a X.env) :: starEach [e2] X.env := by rfl) (he2 : starEach [e2] X.env = (false, eval e2 X.env) :: starEach [] X.env := by rfl)
    (hpl : (backTo pos (starEach [e2] X.env)).any (·.1) = false := by rfl) : PE X (.Call (.Name x p) [a, e2] [] pos) (tF X.K W (x1 (isiXD cl tab) f)) := by
  refine peI (pe_callB (call_isX.or call_isi) hg hm hv (pa_cons ha (pa_cons h2 pa_nil he2) he1) hn hdb he1 hpl) fun σ H Q ⟨env, B, i, s, h⟩ => ?_
  refine seqE (P := Pst X.K W B H σ Q) i s h (fun c z => z) (fun z => z) fun d v B1 H1 q e1 h1 st1 r nd fr => ?_
  obtain ⟨d2, ed, hd⟩ := of_ok h1
  show rIsX X.K [v, c] H1 Q ∨ rIsi X.K [v, c] H1 Q
  unfold isiXD at ed
  split at ed
  · rename_i c0 C
    split at ed
    · rename_i hC
      rw [Option.map_eq_some_iff] at ed
      obtain ⟨b, h3, h4⟩ := ed
      subst h4 hC
      obtain ⟨a0, ev, ea, _⟩ := r
      subst ev
      obtain ⟨k1, k2⟩ := hF.exc c0 b h3
      exact .inl ⟨a0, _, c, u, b, rfl, ea, k1, hc, k2, okE_bl st1 hd⟩
    · cases ed
  · cases ed
    rw [r.1]
    exact .inr ⟨.non, c, .type "NoneType", u, false, rfl, hc, .base .non, hF.non, okE_bl st1 hd⟩
  · cases ed
theorem se_isXT (hx : x = "isinstance") (hg : Gl X x) (hm : X.mg x = none) (hv : bootBuiltins x = some (.builtin "isinstance")) (hF : IsF X.K cl us tab) (ha : PE X a (tF X.K W f)) (h2 : ClE X es cs us) (hlen : es.length ≤ 16777216)
    (hn : x ≠ "__name__" := by decide) (hdb : (x == ("__debug__" : Str)) = false := by decide)
    (he1 : starEach [a, .Tuple es kk p2] X.env = (false, eval a X.env) :: starEach [.Tuple es kk p2] X.env := by rfl) (he2 : starEach [.Tuple es kk p2] X.env = (false, eval (.Tuple es kk p2) X.env) :: starEach [] X.env := by rfl)
    (hpl : (backTo pos (starEach [.Tuple es kk p2] X.env)).any (·.1) = false := by rfl) : PE X (.Call (.Name x p) [a, .Tuple es kk p2] [] pos) (tF X.K W (x1 (isiXD cl tab) f)) := by
  refine peI (pe_callB (call_isXT.or call_isiT) hg hm hv (pa_cons ha (pa_cons (pe_tup h2.pa) pa_nil he2) he1) hn hdb he1 hpl) fun σ H Q ⟨env, B, i, s, h⟩ => ?_
  refine seqE (P := Pst X.K W B H σ Q) i s h (fun c z => z) (fun z => z) fun d v B1 H1 q e1 h1 st1 r nd fr => ?_
  obtain ⟨d2, ed, hd⟩ := of_ok h1
  refine ⟨by rw [h2.len]; exact sz_line hlen, fun tp htp => ?_⟩
  have st2 := step_new (o := .tup cs) st1.i htp
  show rIsXT X.K [v, .ref tp] (upd H1 tp (.tup cs)) Q ∨ rIsiT X.K [v, .ref tp] (upd H1 tp (.tup cs)) Q
  unfold isiXD at ed
  split at ed
  · rename_i c0 C
    split at ed
    · rename_i hC
      rw [Option.map_eq_some_iff] at ed
      obtain ⟨b, h3, h4⟩ := ed
      subst h4 hC
      obtain ⟨a0, ev, ea, _⟩ := r
      subst ev
      obtain ⟨k1, k2⟩ := hF.exc c0 b h3
      exact .inl ⟨a0, _, tp, cs, us, b, rfl, st2.h _ _ ea, k1, upd_same, h2.cls, k2, okE_bl (st1.trans st2) hd⟩
    · cases ed
  · cases ed
    rw [r.1]
    exact .inr ⟨.non, tp, cs, .type "NoneType", us, false, rfl, upd_same, h2.cls, .base .non, hF.non, okE_bl (st1.trans st2) hd⟩
  · cases ed
end

/-! ## a def's contract -/
def Out (r : R D) : Ou → Prop
  | .nx _ => r = .ok .non
  | .rt d => r = .ok d
  | .rz c _ => r = .er c
  | .bk _ => False
  | .ct _ => False
def env0 (N : List Str) (ds : List D) : Env := ds.map some ++ List.replicate (N.length - ds.length) none
theorem rps_get2 {K : PySem.W.Frag} {B H : Hp} : ∀ {ds : List D} {vs : List V} {i : Nat} {d : D}, Rps K B H ds vs [] → ds[i]? = some d → ∃ v, vs[i]? = some v ∧ Rp K B H d v [] := fun r e => rps_get r e
theorem okD {P : Program} {w : World} {K : PySem.W.Frag} {mg : Str → Option Value} {base : Heap} {cl : String → Addr} {x qual : Str} {st : Stmt} {f : Addr} {fd : FuncData} {N ps : List Str} {k n : Nat} {m : List D → R D} {g : G} (F : Fun K x qual st f fd) (S : FnScope N ps (defScope st)) (hn : n = ps.length) (hN : ps.length ≤ N.length)
    (hm : ∀ ds, ds.length = n → D.stos ds = true → m ds ≠ .no → g (env0 N ds) (Out (m ds)))
    (hd : ∀ (cdv : Value) (A : Around) (outer : List PySem.Env) (s : Shared) (H : Hp) (E : XK), Room k (A.deeper (envOfC qual (defScope st) s.heap.objs.size f cdv)) →
      PSs (cxOf (L2.CX P w) P w K mg base N qual (defScope st) f cdv A outer s H E) (defBody st) (tG K (fun c _ H => E (.ref (cl c)) none H) g)) : FnOk P w K mg base (L2.CX P w) (k + 1) f fd ps (Ctr K cl n m) := by
  subst hn
  refine F.okX S (fun vs H Q E h => ?_) (fun cdv A outer s H vs Q E hr h => ⟨_, hd cdv A outer s H E hr, ?_⟩)
  · obtain ⟨B, ds, _, _, _, e, _⟩ := h
    exact e
  · obtain ⟨B, ds, i, r, hs, hl, q⟩ := h
    have hl2 : ds.length = ps.length := by rw [← rps_len r]; exact hl
    have hno : m ds ≠ .no := fun z => by rw [z] at q; exact q.elim
    refine ⟨B, H, B, H, env0 N ds, Out (m ds), ⟨B, fun _ => [], ⟨.refl _, .refl _, .refl i, ?_, fun j d e => ?_, fun _ => .nil, fun _ _ p hp => by (cases hp), fun _ p hp => by (cases hp)⟩⟩, hm ds hl2 hs hno, ?_⟩
    · unfold L2.start env0
      simp [hl, hl2]
    · unfold env0 at e
      by_cases hj : j < ds.length
      · rw [List.getElem?_append_left (by simpa using hj), List.getElem?_map, Option.map_eq_some_iff] at e
        obtain ⟨d', e1, e2⟩ := e
        cases e2
        obtain ⟨v, h1, h2⟩ := rps_get r e1
        refine ⟨stos_at hs e1, v, ?_, h2⟩
        unfold L2.start
        rw [List.getElem?_append_left (by rw [List.length_map]; exact (List.getElem?_eq_some_iff.mp h1).1), List.getElem?_map, h1]
        rfl
      · rw [List.getElem?_append_right (by simpa using hj)] at e
        rw [List.getElem?_replicate] at e
        split at e <;> cases e
    · have rt : ∀ d, m ds = .ok d → ∀ v H', RetOk K B H H' d v → Q v H' := fun d e v H' ⟨B', qs, st, rp, nd, fr⟩ => by
        rw [e] at q
        exact q v B' H' qs st rp nd fr
      refine ⟨fun e z σ H' s' => ?_, fun e z => z.elim, fun e z => z.elim, fun d z v H' r => rt d z v H' r, fun c e z σ H' s' => ?_⟩
      · obtain ⟨B', ps', s'⟩ := s'
        exact rt .non z .non H' ⟨B', [], s'.st, by unfold Rp; exact ⟨rfl, rfl⟩, .nil, by intro q hq; cases hq⟩
      · replace z : m ds = .er c := z
        obtain ⟨B', ps', s'⟩ := s'
        rw [z] at q
        exact q H' s'.st.h
theorem stos_ints (ns : List Int) : D.stos (ns.map D.int) = true := by
  induction ns with
  | nil => rfl
  | cons n ns ih => simp [D.stos, D.sto, ih]
/-- the law's own contract at a script -/
theorem ctr_law {K : PySem.W.Frag} {cl : String → Addr} {m : List D → R D} {H : Hp} {a : Addr} {ns : List Int} (hS : SqL K H a (ns.map V.int)) (h : m [.lst .sc (ns.map .int)] = .ok (.bl true)) : Ctr K cl 1 m [.ref a] H (fun v _ => v = .bl true) fun _ _ _ => False := by
  refine ⟨H, [.lst .sc (ns.map .int)], .refl _, ?_, ?_, rfl, ?_⟩
  · unfold Rps
    refine ⟨.ref a, [], [], [], rfl, rfl, ?_, ⟨rfl, rfl⟩⟩
    unfold Rp
    exact ⟨a, _, [], rfl, hS, ⟨rfl, rfl⟩, rps_of_ints ns⟩
  · simp [D.stos, D.sto, stos_ints ns]
  · rw [h]
    exact fun v B' H' qs st r nd fr => r.1
end BC

namespace BC
open PySem PySem.Spec PyProof.Rows L2

/-! ## lists of encoded things -/
def encL {α : Type} (f : α → D) (xs : List α) : List D := xs.map f
abbrev iL (k : Kd) (xs : List Int) : D := .lst k (encL .int xs)
abbrev sL (k : Kd) (xs : List Str) : D := .lst k (encL .str xs)
abbrev iLL (k k' : Kd) (xs : List (List Int)) : D := .lst k (encL (iL k') xs)
/-- pairs -/
def eP {α β : Type} (f : α → D) (g : β → D) : α × β → D := fun p => .tup [f p.1, g p.2]
def eZ {α : Type} (f : α → D) : α × Nat → D := fun p => .tup [.int (p.2 : Int), f p.1]
section
variable {α β : Type} {f : α → D} {g : β → D}
theorem encL_nil : encL f [] = [] := rfl
theorem encL_cons (a : α) (as : List α) : encL f (a :: as) = f a :: encL f as := rfl
@[simp] theorem encL_length (xs : List α) : (encL f xs).length = xs.length := List.length_map ..
@[simp] theorem encL_append (xs ys : List α) : encL f xs ++ encL f ys = encL f (xs ++ ys) := (List.map_append ..).symm
@[simp] theorem encL_snoc (xs : List α) (a : α) : encL f xs ++ [f a] = encL f (xs ++ [a]) := encL_append xs [a]
@[simp] theorem enc_ac1 (xs ys : List α) (a : α) : encL f xs ++ f a :: encL f ys = encL f (xs ++ a :: ys) := by unfold encL; simp
@[simp] theorem enc_ac2 (xs ys : List α) (a b : α) : encL f xs ++ f a :: f b :: encL f ys = encL f (xs ++ a :: b :: ys) := by unfold encL; simp
@[simp] theorem enc_ac3 (xs ys : List α) (a b c : α) : encL f xs ++ f a :: f b :: f c :: encL f ys = encL f (xs ++ a :: b :: c :: ys) := by unfold encL; simp
@[simp] theorem enc_an2 (xs : List α) (a b : α) : encL f xs ++ [f a, f b] = encL f (xs ++ [a, b]) := by unfold encL; simp
@[simp] theorem enc_an3 (xs : List α) (a b c : α) : encL f xs ++ [f a, f b, f c] = encL f (xs ++ [a, b, c]) := by unfold encL; simp
@[simp] theorem encL_reverse (xs : List α) : (encL f xs).reverse = encL f xs.reverse := (List.map_reverse ..).symm
@[simp] theorem encL_take (xs : List α) (n : Nat) : (encL f xs).take n = encL f (xs.take n) := (List.map_take ..).symm
@[simp] theorem encL_drop (xs : List α) (n : Nat) : (encL f xs).drop n = encL f (xs.drop n) := (List.map_drop ..).symm
@[simp] theorem encL_dropLast (xs : List α) : (encL f xs).dropLast = encL f xs.dropLast := (List.map_dropLast ..).symm
@[simp] theorem encL_tail (xs : List α) : (encL f xs).tail = encL f xs.tail := by cases xs <;> rfl
theorem enc_cons (a : α) (xs : List α) : f a :: encL f xs = encL f (a :: xs) := rfl
@[simp] theorem encL_set (xs : List α) (n : Nat) (a : α) : (encL f xs).set n (f a) = encL f (xs.set n a) := (List.map_set ..).symm
@[simp] theorem encL_get? (xs : List α) (n : Nat) : (encL f xs)[n]? = xs[n]?.map f := List.getElem?_map ..
@[simp] theorem encL_isEmpty (xs : List α) : (encL f xs).isEmpty = xs.isEmpty := by cases xs <;> rfl
@[simp] theorem encL_cutL (xs : List α) (lo hi : Option Int) : cutL (encL f xs) lo hi = encL f (cutL xs lo hi) := by unfold cutL; simp
@[simp] theorem encL_atI (xs : List α) (i : Int) : L2.atI (encL f xs) i = (L2.atI xs i).map f := by
  unfold L2.atI
  rw [encL_length]
  cases L2.ixN xs.length i <;> simp
theorem encL_eq_nil (xs : List α) : encL f xs = [] ↔ xs = [] := List.map_eq_nil_iff
@[simp] theorem encL_ne_nil (xs : List α) : encL f xs ≠ [] ↔ xs ≠ [] := by rw [ne_eq, encL_eq_nil]
theorem encL_inj (h : ∀ a b, f a = f b → a = b) : ∀ {xs ys : List α}, encL f xs = encL f ys → xs = ys
  | [], [], _ => rfl
  | [], _ :: _, e => by cases e
  | _ :: _, [], e => by cases e
  | a :: as, b :: bs, e => by
    rw [encL_cons, encL_cons] at e
    injection e with e1 e2
    rw [h a b e1, encL_inj h e2]
@[simp] theorem enc_int_inj (xs ys : List Int) : encL D.int xs = encL D.int ys ↔ xs = ys := ⟨fun e => encL_inj (fun a b h => by injection h) e, fun e => by rw [e]⟩
@[simp] theorem enc_str_inj (xs ys : List Str) : encL D.str xs = encL D.str ys ↔ xs = ys := ⟨fun e => encL_inj (fun a b h => by injection h) e, fun e => by rw [e]⟩
@[simp] theorem enc_iL_inj (k : Kd) (xs ys : List (List Int)) : encL (iL k) xs = encL (iL k) ys ↔ xs = ys := ⟨fun e => encL_inj (fun a b h => by injection h with h1 h2; exact (enc_int_inj a b).mp h2) e, fun e => by rw [e]⟩
@[simp] theorem zipL_enc (xs : List α) (ys : List β) : zipL (encL f xs) (encL g ys) = encL (eP f g) (xs.zip ys) := by
  induction xs generalizing ys with
  | nil => rfl
  | cons x xs ih =>
    cases ys with
    | nil => rfl
    | cons y ys => show _ :: zipL (encL f xs) (encL g ys) = _ :: encL (eP f g) (xs.zip ys); rw [ih]; rfl
@[simp] theorem enumL_enc (n : Nat) (xs : List α) : enumL n (encL f xs) = encL (eZ f) (xs.zipIdx n) := by
  induction xs generalizing n with
  | nil => rfl
  | cons x xs ih => show _ :: enumL (n + 1) (encL f xs) = _ :: encL (eZ f) (xs.zipIdx (n + 1)); rw [ih]; rfl
/-- lo, lo + c, .. -/
def rng (lo c : Int) (n : Nat) : List Int := (List.range n).map fun (i : Nat) => lo + (i : Int) * c
@[simp] theorem rngL_enc (lo c : Int) (n : Nat) : rngL lo c n = encL D.int (rng lo c n) := by unfold rngL rng encL; rw [List.map_map]; rfl
theorem rng_succ (lo c : Int) (n : Nat) : rng lo c (n + 1) = lo :: rng (lo + c) c n := by
  unfold rng
  rw [List.range_succ_eq_map, List.map_cons, List.map_map]
  congr 1
  · simp
  · apply List.map_congr_left
    intro i _
    simp only [Function.comp, Nat.succ_eq_add_one]
    rw [Int.natCast_add, Int.add_mul]
    omega
@[simp] theorem rng_length (lo c : Int) (n : Nat) : (rng lo c n).length = n := by unfold rng; simp
@[simp] theorem rng_zero (lo c : Int) : rng lo c 0 = [] := (rfl)
end
/-! kinds -/
@[simp] theorem bor_ow : Kd.bor .ow = .bo := (rfl)
@[simp] theorem bor_fz : Kd.bor .fz = .fz := (rfl)
@[simp] theorem bor_bo : Kd.bor .bo = .bo := (rfl)
@[simp] theorem bor_sc : Kd.bor .sc = .sc := (rfl)
@[simp] theorem frz_ow : Kd.frz .ow = .fz := (rfl)
@[simp] theorem frz_fz : Kd.frz .fz = .fz := (rfl)
@[simp] theorem frz_bo : Kd.frz .bo = .fz := (rfl)
@[simp] theorem frz_sc : Kd.frz .sc = .sc := (rfl)
@[simp] theorem unf_ow : Kd.unf .ow = .ow := (rfl)
@[simp] theorem unf_fz : Kd.unf .fz = .bo := (rfl)
@[simp] theorem unf_bo : Kd.unf .bo = .bo := (rfl)
@[simp] theorem unf_sc : Kd.unf .sc = .sc := (rfl)
@[simp] theorem dbor_lst (k : Kd) (xs : List D) : (D.lst k xs).bor = .lst k.bor (D.bors xs) := by simp [D.bor]
@[simp] theorem dbor_tup (xs : List D) : (D.tup xs).bor = .tup (D.bors xs) := by simp [D.bor]
@[simp] theorem dbor_int (i : Int) : (D.int i).bor = .int i := by simp [D.bor]
@[simp] theorem dbor_bl (i : Bool) : (D.bl i).bor = .bl i := by simp [D.bor]
@[simp] theorem dbor_str (i : Str) : (D.str i).bor = .str i := by simp [D.bor]
@[simp] theorem dbor_non : (D.non).bor = .non := by simp [D.bor]
@[simp] theorem dbor_loc (a : Addr) : (D.loc a).bor = .loc a := by simp [D.bor]
@[simp] theorem dfrz_loc (a : Addr) : (D.loc a).frz = .loc a := by simp [D.frz]
@[simp] theorem dunf_loc (a : Addr) : (D.loc a).unf = .loc a := by simp [D.unf]
@[simp] theorem dsto_loc (a : Addr) : (D.loc a).sto = true := by simp [D.sto]
@[simp] theorem dnsc_loc (a : Addr) : (D.loc a).nsc = true := by simp [D.nsc]
@[simp] theorem dbor_obj (k : Kd) (a : Addr) (C : Option Addr) (ns : List Str) (fs : List D) : (D.obj k a C ns fs).bor = .obj k.bor a C ns (D.bors fs) := by simp [D.bor]
@[simp] theorem dfrz_obj (k : Kd) (a : Addr) (C : Option Addr) (ns : List Str) (fs : List D) : (D.obj k a C ns fs).frz = .obj k.frz a C ns (D.frzs fs) := by simp [D.frz]
@[simp] theorem dunf_obj (k : Kd) (a : Addr) (C : Option Addr) (ns : List Str) (fs : List D) : (D.obj k a C ns fs).unf = .obj k.unf a C ns (D.unfs fs) := by simp [D.unf]
@[simp] theorem dsto_obj_bo (a : Addr) (C : Option Addr) (ns : List Str) (fs : List D) : (D.obj .bo a C ns fs).sto = false := by simp [D.sto]
@[simp] theorem dsto_obj_ow (a : Addr) (C : Option Addr) (ns : List Str) (fs : List D) : (D.obj .ow a C ns fs).sto = D.stos fs := by simp [D.sto]
@[simp] theorem dsto_obj_fz (a : Addr) (C : Option Addr) (ns : List Str) (fs : List D) : (D.obj .fz a C ns fs).sto = D.stos fs := by simp [D.sto]
@[simp] theorem dbor_wit (d : D) (os : List D) : (D.wit d os).bor = .wit d.bor (D.bors os) := by simp [D.bor]
@[simp] theorem dsto_wit (d : D) (os : List D) : (D.wit d os).sto = false := by simp [D.sto]
@[simp] theorem dnsc_wit (d : D) (os : List D) : (D.wit d os).nsc = false := by simp [D.nsc]
@[simp] theorem dnsc_obj_ow (a : Addr) (C : Option Addr) (ns : List Str) (fs : List D) : (D.obj .ow a C ns fs).nsc = D.nscs fs := by simp [D.nsc]
@[simp] theorem dnsc_obj_fz (a : Addr) (C : Option Addr) (ns : List Str) (fs : List D) : (D.obj .fz a C ns fs).nsc = D.nscs fs := by simp [D.nsc]
@[simp] theorem dnsc_obj_bo (a : Addr) (C : Option Addr) (ns : List Str) (fs : List D) : (D.obj .bo a C ns fs).nsc = D.nscs fs := by simp [D.nsc]
@[simp] theorem dbor_exc (c : String) (a : Addr) : (D.exc c a).bor = .exc c a := by simp [D.bor]
@[simp] theorem dbor_dic (k : Kd) (ks : List Int) : (D.dic k ks).bor = .dic k.bor ks := by simp [D.bor]
@[simp] theorem dbors_nil : D.bors [] = [] := by simp [D.bors]
@[simp] theorem dbors_cons (d : D) (ds : List D) : D.bors (d :: ds) = d.bor :: D.bors ds := by simp [D.bors]
@[simp] theorem dfrz_lst (k : Kd) (xs : List D) : (D.lst k xs).frz = .lst k.frz (D.frzs xs) := by simp [D.frz]
@[simp] theorem dfrz_tup (xs : List D) : (D.tup xs).frz = .tup (D.frzs xs) := by simp [D.frz]
@[simp] theorem dfrz_int (i : Int) : (D.int i).frz = .int i := by simp [D.frz]
@[simp] theorem dfrz_bl (i : Bool) : (D.bl i).frz = .bl i := by simp [D.frz]
@[simp] theorem dfrz_str (i : Str) : (D.str i).frz = .str i := by simp [D.frz]
@[simp] theorem dfrz_non : (D.non).frz = .non := by simp [D.frz]
@[simp] theorem dfrz_exc (c : String) (a : Addr) : (D.exc c a).frz = .exc c a := by simp [D.frz]
@[simp] theorem dfrz_dic (k : Kd) (ks : List Int) : (D.dic k ks).frz = .dic k.frz ks := by simp [D.frz]
@[simp] theorem dfrzs_nil : D.frzs [] = [] := by simp [D.frzs]
@[simp] theorem dfrzs_cons (d : D) (ds : List D) : D.frzs (d :: ds) = d.frz :: D.frzs ds := by simp [D.frzs]
@[simp] theorem dunf_lst (k : Kd) (xs : List D) : (D.lst k xs).unf = .lst k.unf (D.unfs xs) := by simp [D.unf]
@[simp] theorem dunf_tup (xs : List D) : (D.tup xs).unf = .tup (D.unfs xs) := by simp [D.unf]
@[simp] theorem dunf_int (i : Int) : (D.int i).unf = .int i := by simp [D.unf]
@[simp] theorem dunf_bl (i : Bool) : (D.bl i).unf = .bl i := by simp [D.unf]
@[simp] theorem dunf_str (i : Str) : (D.str i).unf = .str i := by simp [D.unf]
@[simp] theorem dunf_non : (D.non).unf = .non := by simp [D.unf]
@[simp] theorem dunf_exc (c : String) (a : Addr) : (D.exc c a).unf = .exc c a := by simp [D.unf]
@[simp] theorem dunf_dic (k : Kd) (ks : List Int) : (D.dic k ks).unf = .dic k.unf ks := by simp [D.unf]
@[simp] theorem dunfs_nil : D.unfs [] = [] := by simp [D.unfs]
@[simp] theorem dunfs_cons (d : D) (ds : List D) : D.unfs (d :: ds) = d.unf :: D.unfs ds := by simp [D.unfs]
@[simp] theorem dsto_ow (xs : List D) : (D.lst .ow xs).sto = D.stos xs := by simp [D.sto]
@[simp] theorem dsto_fz (xs : List D) : (D.lst .fz xs).sto = D.stos xs := by simp [D.sto]
@[simp] theorem dsto_sc (xs : List D) : (D.lst .sc xs).sto = D.stos xs := by simp [D.sto]
@[simp] theorem dsto_bo (xs : List D) : (D.lst .bo xs).sto = false := by simp [D.sto]
@[simp] theorem dsto_tup (xs : List D) : (D.tup xs).sto = D.stos xs := by simp [D.sto]
@[simp] theorem dsto_int (i : Int) : (D.int i).sto = true := by simp [D.sto]
@[simp] theorem dsto_bl (i : Bool) : (D.bl i).sto = true := by simp [D.sto]
@[simp] theorem dsto_str (i : Str) : (D.str i).sto = true := by simp [D.sto]
@[simp] theorem dsto_non : (D.non).sto = true := by simp [D.sto]
@[simp] theorem dsto_exc (c : String) (a : Addr) : (D.exc c a).sto = true := by simp [D.sto]
@[simp] theorem dsto_dic (k : Kd) (ks : List Int) : (D.dic k ks).sto = decide (k ≠ .bo) := by simp [D.sto]
@[simp] theorem dstos_nil : D.stos [] = true := by simp [D.stos]
@[simp] theorem dstos_cons (d : D) (ds : List D) : D.stos (d :: ds) = (d.sto && D.stos ds) := by simp [D.stos]
@[simp] theorem dnsc_ow (xs : List D) : (D.lst .ow xs).nsc = D.nscs xs := by simp [D.nsc]
@[simp] theorem dnsc_fz (xs : List D) : (D.lst .fz xs).nsc = D.nscs xs := by simp [D.nsc]
@[simp] theorem dnsc_sc (xs : List D) : (D.lst .sc xs).nsc = false := by simp [D.nsc]
@[simp] theorem dnsc_bo (xs : List D) : (D.lst .bo xs).nsc = D.nscs xs := by simp [D.nsc]
@[simp] theorem dnsc_tup (xs : List D) : (D.tup xs).nsc = D.nscs xs := by simp [D.nsc]
@[simp] theorem dnsc_int (i : Int) : (D.int i).nsc = true := by simp [D.nsc]
@[simp] theorem dnsc_bl (i : Bool) : (D.bl i).nsc = true := by simp [D.nsc]
@[simp] theorem dnsc_str (i : Str) : (D.str i).nsc = true := by simp [D.nsc]
@[simp] theorem dnsc_non : (D.non).nsc = true := by simp [D.nsc]
@[simp] theorem dnsc_exc (c : String) (a : Addr) : (D.exc c a).nsc = true := by simp [D.nsc]
@[simp] theorem dnsc_dic (k : Kd) (ks : List Int) : (D.dic k ks).nsc = decide (k ≠ .sc) := by simp [D.nsc]
@[simp] theorem dnscs_nil : D.nscs [] = true := by simp [D.nscs]
@[simp] theorem dnscs_cons (d : D) (ds : List D) : D.nscs (d :: ds) = (d.nsc && D.nscs ds) := by simp [D.nscs]
section
variable {α : Type} {f g : α → D}
theorem bors_enc (h : ∀ a, (f a).bor = g a) (xs : List α) : D.bors (encL f xs) = encL g xs := by
  induction xs with
  | nil => simp [encL_nil]
  | cons a as ih => rw [encL_cons, encL_cons, dbors_cons, h, ih]
theorem frzs_enc (h : ∀ a, (f a).frz = g a) (xs : List α) : D.frzs (encL f xs) = encL g xs := by
  induction xs with
  | nil => simp [encL_nil]
  | cons a as ih => rw [encL_cons, encL_cons, dfrzs_cons, h, ih]
theorem unfs_enc (h : ∀ a, (f a).unf = g a) (xs : List α) : D.unfs (encL f xs) = encL g xs := by
  induction xs with
  | nil => simp [encL_nil]
  | cons a as ih => rw [encL_cons, encL_cons, dunfs_cons, h, ih]
theorem stos_enc (h : ∀ a, (f a).sto = true) (xs : List α) : D.stos (encL f xs) = true := by
  induction xs with
  | nil => rfl
  | cons a as ih => rw [encL_cons, dstos_cons, h, ih]; rfl
theorem nscs_enc (h : ∀ a, (f a).nsc = true) (xs : List α) : D.nscs (encL f xs) = true := by
  induction xs with
  | nil => rfl
  | cons a as ih => rw [encL_cons, dnscs_cons, h, ih]; rfl
@[simp] theorem bors_int (xs : List Int) : D.bors (encL .int xs) = encL .int xs := bors_enc (fun _ => by simp) xs
@[simp] theorem frzs_int (xs : List Int) : D.frzs (encL .int xs) = encL .int xs := frzs_enc (fun _ => by simp) xs
@[simp] theorem unfs_int (xs : List Int) : D.unfs (encL .int xs) = encL .int xs := unfs_enc (fun _ => by simp) xs
@[simp] theorem stos_int (xs : List Int) : D.stos (encL .int xs) = true := stos_enc (fun _ => by simp) xs
@[simp] theorem nscs_int (xs : List Int) : D.nscs (encL .int xs) = true := nscs_enc (fun _ => by simp) xs
@[simp] theorem bors_str (xs : List Str) : D.bors (encL .str xs) = encL .str xs := bors_enc (fun _ => by simp) xs
@[simp] theorem frzs_str (xs : List Str) : D.frzs (encL .str xs) = encL .str xs := frzs_enc (fun _ => by simp) xs
@[simp] theorem unfs_str (xs : List Str) : D.unfs (encL .str xs) = encL .str xs := unfs_enc (fun _ => by simp) xs
@[simp] theorem stos_str (xs : List Str) : D.stos (encL .str xs) = true := stos_enc (fun _ => by simp) xs
@[simp] theorem nscs_str (xs : List Str) : D.nscs (encL .str xs) = true := nscs_enc (fun _ => by simp) xs
@[simp] theorem bors_iL (k : Kd) (xs : List (List Int)) : D.bors (encL (iL k) xs) = encL (iL k.bor) xs := bors_enc (fun _ => by simp) xs
@[simp] theorem frzs_iL (k : Kd) (xs : List (List Int)) : D.frzs (encL (iL k) xs) = encL (iL k.frz) xs := frzs_enc (fun _ => by simp) xs
@[simp] theorem unfs_iL (k : Kd) (xs : List (List Int)) : D.unfs (encL (iL k) xs) = encL (iL k.unf) xs := unfs_enc (fun _ => by simp) xs
@[simp] theorem stos_iL_ow (xs : List (List Int)) : D.stos (encL (iL .ow) xs) = true := stos_enc (fun _ => by simp) xs
@[simp] theorem stos_iL_fz (xs : List (List Int)) : D.stos (encL (iL .fz) xs) = true := stos_enc (fun _ => by simp) xs
@[simp] theorem nscs_iL_ow (xs : List (List Int)) : D.nscs (encL (iL .ow) xs) = true := nscs_enc (fun _ => by simp) xs
@[simp] theorem nscs_iL_fz (xs : List (List Int)) : D.nscs (encL (iL .fz) xs) = true := nscs_enc (fun _ => by simp) xs
@[simp] theorem nscs_iL_bo (xs : List (List Int)) : D.nscs (encL (iL .bo) xs) = true := nscs_enc (fun _ => by simp) xs
@[simp] theorem ints_enc (xs : List Int) : D.ints? (encL .int xs) = some xs := ints?_map xs
@[simp] theorem strs_enc (xs : List Str) : D.strs? (encL .str xs) = some xs := strs?_map xs
theorem bls_enc (xs : List Bool) : D.bls? (encL .bl xs) = some xs := bls?_map xs
end

/-! ## the results -/
section
variable {α β : Type}
@[simp] theorem bind_ite (c : Prop) [Decidable c] (x y : R α) (f : α → R β) : ((if c then x else y) >>= f) = if c then x >>= f else y >>= f := by split <;> rfl
@[simp] theorem of_ite (c : Prop) [Decidable c] (x y : Option α) : R.of (if c then x else y) = if c then R.of x else R.of y := by split <;> rfl
@[simp] theorem gEv_ite (c : Prop) [Decidable c] (x y : R α) (env : Env) (Q : Ou → Prop) (k : α → Prop) : gEv (if c then x else y) env Q k = if c then gEv x env Q k else gEv y env Q k := by split <;> rfl
@[simp] theorem ite_no (c : Prop) [Decidable c] (A : Prop) : (if c then A else False) = (c ∧ A) := by by_cases h : c <;> simp [h]
@[simp] theorem pure_ok (a : α) : (pure a : R α) = .ok a := (rfl)
end
variable {env : Env} {Q : Ou → Prop}
@[simp] theorem xC_eq (d : D) : xC d env = .ok d := (rfl)
def rVar : Option (Option D) → R D
  | some (some d) => .ok d.bor
  | _ => .no
@[simp] theorem xVar_eq (i : Nat) : xVar i env = rVar env[i]? := by unfold xVar rVar; cases env[i]? with | none => rfl | some o => cases o <;> rfl
@[simp] theorem rVar_some (d : D) : rVar (some (some d)) = .ok d.bor := (rfl)
@[simp] theorem xNil_eq : xNil env = .ok [] := (rfl)
@[simp] theorem xCons_eq (f : Env → R D) (g : Env → R (List D)) : xCons f g env = f env >>= fun a => g env >>= fun as => R.ok (a :: as) := (rfl)
@[simp] theorem x2_eq (o : D → D → Option D) (f g : Env → R D) : x2 o f g env = f env >>= fun a => g env >>= fun b => R.of (o a b) := (rfl)
@[simp] theorem x1_eq (o : D → Option D) (f : Env → R D) : x1 o f env = f env >>= fun a => R.of (o a) := (rfl)
@[simp] theorem xA_eq (o : List D → Option D) (f : Env → R (List D)) : xA o f env = f env >>= fun a => R.of (o a) := (rfl)
@[simp] theorem xM_eq (ok : D → Bool) (o : D → D → Option D) (f g : Env → R D) : xM ok o f g env = f env >>= fun a => if ok a = true then g env >>= fun b => R.of (o a b) else R.no := (rfl)
@[simp] theorem isL_lst (k : Kd) (xs : List D) : D.isL (.lst k xs) = true := (rfl)
@[simp] theorem isS_str (s : Str) : D.isS (.str s) = true := (rfl)
@[simp] theorem xTup_eq (f : Env → R (List D)) : xTup f env = f env >>= fun ds => if ds.length ≤ 16777216 then R.ok (.tup ds) else R.no := (rfl)
@[simp] theorem xLst_eq (f : Env → R (List D)) : xLst f env = f env >>= fun ds => if ds.length ≤ 16777216 then R.ok (.lst .ow ds) else R.no := (rfl)
@[simp] theorem xCall_eq (m : List D → R D) (fs : Env → R (List D)) : xCall m fs env = fs env >>= fun ds => if D.stos ds = true then m (D.frzs ds) else m (D.frzs ds) >>= fun r => if r.nsc = true then R.ok r.unf else R.no := (rfl)
def bB : D → R Bool
  | .bl b => .ok b
  | _ => .no
@[simp] theorem bB_bl (b : Bool) : bB (.bl b) = .ok b := (rfl)
@[simp] theorem xB_eq (f : Env → R D) : xB f env = f env >>= bB := by
  unfold xB
  cases f env with
  | ok d => cases d <;> rfl
  | er c => rfl
  | no => rfl
@[simp] theorem xTAnd_eq (t u : Env → R Bool) : xTAnd t u env = t env >>= fun c => if c = true then u env else R.ok false := (rfl)
@[simp] theorem xTOr_eq (t u : Env → R Bool) : xTOr t u env = t env >>= fun c => if c = true then R.ok true else u env := (rfl)
@[simp] theorem xTNot_eq (t : Env → R Bool) : xTNot t env = t env >>= fun c => R.ok (!c) := (rfl)
@[simp] theorem xYes_eq : xYes env = .ok true := (rfl)
def andK (r : R D) : D → R D
  | .bl true => r
  | .bl false => R.ok (.bl false)
  | _ => R.no
def orK (r : R D) : D → R D
  | .bl false => r
  | .bl true => R.ok (.bl true)
  | _ => R.no
@[simp] theorem andK_bl (r : R D) (b : Bool) : andK r (.bl b) = if b = true then r else R.ok (.bl false) := by cases b <;> rfl
@[simp] theorem orK_bl (r : R D) (b : Bool) : orK r (.bl b) = if b = true then R.ok (.bl true) else r := by cases b <;> rfl
@[simp] theorem xAnd_eq (f g : Env → R D) : xAnd f g env = f env >>= andK (g env) := by
  unfold xAnd
  cases f env with
  | ok d => cases d with
    | bl b => cases b <;> rfl
    | _ => rfl
  | er c => rfl
  | no => rfl
@[simp] theorem xOr_eq (f g : Env → R D) : xOr f g env = f env >>= orK (g env) := by
  unfold xOr
  cases f env with
  | ok d => cases d with
    | bl b => cases b <;> rfl
    | _ => rfl
  | er c => rfl
  | no => rfl
def notK : D → R D
  | .bl b => R.ok (.bl (!b))
  | _ => R.no
@[simp] theorem notK_bl (b : Bool) : notK (.bl b) = R.ok (.bl (!b)) := (rfl)
@[simp] theorem xNot_eq (f : Env → R D) : xNot f env = f env >>= notK := by
  unfold xNot
  cases f env with
  | ok d => cases d <;> rfl
  | er c => rfl
  | no => rfl
@[simp] theorem xIf_eq (t : Env → R Bool) (f g : Env → R D) : xIf t f g env = t env >>= fun c => if c = true then f env else g env := (rfl)
def chK (r : R D) : D → R D
  | .bl true => r
  | .bl false => R.ok (.bl false)
  | _ => R.no
@[simp] theorem chK_bl (r : R D) (b : Bool) : chK r (.bl b) = if b = true then r else R.ok (.bl false) := by cases b <;> rfl
@[simp] theorem xChain_eq (o o' : D → D → Option D) (f g h : Env → R D) : xChain o o' f g h env = f env >>= fun a => g env >>= fun b => R.of (o a b) >>= chK (h env >>= fun c => R.of (o' b c)) := by
  unfold xChain
  cases f env with
  | ok a =>
    cases g env with
    | ok b =>
      show (R.of (o a b) >>= _) = R.of (o a b) >>= _
      cases o a b with
      | none => rfl
      | some d => cases d with
        | bl b => cases b <;> rfl
        | _ => rfl
    | er c => rfl
    | no => rfl
  | er c => rfl
  | no => rfl
def bP1 : D → R (Option Int)
  | .int i => .ok (some i)
  | _ => .no
@[simp] theorem bP1_int (i : Int) : bP1 (.int i) = .ok (some i) := (rfl)
@[simp] theorem xP0_eq : xP0 env = .ok none := (rfl)
@[simp] theorem xP1_eq (f : Env → R D) : xP1 f env = f env >>= bP1 := by
  unfold xP1
  cases f env with
  | ok d => cases d <;> rfl
  | er c => rfl
  | no => rfl
@[simp] theorem xSl_eq (f : Env → R D) (l u : Env → R (Option Int)) : xSl f l u env = f env >>= fun a => l env >>= fun lo => u env >>= fun hi => R.of (slD a lo hi) := (rfl)
/-! operations -/
@[simp] theorem addD_int (i j : Int) : addD (.int i) (.int j) = some (.int (i + j)) := (rfl)
@[simp] theorem addD_str (i j : Str) : addD (.str i) (.str j) = if i.length + j.length ≤ 16777216 then some (.str (i ++ j)) else none := (rfl)
@[simp] theorem addD_lst (k k' : Kd) (xs ys : List D) : addD (.lst k xs) (.lst k' ys) = if xs.length + ys.length ≤ 16777216 then some (.lst .ow (xs ++ ys)) else none := (rfl)
@[simp] theorem addD_tup (xs ys : List D) : addD (.tup xs) (.tup ys) = if xs.length + ys.length ≤ 16777216 then some (.tup (xs ++ ys)) else none := (rfl)
@[simp] theorem subD_int (i j : Int) : subD (.int i) (.int j) = some (.int (i - j)) := (rfl)
theorem mulD_int (i j : Int) (h : smallM i = true ∨ smallM j = true) : mulD (.int i) (.int j) = some (.int (i * j)) := by
  show (if (smallM i || smallM j) = true then some (D.int (i * j)) else none) = _
  rw [if_pos (by rcases h with h | h <;> simp [h])]
theorem smallM_of {i : Int} (h1 : -18446744073709551616 < i) (h2 : i < 18446744073709551616) : smallM i = true := by simp [smallM]; omega
@[simp] theorem mulD_int' (i j : Int) : mulD (.int i) (.int j) = if (-18446744073709551616 < i ∧ i < 18446744073709551616) ∨ (-18446744073709551616 < j ∧ j < 18446744073709551616) then some (.int (i * j)) else none := by
  show (if (smallM i || smallM j) = true then some (D.int (i * j)) else none) = _
  simp only [smallM, Bool.or_eq_true, Bool.and_eq_true, decide_eq_true_eq]
@[simp] theorem divD_int (i j : Int) : divD (.int i) (.int j) = if 0 < j ∧ j < 1073741824 then some (.int (i / j)) else none := (rfl)
@[simp] theorem modD_int (i j : Int) : modD (.int i) (.int j) = if 0 < j then some (.int (i % j)) else none := (rfl)
@[simp] theorem powD_int (i j : Int) : powD (.int i) (.int j) = if 0 ≤ j ∧ j ≤ 1000000 ∧ i.natAbs < 18446744073709551616 then some (.int (i ^ j.toNat)) else none := (rfl)
@[simp] theorem negD_int (i : Int) : negD (.int i) = some (.int (-i)) := (rfl)
@[simp] theorem cmpD_int (g : Int → Int → Bool) (i j : Int) : cmpD g (.int i) (.int j) = some (.bl (g i j)) := (rfl)
@[simp] theorem isD_non (a : D) : isD a .non = some (.bl a.isNon) := by cases a <;> rfl
@[simp] theorem isD_bl (a b : Bool) : isD (.bl a) (.bl b) = some (.bl (a == b)) := (rfl)
@[simp] theorem notisD_non (a : D) : notisD a .non = some (.bl (!a.isNon)) := by cases a <;> rfl
@[simp] theorem notisD_bl (a b : Bool) : notisD (.bl a) (.bl b) = some (.bl (!(a == b))) := (rfl)
@[simp] theorem isNon_non : D.isNon .non = true := (rfl)
@[simp] theorem isNon_lst (k : Kd) (xs : List D) : D.isNon (.lst k xs) = false := (rfl)
@[simp] theorem isNon_tup (xs : List D) : D.isNon (.tup xs) = false := (rfl)
@[simp] theorem isNon_int (i : Int) : D.isNon (.int i) = false := (rfl)
@[simp] theorem isNon_str (i : Str) : D.isNon (.str i) = false := (rfl)
@[simp] theorem isNon_bl (i : Bool) : D.isNon (.bl i) = false := (rfl)
@[simp] theorem isNon_exc (c : String) (a : Addr) : D.isNon (.exc c a) = false := (rfl)
@[simp] theorem isNon_loc (a : Addr) : D.isNon (.loc a) = false := (rfl)
@[simp] theorem isNon_obj (k : Kd) (a : Addr) (C : Option Addr) (ns : List Str) (fs : List D) : D.isNon (.obj k a C ns fs) = false := (rfl)
@[simp] theorem isNon_dic (k : Kd) (ks : List Int) : D.isNon (.dic k ks) = false := (rfl)
@[simp] theorem ixD_lst (k : Kd) (xs : List D) (i : Int) : ixD (.lst k xs) (.int i) = L2.atI xs i := (rfl)
@[simp] theorem ixD_tup (xs : List D) (i : Int) : ixD (.tup xs) (.int i) = L2.atI xs i := (rfl)
@[simp] theorem slD_lst (k : Kd) (xs : List D) (lo hi : Option Int) : slD (.lst k xs) lo hi = some (.lst .ow (cutL xs lo hi)) := (rfl)
@[simp] theorem slD_tup (xs : List D) (lo hi : Option Int) : slD (.tup xs) lo hi = some (.tup (cutL xs lo hi)) := (rfl)
@[simp] theorem slD_str (z : Str) (lo hi : Option Int) : slD (.str z) lo hi = if z.length ≤ 16777216 then some (.str (cutS z lo hi)) else none := (rfl)
@[simp] theorem lenD_lst (k : Kd) (xs : List D) : lenD [.lst k xs] = some (.int xs.length) := (rfl)
@[simp] theorem lenD_tup (xs : List D) : lenD [.tup xs] = some (.int xs.length) := (rfl)
@[simp] theorem lenD_str (s : Str) : lenD [.str s] = if s.length ≤ 16777216 then some (.int s.length) else none := (rfl)
theorem absI (i : Int) : (if i < 0 then -i else i) = (i.natAbs : Int) := by omega
@[simp] theorem absD_int (i : Int) : absD [.int i] = some (.int (i.natAbs : Int)) := by rw [← absI]; rfl
@[simp] theorem max2D_int (i j : Int) : max2D [.int i, .int j] = some (.int (max i j)) := by
  show some (D.int (if j > i then j else i)) = _
  rw [show (if j > i then j else i) = max i j by omega]
@[simp] theorem min2D_int (i j : Int) : min2D [.int i, .int j] = some (.int (min i j)) := by
  show some (D.int (if j < i then j else i)) = _
  rw [show (if j < i then j else i) = min i j by omega]
@[simp] theorem listD_lst (k : Kd) (xs : List D) : listD [.lst k xs] = some (.lst .ow xs) := (rfl)
@[simp] theorem listD_tup (xs : List D) : listD [.tup xs] = some (.lst .ow xs) := (rfl)
@[simp] theorem lrngD_int (n : Int) : lrngD (.int n) = if -4611686018427387904 ≤ n ∧ n ≤ 16777216 then some (.lst .ow (rngL 0 1 n.toNat)) else none := (rfl)
@[simp] theorem lrevrngD_int (n : Int) : lrevrngD (.int n) = if -4611686018427387904 ≤ n ∧ n ≤ 16777216 then some (.lst .ow (rngL 0 1 n.toNat).reverse) else none := (rfl)
@[simp] theorem lrevD_lst (k : Kd) (xs : List D) : lrevD (.lst k xs) = some (.lst .ow xs.reverse) := (rfl)
@[simp] theorem sumD_int (k : Kd) (xs : List Int) : sumD [iL k xs] = some (.int xs.sum) := by show (D.ints? (encL D.int xs)).map _ = _; rw [ints_enc]; rfl
@[simp] theorem allD_bl (k : Kd) (xs : List Bool) : allD [.lst k (encL .bl xs)] = some (.bl (xs.all id)) := by show (D.bls? (encL D.bl xs)).map _ = _; rw [bls_enc]; rfl
@[simp] theorem sortedD_int (k : Kd) (xs : List Int) : sortedD [iL k xs] = some (iL .ow (sortI xs)) := by show (D.ints? (encL D.int xs)).map _ = _; rw [ints_enc]; rfl
@[simp] theorem maxLD_int (k : Kd) (xs : List Int) : maxLD [iL k xs] = (xs.max?).map D.int := by show (D.ints? (encL D.int xs)).bind _ = _; rw [ints_enc]; rfl
@[simp] theorem minLD_int (k : Kd) (xs : List Int) : minLD [iL k xs] = (xs.min?).map D.int := by show (D.ints? (encL D.int xs)).bind _ = _; rw [ints_enc]; rfl
@[simp] theorem indexD_int (k : Kd) (xs : List Int) (i : Int) : indexD (iL k xs) (.int i) = if i ∈ xs then some (.int (xs.idxOf i : Nat)) else none := by show (D.ints? (encL D.int xs)).bind _ = _; rw [ints_enc]; rfl
@[simp] theorem int1D_int (i : Int) : int1D [.int i] = some (.int i) := (rfl)
@[simp] theorem isi_list_lst (k : Kd) (xs : List D) : isiD .list (.lst k xs) = some (.bl true) := (rfl)
@[simp] theorem isi_list_non : isiD .list .non = some (.bl false) := (rfl)
@[simp] theorem isi_list_tup (xs : List D) : isiD .list (.tup xs) = some (.bl false) := (rfl)
@[simp] theorem isi_list_int (i : Int) : isiD .list (.int i) = some (.bl false) := (rfl)
@[simp] theorem isi_list_str (i : Str) : isiD .list (.str i) = some (.bl false) := (rfl)
@[simp] theorem isi_tuple_tup (xs : List D) : isiD .tuple (.tup xs) = some (.bl true) := (rfl)
@[simp] theorem isi_tuple_lst (k : Kd) (xs : List D) : isiD .tuple (.lst k xs) = some (.bl false) := (rfl)
@[simp] theorem isi_tuple_non : isiD .tuple .non = some (.bl false) := (rfl)
@[simp] theorem isi_tuple_int (i : Int) : isiD .tuple (.int i) = some (.bl false) := (rfl)
@[simp] theorem isi_tuple_str (i : Str) : isiD .tuple (.str i) = some (.bl false) := (rfl)
@[simp] theorem isi_int_int (i : Int) : isiD .int (.int i) = some (.bl true) := (rfl)
@[simp] theorem isi_int_bl (i : Bool) : isiD .int (.bl i) = some (.bl true) := (rfl)
@[simp] theorem isi_int_str (i : Str) : isiD .int (.str i) = some (.bl false) := (rfl)
@[simp] theorem isi_int_non : isiD .int .non = some (.bl false) := (rfl)
@[simp] theorem isi_int_lst (k : Kd) (xs : List D) : isiD .int (.lst k xs) = some (.bl false) := (rfl)
@[simp] theorem isi_int_tup (xs : List D) : isiD .int (.tup xs) = some (.bl false) := (rfl)
@[simp] theorem isi_bool_int (i : Int) : isiD .bool (.int i) = some (.bl false) := (rfl)
@[simp] theorem isi_bool_bl (i : Bool) : isiD .bool (.bl i) = some (.bl true) := (rfl)
@[simp] theorem isi_bool_str (i : Str) : isiD .bool (.str i) = some (.bl false) := (rfl)
@[simp] theorem isi_str_str (i : Str) : isiD .str (.str i) = some (.bl true) := (rfl)
@[simp] theorem isi_str_int (i : Int) : isiD .str (.int i) = some (.bl false) := (rfl)
@[simp] theorem isi_str_tup (xs : List D) : isiD .str (.tup xs) = some (.bl false) := (rfl)
@[simp] theorem isi_str_lst (k : Kd) (xs : List D) : isiD .str (.lst k xs) = some (.bl false) := (rfl)
@[simp] theorem isi_str_non : isiD .str .non = some (.bl false) := (rfl)
@[simp] theorem inXD_int (neg : Bool) (i : Int) (k : Kd) (xs : List Int) : inXD neg (.int i) (iL k xs) = some (.bl (if neg then !decide (i ∈ xs) else decide (i ∈ xs))) := by
  have h1 : (encL D.int xs).all D.flat = true := by unfold encL; rw [List.all_map]; exact List.all_eq_true.mpr fun _ _ => rfl
  have h2 : inV (D.int i).toV ((encL D.int xs).map D.toV) = decide (i ∈ xs) := by
    unfold inV encL
    induction xs with
    | nil => rfl
    | cons x xs ih =>
      simp only [List.map_cons, List.any_cons]
      rw [ih (by unfold encL; rw [List.all_map]; exact List.all_eq_true.mpr fun _ _ => rfl)]
      show ((x == i) || _) = _
      by_cases hx : x = i
      · subst hx; simp
      · have : (x == i) = false := by simpa using hx
        have h3 : ¬ i = x := fun z => hx z.symm
        rw [this]; simp [h3]
  show inD neg (.int i) (iL k xs) = _
  unfold inD
  simp only [h1, show (D.int i).flat = true from rfl, Bool.and_self, if_true]
  rw [h2]
theorem ite_okF (c : Prop) [Decidable c] (d : Bool) : (if c then R.ok d else R.ok false) = R.ok (decide c && d) := by by_cases h : c <;> simp [h]
theorem ite_okT (c : Prop) [Decidable c] (d : Bool) : (if c then R.ok true else R.ok d) = R.ok (decide c || d) := by by_cases h : c <;> simp [h]
end BC

namespace BC
open PySem PySem.Spec PyProof.Rows L2

/-! ## statements, read -/
section
variable {env : Env} {Q : Ou → Prop}
def seqK (h : G) (Q : Ou → Prop) : Ou → Prop
  | .nx e => h e Q
  | .rt d => Q (.rt d)
  | .bk e => Q (.bk e)
  | .ct e => Q (.ct e)
  | .rz c e => Q (.rz c e)
@[simp] theorem seqK_nx (h : G) (e : Env) : seqK h Q (.nx e) = h e Q := (rfl)
@[simp] theorem seqK_rt (h : G) (d : D) : seqK h Q (.rt d) = Q (.rt d) := (rfl)
@[simp] theorem seqK_bk (h : G) (e : Env) : seqK h Q (.bk e) = Q (.bk e) := (rfl)
@[simp] theorem seqK_ct (h : G) (e : Env) : seqK h Q (.ct e) = Q (.ct e) := (rfl)
@[simp] theorem seqK_rz (h : G) (c : String) (e : Env) : seqK h Q (.rz c e) = Q (.rz c e) := (rfl)
@[simp] theorem gSeq_eq (g h : G) : gSeq g h env Q = g env (seqK h Q) := by
  unfold gSeq
  congr 1
  funext o
  cases o <;> rfl
@[simp] theorem gNext_eq : gNext env Q = Q (.nx env) := (rfl)
@[simp] theorem gAsg_eq (i : Nat) (f : Env → R D) : gAsg i f env Q = gEv (f env) env Q fun d => d.sto = true ∧ Q (.nx (env.set i (some d))) := (rfl)
@[simp] theorem setAll_nil : setAll [] [] env = some env := (rfl)
@[simp] theorem setAll_cons (j : Nat) (js : List Nat) (d : D) (ds : List D) : setAll (j :: js) (d :: ds) env = setAll js ds (env.set j (some d)) := (rfl)
def unpK (is : List Nat) (env : Env) (Q : Ou → Prop) : D → Prop
  | .tup ds => ∃ e, setAll is ds env = some e ∧ Q (.nx e)
  | _ => False
@[simp] theorem unpK_tup (is : List Nat) (ds : List D) : unpK is env Q (.tup ds) = ∃ e, setAll is ds env = some e ∧ Q (.nx e) := (rfl)
@[simp] theorem gUnp_eq (is : List Nat) (f : Env → R D) : gUnp is f env Q = gEv (f env) env Q fun d => d.sto = true ∧ unpK is env Q d := by
  unfold gUnp
  rfl
@[simp] theorem gPar_eq (i j : Nat) (fs : Env → R (List D)) : gPar i j fs env Q = gEv (fs env) env Q fun ds => D.stos ds = true ∧ ∃ e, setAll [i, j] ds env = some e ∧ Q (.nx e) := (rfl)
@[simp] theorem gRet_eq (f : Env → R D) : gRet f env Q = gEv (f env) env Q fun d => Q (.rt d) := (rfl)
def retK (Q : Ou → Prop) : Option (Option D) → Prop
  | some (some d) => Q (.rt d)
  | _ => False
@[simp] theorem retK_some (d : D) : retK Q (some (some d)) = Q (.rt d) := (rfl)
@[simp] theorem gRetV_eq (i : Nat) : gRetV i env Q = retK Q env[i]? := by unfold gRetV retK; cases env[i]? with | none => rfl | some o => cases o <;> rfl
@[simp] theorem gRetN_eq : gRetN env Q = Q (.rt .non) := (rfl)
@[simp] theorem gIf_eq (c : Env → R Bool) (g h : G) : gIf c g h env Q = gEv (c env) env Q fun b => if b = true then g env Q else h env Q := (rfl)
@[simp] theorem gDrop_eq (f : Env → R D) : gDrop f env Q = gEv (f env) env Q fun _ => Q (.nx env) := (rfl)
@[simp] theorem gBreak_eq : gBreak env Q = Q (.bk env) := (rfl)
@[simp] theorem gCont_eq : gCont env Q = Q (.ct env) := (rfl)
@[simp] theorem gRaise_eq (x : String) : gRaise x env Q = Q (.rz x env) := (rfl)
@[simp] theorem gFrz_eq (i : Nat) (g : G) : gFrz i g env Q = g (env.modify i (Option.map D.frz)) Q := (rfl)
@[simp] theorem gFor_eq (src : Env → R (Bool × List D)) (tg : Tgt) (body : G) : gFor src tg body env Q = gEv (src env) env Q fun s => s.1 = false ∧ gForL tg body s.2 env Q := (rfl)
/-! changes -/
def plK (gs : List (Env → R D)) (k : D → List Int → List D → G) (env : Env) (Q : Ou → Prop) : Option (Option D) → Prop
  | some (some d) => match xPath gs env with
    | some π => match getP d π with
      | some (.lst .ow xs) => k d π xs env Q
      | _ => False
    | none => False
  | _ => False
@[simp] theorem gPl_eq (i : Nat) (gs : List (Env → R D)) (k : D → List Int → List D → G) : gPl i gs k env Q = plK gs k env Q env[i]? := by
  unfold gPl plK
  cases env[i]? with
  | none => rfl
  | some o => cases o with
    | none => rfl
    | some d =>
      rfl
@[simp] theorem plK_nil (k : D → List Int → List D → G) (xs : List D) : plK [] k env Q (some (some (.lst .ow xs))) = k (.lst .ow xs) [] xs env Q := (rfl)
def plK1 (k : D → List Int → List D → G) (d : D) (n : Int) (env : Env) (Q : Ou → Prop) : Option D → Prop
  | some (.lst .ow ys) => k d [n] ys env Q
  | _ => False
@[simp] theorem plK1_some (k : D → List Int → List D → G) (d : D) (n : Int) (ys : List D) : plK1 k d n env Q (some (.lst .ow ys)) = k d [n] ys env Q := (rfl)
theorem plK_one (k : D → List Int → List D → G) (xs : List D) (g : Env → R D) (n : Int) (h : g env = .ok (.int n)) : plK [g] k env Q (some (some (.lst .ow xs))) = plK1 k (.lst .ow xs) n env Q (L2.atI xs n) := by
  unfold plK
  simp only [xPath, h, getP, List.nil_append]
  unfold plK1
  cases L2.atI xs n with
  | none => rfl
  | some d => rfl
@[simp] theorem setP_nil (d e : D) : setP d [] e = e := by cases d <;> rfl
theorem setP_one (k : Kd) (xs : List D) (n : Int) (e : D) (j : Nat) (h : L2.ixN xs.length n = some j) : setP (.lst k xs) [n] e = .lst k (xs.set j e) := by
  unfold setP
  rw [h]
  simp
@[simp] theorem gApp_eq (i : Nat) (gs : List (Env → R D)) (f : Env → R D) : gApp i gs f env Q = plK gs (fun d π xs env Q => gEv (f env) env Q fun y => y.sto = true ∧ xs.length < 16777216 ∧ Q (.nx (env.set i (some (setP d π (.lst .ow (xs ++ [y]))))))) env Q env[i]? := by unfold gApp; rw [gPl_eq]
@[simp] theorem gPop_eq (i : Nat) (gs : List (Env → R D)) : gPop i gs env Q = plK gs (fun d π xs env Q => xs ≠ [] ∧ Q (.nx (env.set i (some (setP d π (.lst .ow xs.dropLast)))))) env Q env[i]? := by unfold gPop; rw [gPl_eq]
def insK (i : Nat) (d : D) (π : List Int) (xs : List D) (y : D) (env : Env) (Q : Ou → Prop) : D → Prop
  | .int n => 0 ≤ n ∧ n < 9223372036854775808 ∧ Q (.nx (env.set i (some (setP d π (.lst .ow (xs.take n.toNat ++ [y] ++ xs.drop n.toNat))))))
  | _ => False
@[simp] theorem insK_int (i : Nat) (d : D) (π : List Int) (xs : List D) (y : D) (n : Int) : insK i d π xs y env Q (.int n) = (0 ≤ n ∧ n < 9223372036854775808 ∧ Q (.nx (env.set i (some (setP d π (.lst .ow (xs.take n.toNat ++ [y] ++ xs.drop n.toNat))))))) := (rfl)
@[simp] theorem gIns_eq (i : Nat) (gs : List (Env → R D)) (f g : Env → R D) : gIns i gs f g env Q = plK gs (fun d π xs env Q => gEv (f env) env Q fun n => gEv (g env) env Q fun y => y.sto = true ∧ xs.length < 16777216 ∧ insK i d π xs y env Q n) env Q env[i]? := by
  unfold gIns
  rw [gPl_eq]
  rfl
def extK (i : Nat) (d : D) (π : List Int) (xs : List D) (env : Env) (Q : Ou → Prop) : D → Prop
  | .lst k ys => k ≠ .sc ∧ D.stos ys = true ∧ xs.length + ys.length ≤ 16777216 ∧ Q (.nx (env.set i (some (setP d π (.lst .ow (xs ++ ys))))))
  | _ => False
@[simp] theorem extK_lst (i : Nat) (d : D) (π : List Int) (xs ys : List D) (k : Kd) : extK i d π xs env Q (.lst k ys) = (k ≠ .sc ∧ D.stos ys = true ∧ xs.length + ys.length ≤ 16777216 ∧ Q (.nx (env.set i (some (setP d π (.lst .ow (xs ++ ys))))))) := (rfl)
@[simp] theorem gExt_eq (i : Nat) (gs : List (Env → R D)) (f : Env → R D) : gExt i gs f env Q = plK gs (fun d π xs env Q => gEv (f env) env Q (extK i d π xs env Q)) env Q env[i]? := by
  unfold gExt
  rw [gPl_eq]
  rfl
def augLK (i : Nat) (f : Env → R D) (env : Env) (Q : Ou → Prop) : Option (Option D) → Prop
  | some (some (.lst .ow xs)) => gEv (f env) env Q (extK i (.lst .ow xs) [] xs env Q)
  | _ => False
@[simp] theorem augLK_some (i : Nat) (f : Env → R D) (xs : List D) : augLK i f env Q (some (some (.lst .ow xs))) = gEv (f env) env Q (extK i (.lst .ow xs) [] xs env Q) := (rfl)
@[simp] theorem gAugL_eq (i : Nat) (f : Env → R D) : gAugL i f env Q = augLK i f env Q env[i]? := by
  rfl
def setIK (i : Nat) (d : D) (π : List Int) (xs : List D) (y : D) (env : Env) (Q : Ou → Prop) : D → Prop
  | .int n => match L2.ixN xs.length n with
    | some j => Q (.nx (env.set i (some (setP d π (.lst .ow (xs.set j y))))))
    | none => False
  | _ => False
theorem setIK_int (i : Nat) (d : D) (π : List Int) (xs : List D) (y : D) (n : Int) (j : Nat) (h : L2.ixN xs.length n = some j) : setIK i d π xs y env Q (.int n) = Q (.nx (env.set i (some (setP d π (.lst .ow (xs.set j y)))))) := by
  unfold setIK
  simp only [h]
def setJ (i : Nat) (d : D) (π : List Int) (xs : List D) (y : D) (env : Env) (Q : Ou → Prop) : Option Nat → Prop
  | some j => Q (.nx (env.set i (some (setP d π (.lst .ow (xs.set j y))))))
  | none => False
@[simp] theorem setJ_some (i : Nat) (d : D) (π : List Int) (xs : List D) (y : D) (j : Nat) : setJ i d π xs y env Q (some j) = Q (.nx (env.set i (some (setP d π (.lst .ow (xs.set j y)))))) := (rfl)
@[simp] theorem setIK_eq (i : Nat) (d : D) (π : List Int) (xs : List D) (y : D) (n : Int) : setIK i d π xs y env Q (.int n) = setJ i d π xs y env Q (L2.ixN xs.length n) := by
  show (match L2.ixN xs.length n with
    | some j => Q (.nx (env.set i (some (setP d π (.lst .ow (xs.set j y))))))
    | none => False) = setJ i d π xs y env Q (L2.ixN xs.length n)
  cases L2.ixN xs.length n <;> rfl
@[simp] theorem gSetI_eq (i : Nat) (gs : List (Env → R D)) (g f : Env → R D) : gSetI i gs g f env Q = plK gs (fun d π xs env Q => gEv (f env) env Q fun y => gEv (g env) env Q fun n => y.sto = true ∧ setIK i d π xs y env Q n) env Q env[i]? := by
  unfold gSetI
  rw [gPl_eq]
  rfl
theorem gAugI_int (i : Nat) (gs : List (Env → R D)) (op : Int → Int → Int) (g f : Env → R D) (xs : List D) (d : D) (π : List Int) (n x y : Int) (j : Nat) (e1 : env[i]? = some (some d)) (e2 : xPath gs env = some π) (e3 : getP d π = some (.lst .ow xs)) (e4 : g env = .ok (.int n)) (e5 : f env = .ok (.int y)) (e6 : L2.ixN xs.length n = some j) (e7 : xs[j]? = some (.int x)) :
    gAugI i gs op g f env Q = Q (.nx (env.set i (some (setP d π (.lst .ow (xs.set j (.int (op x y)))))))) := by
  unfold gAugI gPl
  simp only [e1, e2, e3, e4, gEv_ok, e5, e6, e7]
def augK (i : Nat) (op : Int → Int → Int) (x : Int) (env : Env) (Q : Ou → Prop) : D → Prop
  | .int y => Q (.nx (env.set i (some (.int (op x y)))))
  | _ => False
@[simp] theorem augK_int (i : Nat) (op : Int → Int → Int) (x y : Int) : augK i op x env Q (.int y) = Q (.nx (env.set i (some (.int (op x y))))) := (rfl)
def augKK (i : Nat) (op : Int → Int → Int) (f : Env → R D) (env : Env) (Q : Ou → Prop) : Option (Option D) → Prop
  | some (some (.int x)) => gEv (f env) env Q (augK i op x env Q)
  | _ => False
@[simp] theorem augKK_int (i : Nat) (op : Int → Int → Int) (f : Env → R D) (x : Int) : augKK i op f env Q (some (some (.int x))) = gEv (f env) env Q (augK i op x env Q) := (rfl)
@[simp] theorem gAug_eq (i : Nat) (op : Int → Int → Int) (f : Env → R D) : gAug i op f env Q = augKK i op f env Q env[i]? := by
  rfl
/-! exceptions -/
def tryK (cat : Cat) (h : G) (Q : Ou → Prop) : Ou → Prop
  | .nx e => Q (.nx e)
  | .rt d => Q (.rt d)
  | .bk e => Q (.bk e)
  | .ct e => Q (.ct e)
  | .rz c e => match cat c with
    | some true => h e (noRz Q)
    | some false => Q (.rz c e)
    | none => False
theorem gTry_eq (cat : Cat) (g h : G) : gTry cat g h env Q = g env (tryK cat h Q) := by
  unfold gTry
  congr 1
  funext o
  cases o <;> rfl
def tryAsK (cl : String → Addr) (cat : Cat) (i : Nat) (h : G) (Q : Ou → Prop) : Ou → Prop
  | .nx e => Q (.nx e)
  | .rt d => Q (.rt d)
  | .bk e => Q (.bk e)
  | .ct e => Q (.ct e)
  | .rz c e => match cat c with
    | some true => h (e.set i (some (.exc c (cl c)))) (gGone i Q)
    | some false => Q (.rz c e)
    | none => False
theorem gTryAs_eq (cl : String → Addr) (cat : Cat) (i : Nat) (g h : G) : gTryAs cl cat i g h env Q = g env (tryAsK cl cat i h Q) := by
  unfold gTryAs
  congr 1
  funext o
  cases o <;> rfl
def tryEK (cat : Cat) (h k : G) (Q : Ou → Prop) : Ou → Prop
  | .nx e => k e Q
  | .rt d => Q (.rt d)
  | .bk e => Q (.bk e)
  | .ct e => Q (.ct e)
  | .rz c e => match cat c with
    | some true => h e (noRz Q)
    | some false => Q (.rz c e)
    | none => False
theorem gTryE_eq (cat : Cat) (g h k : G) : gTryE cat g h k env Q = g env (tryEK cat h k Q) := by
  unfold gTryE
  congr 1
  funext o
  cases o <;> rfl
def tryMK (l : List (Cat × G)) (Q : Ou → Prop) : Ou → Prop
  | .nx e => Q (.nx e)
  | .rt d => Q (.rt d)
  | .bk e => Q (.bk e)
  | .ct e => Q (.ct e)
  | .rz c e => gCatch Q c e l
theorem gTryM_eq (g : G) (l : List (Cat × G)) : gTryM g l env Q = g env (tryMK l Q) := by
  unfold gTryM
  congr 1
  funext o
  cases o <;> rfl
/-! outcomes -/
@[simp] theorem Out_nx (r : R D) (e : Env) : Out r (.nx e) = (r = .ok .non) := (rfl)
@[simp] theorem Out_rt (r : R D) (d : D) : Out r (.rt d) = (r = .ok d) := (rfl)
@[simp] theorem Out_rz (r : R D) (c : String) (e : Env) : Out r (.rz c e) = (r = .er c) := (rfl)
@[simp] theorem Out_bk (r : R D) (e : Env) : Out r (.bk e) = False := (rfl)
@[simp] theorem Out_ct (r : R D) (e : Env) : Out r (.ct e) = False := (rfl)
end

/-! ## loops -/
def forK (tg : Tgt) (body : G) (ds : List D) (Q : Ou → Prop) : Ou → Prop
  | .nx e => gForL tg body ds e Q
  | .ct e => gForL tg body ds e Q
  | .bk e => Q (.nx e)
  | .rt d => Q (.rt d)
  | .rz c e => Q (.rz c e)
section
variable {tg : Tgt} {body : G} {ds : List D} {Q : Ou → Prop} {env : Env}
@[simp] theorem forK_nx (e : Env) : forK tg body ds Q (.nx e) = gForL tg body ds e Q := (rfl)
@[simp] theorem forK_ct (e : Env) : forK tg body ds Q (.ct e) = gForL tg body ds e Q := (rfl)
@[simp] theorem forK_bk (e : Env) : forK tg body ds Q (.bk e) = Q (.nx e) := (rfl)
@[simp] theorem forK_rt (d : D) : forK tg body ds Q (.rt d) = Q (.rt d) := (rfl)
@[simp] theorem forK_rz (c : String) (e : Env) : forK tg body ds Q (.rz c e) = Q (.rz c e) := (rfl)
theorem gForL_nil : gForL tg body [] env Q = Q (.nx env) := rfl
theorem gForL_cons (d : D) : gForL tg body (d :: ds) env Q = (d.sto = true ∧ ∃ e, tg d env = some e ∧ body e (forK tg body ds Q)) := by
  show (d.sto = true ∧ ∃ e, tg d env = some e ∧ _) = _
  congr 1
  congr 1
  funext e
  congr 1
  congr 1
  funext o
  cases o <;> rfl
@[simp] theorem tgN_eq (j : Nat) (d : D) : tgN j d env = some (env.set j (some d)) := (rfl)
@[simp] theorem tgT_eq (js : List Nat) (ds : List D) : tgT js (.tup ds) env = setAll js ds env := (rfl)
/-- by an invariant over what is left -/
theorem for_inv {α : Type} {f : α → D} (I : List α → Env → Prop) (hf : ∀ a, (f a).sto = true) (xs : List α) (h0 : I xs env)
    (step : ∀ a as env, I (a :: as) env → (∀ e, I as e → gForL tg body (encL f as) e Q) → ∃ e, tg (f a) env = some e ∧ body e (forK tg body (encL f as) Q)) (done : ∀ env, I [] env → Q (.nx env)) : gForL tg body (encL f xs) env Q := by
  induction xs generalizing env with
  | nil => exact done env h0
  | cons a as ih =>
    rw [encL_cons, gForL_cons]
    exact ⟨hf a, step a as env h0 fun e he => ih he⟩
/-- the same, the items known to be of the list -/
theorem for_inv' {α : Type} {f : α → D} (xs : List α) (I : List α → Env → Prop) (hf : ∀ a ∈ xs, (f a).sto = true) (h0 : I xs env)
    (step : ∀ a as env, a ∈ xs → I (a :: as) env → (∀ e, I as e → gForL tg body (encL f as) e Q) → ∃ e, tg (f a) env = some e ∧ body e (forK tg body (encL f as) Q)) (done : ∀ env, I [] env → Q (.nx env)) : gForL tg body (encL f xs) env Q := by
  have key : ∀ ys : List α, (∀ a ∈ ys, a ∈ xs) → ∀ env, I ys env → gForL tg body (encL f ys) env Q := by
    intro ys
    induction ys with
    | nil => exact fun _ env h => done env h
    | cons a as ih =>
      intro hs env h
      rw [encL_cons, gForL_cons]
      exact ⟨hf a (hs a (by simp)), step a as env (hs a (by simp)) h fun e he => ih (fun b hb => hs b (by simp [hb])) e he⟩
  exact key xs (fun _ h => h) env h0
theorem for_rng {lo c : Int} {n : Nat} (I : Nat → Env → Prop) (h0 : I 0 env)
    (step : ∀ i env, i < n → I i env → (∀ e, I (i + 1) e → gForL tg body (encL .int (rng (lo + ((i + 1 : Nat) : Int) * c) c (n - (i + 1)))) e Q) → ∃ e, tg (.int (lo + (i : Int) * c)) env = some e ∧ body e (forK tg body (encL .int (rng (lo + ((i + 1 : Nat) : Int) * c) c (n - (i + 1)))) Q)) (done : ∀ env, I n env → Q (.nx env)) : gForL tg body (encL .int (rng lo c n)) env Q := by
  have key : ∀ (m i : Nat), i + m = n → ∀ env, I i env → gForL tg body (encL .int (rng (lo + (i : Int) * c) c m)) env Q := by
    intro m
    induction m with
    | zero =>
      intro i hi env h
      rw [Nat.add_zero] at hi
      subst hi
      exact done env h
    | succ m ih =>
      intro i hi env h
      rw [rng_succ, encL_cons, gForL_cons]
      have e1 : lo + (i : Int) * c + c = lo + ((i + 1 : Nat) : Int) * c := by
        rw [Int.natCast_add, Int.add_mul]; omega
      have e2 : m = n - (i + 1) := by omega
      rw [e1]
      subst e2
      exact ⟨rfl, step i env (by omega) h fun e he => ih (i + 1) (by omega) e he⟩
  have := key n 0 (by omega) env h0
  simpa using this
/-- for i in range(n) -/
theorem for_rng0 {n : Nat} (I : Nat → Env → Prop) (h0 : I 0 env)
    (step : ∀ i env, i < n → I i env → (∀ e, I (i + 1) e → gForL tg body (encL .int (rng ((i : Int) + 1) 1 (n - (i + 1)))) e Q) → ∃ e, tg (.int (i : Int)) env = some e ∧ body e (forK tg body (encL .int (rng ((i : Int) + 1) 1 (n - (i + 1)))) Q)) (done : ∀ env, I n env → Q (.nx env)) : gForL tg body (encL .int (rng 0 1 n)) env Q := by
  refine for_rng I h0 (fun i env hi h ih => ?_) done
  have e1 : (0 : Int) + ((i + 1 : Nat) : Int) * 1 = (i : Int) + 1 := by omega
  have e2 : (0 : Int) + (i : Int) * 1 = (i : Int) := by omega
  rw [e1] at ih ⊢
  rw [e2]
  exact step i env hi h ih
end
/-! the same with what is left hidden -/
def lpK (K : Env → Prop) (Q : Ou → Prop) : Ou → Prop
  | .nx e => K e
  | .ct e => K e
  | .bk e => Q (.nx e)
  | .rt d => Q (.rt d)
  | .rz c e => Q (.rz c e)
section
variable {tg : Tgt} {body : G} {ds : List D} {Q : Ou → Prop} {env : Env} {K : Env → Prop}
@[simp] theorem lpK_nx (e : Env) : lpK K Q (.nx e) = K e := (rfl)
@[simp] theorem lpK_ct (e : Env) : lpK K Q (.ct e) = K e := (rfl)
@[simp] theorem lpK_bk (e : Env) : lpK K Q (.bk e) = Q (.nx e) := (rfl)
@[simp] theorem lpK_rt (d : D) : lpK K Q (.rt d) = Q (.rt d) := (rfl)
@[simp] theorem lpK_rz (c : String) (e : Env) : lpK K Q (.rz c e) = Q (.rz c e) := (rfl)
theorem forK_lpK : forK tg body ds Q = lpK (fun e => gForL tg body ds e Q) Q := by
  funext o
  cases o <;> rfl
theorem lp_inv {α : Type} {f : α → D} (I : List α → Env → Prop) (hf : ∀ a, (f a).sto = true) (xs : List α) (h0 : I xs env)
    (step : ∀ a as env (K : Env → Prop), I (a :: as) env → (∀ e, I as e → K e) → ∃ e, tg (f a) env = some e ∧ body e (lpK K Q)) (done : ∀ env, I [] env → Q (.nx env)) : gForL tg body (encL f xs) env Q :=
  for_inv I hf xs h0 (fun a as env h ih => by rw [forK_lpK]; exact step a as env _ h ih) done
theorem lp_inv' {α : Type} {f : α → D} (xs : List α) (I : List α → Env → Prop) (hf : ∀ a ∈ xs, (f a).sto = true) (h0 : I xs env)
    (step : ∀ a as env (K : Env → Prop), a ∈ xs → I (a :: as) env → (∀ e, I as e → K e) → ∃ e, tg (f a) env = some e ∧ body e (lpK K Q)) (done : ∀ env, I [] env → Q (.nx env)) : gForL tg body (encL f xs) env Q :=
  for_inv' xs I hf h0 (fun a as env hm h ih => by rw [forK_lpK]; exact step a as env _ hm h ih) done
theorem lp_rng {lo c : Int} {n : Nat} (I : Nat → Env → Prop) (h0 : I 0 env)
    (step : ∀ i env (K : Env → Prop), i < n → I i env → (∀ e, I (i + 1) e → K e) → ∃ e, tg (.int (lo + (i : Int) * c)) env = some e ∧ body e (lpK K Q)) (done : ∀ env, I n env → Q (.nx env)) : gForL tg body (encL .int (rng lo c n)) env Q :=
  for_rng I h0 (fun i env hi h ih => by rw [forK_lpK]; exact step i env _ hi h ih) done
theorem lp_rng0 {n : Nat} (I : Nat → Env → Prop) (h0 : I 0 env)
    (step : ∀ i env (K : Env → Prop), i < n → I i env → (∀ e, I (i + 1) e → K e) → ∃ e, tg (.int (i : Int)) env = some e ∧ body e (lpK K Q)) (done : ∀ env, I n env → Q (.nx env)) : gForL tg body (encL .int (rng 0 1 n)) env Q :=
  for_rng0 I h0 (fun i env hi h ih => by rw [forK_lpK]; exact step i env _ hi h ih) done
end
def whK (m : Nat) (Wv : Nat → Env → Prop) (Q : Ou → Prop) : Ou → Prop
  | .nx e => ∃ m', m' < m ∧ Wv m' e
  | .ct e => ∃ m', m' < m ∧ Wv m' e
  | .bk e => Q (.nx e)
  | .rt d => Q (.rt d)
  | .rz c e => Q (.rz c e)
section
variable {m : Nat} {Wv : Nat → Env → Prop} {Q : Ou → Prop} {env : Env}
@[simp] theorem whK_nx (e : Env) : whK m Wv Q (.nx e) = ∃ m', m' < m ∧ Wv m' e := (rfl)
@[simp] theorem whK_ct (e : Env) : whK m Wv Q (.ct e) = ∃ m', m' < m ∧ Wv m' e := (rfl)
@[simp] theorem whK_bk (e : Env) : whK m Wv Q (.bk e) = Q (.nx e) := (rfl)
@[simp] theorem whK_rt (d : D) : whK m Wv Q (.rt d) = Q (.rt d) := (rfl)
@[simp] theorem whK_rz (c : String) (e : Env) : whK m Wv Q (.rz c e) = Q (.rz c e) := (rfl)
theorem gWhile_of {c : Env → R Bool} {body : G} (Wv : Nat → Env → Prop) (m : Nat) (h0 : Wv m env) (step : ∀ m env, Wv m env → gEv (c env) env Q fun b => if b = true then body env (whK m Wv Q) else Q (.nx env)) : gWhile c body env Q := by
  refine ⟨Wv, ⟨m, h0⟩, fun m env h => ?_⟩
  have h1 := step m env h
  have e : ∀ e1, body e1 (fun o => match o with
    | .nx e => ∃ m', m' < m ∧ Wv m' e
    | .ct e => ∃ m', m' < m ∧ Wv m' e
    | .bk e => Q (.nx e)
    | o => Q o) = body e1 (whK m Wv Q) := fun e1 => by
    congr 1
    funext o
    cases o <;> rfl
  cases hc : c env with
  | ok b =>
    rw [hc] at h1
    replace h1 : if b = true then body env (whK m Wv Q) else Q (.nx env) := h1
    rw [← e] at h1
    exact h1
  | er c => rw [hc] at h1; exact h1
  | no => rw [hc] at h1; exact h1
end
/-! comprehensions -/
section
variable {α β : Type} {fa : α → D} {fb : β → D} {tg : Tgt} {c : Env → R Bool} {f : Env → R D} {env : Env}
theorem lcGo_enc (p : α → Bool) (g : α → β) : ∀ xs : List α, (∀ a ∈ xs, ∃ e, tg (fa a) env = some e ∧ c e = .ok (p a) ∧ (p a = true → f e = .ok (fb (g a)) ∧ (fb (g a)).sto = true)) → lcGo tg c f env (encL fa xs) = .ok (encL fb ((xs.filter p).map g))
  | [], _ => rfl
  | a :: as, h => by
    obtain ⟨e, h1, h2, h3⟩ := h a (by simp)
    rw [encL_cons]
    unfold lcGo
    simp only [h1, h2, R.bind_ok]
    have ih := lcGo_enc p g as fun b hb => h b (by simp [hb])
    cases hp : p a with
    | false => simp [ih, hp]
    | true =>
      obtain ⟨h4, h5⟩ := h3 hp
      simp [h4, h5, ih, hp, encL_cons]
@[simp] theorem wipeE_nil : wipeE env [] = env := (rfl)
@[simp] theorem wipeE_cons (v : Nat) (vs : List Nat) : wipeE env (v :: vs) = (wipeE env vs).set v none := (rfl)
theorem xLc_enc {src : Env → R (Bool × List D)} {vs : List Nat} {b : Bool} (xs : List α) (p : α → Bool) (g : α → β) (hs : src env = .ok (b, encL fa xs)) (hl : xs.length ≤ 16777216) (h : ∀ a ∈ xs, ∃ e, tg (fa a) (wipeE env vs) = some e ∧ c e = .ok (p a) ∧ (p a = true → f e = .ok (fb (g a)) ∧ (fb (g a)).sto = true)) :
    xLc src tg c f vs env = .ok (.lst .ow (encL fb ((xs.filter p).map g))) := by
  unfold xLc
  rw [hs, R.bind_ok]
  simp only [lcGo_enc (fa := fa) (fb := fb) p g xs h, encL_length, hl, if_true]
/-- without a test -/
theorem xLc_map {src : Env → R (Bool × List D)} {vs : List Nat} {b : Bool} (xs : List α) (g : α → β) (hs : src env = .ok (b, encL fa xs)) (hl : xs.length ≤ 16777216) (h : ∀ a ∈ xs, ∃ e, tg (fa a) (wipeE env vs) = some e ∧ c e = .ok true ∧ f e = .ok (fb (g a)) ∧ (fb (g a)).sto = true) :
    xLc src tg c f vs env = .ok (.lst .ow (encL fb (xs.map g))) := by
  rw [xLc_enc (fa := fa) (fb := fb) xs (fun _ => true) g hs hl fun a ha => ?_]
  · rw [List.filter_eq_self.mpr (fun _ _ => rfl)]
  · obtain ⟨e, h1, h2, h3, h4⟩ := h a ha
    exact ⟨e, h1, h2, fun _ => ⟨h3, h4⟩⟩
end
/-- a comprehension over what its source gives -/
def xLcR (tg : Tgt) (c : Env → R Bool) (f : Env → R D) (vs : List Nat) (env : Env) (xs : List D) : R D := match lcGo tg c f (wipeE env vs) xs with
  | .ok ys => if xs.length ≤ 16777216 then R.ok (.lst .ow ys) else R.no
  | _ => R.no
section
variable {α β : Type} {fa : α → D} {fb : β → D} {tg : Tgt} {c : Env → R Bool} {f : Env → R D} {env : Env} {vs : List Nat}
@[simp] theorem xLc_eq (src : Env → R (Bool × List D)) : xLc src tg c f vs env = src env >>= fun s => xLcR tg c f vs env s.2 := (rfl)
theorem lcR_enc (xs : List α) (p : α → Bool) (g : α → β) (hl : xs.length ≤ 16777216) (h : ∀ a ∈ xs, ∃ e, tg (fa a) (wipeE env vs) = some e ∧ c e = .ok (p a) ∧ (p a = true → f e = .ok (fb (g a)) ∧ (fb (g a)).sto = true)) :
    xLcR tg c f vs env (encL fa xs) = .ok (.lst .ow (encL fb ((xs.filter p).map g))) := by
  unfold xLcR
  simp only [lcGo_enc (fa := fa) (fb := fb) p g xs h, encL_length, hl, if_true]
theorem lcR_map (xs : List α) (g : α → β) (hl : xs.length ≤ 16777216) (h : ∀ a ∈ xs, ∃ e, tg (fa a) (wipeE env vs) = some e ∧ c e = .ok true ∧ f e = .ok (fb (g a)) ∧ (fb (g a)).sto = true) :
    xLcR tg c f vs env (encL fa xs) = .ok (.lst .ow (encL fb (xs.map g))) := by
  rw [lcR_enc (fa := fa) (fb := fb) xs (fun _ => true) g hl fun a ha => ?_]
  · rw [List.filter_eq_self.mpr (fun _ _ => rfl)]
  · obtain ⟨e, h1, h2, h3, h4⟩ := h a ha
    exact ⟨e, h1, h2, fun _ => ⟨h3, h4⟩⟩
/-- [-x for x in ..] -/
@[simp] theorem lcR_neg (j : Nat) (xs : List Int) (hj : j < env.length) (hl : xs.length ≤ 16777216) : xLcR (tgN j) xYes (x1 negD (xVar j)) [j] env (encL .int xs) = .ok (iL .ow (xs.map fun x => -x)) :=
  lcR_map xs (fun x => -x) hl fun a _ => ⟨_, rfl, rfl, by simp [hj, wipeE_length], rfl⟩
end
/-! sources -/
section
variable {env : Env}
@[simp] theorem xSrc_eq (f : Env → R D) : xSrc f env = f env >>= fun d => R.of (srcL d) := (rfl)
@[simp] theorem xSrcT_eq (f : Env → R D) : xSrcT f env = f env >>= fun d => R.of (srcT d) := (rfl)
@[simp] theorem xSrcRev_eq (f : Env → R D) : xSrcRev f env = f env >>= fun d => R.of (srcL d) >>= fun s => R.ok (s.1, s.2.reverse) := (rfl)
@[simp] theorem xSrcEnum_eq (f : Env → R D) : xSrcEnum f env = f env >>= fun d => R.of (srcL d) >>= fun s => R.ok (s.1, enumL 0 s.2) := (rfl)
@[simp] theorem xSrcZip_eq (f g : Env → R D) : xSrcZip f g env = f env >>= fun d => g env >>= fun e => R.of (srcL d) >>= fun s => R.of (srcL e) >>= fun t => R.ok (s.1 || t.1, zipL s.2 t.2) := (rfl)
@[simp] theorem srcL_fz (xs : List D) : srcL (.lst .fz xs) = if D.stos xs = true then some (false, xs) else none := (rfl)
@[simp] theorem srcL_sc (xs : List D) : srcL (.lst .sc xs) = if D.stos xs = true then some (false, xs) else none := (rfl)
@[simp] theorem srcL_bo (xs : List D) : srcL (.lst .bo xs) = some (true, D.bors xs) := (rfl)
@[simp] theorem srcL_ow (xs : List D) : srcL (.lst .ow xs) = if D.stos xs = true then some (false, D.frzs xs) else some (true, D.bors xs) := (rfl)
@[simp] theorem srcT_tup (xs : List D) : srcT (.tup xs) = if D.stos xs = true then some (false, D.frzs xs) else some (true, D.bors xs) := (rfl)
@[simp] theorem intR_int (i : Int) : intR (.int i) = if -4611686018427387904 ≤ i ∧ i < 4611686018427387904 then .ok i else .no := (rfl)
@[simp] theorem xRng1_eq (f : Env → R D) : xRng1 f env = f env >>= fun d => intR d >>= fun n => R.ok (false, rngL 0 1 n.toNat) := (rfl)
@[simp] theorem xRng2_eq (f g : Env → R D) : xRng2 f g env = f env >>= fun d => g env >>= fun e => intR d >>= fun lo => intR e >>= fun hi => R.ok (false, rngL lo 1 (hi - lo).toNat) := (rfl)
@[simp] theorem xRng3_eq (f g : Env → R D) : xRng3 f g env = f env >>= fun d => g env >>= fun e => intR d >>= fun lo => intR e >>= fun hi => R.ok (false, rngL lo (-1) (lo - hi).toNat) := (rfl)
@[simp] theorem xRevRng1_eq (f : Env → R D) : xRevRng1 f env = f env >>= fun d => intR d >>= fun n => R.ok (false, rngL ((n.toNat : Int) - 1) (-1) n.toNat) := (rfl)
end

/-! ## what a def does -/
open Classical in
/-- a def's results: by things that stand for its arguments -/
noncomputable def mk {α : Type} (enc : α → List D) (pre : α → Prop) (out : α → R D) : List D → R D := fun ds => if h : ∃ a, pre a ∧ enc a = ds then out h.choose else .no
theorem mk_eq {α : Type} {enc : α → List D} {pre : α → Prop} {out : α → R D} (inj : ∀ a b, enc a = enc b → a = b) (a : α) (h : pre a) : mk enc pre out (enc a) = out a := by
  unfold mk
  have hx : ∃ b, pre b ∧ enc b = enc a := ⟨a, h, rfl⟩
  rw [dif_pos hx]
  rw [inj _ _ hx.choose_spec.2]
theorem mk_h {α : Type} {enc : α → List D} {pre : α → Prop} {out : α → R D} {g : G} {N : List Str} {n : Nat} (h : ∀ a, pre a → g (env0 N (enc a)) (Out (out a))) : ∀ ds, ds.length = n → D.stos ds = true → mk enc pre out ds ≠ .no → g (env0 N ds) (Out (mk enc pre out ds)) := by
  intro ds _ _ hn
  unfold mk at hn ⊢
  by_cases hx : ∃ b, pre b ∧ enc b = ds
  · rw [dif_pos hx]
    have := h _ hx.choose_spec.1
    rw [hx.choose_spec.2] at this
    exact this
  · rw [dif_neg hx] at hn
    exact absurd rfl hn
/-- the law's own contract, whatever the classes' places -/
def CtrL (K : PySem.W.Frag) (m : List D → R D) : Sp := fun vs H Q _ => ∃ B ds d, Same B H ∧ Rps K B H ds vs [] ∧ D.stos ds = true ∧ vs.length = 1 ∧ m ds = .ok d ∧ OkE K B H d Q
theorem ctrL {K : PySem.W.Frag} {m : List D → R D} {H : Hp} {a : Addr} {ns : List Int} (hS : SqL K H a (ns.map V.int)) (h : m [.lst .sc (ns.map .int)] = .ok (.bl true)) : CtrL K m [.ref a] H (fun v _ => v = .bl true) fun _ _ _ => False := by
  refine ⟨H, [.lst .sc (ns.map .int)], .bl true, .refl _, ?_, ?_, rfl, h, fun v B' H' qs st r nd fr => r.1⟩
  · unfold Rps
    refine ⟨.ref a, [], [], [], rfl, rfl, ?_, ⟨rfl, rfl⟩⟩
    unfold Rp
    exact ⟨a, _, [], rfl, hS, ⟨rfl, rfl⟩, rps_of_ints ns⟩
  · simp [D.stos, D.sto, stos_ints ns]
theorem ctrF {P : Program} {w : World} {K : PySem.W.Frag} {mg : Str → Option Value} {fa : Addr} {x : Str} {k : Nat} {m : List D → R D} (h : ∃ (fd : FuncData) (cl : String → Addr), (∀ (s : Shared) (v : Value), BindsTo s fd ⟨[v], []⟩ [(x, v)]) ∧ ∀ base : Heap, K.In base → base.Ns mainGlobals mg → FnOk P w K mg base (L2.CX P w) k fa fd [x] (Ctr K cl 1 m)) :
    ∃ fd : FuncData, (∀ (s : Shared) (v : Value), BindsTo s fd ⟨[v], []⟩ [(x, v)]) ∧ ∀ base : Heap, K.In base → base.Ns mainGlobals mg → FnOk P w K mg base (L2.CX P w) k fa fd [x] (CtrL K m) := by
  obtain ⟨fd, cl, h1, h2⟩ := h
  refine ⟨fd, h1, fun base a b => (h2 base a b).imp fun vs H Q E ⟨B, ds, d, i, r, s, l, e, q⟩ => ⟨B, ds, i, r, s, l, ?_⟩⟩
  rw [e]
  exact q
theorem cx_no {P : Program} {w : World} {H : Hp} {s : Shared} {e : Value} {s' : Shared} (h : L2.CX P w [] H s (fun _ _ _ => False) e s') : False := by
  obtain ⟨_, _, _, _, _, _, _, _, _, _, _, _, z⟩ := h
  exact z
end BC

namespace BC
open PySem PySem.Spec PyProof.Rows L2

/-! ## == -/
/-- comparable things, at most so deep -/
structure CD (n : Nat) (d : D) : Prop where
  dat : d.dat = true
  lay : d.py.canLay0 = true
  dep : d.py.depth ≤ n
structure CDs (n : Nat) (ds : List D) : Prop where
  dat : D.dats ds = true
  lay : PyData.canLayAll0 (D.pys ds) = true
  dep : PyData.depthAll (D.pys ds) ≤ n
theorem CD.int {n : Nat} (i : Int) : CD n (.int i) := ⟨rfl, rfl, Nat.zero_le _⟩
theorem CD.bl {n : Nat} (i : Bool) : CD n (.bl i) := ⟨rfl, rfl, Nat.zero_le _⟩
theorem CD.non {n : Nat} : CD n .non := ⟨rfl, rfl, Nat.zero_le _⟩
theorem CD.str {n : Nat} (s : Str) (h : PyData.canLay0 (.str s) = true) : CD n (.str s) := ⟨rfl, h, Nat.zero_le _⟩
theorem CDs.nil {n : Nat} : CDs n [] := ⟨rfl, rfl, Nat.zero_le _⟩
theorem CDs.cons {n : Nat} {d : D} {ds : List D} (a : CD n d) (b : CDs n ds) : CDs n (d :: ds) :=
  ⟨by simp [D.dats, a.dat, b.dat], by simp [D.pys, PyData.canLayAll0, a.lay, b.lay], by simp only [D.pys, PyData.depthAll]; exact Nat.max_le.mpr ⟨a.dep, b.dep⟩⟩
theorem CD.lst {n : Nat} {k : Kd} {xs : List D} (h : CDs n xs) : CD (n + 1) (.lst k xs) :=
  ⟨by simp [D.dat, h.dat], by simp [D.py, PyData.canLay0, h.lay], by simp only [D.py, PyData.depth]; have := h.dep; omega⟩
theorem CD.tup {n : Nat} {xs : List D} (h : CDs n xs) : CD (n + 1) (.tup xs) :=
  ⟨by simp [D.dat, h.dat], by simp [D.py, PyData.canLay0, h.lay], by simp only [D.py, PyData.depth]; have := h.dep; omega⟩
theorem CDs.enc {α : Type} {f : α → D} {n : Nat} (h : ∀ a, CD n (f a)) : ∀ xs : List α, CDs n (encL f xs)
  | [] => .nil
  | a :: as => .cons (h a) (CDs.enc h as)
theorem CDs.enc' {α : Type} {f : α → D} {n : Nat} : ∀ xs : List α, (∀ a ∈ xs, CD n (f a)) → CDs n (encL f xs)
  | [], _ => .nil
  | a :: as, h => .cons (h a (by simp)) (CDs.enc' as fun b hb => h b (by simp [hb]))
theorem CD.ok {n : Nat} {d : D} (h : CD n d) (hn : n ≤ 64) : d.cmpOk = true := by
  unfold D.cmpOk SeqAt.shaped
  rw [h.dat, h.lay]
  simp
  exact Nat.le_trans h.dep hn
theorem CD.iL {n : Nat} (k : Kd) (xs : List Int) : CD (n + 1) (iL k xs) := .lst (CDs.enc (fun _ => .int _) xs)
theorem CD.iLL {n : Nat} (k k' : Kd) (xs : List (List Int)) : CD (n + 2) (iLL k k' xs) := .lst (CDs.enc (fun _ => .iL _ _) xs)
/-- the same data -/
def D.eqvs (xs ys : List D) : Bool := PyData.eqvAll (D.pys xs) (D.pys ys)
@[simp] theorem eqv_int (i j : Int) : (D.int i).eqv (.int j) = decide (i = j) := by
  show (i == j) = _
  by_cases h : i = j <;> simp [h]
@[simp] theorem eqv_str (i j : Str) : (D.str i).eqv (.str j) = decide (i = j) := by
  show (i == j) = _
  by_cases h : i = j <;> simp [h]
@[simp] theorem eqv_bl (i j : Bool) : (D.bl i).eqv (.bl j) = decide (i = j) := by
  show (i == j) = _
  cases i <;> cases j <;> rfl
@[simp] theorem eqv_non : (D.non).eqv .non = true := (rfl)
@[simp] theorem eqv_lst (k k' : Kd) (xs ys : List D) : (D.lst k xs).eqv (.lst k' ys) = D.eqvs xs ys := (rfl)
@[simp] theorem eqv_tup (xs ys : List D) : (D.tup xs).eqv (.tup ys) = D.eqvs xs ys := (rfl)
@[simp] theorem eqv_lst_non (k : Kd) (xs : List D) : (D.lst k xs).eqv .non = false := (rfl)
@[simp] theorem eqv_tup_non (xs : List D) : (D.tup xs).eqv .non = false := (rfl)
@[simp] theorem eqv_non_tup (xs : List D) : (D.non).eqv (.tup xs) = false := (rfl)
@[simp] theorem eqv_non_lst (k : Kd) (xs : List D) : (D.non).eqv (.lst k xs) = false := (rfl)
@[simp] theorem eqvs_nil : D.eqvs [] [] = true := (rfl)
@[simp] theorem eqvs_cons (x y : D) (xs ys : List D) : D.eqvs (x :: xs) (y :: ys) = (x.eqv y && D.eqvs xs ys) := (rfl)
@[simp] theorem eqvs_nc (y : D) (ys : List D) : D.eqvs [] (y :: ys) = false := (rfl)
@[simp] theorem eqvs_cn (y : D) (ys : List D) : D.eqvs (y :: ys) [] = false := (rfl)
theorem eqvs_enc {α : Type} [DecidableEq α] {f g : α → D} (h : ∀ a b, (f a).eqv (g b) = decide (a = b)) : ∀ xs ys : List α, D.eqvs (encL f xs) (encL g ys) = decide (xs = ys)
  | [], [] => rfl
  | [], _ :: _ => rfl
  | _ :: _, [] => rfl
  | a :: as, b :: bs => by
    rw [encL_cons, encL_cons, eqvs_cons, h, eqvs_enc h as bs]
    simp
@[simp] theorem eqvs_int (xs ys : List Int) : D.eqvs (encL .int xs) (encL .int ys) = decide (xs = ys) := eqvs_enc eqv_int xs ys
@[simp] theorem eqvs_str (xs ys : List Str) : D.eqvs (encL .str xs) (encL .str ys) = decide (xs = ys) := eqvs_enc eqv_str xs ys
theorem eqv_iL (k k' : Kd) (xs ys : List Int) : (iL k xs).eqv (iL k' ys) = decide (xs = ys) := by rw [eqv_lst, eqvs_int]
@[simp] theorem eqvs_iL (k k' : Kd) (xs ys : List (List Int)) : D.eqvs (encL (iL k) xs) (encL (iL k') ys) = decide (xs = ys) := eqvs_enc (eqv_iL k k') xs ys
@[simp] theorem eqvs_enc_nil {α : Type} {f : α → D} (xs : List α) : D.eqvs (encL f xs) [] = xs.isEmpty := by cases xs <;> rfl
@[simp] theorem eqvs_nil_enc {α : Type} {f : α → D} (xs : List α) : D.eqvs [] (encL f xs) = xs.isEmpty := by cases xs <;> rfl
theorem eqD_of {a b : D} (ca : a.cmpOk = true) (cb : b.cmpOk = true) : eqD a b = some (.bl (a.eqv b)) := by
  unfold eqD
  rw [ca, cb]
  rfl
theorem neD_of {a b : D} (ca : a.cmpOk = true) (cb : b.cmpOk = true) : neD a b = some (.bl (!a.eqv b)) := by
  unfold neD
  rw [ca, cb]
  rfl
@[simp] theorem cmp_int (i : Int) : (D.int i).cmpOk = true := (CD.int (n := 0) i).ok (by decide)
@[simp] theorem cmp_bl (i : Bool) : (D.bl i).cmpOk = true := (CD.bl (n := 0) i).ok (by decide)
@[simp] theorem cmp_non : (D.non).cmpOk = true := (CD.non (n := 0)).ok (by decide)
@[simp] theorem cmp_iL (k : Kd) (xs : List Int) : (D.lst k (encL .int xs)).cmpOk = true := (CD.iL (n := 0) k xs).ok (by decide)
@[simp] theorem cmp_nil (k : Kd) : (D.lst k []).cmpOk = true := (CD.lst (n := 0) .nil).ok (by decide)
@[simp] theorem cmp_iLL (k k' : Kd) (xs : List (List Int)) : (D.lst k (encL (iL k') xs)).cmpOk = true := (CD.iLL (n := 0) k k' xs).ok (by decide)
/-- tuples and lists of few comparable things -/
theorem CD.of_ok {d : D} (h : d.cmpOk = true) : CD 64 d := by
  unfold D.cmpOk SeqAt.shaped at h
  simp at h
  exact ⟨h.1, h.2.1, h.2.2⟩
@[simp] theorem eqD_int (i j : Int) : eqD (.int i) (.int j) = some (.bl (decide (i = j))) := by rw [eqD_of (by simp) (by simp), eqv_int]
@[simp] theorem neD_int (i j : Int) : neD (.int i) (.int j) = some (.bl (!decide (i = j))) := by rw [neD_of (by simp) (by simp), eqv_int]
@[simp] theorem eqD_iL (k k' : Kd) (xs ys : List Int) : eqD (.lst k (encL .int xs)) (.lst k' (encL .int ys)) = some (.bl (decide (xs = ys))) := by rw [eqD_of (by simp) (by simp), eqv_lst, eqvs_int]
@[simp] theorem neD_iL (k k' : Kd) (xs ys : List Int) : neD (.lst k (encL .int xs)) (.lst k' (encL .int ys)) = some (.bl (!decide (xs = ys))) := by rw [neD_of (by simp) (by simp), eqv_lst, eqvs_int]
@[simp] theorem eqD_iLn (k k' : Kd) (xs : List Int) : eqD (.lst k (encL .int xs)) (.lst k' []) = some (.bl (decide (xs = []))) := eqD_iL k k' xs []
@[simp] theorem neD_iLn (k k' : Kd) (xs : List Int) : neD (.lst k (encL .int xs)) (.lst k' []) = some (.bl (!decide (xs = []))) := neD_iL k k' xs []
@[simp] theorem eqD_iLL (k k1 k' k2 : Kd) (xs ys : List (List Int)) : eqD (.lst k (encL (iL k1) xs)) (.lst k' (encL (iL k2) ys)) = some (.bl (decide (xs = ys))) := by rw [eqD_of (by simp) (by simp), eqv_lst, eqvs_iL]
@[simp] theorem neD_iLL (k k1 k' k2 : Kd) (xs ys : List (List Int)) : neD (.lst k (encL (iL k1) xs)) (.lst k' (encL (iL k2) ys)) = some (.bl (!decide (xs = ys))) := by rw [neD_of (by simp) (by simp), eqv_lst, eqvs_iL]
@[simp] theorem eqD_iLLn (k k1 k' : Kd) (xs : List (List Int)) : eqD (.lst k (encL (iL k1) xs)) (.lst k' []) = some (.bl (decide (xs = []))) := eqD_iLL k k1 k' k1 xs []
@[simp] theorem neD_iLLn (k k1 k' : Kd) (xs : List (List Int)) : neD (.lst k (encL (iL k1) xs)) (.lst k' []) = some (.bl (!decide (xs = []))) := neD_iLL k k1 k' k1 xs []

@[simp] theorem R.bind_assoc {α β γ : Type} (x : R α) (f : α → R β) (g : β → R γ) : ((x >>= f) >>= g) = x >>= fun a => f a >>= g := by cases x <;> rfl
@[simp] theorem encL_getLast {α : Type} {f : α → D} (xs : List α) : (encL f xs).getLast? = xs.getLast?.map f := by unfold encL; rw [List.getLast?_map]
@[simp] theorem encL_head {α : Type} {f : α → D} (xs : List α) : (encL f xs).head? = xs.head?.map f := by unfold encL; rw [List.head?_map]
/-! ## places in lists -/
section
variable {α : Type}
theorem ixN_nat {n j : Nat} (h : j < n) : L2.ixN n (j : Int) = some j := by
  unfold L2.ixN
  rw [if_pos (by omega), if_pos (by omega)]
  simp
theorem ixN_int {n : Nat} {i : Int} (h0 : 0 ≤ i) (h : i < n) : L2.ixN n i = some i.toNat := by
  unfold L2.ixN
  rw [if_pos h0, if_pos h]
theorem ixN_neg {n : Nat} {i : Int} (h0 : i < 0) (h : -(n : Int) ≤ i) : L2.ixN n i = some (i + n).toNat := by
  unfold L2.ixN
  rw [if_neg (by omega), if_pos h]
theorem atI_int {xs : List α} {i : Int} (h0 : 0 ≤ i) : L2.atI xs i = xs[i.toNat]? := by
  unfold L2.atI
  by_cases h : i < xs.length
  · rw [ixN_int h0 h]; rfl
  · unfold L2.ixN
    rw [if_pos h0, if_neg h, List.getElem?_eq_none (by omega)]
    rfl
theorem atI_zero {xs : List α} : L2.atI xs 0 = xs[0]? := atI_int (by omega)
theorem atI_one {xs : List α} : L2.atI xs 1 = xs[1]? := atI_int (by omega)
theorem atI_two {xs : List α} : L2.atI xs 2 = xs[2]? := atI_int (by omega)
theorem atI_natc {xs : List α} (j : Nat) : L2.atI xs (j : Int) = xs[j]? := by rw [atI_int (by omega)]; simp
@[simp] theorem atI_m1 {xs : List α} : L2.atI xs (-1) = xs.getLast? := by
  unfold L2.atI
  cases xs with
  | nil => rfl
  | cons x xs =>
    rw [ixN_neg (by omega) (by simp; omega)]
    simp only [Option.bind_some]
    rw [List.getLast?_eq_getElem?]
    congr 1
    simp
    omega
theorem cutL_from {xs : List α} {i : Int} (h : 0 ≤ i) : cutL xs (some i) none = xs.drop i.toNat := by
  unfold cutL
  obtain ⟨k, rfl⟩ := Int.eq_ofNat_of_zero_le h
  rw [show HT.sIx xs.length 0 (some (k : Int)) = min k xs.length from HT.sIx_nat _ _ _, HT.sIx_none]
  simp only [Int.toNat_natCast]
  by_cases hk : k ≤ xs.length
  · rw [Nat.min_eq_left hk, List.take_of_length_le (by simp)]
  · rw [Nat.min_eq_right (by omega), List.drop_of_length_le (Nat.le_refl _), List.drop_of_length_le (by omega)]
    simp
theorem cutL_to {xs : List α} {i : Int} (h : 0 ≤ i) : cutL xs none (some i) = xs.take i.toNat := by
  unfold cutL
  obtain ⟨k, rfl⟩ := Int.eq_ofNat_of_zero_le h
  rw [show HT.sIx xs.length xs.length (some (k : Int)) = min k xs.length from HT.sIx_nat _ _ _, HT.sIx_none]
  simp only [Int.toNat_natCast, List.drop_zero, Nat.sub_zero]
  by_cases hk : k ≤ xs.length
  · rw [Nat.min_eq_left hk]
  · rw [Nat.min_eq_right (by omega), List.take_of_length_le (Nat.le_refl _), List.take_of_length_le (by omega)]
theorem cutL_mid {xs : List α} {i j : Int} (h : 0 ≤ i) (h2 : 0 ≤ j) : cutL xs (some i) (some j) = (xs.drop i.toNat).take (j.toNat - i.toNat) := by
  unfold cutL
  obtain ⟨k, rfl⟩ := Int.eq_ofNat_of_zero_le h
  obtain ⟨m, rfl⟩ := Int.eq_ofNat_of_zero_le h2
  rw [show HT.sIx xs.length 0 (some (k : Int)) = min k xs.length from HT.sIx_nat _ _ _, show HT.sIx xs.length xs.length (some (m : Int)) = min m xs.length from HT.sIx_nat _ _ _]
  simp only [Int.toNat_natCast]
  by_cases hk : k ≤ xs.length
  · rw [Nat.min_eq_left hk]
    by_cases hm : m ≤ xs.length
    · rw [Nat.min_eq_left hm]
    · rw [Nat.min_eq_right (by omega), List.take_of_length_le (by simp), List.take_of_length_le (by simp; omega)]
  · rw [Nat.min_eq_right (show xs.length ≤ k by omega), List.drop_of_length_le (Nat.le_refl _), List.drop_of_length_le (show xs.length ≤ k by omega)]
    simp
theorem atI_add1 {xs : List α} (j : Nat) : L2.atI xs ((j : Int) + 1) = xs[j + 1]? := by rw [atI_int (by omega)]; congr 1
@[simp] theorem cutL_fromadd1 {xs : List α} (j : Nat) : cutL xs (some ((j : Int) + 1)) none = xs.drop (j + 1) := by rw [cutL_from (by omega)]; congr 1
@[simp] theorem cutL_midadd1 {xs : List α} (j : Nat) : cutL xs (some (j : Int)) (some ((j : Int) + 1)) = (xs.drop j).take 1 := by rw [cutL_mid (by omega) (by omega)]; congr 1; omega
theorem atI_add2 {xs : List α} (j : Nat) : L2.atI xs ((j : Int) + 2) = xs[j + 2]? := by rw [atI_int (by omega)]; congr 1
@[simp] theorem cutL_fromadd2 {xs : List α} (j : Nat) : cutL xs (some ((j : Int) + 2)) none = xs.drop (j + 2) := by rw [cutL_from (by omega)]; congr 1
@[simp] theorem cutL_midadd2 {xs : List α} (j : Nat) : cutL xs (some (j : Int)) (some ((j : Int) + 2)) = (xs.drop j).take 2 := by rw [cutL_mid (by omega) (by omega)]; congr 1; omega
theorem atI_add3 {xs : List α} (j : Nat) : L2.atI xs ((j : Int) + 3) = xs[j + 3]? := by rw [atI_int (by omega)]; congr 1
@[simp] theorem cutL_fromadd3 {xs : List α} (j : Nat) : cutL xs (some ((j : Int) + 3)) none = xs.drop (j + 3) := by rw [cutL_from (by omega)]; congr 1
@[simp] theorem cutL_midadd3 {xs : List α} (j : Nat) : cutL xs (some (j : Int)) (some ((j : Int) + 3)) = (xs.drop j).take 3 := by rw [cutL_mid (by omega) (by omega)]; congr 1; omega
@[simp] theorem cutL_fromn {xs : List α} (j : Nat) : cutL xs (some (j : Int)) none = xs.drop j := by rw [cutL_from (by omega)]; simp
@[simp] theorem cutL_ton {xs : List α} (j : Nat) : cutL xs none (some (j : Int)) = xs.take j := by rw [cutL_to (by omega)]; simp
@[simp] theorem atI_nil (i : Int) : L2.atI ([] : List α) i = none := by unfold L2.atI; cases L2.ixN _ i <;> rfl
@[simp] theorem atI_c0 (a : α) (r : List α) : L2.atI (a :: r) 0 = some a := by rw [atI_int (by omega)]; rfl
@[simp] theorem atI_c1 (a b : α) (r : List α) : L2.atI (a :: b :: r) 1 = some b := by rw [atI_int (by omega)]; rfl
@[simp] theorem atI_c2 (a b c : α) (r : List α) : L2.atI (a :: b :: c :: r) 2 = some c := by rw [atI_int (by omega)]; rfl
@[simp] theorem atI_c3 (a b c d : α) (r : List α) : L2.atI (a :: b :: c :: d :: r) 3 = some d := by rw [atI_int (by omega)]; rfl
@[simp] theorem atI_c4 (a b c d e : α) (r : List α) : L2.atI (a :: b :: c :: d :: e :: r) 4 = some e := by rw [atI_int (by omega)]; rfl
@[simp] theorem atI_c5 (a b c d e f : α) (r : List α) : L2.atI (a :: b :: c :: d :: e :: f :: r) 5 = some f := by rw [atI_int (by omega)]; rfl
@[simp] theorem atI_c6 (a b c d e f g : α) (r : List α) : L2.atI (a :: b :: c :: d :: e :: f :: g :: r) 6 = some g := by rw [atI_int (by omega)]; rfl
@[simp] theorem atI_c7 (a b c d e f g h : α) (r : List α) : L2.atI (a :: b :: c :: d :: e :: f :: g :: h :: r) 7 = some h := by rw [atI_int (by omega)]; rfl
@[simp] theorem atI_c8 (a b c d e f g h i : α) (r : List α) : L2.atI (a :: b :: c :: d :: e :: f :: g :: h :: i :: r) 8 = some i := by rw [atI_int (by omega)]; rfl
@[simp] theorem atI_c9 (a b c d e f g h i j : α) (r : List α) : L2.atI (a :: b :: c :: d :: e :: f :: g :: h :: i :: j :: r) 9 = some j := by rw [atI_int (by omega)]; rfl
@[simp] theorem atI_s (xs : List α) (a : α) : L2.atI (xs ++ [a]) (-1) = some a := by rw [atI_m1]; simp
end
theorem rep_one (a : Int) : ∀ n : Nat, (List.replicate n [D.int a]).flatten = encL D.int (List.replicate n a)
  | 0 => rfl
  | n + 1 => by rw [List.replicate_succ, List.flatten_cons, rep_one a n]; rfl
@[simp] theorem mulD_oneo (a : Int) (n : Nat) : mulD (.lst .ow [.int a]) (.int (n : Nat)) = if n ≤ 16777216 then some (iL .ow (List.replicate n a)) else none := by
  unfold mulD
  simp only [rep_one, Int.toNat_natCast]
  by_cases hn : n ≤ 16777216
  · rw [if_pos hn, if_pos]
    refine ⟨by decide, by omega, by omega, ?_, ?_⟩
    · simp only [List.length_cons, List.length_nil]; omega
    · rfl
  · rw [if_neg hn, if_neg]
    rintro ⟨_, _, _, h, _⟩
    simp only [List.length_cons, List.length_nil] at h
    omega
/-- nothing is promised where nothing is told -/
theorem fnNo {P : Program} {w : World} {K : PySem.W.Frag} {mg : Str → Option Value} {base : Heap} {cl : String → Addr} {f : Addr} {fd : FuncData} {ps : List Str} {k n : Nat} {m : List D → R D} (h : ∀ ds, m ds = .no) : FnOk P w K mg base (L2.CX P w) k f fd ps (Ctr K cl n m) where
  len := fun vs H Q E ⟨B, ds, _, _, _, _, q⟩ => by
    rw [h ds] at q
    exact q.elim
  run := fun A outer s H args us vs Q E _ _ _ _ ⟨B, ds, _, _, _, _, q⟩ => by
    rw [h ds] at q
    exact q.elim
end BC

namespace BC
open PySem PySem.Spec PyProof.Rows L2

/-! ## range(a, b, c), upwards -/
def upN (a b c : Int) : Nat := if a < b then ((b - a - 1) / c + 1).toNat else 0
theorem rgC_up {i j c : Int} (c0 : 0 < c) (c1 : c < 1073741824) (ha : -4611686018427387904 ≤ i) (ha' : i < 4611686018427387904) (hb : -4611686018427387904 ≤ j) (hb' : j < 4611686018427387904) : RgC i j c (upN i j c) := by
  have hsz : Builtin.Range.rangeSize i j c = upN i j c := by
    unfold Builtin.Range.rangeSize upN
    rw [if_pos c0]
    by_cases h : i < j
    · rw [if_pos h, if_pos h]
      have : 0 ≤ (j - i - 1) / c := Int.ediv_nonneg (by omega) (by omega)
      omega
    · rw [if_neg h, if_neg h]; rfl
  refine ⟨by omega, by omega, ?_, hsz⟩
  have hn : (upN i j c : Int) < 9223372036854775808 := by
    unfold upN
    by_cases h : i < j
    · rw [if_pos h]
      have h0 : 0 ≤ (j - i - 1) / c := Int.ediv_nonneg (by omega) (by omega)
      have h1 : (j - i - 1) / c ≤ j - i - 1 := Int.ediv_le_self _ (by omega)
      omega
    · rw [if_neg h]; omega
  unfold Builtin.Range.small
  rw [hsz]
  have : (0 : Int) ≤ (upN i j c : Int) := Int.natCast_nonneg _
  simp only [Builtin.Range.rangeFitsLong, Bool.and_eq_true, Bool.or_eq_true, decide_eq_true_eq, beq_iff_eq, if_pos (show c > 0 from c0)]
  omega
/-- range(a, b, c), c above nought -/
def xRngC (f g h : Env → R D) : Env → R (Bool × List D) := fun env => do
  let d ← f env
  let e ← g env
  let k ← h env
  let lo ← intR d
  let hi ← intR e
  let c ← intR k
  if 0 < c ∧ c < 1073741824 then R.ok (false, rngL lo c (upN lo hi c)) else R.no
section
variable {X : Cx} {W : WC} {f g h : Env → R D} {a b c : Expr} {pos : Pos} {tg : Expr}
theorem si_rngC {p : Pos} (hg : Gl X "range") (hm : X.mg "range" = none) (ha : PE X a (tF X.K W f)) (hb : PE X b (tF X.K W g)) (hc : PE X c (tF X.K W h)) (hs1 : starEach [a, b, c] X.env = (false, eval a X.env) :: starEach [b, c] X.env := by rfl)
    (hs2 : starEach [b, c] X.env = (false, eval b X.env) :: starEach [c] X.env := by rfl) (hs3 : starEach [c] X.env = (false, eval c X.env) :: starEach [] X.env := by rfl)
    (hi : ∀ ta : TA, PA X [a, b, c] ta → PI X tg (.Call (.Name "range" p) [a, b, c] [] pos) (iRng3 ta)) : PI X tg (.Call (.Name "range" p) [a, b, c] [] pos) (tI X.K W (xRngC f g h)) := by
  refine piI (hi _ (pa_cons ha (pa_cons hb (pa_cons hc pa_nil hs3) hs2) hs1)) fun σ H R' ⟨env, B, i, s, h⟩ => ?_
  refine seqE (P := PstI X.K W B H σ R') i s h (fun c z => z) (fun z => z) fun d v B1 H1 q e1 h1 st1 r nd fr => ?_
  refine seqE (P := PstI X.K W B H σ R') st1.i (s.step st1) h1 (fun c z => erBack (P := True) st1.h z) (fun z => z) fun d2 w B2 H2 q2 e2 h2 st2 r2 nd2 fr2 => ?_
  have st12 := st1.trans st2
  refine seqE (P := PstI X.K W B H σ R') st2.i (s.step st12) h2 (fun c z => erBack (P := True) st12.h z) (fun z => z) fun d3 w3 B3 H3 q3 e3 h3 st3 r3 nd3 fr3 => ?_
  obtain ⟨n, e4, b1, b2, h4⟩ := intR_ok h3
  obtain ⟨m, e5, b3, b4, h5⟩ := intR_ok h4
  obtain ⟨k, e6, b5, b6, h6⟩ := intR_ok h5
  subst e4 e5 e6
  rw [rp_int r, rp_int r2, rp_int r3]
  by_cases hk : 0 < k ∧ k < 1073741824
  · rw [if_pos hk] at h6
    exact ⟨n, m, k, upN n m k, rfl, rgC_up hk.1 hk.2 b1 b2 b3 b4, h6 (Itc n k (upN n m k)) B3 H3 (st12.trans st3) wk_rngC⟩
  · rw [if_neg hk] at h6
    exact h6.elim
end
@[simp] theorem xRngC_eq {env : Env} (f g h : Env → R D) : xRngC f g h env = f env >>= fun d => g env >>= fun e => h env >>= fun k => intR d >>= fun lo => intR e >>= fun hi => intR k >>= fun c => if 0 < c ∧ c < 1073741824 then R.ok (false, rngL lo c (upN lo hi c)) else R.no := (rfl)
end BC

namespace BC
open PySem PySem.Spec PyProof.Rows L2

/-! ## {True: a, False: b}[c] -/
def eDict : Obj := { cls := .type "dict", data := .dict #[] }
theorem dictOf_of {P : Program} {w : World} {h : Heap} {p : Addr} (e : h.get? p = some eDict) : h.DictOf (leafKind P w) p [] :=
  ⟨_, #[], 0, e, ⟨rfl, rfl, rfl⟩, rfl, fun _ he => by simp at he, Pairs.nil, List.nodup_nil⟩
def tPick (ta tb tc : TE) : TE := fun σ H Q => ta σ H fun x H1 => tb σ H1 fun y H2 => tc σ H2 fun k H3 => ∃ z, k = .bl z ∧ Q (if z = true then x else y) H3
section
variable {X : Cx} {a b c : Expr} {ta tb tc : TE} {p1 p2 dpos pos : Pos}
theorem pe_pick {k1 k2 : Expr} (e1 : PE X k1 (tC (.bl true))) (e2 : PE X k2 (tC (.bl false))) (ha : PE X a ta) (hb : PE X b tb) (hc : PE X c tc) (hs : NoSl c) :
    PE X (.Subscript (.Dict [some k1, some k2] [a, b] dpos) c pos) (tPick ta tb tc) := by
  refine ⟨fun pins s σ H Q I h => ?_⟩
  have hp := I.fpOk (H' := H) (Nat.le_refl s.heap.objs.size) (I.hok.fresh (Nat.le_refl _))
  have big := I.big
  generalize hpe : s.heap.objs.size = p at hp big
  have I1 : Inv X ((p, eDict) :: pins) σ H { s with heap := s.heap.push eDict } :=
    ClX.pin_new I (fun _ _ q => Heap.get?_push_of_some _ q) (Nat.le_of_eq hpe) (hpe ▸ Heap.get?_push_size _ rfl) (fun v z => by cases z)
  refine subD_of PySem.F.slot_dict_getitem.lookup hs ?_
  refine wpAny_Dict_walk (knd := leafKind X.prog X.w) rfl rfl (by intro z; cases z) (by show 2 ≤ 15; omega) ?_
  refine pairTrees_cons_walk (thn (e1.run _ _ σ H (fun v H1 => v = .bl true ∧ H1 = H) I1 ⟨rfl, rfl⟩) fun u1 s1 ⟨v1, H1, I1', r1, q1, q1'⟩ => ?_)
  subst q1 q1'
  refine thn (ha.run _ s1 σ _ _ I1' h) fun ux s2 ⟨x, H2, I2, rx, h2⟩ => ?_
  refine pairTrees_cons_walk (thn (e2.run _ s2 σ H2 (fun v H1 => v = .bl false ∧ H1 = H2) I2 ⟨rfl, rfl⟩) fun u2 s3 ⟨v2, H3, I3, r2, q2, q2'⟩ => ?_)
  subst q2 q2'
  refine thn (hb.run _ s3 σ _ _ I3 h2) fun uy s4 ⟨y, H4, I4, ry, h4⟩ => ?_
  refine pairTrees_nil_walk ?_
  cases (show u1 = Value.bool true from r1)
  cases (show u2 = Value.bool false from r2)
  refine ⟨[(.num 1, ux), (.num 0, uy)], ⟨rfl, rfl, rfl, rfl, True.intro⟩, hpe ▸ dictOf_of (ClX.pin_at I4), fun h' dd' sb => ?_⟩
  rw [hpe] at dd' sb ⊢
  obtain ⟨o', es, ep, ho', hx', hd', rest⟩ := id dd'
  have hn4 : H4 p = none := ClX.pin_un I4
  have I5 : Inv X pins σ H4 { s4 with heap := h', toks := s4.toks + 2 } := (ClX.unpin I4).turned (it := p) (fun b o hb e => (sb.2 b hb).trans e) hn4 hp.2.1 hp.2.2.2.1 hp.2.2.2.2.1 hp.2.2.2.2.2
  have I6 : Inv X ((p, o') :: pins) σ H4 { s4 with heap := h', toks := s4.toks + 2 } := I5.pins_of fun r hr => by
    rcases List.mem_cons.mp hr with e | e
    · subst e
      exact ⟨ho', hn4, hp.2.1, hp.2.2.1, fun v z => by rw [hd'] at z; cases z⟩
    · exact I5.pin r (List.mem_append_right _ e)
  refine thn (hc.run _ _ σ _ _ I6 h4) fun uk s6 ⟨k, H6, I7, rk, z, ek, q⟩ => ?_
  subst ek
  obtain rfl : uk = Value.bool z := rk
  have dd6 : s6.heap.DictOf (leafKind X.prog X.w) p (merged [] [(.num 1, ux), (.num 0, uy)]) := ⟨o', es, ep, ClX.pin_at I7, hx', hd', rest⟩
  refine ⟨dd6.typeIs, ?_⟩
  have fin : ∀ (u : Value) (v : V), valueAt (merged [] [((Leaf.num 1), ux), ((Leaf.num 0), uy)]) (.num (if z = true then 1 else 0)) = some u → RelV v u → Q v H6 →
      wpAny (model X.prog X.w) X.A (getItem (.ref p) (.bool z)) (EP X pins σ Q) X.xe s6 := fun u v hv rv hq =>
    wpAny_getItem_of (knd := leafKind X.prog X.w) (k := .num (if z = true then 1 else 0)) (by cases z <;> rfl) dd6.mapOf hv ⟨v, H6, (ClX.unpin I7).tok _, rv, hq⟩
  cases z with
  | true => exact fin ux x rfl rx q
  | false => exact fin uy y rfl ry q
end
def pickK (x y : D) : D → R D
  | .bl z => .ok (if z = true then x else y)
  | _ => .no
@[simp] theorem pickK_bl (x y : D) (z : Bool) : pickK x y (.bl z) = .ok (if z = true then x else y) := (rfl)
def xPick (f g h : Env → R D) : Env → R D := fun env => f env >>= fun x => g env >>= fun y => h env >>= fun k => pickK x y k
section
variable {X : Cx} {W : WC} {a b c : Expr} {f g h : Env → R D}
theorem se_pick {i1 i2 : Nat} {p1 p2 dpos pos : Pos} (ha : PE X a (tF X.K W f)) (hb : PE X b (tF X.K W g)) (hc : PE X c (tF X.K W h)) (hs : NoSl c := by intro _ _; rfl) :
    PE X (.Subscript (.Dict [some (.Constant (.bool true) i1 p1), some (.Constant (.bool false) i2 p2)] [a, b] dpos) c pos) (tF X.K W (xPick f g h)) := by
  refine peI (pe_pick pe_bl pe_bl ha hb hc hs) fun σ H Q ⟨env, B, i, s, h⟩ => ?_
  refine seqE (P := Pst X.K W B H σ Q) i s h (fun c z => z) (fun z => z) fun d1 x B1 H1 q1 e1 h1 st1 r1 nd1 fr1 => ?_
  refine seqE (P := Pst X.K W B H σ Q) st1.i (s.step st1) h1 (fun c z => erBack (P := True) st1.h z) (fun z => z) fun d2 y B2 H2 q2 e2 h2 st2 r2 nd2 fr2 => ?_
  have st12 := st1.trans st2
  refine seqE (P := Pst X.K W B H σ Q) st2.i (s.step st12) h2 (fun c z => erBack (P := True) st12.h z) (fun z => z) fun d3 k B3 H3 q3 e3 h3 st3 r3 nd3 fr3 => ?_
  have st := st12.trans st3
  cases d3 with
  | bl z =>
    refine ⟨z, rp_bl r3, ?_⟩
    cases z with
    | true => exact h3 x B3 H3 q1 st (rp_mono (st2.trans st3).b (st2.trans st3).h r1) nd1 (fr1.on r1 (st2.trans st3))
    | false => exact h3 y B3 H3 q2 st (rp_mono st3.b st3.h r2) nd2 ((fr2.back st1.h).on r2 st3)
  | _ => exact h3.elim
end
@[simp] theorem xPick_eq {env : Env} (f g h : Env → R D) : xPick f g h env = f env >>= fun x => g env >>= fun y => h env >>= fun k => pickK x y k := (rfl)
end BC

namespace BC
open PySem PySem.Spec PyProof.Rows L2

/-! ## while, what is left hidden -/
section
variable {Q : Ou → Prop} {env : Env}
theorem wh_of {c : Env → R Bool} {body : G} (Wv : Nat → Env → Prop) (m : Nat) (h0 : Wv m env) (step : ∀ m env (K : Env → Prop), Wv m env → (∀ m' e, m' < m → Wv m' e → K e) → gEv (c env) env Q fun b => if b = true then body env (lpK K Q) else Q (.nx env)) : gWhile c body env Q := by
  refine gWhile_of Wv m h0 fun m env h => ?_
  have h1 := step m env (fun e => ∃ m', m' < m ∧ Wv m' e) h fun m' e a b => ⟨m', a, b⟩
  have e : (lpK (fun e => ∃ m', m' < m ∧ Wv m' e) Q) = whK m Wv Q := by
    funext o
    cases o <;> rfl
  rw [e] at h1
  exact h1
end
/-! ## where a comprehension stands in a def -/
def qS (b : List Stmt) (i : Nat) : Stmt := b.getD i (.Pass ⟨0, 0, 0, 0⟩)
def nE : Expr := .Name "" ⟨0, 0, 0, 0⟩
def sSub (k : Nat) : Stmt → List Stmt
  | .If _ b o _ => if k = 0 then b else o
  | .For _ _ b _ _ => b
  | .While _ b _ _ => b
  | .Try b _ o _ _ => if k = 0 then b else o
  | _ => []
def sE : Stmt → Expr
  | .Return (some e) _ => e
  | .Assign _ e _ => e
  | .AugAssign _ _ e _ => e
  | .Expr e _ => e
  | .If t _ _ _ => t
  | .While t _ _ _ => t
  | .For _ i _ _ _ => i
  | _ => nE
def eE (k : Nat) : Expr → Expr
  | .BoolOp _ vs _ => vs.getD k nE
  | .BinOp a _ b _ => if k = 0 then a else b
  | .UnaryOp _ a _ => a
  | .IfExp a b c _ => if k = 0 then a else if k = 1 then b else c
  | .Compare a _ cs _ => if k = 0 then a else cs.getD (k - 1) nE
  | .Call f as _ _ => if k = 100 then f else as.getD k nE
  | .Subscript a b _ => if k = 0 then a else b
  | .List es _ => es.getD k nE
  | .Tuple es _ _ => es.getD k nE
  | .Attribute a _ _ => a
  | .ListComp e _ _ _ => e
  | _ => nE
def eSc : Expr → Scope
  | .ListComp _ _ sc _ => sc
  | _ => { kind := .function, names := [], isGenerator := false, isCoroutine := false }
/-- the scope of a comprehension within another scope -/
def inSc (outer sc : Scope) : Scope := relabel sc { scope := outer, locals := 0, globals := 0, cells := [] }
end BC

namespace BC
open PySem PySem.Spec PyProof.Rows L2

/-! ## two names' own values handed back together -/
def gRetT (i j : Nat) : G := fun env Q => match env[i]?, env[j]? with
  | some (some d), some (some e) => Q (.rt (.tup [d, e]))
  | _, _ => False
def ret2K (Q : Ou → Prop) : Option (Option D) → Option (Option D) → Prop
  | some (some d), some (some e) => Q (.rt (.tup [d, e]))
  | _, _ => False
@[simp] theorem gRetT_eq (i j : Nat) (env : Env) (Q : Ou → Prop) : gRetT i j env Q = ret2K Q env[i]? env[j]? := by
  unfold gRetT ret2K
  cases env[i]? with
  | none => rfl
  | some o =>
    cases o with
    | none => rfl
    | some d =>
      cases env[j]? with
      | none => rfl
      | some o => cases o <;> rfl
@[simp] theorem ret2K_some (Q : Ou → Prop) (d e : D) : ret2K Q (some (some d)) (some (some e)) = Q (.rt (.tup [d, e])) := rfl
section
variable {X : Cx} {W : WC} {pos : Pos}
theorem ss_retT (i j : Nat) {x y : Str} {px py pt : Pos} {k : Nat} (hij : i ≠ j) (hx : PE X (.Name x px) (tVar i)) (hy : PE X (.Name y py) (tVar j))
    (hs1 : starEach [.Name x px, .Name y py] X.env = (false, eval (.Name x px) X.env) :: starEach [.Name y py] X.env := by rfl) (hs2 : starEach [.Name y py] X.env = (false, eval (.Name y py) X.env) :: starEach [] X.env := by rfl) :
    PS X (.Return (some (.Tuple [.Name x px, .Name y py] k pt)) pos) (tG X.K W (gRetT i j)) := by
  refine psI (ps_ret (pe_tup (pa_cons hx (pa_cons hy pa_nil hs2) hs1))) fun De σ H ⟨Bf, Hf, B0, H0, env, Q, ⟨B, ps, s⟩, h, eo⟩ => ?_
  unfold gRetT at h
  cases e : env[i]? with
  | none => rw [e] at h; exact h.elim
  | some o =>
    rw [e] at h
    cases o with
    | none => exact h.elim
    | some d =>
      cases e2 : env[j]? with
      | none => rw [e2] at h; exact h.elim
      | some o =>
        rw [e2] at h
        cases o with
        | none => exact h.elim
        | some d2 =>
          obtain ⟨_, v, h1, h2⟩ := s.sl i d e
          obtain ⟨_, w, h3, h4⟩ := s.sl j d2 e2
          refine ⟨v, h1, w, h3, by show ([v, w] : List V).length ≤ sizeLine; rw [sizeLine_eq]; simp, fun p hp => ?_⟩
          have hs : Same H (upd H p (.tup [v, w])) := fun q o e => by rw [upd_ne (fun z => by subst z; rw [hp] at e; cases e)]; exact e
          have hst : Step B H B (upd H p (.tup [v, w])) := ⟨.refl _, hs, s.st.i.trans hs, fun _ _ h _ => h⟩
          refine eo.rt _ h (.ref p) _ ⟨B, ps i ++ ps j, s.st.trans hst, ?_, ?_, fun q hq => ?_⟩
          · unfold Rp
            refine ⟨p, [v, w], rfl, upd_same, ?_⟩
            unfold Rps
            refine ⟨v, [w], ps i, ps j, rfl, rfl, rp_mono (.refl _) hs h2, ?_⟩
            unfold Rps
            refine ⟨w, [], ps j, [], rfl, by simp, rp_mono (.refl _) hs h4, ?_⟩
            unfold Rps
            exact ⟨rfl, rfl⟩
          · exact List.nodup_append.mpr ⟨s.nd i, s.nd j, fun a ha b hb z => hij (s.dj i j a ha (z ▸ hb))⟩
          · rcases List.mem_append.mp hq with z | z
            · exact ⟨(s.ow i q z).1, (s.ow i q z).2.2.1⟩
            · exact ⟨(s.ow j q z).1, (s.ow j q z).2.2.1⟩
end
/-! ## a call with nothing handed over -/
section
variable {X : Cx} {W : WC} {cl : String → Addr} {pos : Pos}
theorem se_call0 {x : Str} {k j : Nat} {f : Addr} {fd : FuncData} {ps : List Str} {m : List D → R D} {p : Pos} (F : FnOk X.prog X.w X.K X.mg X.base (L2.CX X.prog X.w) k f fd ps (Ctr X.K cl 0 m)) (hr : Room j X.A) (hj : k ≤ j) (hg : Gl X x) (hm : X.mg x = some (.ref f)) (hk : PySem.W.keepIn X.K (.ref f) = true) (hb : Binds X.K fd ps []) (tk : Takes X (wx cl W))
    (hdb : (x == ("__debug__" : Str)) = false := by decide) : PE X (.Call (.Name x p) [] [] pos) (tF X.K W (xCall m xNil)) := by
  have h0 : PE X (.Call (.Name x p) [] [] pos) (tCallS (Ctr X.K cl 0 m) (WE (wx cl W)) tNil) := by
    refine ⟨fun pins s σ H Q I h => ?_⟩
    refine wpAny_Call_Name_kw (ld_glob I hg hm ?_ hdb)
    exact PySem.W.callWith_K0 I.kIn hk (run_fnS (us := []) F (hr.mono hj) hb (passAt tk σ) I .nil h)
  refine peI h0 fun σ H Q h => ?_
  obtain ⟨env, B, i, s, h⟩ := tCallS_of (cl := cl) (n := 0) h xa0
  exact h [] B H [] (.refl i) ⟨rfl, rfl⟩ .nil (by intro q hq; cases hq)
end
/-! ## a list held in a tuple is changed -/
section
variable {env : Env} {Q : Ou → Prop}
@[simp] theorem plK_t0 (k : D → List Int → List D → G) (ys : List D) (r : List D) : plK [xC (.int 0)] k env Q (some (some (.tup (.lst .ow ys :: r)))) = k (.tup (.lst .ow ys :: r)) [0] ys env Q := by
  unfold plK
  have e1 : xPath [xC (.int 0)] env = some [0] := rfl
  have e2 : getP (.tup (.lst .ow ys :: r)) [0] = some (.lst .ow ys) := by
    show (L2.atI (.lst .ow ys :: r) 0).bind _ = _
    rw [show (0 : Int) = ((0 : Nat) : Int) from rfl, atI_natc]
    rfl
  simp only [e1, e2]
@[simp] theorem plK_t1 (k : D → List Int → List D → G) (a : D) (ys : List D) (r : List D) : plK [xC (.int 1)] k env Q (some (some (.tup (a :: .lst .ow ys :: r)))) = k (.tup (a :: .lst .ow ys :: r)) [1] ys env Q := by
  unfold plK
  have e1 : xPath [xC (.int 1)] env = some [1] := rfl
  have e2 : getP (.tup (a :: .lst .ow ys :: r)) [1] = some (.lst .ow ys) := by
    show (L2.atI (a :: .lst .ow ys :: r) 1).bind _ = _
    rw [show (1 : Int) = ((1 : Nat) : Int) from rfl, atI_natc]
    rfl
  simp only [e1, e2]
@[simp] theorem setP_t0 (a e : D) (r : List D) : setP (.tup (a :: r)) [0] e = .tup (e :: r) := by
  have h : L2.ixN (a :: r).length 0 = some 0 := ixN_nat (n := (a :: r).length) (j := 0) (by simp)
  unfold setP
  rw [h]
  rfl
@[simp] theorem setP_t1 (a b e : D) (r : List D) : setP (.tup (a :: b :: r)) [1] e = .tup (a :: e :: r) := by
  have h : L2.ixN (a :: b :: r).length 1 = some 1 := ixN_nat (n := (a :: b :: r).length) (j := 1) (by simp)
  unfold setP
  rw [h]
  rfl
end
/-! ## names take what a list holds -/
def unpLK (is : List Nat) (env : Env) (Q : Ou → Prop) : D → Prop
  | .lst k ds => k ≠ .sc ∧ ∃ e, setAll is ds env = some e ∧ Q (.nx e)
  | _ => False
def gUnpL (is : List Nat) (f : Env → R D) : G := fun env Q => gEv (f env) env Q fun d => d.sto = true ∧ unpLK is env Q d
@[simp] theorem gUnpL_eq (is : List Nat) (f : Env → R D) (env : Env) (Q : Ou → Prop) : gUnpL is f env Q = gEv (f env) env Q fun d => d.sto = true ∧ unpLK is env Q d := rfl
@[simp] theorem unpLK_lst (is : List Nat) (k : Kd) (ds : List D) (env : Env) (Q : Ou → Prop) : unpLK is env Q (.lst k ds) = (k ≠ .sc ∧ ∃ e, setAll is ds env = some e ∧ Q (.nx e)) := rfl
section
variable {X : Cx} {W : WC} {e : Expr} {f : Env → R D} {pos : Pos}
theorem ss_unpL {es : List Expr} {k : Nat} {pos' : Pos} (is : List Nat) (hc : X.calm = true) (he : PE X e (tF X.K W f)) (hg : PGs X es (gAll is)) (hs : swapsWithSole [.Tuple es k pos'] e pos.line X.env = pure false := by rfl) (hw : swappedStores [.Tuple es k pos'] e X.env = pure none := by rfl)
    (h1 : (assignEach [.Tuple es k pos'] X.env).map (·.2) = [assign (.Tuple es k pos') X.env] := by rfl) (hn : (assignEach es X.env).length = is.length := by rfl) (hst : (assignEach es X.env).findIdx? (·.1) = none := by rfl) : PS X (.Assign [.Tuple es k pos'] e pos) (tG X.K W (gUnpL is f)) := by
  refine psI (ps_asg he (pg_unl hc hg hn hst) hs hw h1) fun De σ H ⟨Bf, Hf, B0, H0, env, Q, s, h, eo⟩ => ?_
  refine runE s h (fun c q => eo.rz c env q) fun d v B B' H' qs ps k s0 s1 st rp nd fr => ?_
  obtain ⟨hd, k⟩ := k
  cases d with
  | lst kk ds =>
    obtain ⟨hk, env', e1, q⟩ := k
    obtain ⟨a, vs, q2, ev, hH, sub, r⟩ := rp_lstX s1.st.i hk rp
    have hds : D.stos ds = true := by cases kk <;> simp_all [BC.D.sto]
    refine ⟨a, vs, ev, .inl (.of hH), by rw [rps_len r]; exact (setAll_len e1).symm, ?_⟩
    have f1 := s0.fresh st fr
    exact SRb.sets e1 s1 hds r (nd.sublist sub) (fun x hx => f1 x (sub.subset hx)) fun σ' ps' s' => eo.nx _ q _ _ ⟨B', ps', s'⟩
  | _ => exact k.elim
end
end BC

namespace BC
open PySem PySem.Spec PyProof.Rows L2

/-! ## dicts of whole numbers, each with True -/
def putI (ks : List Int) (j : Int) : List Int := if j ∈ ks then ks else ks ++ [j]
theorem valV_dic : ∀ (ks : List Int) (j : Int), (valV (ks.map fun i => ((Sum.inl i : Key), V.bl true)) (Sum.inl j)).isSome = decide (j ∈ ks)
  | [], j => rfl
  | i :: ks, j => by
    rw [List.map_cons]
    by_cases h : i = j
    · subst h
      rw [valV_pos rfl]
      simp
    · rw [valV_neg (fun z => h (Sum.inl.inj z)), valV_dic ks j]
      simp [Ne.symm h]
theorem putK_dic (ks : List Int) (j : Int) : putK (ks.map fun i => ((Sum.inl i : Key), V.bl true)) (Sum.inl j) (V.bl true) = (putI ks j).map fun i => ((Sum.inl i : Key), V.bl true) := by
  unfold putK putI
  have e := valV_any (Sum.inl j : Key) (ks.map fun i => ((Sum.inl i : Key), V.bl true))
  rw [valV_dic] at e
  rw [e]
  by_cases h : j ∈ ks
  · rw [if_pos (decide_eq_true h), if_pos h, List.map_map]
    refine List.map_congr_left fun i _ => ?_
    show (if (Sum.inl i : Key) = Sum.inl j then ((Sum.inl i : Key), V.bl true) else (Sum.inl i, V.bl true)) = _
    split <;> rfl
  · rw [if_neg (by simpa using h), if_neg h, List.map_append]
    rfl
def xNewD : Env → R D := fun _ => .ok (.dic .ow [])
@[simp] theorem xNewD_eq (env : Env) : xNewD env = .ok (.dic .ow []) := rfl
def dinD (neg : Bool) : D → D → Option D
  | .int i, .dic _ ks => some (.bl (if neg = true then !decide (i ∈ ks) else decide (i ∈ ks)))
  | _, _ => none
@[simp] theorem dinD_eq (neg : Bool) (i : Int) (k : Kd) (ks : List Int) : dinD neg (.int i) (.dic k ks) = some (.bl (if neg = true then !decide (i ∈ ks) else decide (i ∈ ks))) := rfl
theorem rp_dic {K : PySem.W.Frag} {B H : Hp} {k : Kd} {ks : List Int} {v : V} {p : List Addr} (i : Same B H) (r : Rp K B H (.dic k ks) v p) : ∃ a, v = .ref a ∧ H a = some (dicO ks) := by
  obtain ⟨a, e1, e2, _⟩ := r
  refine ⟨a, e1, ?_⟩
  cases k with
  | fz => exact i _ _ e2
  | ow => exact e2
  | bo => exact e2
  | sc => exact e2.elim
section
variable {X : Cx} {W : WC} {a b e : Expr} {f g : Env → R D} {pos pos' : Pos} {j : Nat}
theorem se_newD : PE X (.Dict [] [] pos) (tF X.K W xNewD) := peI pe_dnewK fun σ H Q ⟨env, B, i, s, h⟩ p hp => by
  refine h (.ref p) B (upd H p (.dK [])) [p] (step_new i hp) ⟨p, rfl, ?_, rfl⟩ (List.nodup_cons.mpr ⟨by simp, .nil⟩) fun q hq => ?_
  · show upd H p (.dK []) p = some (dicO [])
    rw [upd_same]
    rfl
  · obtain rfl := List.mem_singleton.mp hq
    exact ⟨hp, noB i hp⟩
theorem din_of {neg : Bool} {σ : L2.St} {H : Hp} {Q : VK} (h : tF X.K W (x2 (dinD neg) f g) σ H Q) : tF X.K W f σ H fun y H1 => tF X.K W g σ H1 fun x H2 => ∃ a o, x = .ref a ∧ DGet H2 a y o ∧ Q (.bl (if neg = true then !o.isSome else o.isSome)) H2 := by
  obtain ⟨env, B, i, s, h⟩ := h
  refine seqE (P := Pst X.K W B H σ Q) (g := fun a => g env >>= fun b => R.of (dinD neg a b)) i s h (fun c z => z) (fun z => z) fun a x B1 H1 p e1 h1 st1 r1 nd1 fr1 => ?_
  refine seqE (P := Pst X.K W B H σ Q) (g := fun b => R.of (dinD neg a b)) st1.i (s.step st1) h1 (fun c z => erBack (P := True) st1.h z) (fun z => z) fun b y B2 H2 q e2 h2 st2 r2 nd2 fr2 => ?_
  obtain ⟨d, ed, hd⟩ := of_ok h2
  unfold dinD at ed
  split at ed
  · cases ed
    obtain ⟨a, ev, ha⟩ := rp_dic st2.i r2
    refine ⟨a, _, ev, by rw [rp_int r1]; exact DGet.k (k := Sum.inl _) ha, ?_⟩
    rw [valV_dic]
    exact okE_bl (st1.trans st2) hd
  · cases ed
theorem se_din (hr : Room j X.A) (ha : PE X a (tF X.K W f)) (hb : PE X b (tF X.K W g)) (hm : behindInMarks .In b = false := by rfl) : PE X (.Compare a [.In] [b] pos) (tF X.K W (x2 (dinD false) f g)) :=
  peI (pe_cmp (pc_din (by have := hr.units; omega) ha hb) hm) fun _ _ _ h => din_of h
theorem se_dnotin (hr : Room j X.A) (ha : PE X a (tF X.K W f)) (hb : PE X b (tF X.K W g)) (hm : behindInMarks .NotIn b = false := by rfl) : PE X (.Compare a [.NotIn] [b] pos) (tF X.K W (x2 (dinD true) f g)) :=
  peI (pe_cmp (pc_dnotin (by have := hr.units; omega) ha hb) hm) fun _ _ _ h => din_of h
theorem st_din (hr : Room j X.A) (ha : PE X a (tF X.K W f)) (hb : PE X b (tF X.K W g)) (hm : behindInMarks .In b = false := by rfl) : PT X (.Compare a [.In] [b] pos) (tFT X.K W (xB (x2 (dinD false) f g))) :=
  ptI (pt_cmp (pc_din (by have := hr.units; omega) ha hb) hm) fun _ _ _ h => din_of (tB_of h)
theorem st_dnotin (hr : Room j X.A) (ha : PE X a (tF X.K W f)) (hb : PE X b (tF X.K W g)) (hm : behindInMarks .NotIn b = false := by rfl) : PT X (.Compare a [.NotIn] [b] pos) (tFT X.K W (xB (x2 (dinD true) f g))) :=
  ptI (pt_cmp (pc_dnotin (by have := hr.units; omega) ha hb) hm) fun _ _ _ h => din_of (tB_of h)
end
def dputI (i : Nat) (ks : List Int) (env : Env) (Q : Ou → Prop) : D → Prop
  | .int n => ks.length < 16777216 ∧ Q (.nx (env.set i (some (.dic .ow (putI ks n)))))
  | _ => False
def dputK (i : Nat) (f : Env → R D) (env : Env) (Q : Ou → Prop) : Option (Option D) → Prop
  | some (some (.dic .ow ks)) => gEv (f env) env Q (dputI i ks env Q)
  | _ => False
def gDPut (i : Nat) (f : Env → R D) : G := fun env Q => dputK i f env Q env[i]?
@[simp] theorem gDPut_eq (i : Nat) (f : Env → R D) (env : Env) (Q : Ou → Prop) : gDPut i f env Q = dputK i f env Q env[i]? := rfl
@[simp] theorem dputK_eq (i : Nat) (f : Env → R D) (env : Env) (Q : Ou → Prop) (ks : List Int) : dputK i f env Q (some (some (.dic .ow ks))) = gEv (f env) env Q (dputI i ks env Q) := rfl
@[simp] theorem dputI_eq (i : Nat) (env : Env) (Q : Ou → Prop) (ks : List Int) (n : Int) : dputI i ks env Q (.int n) = (ks.length < 16777216 ∧ Q (.nx (env.set i (some (.dic .ow (putI ks n)))))) := rfl
section
variable {K : PySem.W.Frag} {Bf Hf B0 H0 B H : Hp} {σ : L2.St} {env : Env} {ps : Nat → List Addr}
theorem same_updN {A : Hp} {p : Addr} {o : HO} (s : Same A H) (h : A p = none) : Same A (upd H p o) := fun t o' e => by
  rw [upd_ne (fun z => by subst z; rw [h] at e; cases e)]
  exact s t o' e
theorem SRb.dput (s : SRb K Bf Hf B0 H0 σ H env B ps) {i : Nat} {ks : List Int} (e : env[i]? = some (some (.dic .ow ks))) (ks' : List Int) : ∃ a, σ[i]? = some (some (.ref a)) ∧ H a = some (dicO ks) ∧ SRb K Bf Hf B0 H0 σ (upd H a (dicO ks')) (env.set i (some (.dic .ow ks'))) B ps := by
  obtain ⟨hd, v, hv, a, e1, e2, e3⟩ := s.sl i _ e
  subst e1
  have hai : a ∈ ps i := by rw [e3]; simp [dicP]
  obtain ⟨o1, o2, o3, _⟩ := s.ow i a hai
  have g2 : H a = some (dicO ks) := e2
  refine ⟨a, hv, g2, s.fb, same_updN s.fh o2, ⟨s.st.b, same_updN s.st.h o1, same_updN s.st.i o3, s.st.n⟩, by simp [s.len], fun j d' e' => ?_, s.nd, s.dj, fun j t ht => ?_⟩
  · by_cases h : j = i
    · subst h
      have hj : j < env.length := by
        have := (List.getElem?_eq_some_iff.mp e').1
        simpa using this
      rw [List.getElem?_set_self hj] at e'
      cases e'
      exact ⟨rfl, .ref a, hv, a, rfl, upd_same, e3⟩
    · rw [List.getElem?_set_ne (Ne.symm h)] at e'
      obtain ⟨h0, w, h1, h2⟩ := s.sl j d' e'
      exact ⟨h0, w, h1, rp_updD g2 o3 h0 (fun z => h (s.dj j i a z hai)) h2⟩
  · obtain ⟨q1, q2, q3, us, q4, q5⟩ := s.ow j t ht
    refine ⟨q1, q2, q3, ?_⟩
    by_cases hta : t = a
    · subst hta
      exact ⟨_, upd_same, rfl⟩
    · exact ⟨us, (upd_ne hta).trans q4, q5⟩
end
section
variable {X : Cx} {W : WC} {e : Expr} {f : Env → R D} {pos pos' : Pos} {j : Nat}
theorem ss_dput (i : Nat) {x : Str} {px pt : Pos} {kt} (hr : Room j X.A) (hx : PE X (.Name x px) (tVar i)) (he : PE X e (tF X.K W f))
    (hs : swapsWith (.Constant (.bool true) kt pt) (some (.Subscript (.Name x px) e pos')) pos.line X.env = pure false := by rfl) : PS X (.Assign [.Subscript (.Name x px) e pos'] (.Constant (.bool true) kt pt) pos) (tG X.K W (gDPut i f)) := by
  refine psI (ps_dput (by have := hr.units; omega) hx he pe_bl hs) fun De σ H ⟨Bf, Hf, B0, H0, env, Q, ⟨B, ps, s⟩, h, eo⟩ => ?_
  unfold gDPut dputK at h
  split at h
  · rename_i ks hi
    obtain ⟨v, hv⟩ : ∃ v, σ[i]? = some (some v) := by
      obtain ⟨_, v, hv, _⟩ := s.sl i _ hi
      exact ⟨v, hv⟩
    refine ⟨v, hv, ?_⟩
    refine runE2 s h (fun c q => eo.rz c env q) fun d w B' H' qs k s1 st rp nd fr => ?_
    cases d with
    | int n =>
      obtain ⟨hl, q⟩ := k
      obtain ⟨a, h1, h2, h3⟩ := s1.dput hi (putI ks n)
      rw [hv] at h1
      injection h1 with h1
      injection h1 with h1
      refine ⟨a, _, h1, ?_, eo.nx _ q σ _ ⟨B', ps, h3⟩⟩
      rw [rp_int rp]
      have := DPut.k (H := H') (a := a) (k := Sum.inl n) (v := V.bl true) h2 (by rw [List.length_map]; exact Nat.lt_of_lt_of_le hl (by rw [sizeLine_eq]; decide))
      rw [putK_dic] at this
      exact this
    | _ => exact k.elim
  · exact h.elim
end
end BC

namespace BC
open PySem PySem.Spec PyProof.Rows L2

/-! ## for x in PLACE: x.append(e) -/
theorem set_same {α : Type} {xs : List α} {j : Nat} {d : α} (h : xs[j]? = some d) : xs.set j d = xs := by
  refine List.ext_getElem? fun k => ?_
  by_cases hj : j = k
  · subst hj
    rw [List.getElem?_set_self (List.getElem?_eq_some_iff.mp h).1, h]
  · rw [List.getElem?_set_ne hj]
theorem getP_setP : ∀ {π : List Int} {d e e0 : D}, getP d π = some e0 → getP (setP d π e) π = some e
  | [], d, e, e0, h => by rw [setP_nil]; rfl
  | i :: π, .lst k xs, e, e0, h => by
    obtain ⟨hk, h⟩ := getP_lst h
    rw [Option.bind_eq_some_iff] at h
    obtain ⟨d, e1, e2⟩ := h
    obtain ⟨j, e3, e4⟩ := atI_ix e1
    have hj := (List.getElem?_eq_some_iff.mp e4).1
    unfold setP
    rw [e3]
    have : L2.atI (xs.set j (setP (xs.getD j .non) π e)) i = some (setP (xs.getD j .non) π e) := by
      unfold L2.atI
      rw [List.length_set, e3]
      exact List.getElem?_set_self hj
    have eg : xs.getD j .non = d := by rw [List.getD_eq_getElem?_getD, e4]; rfl
    have h2 := getP_setP (e := e) e2
    rw [← eg] at h2
    cases k <;> first | (exact absurd rfl hk) | (show (L2.atI _ i).bind _ = _; rw [this]; exact h2)
  | i :: π, .tup xs, e, e0, h => by
    replace h : (L2.atI xs i).bind (fun d => getP d π) = some e0 := h
    rw [Option.bind_eq_some_iff] at h
    obtain ⟨d, e1, e2⟩ := h
    obtain ⟨j, e3, e4⟩ := atI_ix e1
    have hj := (List.getElem?_eq_some_iff.mp e4).1
    unfold setP
    rw [e3]
    have : L2.atI (xs.set j (setP (xs.getD j .non) π e)) i = some (setP (xs.getD j .non) π e) := by
      unfold L2.atI
      rw [List.length_set, e3]
      exact List.getElem?_set_self hj
    have eg : xs.getD j .non = d := by rw [List.getD_eq_getElem?_getD, e4]; rfl
    have h2 := getP_setP (e := e) e2
    rw [← eg] at h2
    show (L2.atI _ i).bind _ = _
    rw [this]
    exact h2
  | i :: π, .non, e, e0, h => by cases h
  | i :: π, .bl _, e, e0, h => by cases h
  | i :: π, .int _, e, e0, h => by cases h
  | i :: π, .str _, e, e0, h => by cases h
  | i :: π, .exc _ _, e, e0, h => by cases h
  | i :: π, .dic _ _, e, e0, h => by cases h
  | i :: π, .loc _, e, e0, h => by cases h
  | i :: π, .wit _ _, e, e0, h => by cases h
  | i :: π, .obj _ _ _ _ _, e, e0, h => by cases h
theorem setP_same : ∀ {π : List Int} {d e0 : D}, getP d π = some e0 → setP d π e0 = d
  | [], d, e0, h => by rw [setP_nil]; cases h; rfl
  | i :: π, .lst k xs, e0, h => by
    obtain ⟨hk, h⟩ := getP_lst h
    rw [Option.bind_eq_some_iff] at h
    obtain ⟨d, e1, e2⟩ := h
    obtain ⟨j, e3, e4⟩ := atI_ix e1
    have eg : xs.getD j .non = d := by rw [List.getD_eq_getElem?_getD, e4]; rfl
    unfold setP
    rw [e3]
    show D.lst k (xs.set j (setP (xs.getD j .non) π e0)) = _
    rw [eg, setP_same e2, set_same e4]
  | i :: π, .tup xs, e0, h => by
    replace h : (L2.atI xs i).bind (fun d => getP d π) = some e0 := h
    rw [Option.bind_eq_some_iff] at h
    obtain ⟨d, e1, e2⟩ := h
    obtain ⟨j, e3, e4⟩ := atI_ix e1
    have eg : xs.getD j .non = d := by rw [List.getD_eq_getElem?_getD, e4]; rfl
    unfold setP
    rw [e3]
    show D.tup (xs.set j (setP (xs.getD j .non) π e0)) = _
    rw [eg, setP_same e2, set_same e4]
  | i :: π, .non, e0, h => by cases h
  | i :: π, .bl _, e0, h => by cases h
  | i :: π, .int _, e0, h => by cases h
  | i :: π, .str _, e0, h => by cases h
  | i :: π, .exc _ _, e0, h => by cases h
  | i :: π, .dic _ _, e0, h => by cases h
  | i :: π, .loc _, e0, h => by cases h
  | i :: π, .wit _ _, e0, h => by cases h
  | i :: π, .obj _ _ _ _ _, e0, h => by cases h
theorem set_getD_self {xs : List D} {j : Nat} {a b : D} (h : j < xs.length) : (xs.set j a).getD j b = a := by
  rw [List.getD_eq_getElem?_getD, List.getElem?_set_self h]
  rfl
/-- a place changed twice, the second time at an item of it -/
theorem setP_item : ∀ {π : List Int} {d e0 e : D} {l : List D} {k : Nat}, getP d π = some e0 → k < l.length → setP (setP d π (.lst .ow l)) (π ++ [(k : Int)]) e = setP d π (.lst .ow (l.set k e))
  | [], d, e0, e, l, k, h, hk => by
    rw [setP_nil, setP_nil, List.nil_append]
    unfold setP
    rw [ixN_nat hk]
    simp
  | i :: π, .lst kk xs, e0, e, l, k, h, hk => by
    obtain ⟨hkk, h⟩ := getP_lst h
    rw [Option.bind_eq_some_iff] at h
    obtain ⟨d, e1, e2⟩ := h
    obtain ⟨j, e3, e4⟩ := atI_ix e1
    have hj := (List.getElem?_eq_some_iff.mp e4).1
    have eg : xs.getD j .non = d := by rw [List.getD_eq_getElem?_getD, e4]; rfl
    have e5 : setP (.lst kk xs) (i :: π) (.lst .ow l) = .lst kk (xs.set j (setP (xs.getD j .non) π (.lst .ow l))) := by
      show (match L2.ixN xs.length i with | some j => D.lst kk (xs.set j (setP (xs.getD j .non) π (.lst .ow l))) | none => .lst kk xs) = _
      rw [e3]
    have e6 : setP (.lst kk xs) (i :: π) (.lst .ow (l.set k e)) = .lst kk (xs.set j (setP (xs.getD j .non) π (.lst .ow (l.set k e)))) := by
      show (match L2.ixN xs.length i with | some j => D.lst kk (xs.set j (setP (xs.getD j .non) π (.lst .ow (l.set k e)))) | none => .lst kk xs) = _
      rw [e3]
    rw [e5, e6, List.cons_append]
    show (match L2.ixN (xs.set j (setP (xs.getD j .non) π (.lst .ow l))).length i with | some j' => D.lst kk ((xs.set j (setP (xs.getD j .non) π (.lst .ow l))).set j' (setP ((xs.set j (setP (xs.getD j .non) π (.lst .ow l))).getD j' .non) (π ++ [(k : Int)]) e)) | none => .lst kk (xs.set j (setP (xs.getD j .non) π (.lst .ow l)))) = _
    rw [List.length_set, e3]
    show D.lst kk ((xs.set j _).set j (setP ((xs.set j _).getD j .non) (π ++ [(k : Int)]) e)) = _
    rw [set_getD_self hj, List.set_set, eg, setP_item e2 hk]
  | i :: π, .tup xs, e0, e, l, k, h, hk => by
    replace h : (L2.atI xs i).bind (fun d => getP d π) = some e0 := h
    rw [Option.bind_eq_some_iff] at h
    obtain ⟨d, e1, e2⟩ := h
    obtain ⟨j, e3, e4⟩ := atI_ix e1
    have hj := (List.getElem?_eq_some_iff.mp e4).1
    have eg : xs.getD j .non = d := by rw [List.getD_eq_getElem?_getD, e4]; rfl
    have e5 : setP (.tup xs) (i :: π) (.lst .ow l) = .tup (xs.set j (setP (xs.getD j .non) π (.lst .ow l))) := by
      show (match L2.ixN xs.length i with | some j => D.tup (xs.set j (setP (xs.getD j .non) π (.lst .ow l))) | none => .tup xs) = _
      rw [e3]
    have e6 : setP (.tup xs) (i :: π) (.lst .ow (l.set k e)) = .tup (xs.set j (setP (xs.getD j .non) π (.lst .ow (l.set k e)))) := by
      show (match L2.ixN xs.length i with | some j => D.tup (xs.set j (setP (xs.getD j .non) π (.lst .ow (l.set k e)))) | none => .tup xs) = _
      rw [e3]
    rw [e5, e6, List.cons_append]
    show (match L2.ixN (xs.set j (setP (xs.getD j .non) π (.lst .ow l))).length i with | some j' => D.tup ((xs.set j (setP (xs.getD j .non) π (.lst .ow l))).set j' (setP ((xs.set j (setP (xs.getD j .non) π (.lst .ow l))).getD j' .non) (π ++ [(k : Int)]) e)) | none => .tup (xs.set j (setP (xs.getD j .non) π (.lst .ow l)))) = _
    rw [List.length_set, e3]
    show D.tup ((xs.set j _).set j (setP ((xs.set j _).getD j .non) (π ++ [(k : Int)]) e)) = _
    rw [set_getD_self hj, List.set_set, eg, setP_item e2 hk]
  | i :: π, .non, _, _, _, _, h, _ => by cases h
  | i :: π, .bl _, _, _, _, _, h, _ => by cases h
  | i :: π, .int _, _, _, _, _, h, _ => by cases h
  | i :: π, .str _, _, _, _, _, h, _ => by cases h
  | i :: π, .exc _ _, _, _, _, _, h, _ => by cases h
  | i :: π, .dic _ _, _, _, _, _, h, _ => by cases h
  | i :: π, .loc _, _, _, _, _, h, _ => by cases h
  | i :: π, .wit _ _, _, _, _, _, h, _ => by cases h
  | i :: π, .obj _ _ _ _ _, _, _, _, _, h, _ => by cases h
section
variable {K : PySem.W.Frag} {B H : Hp}
/-- a change at an item's list does not turn the way to the place -/
theorem sel_keep (ib : Same B H) : ∀ {π : List Int} {d : D} {v : V} {ps : List Addr} {k : Int} {ys : List D} {q : Addr} {us : List V} {o : HO}, Rp K B H d v ps → ps.Nodup → d.sto = true → (∀ t ∈ ps, B t = none) → getP d (π ++ [k]) = some (.lst .ow ys) →
    sel H v (π ++ [k]) = some (.ref q) → H q = some (.lst us) → sel (upd H q o) v π = sel H v π
  | [], d, v, ps, k, ys, q, us, o, r, nd, hs, fb, e, hsel, hq => rfl
  | i :: π, .lst kk xs, v, ps, k, ys, q, us, o, r, nd, hs, fb, e, hsel, hq => by
    rw [List.cons_append] at e hsel
    obtain ⟨hk, e⟩ := getP_lst e
    rw [Option.bind_eq_some_iff] at e
    obtain ⟨d, e1, e2⟩ := e
    obtain ⟨j, e3, e4⟩ := atI_ix e1
    unfold Rp at r
    obtain ⟨a0, vs0, qs0, ev, n, qq, r⟩ := r
    have hsy : D.stos xs = true := by cases kk <;> simpa [D.sto] using hs
    obtain ⟨w, l, m, rr, h1, h2, h3, h4⟩ := rps_split r hsy e4
    have hat : L2.atI vs0 i = some w := by unfold L2.atI; rw [rps_len r, e3]; exact h1
    have hsub : qs0.Sublist ps := by
      cases kk with
      | ow => rw [qq]; exact List.sublist_cons_self _ _
      | bo => rw [qq]; exact .refl _
      | fz => rw [qq.2]; exact List.nil_sublist _
      | sc => rw [qq.2]; exact List.nil_sublist _
    have hm : m.Sublist ps := ((List.sublist_append_right l m).trans (List.sublist_append_left _ rr)).trans (h2 ▸ hsub)
    obtain ⟨p, vs, qs, a, c, g1, g2, g3, gs, g4⟩ := place ib (π := π ++ [k]) h3 (nd.sublist hm) (stos_at hsy e4) (fun t ht => fb t (hm.subset ht)) e2
    have hpm : p ∈ m := by rw [g1]; simp
    cases kk with
    | ow =>
      have hn : H a0 = some (.lst vs0) := n
      rw [ev, sel_lst hn, hat] at hsel
      replace hsel : sel H w (π ++ [k]) = some (.ref q) := hsel
      rw [gs] at hsel
      obtain rfl : p = q := by injection hsel with z; injection z
      subst qq
      obtain ⟨na, nq⟩ := List.nodup_cons.mp nd
      have npa : p ≠ a0 := fun z => na (by rw [← z, h2]; simp [hpm])
      have hn2 : upd H p o a0 = some (.lst vs0) := (upd_ne (Ne.symm npa)).trans hn
      rw [ev, sel_lst hn2, sel_lst hn, hat]
      show sel (upd H p o) w π = sel H w π
      exact sel_keep ib h3 (nd.sublist hm) (stos_at hsy e4) (fun t ht => fb t (hm.subset ht)) e2 gs hq
    | bo => simp [D.sto] at hs
    | fz =>
      rw [qq.2] at h2
      simp at h2
      rw [h2.2.1] at hpm
      cases hpm
    | sc => exact absurd rfl hk
  | i :: π, .tup xs, v, ps, k, ys, q, us, o, r, nd, hs, fb, e, hsel, hq => by
    rw [List.cons_append] at e hsel
    replace e : (L2.atI xs i).bind (fun d => getP d (π ++ [k])) = some (.lst .ow ys) := e
    rw [Option.bind_eq_some_iff] at e
    obtain ⟨d, e1, e2⟩ := e
    obtain ⟨j, e3, e4⟩ := atI_ix e1
    unfold Rp at r
    obtain ⟨a0, vs0, ev, n, r⟩ := r
    have hsy : D.stos xs = true := by simpa [D.sto] using hs
    obtain ⟨w, l, m, rr, h1, h2, h3, h4⟩ := rps_split r hsy e4
    have hat : L2.atI vs0 i = some w := by unfold L2.atI; rw [rps_len r, e3]; exact h1
    have hm : m.Sublist ps := ((List.sublist_append_right l m).trans (List.sublist_append_left _ rr)).trans (h2 ▸ .refl _)
    rw [ev, sel_tup n, hat] at hsel
    replace hsel : sel H w (π ++ [k]) = some (.ref q) := hsel
    have hn2 : upd H q o a0 = some (.tup vs0) := (upd_ne (fun z => by subst z; rw [hq] at n; cases n)).trans n
    rw [ev, sel_tup hn2, sel_tup n, hat]
    show sel (upd H q o) w π = sel H w π
    exact sel_keep ib h3 (nd.sublist hm) (stos_at hsy e4) (fun t ht => fb t (hm.subset ht)) e2 hsel hq
  | i :: π, .non, _, _, _, _, _, _, _, _, _, _, _, e, _, _ => by cases e
  | i :: π, .bl _, _, _, _, _, _, _, _, _, _, _, _, e, _, _ => by cases e
  | i :: π, .int _, _, _, _, _, _, _, _, _, _, _, _, e, _, _ => by cases e
  | i :: π, .str _, _, _, _, _, _, _, _, _, _, _, _, e, _, _ => by cases e
  | i :: π, .exc _ _, _, _, _, _, _, _, _, _, _, _, _, e, _, _ => by cases e
  | i :: π, .dic _ _, _, _, _, _, _, _, _, _, _, _, _, e, _, _ => by cases e
  | i :: π, .loc _, _, _, _, _, _, _, _, _, _, _, _, e, _, _ => by cases e
  | i :: π, .wit _ _, _, _, _, _, _, _, _, _, _, _, _, e, _, _ => by cases e
  | i :: π, .obj _ _ _ _ _, _, _, _, _, _, _, _, _, _, _, _, e, _, _ => by cases e
end
/-- each item a list of one's own; to each its number is put behind -/
def appAll (y : D) : List D → Option (List D)
  | [] => some []
  | .lst .ow ys :: r => if ys.length < 16777216 then (appAll y r).map (.lst .ow (ys ++ [y]) :: ·) else none
  | _ => none
theorem appAll_get {y : D} : ∀ {xs xs' : List D}, appAll y xs = some xs' → xs'.length = xs.length ∧ ∀ k, k < xs.length → ∃ ys, xs[k]? = some (.lst .ow ys) ∧ ys.length < 16777216 ∧ xs'[k]? = some (.lst .ow (ys ++ [y]))
  | [], xs', h => by cases h; exact ⟨rfl, fun k hk => by simp at hk⟩
  | a :: r, xs', h => by
    unfold appAll at h
    split at h
    · rename_i e; cases e
    · rename_i ys r' e
      injection e with e1 e2
      subst e1 e2
      split at h
      · rename_i hl
        rw [Option.map_eq_some_iff] at h
        obtain ⟨l, h1, h2⟩ := h
        subst h2
        obtain ⟨h3, h4⟩ := appAll_get h1
        refine ⟨by simp [h3], fun k hk => ?_⟩
        cases k with
        | zero => exact ⟨ys, rfl, hl, rfl⟩
        | succ k =>
          obtain ⟨zs, q1, q2, q3⟩ := h4 k (by simpa using hk)
          exact ⟨zs, by simpa using q1, q2, by simpa using q3⟩
      · cases h
    · cases h
def gForApp (v i : Nat) (gs : List (Env → R D)) (f : Env → R D) : G := gPl i gs fun d π xs env Q => v < env.length ∧ ∃ y : Int, (∀ d', f ((env.set v none).set i (some d')) = .ok (.int y)) ∧ ∃ xs', appAll (.int y) xs = some xs' ∧ Q (.nx ((env.set v none).set i (some (setP d π (.lst .ow xs')))))
@[simp] theorem gForApp_eq (v i : Nat) (gs : List (Env → R D)) (f : Env → R D) (env : Env) (Q : Ou → Prop) : gForApp v i gs f env Q = plK gs (fun d π xs env Q => v < env.length ∧ ∃ y : Int, (∀ d', f ((env.set v none).set i (some d')) = .ok (.int y)) ∧ ∃ xs', appAll (.int y) xs = some xs' ∧ Q (.nx ((env.set v none).set i (some (setP d π (.lst .ow xs')))))) env Q env[i]? := by unfold gForApp; rw [gPl_eq]
section
variable {K : PySem.W.Frag} {Bf Hf B0 H0 B H : Hp} {σ : L2.St} {env : Env} {ps : Nat → List Addr}
/-- a slot takes any value; nothing is known of it -/
theorem SRb.forget (s : SRb K Bf Hf B0 H0 σ H env B ps) (v : Nat) (x : V) : SRb K Bf Hf B0 H0 (σ.set v (some x)) H (env.set v none) B ps where
  fb := s.fb
  fh := s.fh
  st := s.st
  len := by simp [s.len]
  sl := fun j d e => by
    by_cases h : v = j
    · subst h
      have hj : v < env.length := by
        have := (List.getElem?_eq_some_iff.mp e).1
        simpa using this
      rw [List.getElem?_set_self hj] at e
      cases e
    · rw [List.getElem?_set_ne h] at e
      obtain ⟨h0, w, h1, h2⟩ := s.sl j d e
      exact ⟨h0, w, by rw [List.getElem?_set_ne h]; exact h1, h2⟩
  nd := s.nd
  dj := s.dj
  ow := s.ow
theorem SRb.forget0 (s : SRb K Bf Hf B0 H0 σ H env B ps) (v : Nat) : SRb K Bf Hf B0 H0 σ H (env.set v none) B ps where
  fb := s.fb
  fh := s.fh
  st := s.st
  len := by simp [s.len]
  sl := fun j d e => by
    by_cases h : v = j
    · subst h
      have hj : v < env.length := by
        have := (List.getElem?_eq_some_iff.mp e).1
        simpa using this
      rw [List.getElem?_set_self hj] at e
      cases e
    · rw [List.getElem?_set_ne h] at e
      exact s.sl j d e
  nd := s.nd
  dj := s.dj
  ow := s.ow
end
section
variable {X : Cx} {W : WC} {e o : Expr} {f : Env → R D} {gs : List (Env → R D)} {pos apos cpos : Pos}
theorem ss_forApp (v i : Nat) {x : Str} {px p2 pos' : Pos} (hvi : v ≠ i) (hp : PassesOwn (model X.prog X.w) X.A X.env X.xe) (hc : X.calm = true) (ho : PE X o (tPl X.K W i gs)) (hg : PG X (.Name x px) (gName v)) (hx : PE X (.Name x p2) (tVar v)) (he : PE X e (tF X.K W f))
    (hbase : attributeBase (.Name x p2) "append" X.env (eval (.Name x p2) X.env) = eval (.Name x p2) X.env := by rfl)
    (hfew : ((backTo cpos (starEach [e] X.env)).all (fun x => !x.1) && (backToKw cpos (keywordEach [] X.env)).all (fun x => x.1.isSome)
      && decide ([e].length + ([] : List Keyword).length + (if ([] : List Keyword).isEmpty then 0 else 1) < 30)) = true := by rfl)
    (hline : (apos.endLine == cpos.line) = true := by rfl) (hs : starEach [e] X.env = (false, eval e X.env) :: starEach [] X.env := by rfl) (hplain : (backTo cpos (starEach [] X.env)).any (·.1) = false := by rfl)
    (hsw : swapsWith (.Call (.Attribute (.Name x p2) "append" apos) [e] [] cpos) none pos'.line X.env = pure false := by rfl)
    (hf : ∀ (x : Value), foldedSetIterable o X.env x = pure x := by intro _; rfl) :
    PS X (.For (.Name x px) o [.Expr (.Call (.Attribute (.Name x p2) "append" apos) [e] [] cpos) pos'] [] pos) (tG X.K W (gForApp v i gs f)) := by
  have hb := pss_one (ps_expr (pe_bm PySem.F.plainAttrs_list PySem.F.slot_list_append PySem.F.type_list_append mt_append hx (pa_cons he pa_nil hs) hbase hfew hline hs hplain) hsw)
  refine psI (ps_for hp hc (pi_list ho) hg hb hf) fun De σ H ⟨Bf, Hf, B0, H0, env, Q, ⟨B, ps, s⟩, h, eo⟩ => ?_
  obtain ⟨d, π, xs, e0, hx0, hg0, hvl, y, hy, xs', ha, hq⟩ := gPl_of h
  obtain ⟨hl', hit⟩ := appAll_get ha
  refine runP e0 hx0 hg0 s fun v0 v1 B1 H1 p1 hv0 hsel st1 s1 r1 => ?_
  obtain ⟨a, vs, qs, ev, h1, _, rr⟩ := SRb.node (Bf := Bf) (Hf := Hf) (B0 := B0) (H0 := H0) (σ := σ) (env := env) (ps := ps) r1
  subst ev
  refine ⟨a, rfl, ⟨vs, .of h1⟩, ?_⟩
  have hlv := rps_len rr
  have ei : (env.set v none)[i]? = some (some d) := by rw [List.getElem?_set_ne hvi]; exact e0
  -- what stands there at turn k
  refine ⟨fun k m σ' H' => m = xs.length - k ∧ k ≤ xs.length ∧ ∃ l : List D, l.length = xs.length ∧ (∀ j, j < k → l[j]? = xs'[j]?) ∧ (∀ j, k ≤ j → l[j]? = xs[j]?) ∧ SR X.K Bf Hf B0 H0 σ' H' ((env.set v none).set i (some (setP d π (.lst .ow l)))) ∧ σ'[i]? = some (some v0) ∧ sel H' v0 π = some (.ref a) ∧ H' a = some (.lst vs), ⟨xs.length, rfl, Nat.zero_le _, xs, rfl, fun j hj => by omega, fun _ _ => rfl, ?_, hv0, hsel, h1⟩, ?_⟩
  · have := s1.forget0 v
    refine ⟨B1, ps, ?_⟩
    have eq : (env.set v none).set i (some (setP d π (.lst .ow xs))) = env.set v none := by
      have : setP d π (.lst .ow xs) = d := setP_same hg0
      rw [this]
      refine List.ext_getElem? fun j => ?_
      by_cases hj : i = j
      · subst hj
        have hi : i < (env.set v none).length := (List.getElem?_eq_some_iff.mp ei).1
        rw [List.getElem?_set_self hi, ei]
      · rw [List.getElem?_set_ne hj]
    rw [eq]
    exact this
  rintro k m σ' H' ⟨hm, hk, l, hll, hd1, hd2, ⟨B2, ps2, s2⟩, hv2, hsel2, ha2⟩
  have hil : i < (env.set v none).length := (List.getElem?_eq_some_iff.mp ei).1
  by_cases hkl : k < xs.length
  · right
    have hkv : k < vs.length := by rw [hlv]; exact hkl
    obtain ⟨w, hw⟩ : ∃ w, vs[k]? = some w := ⟨_, List.getElem?_eq_getElem hkv⟩
    obtain ⟨ys, y1, y2, y3⟩ := hit k hkl
    have hlk : l[k]? = some (.lst .ow ys) := by rw [hd2 k (Nat.le_refl _)]; exact y1
    refine ⟨⟨vs, w, .of ha2, hw⟩, fun σ3 H3 => ∃ m', m' < m ∧ m' = xs.length - (k + 1) ∧ k + 1 ≤ xs.length ∧ ∃ l : List D, l.length = xs.length ∧ (∀ j, j < k + 1 → l[j]? = xs'[j]?) ∧ (∀ j, k + 1 ≤ j → l[j]? = xs[j]?) ∧ SR X.K Bf Hf B0 H0 σ3 H3 ((env.set v none).set i (some (setP d π (.lst .ow l)))) ∧ σ3[i]? = some (some v0) ∧ sel H3 v0 π = some (.ref a) ∧ H3 a = some (.lst vs), fun σ3 H3 z => z, fun x1 H3 hy3 => ?_⟩
    obtain ⟨eH, hx1⟩ := hy3
    subst eH
    have hxw : x1 = w := by
      have := hx1 vs (.of ha2)
      rw [hw] at this
      injection this with this
      exact this.symm
    subst hxw
    -- the name is bound
    have s3 := s2.forget v x1
    have eenv : ((env.set v none).set i (some (setP d π (.lst .ow l)))).set v none = (env.set v none).set i (some (setP d π (.lst .ow l))) := by
      refine List.ext_getElem? fun j => ?_
      by_cases hj : v = j
      · subst hj
        by_cases hlt : v < env.length
        · rw [List.getElem?_set_self (by simpa using hlt), List.getElem?_set_ne (Ne.symm hvi), List.getElem?_set_self hlt]
        · rw [List.getElem?_eq_none (by simpa using hlt), List.getElem?_eq_none (by simpa using hlt)]
      · rw [List.getElem?_set_ne hj]
    rw [eenv] at s3
    have hv3 : (σ'.set v (some x1))[i]? = some (some v0) := by rw [List.getElem?_set_ne hvi]; exact hv2
    -- the way to the item
    have e3 : ((env.set v none).set i (some (setP d π (.lst .ow l))))[i]? = some (some (setP d π (.lst .ow l))) := List.getElem?_set_self hil
    have g3 : getP (setP d π (.lst .ow l)) π = some (.lst .ow l) := getP_setP hg0
    have g4 : getP (setP d π (.lst .ow l)) (π ++ [(k : Int)]) = some (.lst .ow ys) := by
      rw [getP_snoc, g3]
      show (L2.atI l (k : Int)).bind _ = _
      unfold L2.atI
      rw [ixN_nat (by rw [hll]; exact hkl)]
      show (l[k]?).bind _ = _
      rw [hlk]
      rfl
    have sl4 : ∀ H'', sel H'' v0 π = some (.ref a) → H'' a = some (.lst vs) → sel H'' v0 (π ++ [(k : Int)]) = some x1 := fun H'' q1 q2 => by
      rw [sel_snoc, q1]
      show sel H'' (.ref a) [(k : Int)] = some x1
      rw [sel_lst q2]
      unfold L2.atI
      rw [ixN_nat hkv]
      show (vs[k]?).bind _ = _
      rw [hw]
      rfl
    have sl5 := sl4 H3 hsel2 ha2
    have hxv : (σ'.set v (some x1))[v]? = some (some x1) := List.getElem?_set_self (by rw [s2.len]; simpa using hvl)
    -- the item
    obtain ⟨p4, vs4, qs4, ep4, hp4, _, _, _, _⟩ := s3.at e3 g4 hv3 sl5
    subst ep4
    refine ⟨.ref p4, hxv, .inl ⟨rfl, vs4, .of hp4⟩, ?_⟩
    refine runE2 (k := fun d => d = .int y) (Q := Q) s3 (by rw [hy]; rfl) (fun c q => eo.rz c _ q) fun y5 w5 B5 H5 q5 k5 s5 st5 r5 nd5 fr5 => ?_
    subst k5
    obtain ⟨rw5, rq5⟩ : w5 = .int y ∧ q5 = [] := r5
    subst rw5 rq5
    obtain ⟨p6, vs6, qs6, ep6, hp6, rr6, nd6, sub6, K6⟩ := s5.at e3 g4 hv3 (sel_mono st5.h sl5)
    cases ep6
    obtain ⟨hsto, v6, hv6, rp6⟩ := s5.sl i _ e3
    rw [hv3] at hv6
    obtain rfl : v0 = v6 := by injection hv6 with z; injection z
    have ha5 : H5 a = some (.lst vs) := st5.h _ _ ha2
    have hsel5 : sel H5 v0 π = some (.ref a) := sel_mono st5.h hsel2
    have hap : a ≠ p4 := by
      obtain ⟨p7, vs7, qs7, a7, c7, f1, f2, f3, f4, _⟩ := place s5.st.i rp6 (s5.nd i) hsto (fun t ht => (s5.ow i t ht).2.2.1) g3
      rw [hsel5] at f4
      obtain rfl : a = p7 := by injection f4 with z; injection z
      rw [ha5] at f2
      obtain rfl : vs = vs7 := by injection f2 with z; injection z
      obtain ⟨v8, p8, f5, f6, f7⟩ := rps_at f3 hlk
      rw [hw] at f5
      obtain rfl : V.ref p4 = v8 := by injection f5
      unfold Rp at f6
      obtain ⟨a8, _, qs8, f8, _, f9, _⟩ := f6
      obtain rfl : p4 = a8 := by injection f8
      have hin : p4 ∈ qs7 := f7.subset (by rw [f9]; simp)
      have nd8 := s5.nd i
      rw [f1] at nd8
      obtain ⟨n1, _, _⟩ := List.nodup_append.mp nd8
      obtain ⟨_, n2, _⟩ := List.nodup_append.mp n1
      intro z
      subst z
      exact (List.nodup_cons.mp n2).1 hin
    refine ⟨p4, vs6, .int y, rfl, rfl, hp6, by rw [rps_len rr6, sizeLine_eq]; exact y2, ?_⟩
    have hkl2 : k < l.length := by rw [hll]; exact hkl
    refine ⟨xs.length - (k + 1), by omega, rfl, hkl, l.set k (.lst .ow (ys ++ [.int y])), by rw [List.length_set, hll], fun j hj => ?_, fun j hj => ?_, ?_, hv3, ?_, ?_⟩
    · by_cases hjk : k = j
      · subst hjk
        rw [List.getElem?_set_self hkl2, y3]
      · rw [List.getElem?_set_ne hjk]
        exact hd1 j (by omega)
    · rw [List.getElem?_set_ne (by omega)]
      exact hd2 j (by omega)
    · have := K6 (ys ++ [.int y]) (vs6 ++ [.int y]) (qs6 ++ []) (stos_app ?_ (by simp [D.stos, D.sto])) (rps_app rr6 ?_) (by rw [List.append_nil]; exact nd6) (fun q hq => .inl (by simpa using hq))
      · rw [setP_item hg0 hkl2, List.set_set] at this
        exact this
      · have := sto_getP hsto g4
        simpa [D.sto] using this
      · unfold Rps
        exact ⟨.int y, [], [], [], rfl, rfl, ⟨rfl, rfl⟩, ⟨rfl, rfl⟩⟩
    · rw [sel_keep s5.st.i rp6 (s5.nd i) hsto (fun t ht => (s5.ow i t ht).2.2.1) g4 (sel_mono st5.h sl5) hp6]
      exact hsel5
    · exact (upd_ne hap).trans ha5
  · left
    have hke : k = xs.length := by omega
    refine ⟨⟨vs, .of ha2, by rw [hlv]; omega⟩, ?_⟩
    have : l = xs' := by
      refine List.ext_getElem? fun j => ?_
      by_cases hj : j < k
      · exact hd1 j hj
      · rw [List.getElem?_eq_none (by omega), List.getElem?_eq_none (by omega)]
    subst this
    exact eo.nx _ hq σ' H' ⟨B2, ps2, s2⟩
end
end BC

namespace BC
open PySem PySem.Spec PyProof.Rows L2

/-! ## list(range(i, j)) -/
def lrng2D : D → D → Option D
  | .int i, .int j => if -1000000000 ≤ i ∧ i ≤ 1000000000 ∧ -1000000000 ≤ j ∧ j ≤ 1000000000 ∧ j - i ≤ 16777216 then some (.lst .ow (rngL i 1 (j - i).toNat)) else none
  | _, _ => none
@[simp] theorem lrng2D_int (i j : Int) : lrng2D (.int i) (.int j) = if -1000000000 ≤ i ∧ i ≤ 1000000000 ∧ -1000000000 ≤ j ∧ j ≤ 1000000000 ∧ j - i ≤ 16777216 then some (.lst .ow (rngL i 1 (j - i).toNat)) else none := (rfl)
section
variable {X : Cx} {W : WC} {f g : Env → R D} {a b : Expr} {pos : Pos}
theorem se_listRng2 {p p2 pos2 : Pos} (hc : X.calm = true) (hg : Gl X "list") (hm : X.mg "list" = none) (hg2 : Gl X "range") (hm2 : X.mg "range" = none) (ha : PE X a (tF X.K W f)) (hb : PE X b (tF X.K W g)) (na : starEach [a, b] X.env = (false, eval a X.env) :: starEach [b] X.env := by rfl) (nb : starEach [b] X.env = (false, eval b X.env) :: starEach [] X.env := by rfl) (hp : (backTo pos2 (starEach [b] X.env)).any (·.1) = false := by rfl)
    (nc : starEach [.Call (.Name "range" p2) [a, b] [] pos2] X.env = (false, eval (.Call (.Name "range" p2) [a, b] [] pos2) X.env) :: starEach [] X.env := by rfl) : PE X (.Call (.Name "list" p) [.Call (.Name "range" p2) [a, b] [] pos2] [] pos) (tF X.K W (x2 lrng2D f g)) := by
  refine peI (pe_listRg hc hg hm (prg_2 hg2 hm2 ha hb na nb hp) nc) fun σ H Q ⟨env, B, i, s, h⟩ => ?_
  refine seqE (P := Pst X.K W B H σ Q) (g := fun a => g env >>= fun b => R.of (lrng2D a b)) i s h (fun c z => z) (fun z => z) fun d v B1 H1 q e1 h1 st1 r nd fr => ?_
  refine seqE (P := Pst X.K W B H σ Q) (g := fun b => R.of (lrng2D d b)) st1.i (s.step st1) h1 (fun c z => erBack (P := True) st1.h z) (fun z => z) fun d2 v2 B2 H2 q2 e2 h2 st2 r2 nd2 fr2 => ?_
  obtain ⟨d3, ed, hd⟩ := of_ok h2
  unfold lrng2D at ed
  split at ed
  · split at ed
    · cases ed
      rename_i n m hz
      refine ⟨n, m, rp_int r, rp_int r2, ⟨by omega, by omega, by omega, by omega, by omega⟩, ?_⟩
      refine okO_lst (ps := []) st2.i .nil (fun t ht => by cases ht) (vs := rgV n m) (qs := []) ?_ (List.nil_sublist _) (okO_end (st1.trans st2) (by intro t ht; cases ht) hd)
      unfold rngL rgV
      have := rps_rng (K := X.K) (B := B2) (H := H2) (m - n).toNat (fun i => n + (i : Nat) * 1)
      simpa using this
    · cases ed
  · cases ed
end
end BC

namespace BC
open PySem PySem.Spec PyProof.Rows L2
open PySem.W (EachIs AllAlike Sortable alike dataLt dataLe)

/-! ## sorted(x), x a list of data (tuples of ints and lists, say) -/
def rSortedX (K : PySem.W.Frag) : List V → Hp → VK → Prop := fun vs H Q => ∃ (β : Type) (val : β → V) (enc : β → PyData) (bs : List β) (a : Addr), vs = [.ref a] ∧ SqL K H a (bs.map val) ∧ (∀ b ∈ bs, Dp K H (val b) (enc b)) ∧ AllAlike (bs.map enc) ∧ Sortable (bs.map enc) ∧ (∀ b ∈ bs, (enc b).depth ≤ 60) ∧
  ∀ p, H p = none → Q (.ref p) (upd H p (.lst ((bs.mergeSort (dataLe false enc)).map val)))
theorem each_vals {β : Type} {val : β → V} : ∀ {bs : List β} {us : List Value}, Vals (bs.map val) us → EachIs (fun u b => RelV (val b) u) us bs
  | [], us, r => by cases r; exact .nil
  | b :: bs, us, r => by
    rw [List.map_cons] at r
    cases r with
    | cons h t => exact .cons h (each_vals t)
theorem vals_each {β : Type} {val : β → V} {bs : List β} {us : List Value} (r : EachIs (fun u b => RelV (val b) u) us bs) : Vals (bs.map val) us := by
  induction r with
  | nil => exact .nil
  | cons h _ ih => exact .cons h ih
section
variable {X : Cx}
theorem cr_sortedX (hu : X.A.units + 64 < cLine) : CallR X (.builtin "sorted") (rSortedX X.K) := by
  intro pins s σ H vs us Q I r h
  obtain ⟨β, val, enc, bs, a, rfl, hs, hd, hal, hk, hdep, q⟩ := h
  obtain ⟨its, rv, hl, hz⟩ := I.list hs
  obtain ⟨u, rfl, ru⟩ := vals1 r
  obtain rfl : u = Value.ref a := ru
  have e := each_vals rv
  have er : EachIs (fun v b => ∃ as, Reads s.heap v (enc b) as) its bs := by
    have : ∀ {us : List Value} {cs : List β}, EachIs (fun u b => RelV (val b) u) us cs → (∀ b ∈ cs, Dp X.K H (val b) (enc b)) → EachIs (fun v b => ∃ as, Reads s.heap v (enc b) as) us cs := by
      intro us cs r
      induction r with
      | nil => intro _; exact .nil
      | cons h _ ih => intro hh; exact .cons (Dp.reads I _ _ _ (hh _ (by simp)) h) (ih fun b hb => hh b (by simp [hb]))
    exact this e hd
  have hlen : bs.length ≤ sizeLine := by
    rw [List.length_map] at hz
    exact hz
  refine PySem.W.sorted_data (R := fun u b => RelV (val b) u) hl.isList e er hal hk hlen (fun b hb => by have := hdep b hb; omega) fun out ho eo => ?_
  have hsz : s.heap.objs.size ≤ s.heap.objs.size + 1 := Nat.le_succ _
  refine ⟨.ref (s.heap.objs.size + 1), upd H (s.heap.objs.size + 1) (.lst ((bs.mergeSort (dataLe false enc)).map val)), I.laid (t' := s.toks) (fun b o q => PyProof.Rows.sortedAll_old q) hsz ⟨?_, out, ?_⟩, rfl, q _ (I.hok.fresh hsz)⟩
  · rw [List.length_map, List.length_mergeSort]; exact hlen
  · obtain ⟨n, hn⟩ := PyProof.Rows.sortedAll_at s.heap its out.toArray
    exact ⟨n, vals_each eo, by simpa using hn⟩
end
def leX : D → D → Bool := dataLe false D.py
structure SortOk (xs : List D) : Prop where
  dat : D.dats xs = true
  al : AllAlike (xs.map D.py)
  so : Sortable (xs.map D.py)
  dep : ∀ d ∈ xs, d.py.depth ≤ 60
section
variable {K : PySem.W.Frag} {B H : Hp}
theorem rps_triples : ∀ {ds : List D} {vs : List V} {ps : List Addr}, Rps K B H ds vs ps → ∃ ts : List (V × D × List Addr), ts.map (·.1) = vs ∧ ts.map (·.2.1) = ds ∧ (ts.map (·.2.2)).flatten = ps ∧ ∀ t ∈ ts, Rp K B H t.2.1 t.1 t.2.2
  | [], vs, ps, r => ⟨[], r.1.symm, rfl, r.2.symm, by simp⟩
  | d :: ds, vs, ps, r => by
    unfold Rps at r
    obtain ⟨v, vr, p, q, e1, e2, r1, r2⟩ := r
    obtain ⟨ts, h1, h2, h3, h4⟩ := rps_triples r2
    subst e1 e2 h1 h2 h3
    refine ⟨(v, d, p) :: ts, rfl, rfl, rfl, fun t ht => ?_⟩
    rcases List.mem_cons.mp ht with e | e
    · subst e; exact r1
    · exact h4 t e
theorem triples_rps : ∀ {ts : List (V × D × List Addr)}, (∀ t ∈ ts, Rp K B H t.2.1 t.1 t.2.2) → Rps K B H (ts.map (·.2.1)) (ts.map (·.1)) (ts.map (·.2.2)).flatten
  | [], _ => ⟨rfl, rfl⟩
  | t :: ts, h => by
    rw [List.map_cons, List.map_cons, List.map_cons, List.flatten_cons]
    unfold Rps
    exact ⟨t.1, _, t.2.2, _, rfl, rfl, h t (by simp), triples_rps fun u hu => h u (by simp [hu])⟩
theorem dats_mem : ∀ {ds : List D} {d : D}, D.dats ds = true → d ∈ ds → d.dat = true
  | [], _, _, h => by cases h
  | a :: ds, d, h, hm => by
    simp only [D.dats, Bool.and_eq_true] at h
    rcases List.mem_cons.mp hm with e | e
    · subst e; exact h.1
    · exact dats_mem h.2 e
/-- sorted: what it asks of a list, and what it gives -/
theorem sortX_of {xs : List D} {vs : List V} {qs : List Addr} {a : Addr} {Q : VK} (i : Same B H) (ok : SortOk xs) (hs : SqL K H a vs) (r : Rps K B H xs vs qs)
    (k : ∀ (p : Addr) (ws : List V) (qs' : List Addr), H p = none → qs'.Perm qs → Rps K B H (xs.mergeSort leX) ws qs' → Q (.ref p) (upd H p (.lst ws))) : rSortedX K [.ref a] H Q := by
  obtain ⟨ts, h1, h2, h3, h4⟩ := rps_triples r
  subst h1 h2 h3
  refine ⟨V × D × List Addr, (·.1), fun t => t.2.1.py, ts, a, rfl, hs, fun t ht => ?_, ?_, ?_, fun t ht => ?_, fun p hp => ?_⟩
  · exact rp_dp i (dats_mem ok.dat (List.mem_map.mpr ⟨t, ht, rfl⟩)) (h4 t ht)
  · have := ok.al
    rwa [List.map_map] at this
  · have := ok.so
    rwa [List.map_map] at this
  · exact ok.dep _ (List.mem_map.mpr ⟨t, ht, rfl⟩)
  · have hp2 := List.mergeSort_perm ts (dataLe false fun t : V × D × List Addr => t.2.1.py)
    refine k p _ ((ts.mergeSort (dataLe false fun t : V × D × List Addr => t.2.1.py)).map (·.2.2)).flatten hp (hp2.map _).flatten ?_
    have e : (ts.map (·.2.1)).mergeSort leX = (ts.mergeSort (dataLe false fun t : V × D × List Addr => t.2.1.py)).map (·.2.1) := (List.map_mergeSort (f := fun t : V × D × List Addr => t.2.1) (fun _ _ _ _ => rfl)).symm
    rw [e]
    exact triples_rps fun t ht => h4 t (hp2.mem_iff.mp ht)
end
/-- return sorted(x), x a list of one's own -/
def retSK (Q : Ou → Prop) : Option (Option D) → Prop
  | some (some (.lst .ow xs)) => SortOk xs ∧ Q (.rt (.lst .ow (xs.mergeSort leX)))
  | _ => False
def gRetSort (i : Nat) : G := fun env Q => retSK Q env[i]?
@[simp] theorem gRetSort_eq (i : Nat) (env : Env) (Q : Ou → Prop) : gRetSort i env Q = retSK Q env[i]? := rfl
@[simp] theorem retSK_eq (Q : Ou → Prop) (xs : List D) : retSK Q (some (some (.lst .ow xs))) = (SortOk xs ∧ Q (.rt (.lst .ow (xs.mergeSort leX)))) := rfl
section
variable {X : Cx} {W : WC} {pos : Pos} {j : Nat}
theorem ss_retSort (i : Nat) {x y : Str} {px pc p : Pos} (hr : Room j X.A) (hx : PE X (.Name y px) (tVar i)) (hg : Gl X x) (hm : X.mg x = none) (hv : bootBuiltins x = some (.builtin "sorted"))
    (hn : x ≠ "__name__" := by decide) (hdb : (x == ("__debug__" : Str)) = false := by decide) (he1 : starEach [.Name y px] X.env = (false, eval (.Name y px) X.env) :: starEach [] X.env := by rfl) (hpl : (backTo pc (starEach [] X.env)).any (·.1) = false := by rfl) :
    PS X (.Return (some (.Call (.Name x p) [.Name y px] [] pc)) pos) (tG X.K W (gRetSort i)) := by
  refine psI (ps_ret (pe_callB (cr_sortedX hr.units) hg hm hv (pa_cons hx pa_nil he1) hn hdb he1 hpl)) fun De σ H ⟨Bf, Hf, B0, H0, env, Q, ⟨B, ps, s⟩, h, eo⟩ => ?_
  unfold gRetSort retSK at h
  split at h
  · rename_i xs hi
    obtain ⟨ok, q⟩ := h
    obtain ⟨hst, v, hv, rp⟩ := s.sl i _ hi
    unfold Rp at rp
    obtain ⟨a, vs, qs, ev, n, hps, rr⟩ := rp
    subst ev
    refine ⟨.ref a, hv, ?_⟩
    refine sortX_of s.st.i ok (.of n) rr fun p ws qs' hp hpm r2 => ?_
    have hs : Same H (upd H p (.lst ws)) := same_upd hp
    have hsub : ∀ q ∈ qs', q ∈ ps i := fun q hq => by rw [hps]; exact List.mem_cons_of_mem _ (hpm.mem_iff.mp hq)
    refine eo.rt _ q (.ref p) _ ⟨B, p :: qs', s.st.trans (step_new s.st.i hp), ?_, ?_, fun q hq => ?_⟩
    · unfold Rp
      exact ⟨p, ws, qs', rfl, upd_same, rfl, rps_mono (.refl _) hs r2⟩
    · refine List.nodup_cons.mpr ⟨fun z => ?_, ?_⟩
      · obtain ⟨_, _, _, o, h1, _⟩ := s.ow i p (hsub p z)
        rw [hp] at h1
        cases h1
      · have nd := s.nd i
        rw [hps] at nd
        exact hpm.symm.nodup (List.nodup_cons.mp nd).2
    · rcases List.mem_cons.mp hq with e | e
      · subst e
        exact ⟨s.st.h.free hp, noB s.st.i hp⟩
      · obtain ⟨h1, _, h3, _⟩ := s.ow i q (hsub q e)
        exact ⟨h1, h3⟩
  · exact h.elim
end
end BC

namespace BC
open PySem PySem.Spec PyProof.Rows L2

/-! ## a name's own value put away -/
section
variable {K : PySem.W.Frag} {Bf Hf B0 H0 B H : Hp} {σ : L2.St} {env : Env} {ps : Nat → List Addr}
theorem SRb.take (s : SRb K Bf Hf B0 H0 σ H env B ps) {j : Nat} {d : D} (e : env[j]? = some (some d)) : ∃ v, σ[j]? = some (some v) ∧ d.sto = true ∧ Rp K B H d v (ps j) ∧ (ps j).Nodup ∧
    SRb K Bf Hf B0 H0 σ H (env.set j none) B (fun i => if i = j then [] else ps i) ∧ ∀ q ∈ ps j, H0 q = none ∧ Hf q = none ∧ B q = none ∧ ∀ i, q ∉ (fun i => if i = j then [] else ps i) i := by
  obtain ⟨hd, v, hv, rp⟩ := s.sl j d e
  refine ⟨v, hv, hd, rp, s.nd j, ⟨s.fb, s.fh, s.st, by simp [s.len], fun i d' e' => ?_, fun i => ?_, fun i k p h1 h2 => ?_, fun i p hp => ?_⟩, fun q hq => ?_⟩
  · by_cases h : j = i
    · subst h
      have hj : j < env.length := by
        have := (List.getElem?_eq_some_iff.mp e').1
        simpa using this
      rw [List.getElem?_set_self hj] at e'
      cases e'
    · rw [List.getElem?_set_ne h] at e'
      obtain ⟨h0, w, h1, h2⟩ := s.sl i d' e'
      exact ⟨h0, w, h1, by rw [if_neg (Ne.symm h)]; exact h2⟩
  · split
    · exact .nil
    · exact s.nd i
  · by_cases hi : i = j
    · rw [if_pos hi] at h1; cases h1
    · by_cases hk : k = j
      · rw [if_pos hk] at h2; cases h2
      · rw [if_neg hi] at h1
        rw [if_neg hk] at h2
        exact s.dj i k p h1 h2
  · by_cases hi : i = j
    · rw [if_pos hi] at hp; cases hp
    · rw [if_neg hi] at hp
      exact s.ow i p hp
  · obtain ⟨h1, h2, h3, _⟩ := s.ow j q hq
    refine ⟨h1, h2, h3, fun i hi => ?_⟩
    by_cases h : i = j
    · simp only [if_pos h] at hi
      cases hi
    · simp only [if_neg h] at hi
      exact h (s.dj i j q hi hq)
end
def appMvK (i j : Nat) (d : D) (π : List Int) (xs : List D) (env : Env) (Q : Ou → Prop) : Option (Option D) → Prop
  | some (some y) => xs.length < 16777216 ∧ Q (.nx ((env.set j none).set i (some (setP d π (.lst .ow (xs ++ [y]))))))
  | _ => False
/-- PLACE.append(x), x used no more -/
def gAppMv (i : Nat) (gs : List (Env → R D)) (j : Nat) : G := gPl i gs fun d π xs env Q => appMvK i j d π xs env Q env[j]?
@[simp] theorem gAppMv_eq (i : Nat) (gs : List (Env → R D)) (j : Nat) (env : Env) (Q : Ou → Prop) : gAppMv i gs j env Q = plK gs (fun d π xs env Q => appMvK i j d π xs env Q env[j]?) env Q env[i]? := by unfold gAppMv; rw [gPl_eq]
@[simp] theorem appMvK_some (i j : Nat) (d : D) (π : List Int) (xs : List D) (env : Env) (Q : Ou → Prop) (y : D) : appMvK i j d π xs env Q (some (some y)) = (xs.length < 16777216 ∧ Q (.nx ((env.set j none).set i (some (setP d π (.lst .ow (xs ++ [y]))))))) := rfl
section
variable {X : Cx} {W : WC} {o : Expr} {gs : List (Env → R D)} {i : Nat} {pos apos cpos : Pos}
theorem ss_appMv (j : Nat) {x : Str} {px pos' : Pos} (hij : i ≠ j) (ho : PE X o (tPl X.K W i gs)) (hx : PE X (.Name x px) (tVar j)) (hbase : attributeBase o "append" X.env (eval o X.env) = eval o X.env := by rfl)
    (hfew : ((backTo cpos (starEach [.Name x px] X.env)).all (fun x => !x.1) && (backToKw cpos (keywordEach [] X.env)).all (fun x => x.1.isSome)
      && decide ([Expr.Name x px].length + ([] : List Keyword).length + (if ([] : List Keyword).isEmpty then 0 else 1) < 30)) = true := by rfl)
    (hline : (apos.endLine == cpos.line) = true := by rfl) (hs : starEach [.Name x px] X.env = (false, eval (.Name x px) X.env) :: starEach [] X.env := by rfl) (hplain : (backTo cpos (starEach [] X.env)).any (·.1) = false := by rfl)
    (hsw : swapsWith (.Call (.Attribute o "append" apos) [.Name x px] [] cpos) none pos'.line X.env = pure false := by rfl) : PS X (.Expr (.Call (.Attribute o "append" apos) [.Name x px] [] cpos) pos') (tG X.K W (gAppMv i gs j)) := by
  refine psI (ps_expr (pe_bm PySem.F.plainAttrs_list PySem.F.slot_list_append PySem.F.type_list_append mt_append ho (pa_cons hx pa_nil hs) hbase hfew hline hs hplain) hsw) fun De σ H ⟨Bf, Hf, B0, H0, env, Q, ⟨B, ps, s⟩, h, eo⟩ => ?_
  obtain ⟨d, π, xs, e0, hx, hg, hk⟩ := gPl_of h
  refine runP e0 hx hg s fun v0 v B1 H1 p1 hv0 hsel st1 s1 r1 => ?_
  obtain ⟨a, vs1, qs1, ev, h1, _, _⟩ := SRb.node (Bf := Bf) (Hf := Hf) (B0 := B0) (H0 := H0) (σ := σ) (env := env) (ps := ps) r1
  subst ev
  refine ⟨.inl ⟨rfl, vs1, .of h1⟩, ?_⟩
  unfold appMvK at hk
  split at hk
  · rename_i y ey
    obtain ⟨hz, hq⟩ := hk
    obtain ⟨w, hw, hy, rw, ndw, s2, f2⟩ := s1.take ey
    have e1 : (env.set j none)[i]? = some (some d) := by rw [List.getElem?_set_ne (Ne.symm hij)]; exact e0
    obtain ⟨p, vs, qs, ep, hp, rr, nd, sub, K⟩ := s2.at e1 hg hv0 hsel
    cases ep
    refine ⟨w, hw, ?_⟩
    refine ⟨a, vs, w, rfl, rfl, hp, by rw [rps_len rr, sizeLine_eq]; exact hz, ?_⟩
    refine eo.nx _ hq σ _ (K (xs ++ [y]) (vs ++ [w]) (qs ++ ps j) ?_ ?_ ?_ fun q hqm => ?_)
    · refine stos_app ?_ (by simp [D.stos, hy])
      have := sto_getP (stos_of s2 e1) hg
      simpa [D.sto] using this
    · refine rps_app rr ?_
      unfold Rps
      exact ⟨w, [], ps j, [], rfl, by simp, rw, ⟨rfl, rfl⟩⟩
    · exact List.nodup_append.mpr ⟨nd, ndw, fun x hx y hy z => (f2 y hy).2.2.2 i (z ▸ sub x hx)⟩
    · rcases List.mem_append.mp hqm with z | z
      · exact .inl z
      · exact .inr (f2 q z)
  · exact hk.elim
end
def appMvTK (i j : Nat) (d : D) (π : List Int) (xs : List D) (env : Env) (Q : Ou → Prop) (o : Option (Option D)) : D → D → Prop
  | .int a, .int b => match o with
    | some (some y) => xs.length < 16777216 ∧ Q (.nx ((env.set j none).set i (some (setP d π (.lst .ow (xs ++ [.tup [.int a, .int b, y]]))))))
    | _ => False
  | _, _ => False
/-- PLACE.append((e1, e2, x)), e1 and e2 whole numbers, x used no more -/
def gAppMvT (i : Nat) (gs : List (Env → R D)) (f g : Env → R D) (j : Nat) : G := gPl i gs fun d π xs env Q => gEv (f env) env Q fun a => gEv (g env) env Q fun b => appMvTK i j d π xs env Q env[j]? a b
@[simp] theorem gAppMvT_eq (i : Nat) (gs : List (Env → R D)) (f g : Env → R D) (j : Nat) (env : Env) (Q : Ou → Prop) : gAppMvT i gs f g j env Q = plK gs (fun d π xs env Q => gEv (f env) env Q fun a => gEv (g env) env Q fun b => appMvTK i j d π xs env Q env[j]? a b) env Q env[i]? := by unfold gAppMvT; rw [gPl_eq]
@[simp] theorem appMvTK_some (i j : Nat) (d : D) (π : List Int) (xs : List D) (env : Env) (Q : Ou → Prop) (y : D) (a b : Int) : appMvTK i j d π xs env Q (some (some y)) (.int a) (.int b) = (xs.length < 16777216 ∧ Q (.nx ((env.set j none).set i (some (setP d π (.lst .ow (xs ++ [.tup [.int a, .int b, y]]))))))) := rfl
section
variable {X : Cx} {W : WC} {o e1 e2 : Expr} {f g : Env → R D} {gs : List (Env → R D)} {i : Nat} {pos apos cpos : Pos}
theorem ss_appMvT (j : Nat) {x : Str} {px pt pos' : Pos} {kt : Nat} (hij : i ≠ j) (ho : PE X o (tPl X.K W i gs)) (h1 : PE X e1 (tF X.K W f)) (h2 : PE X e2 (tF X.K W g)) (hx : PE X (.Name x px) (tVar j)) (hbase : attributeBase o "append" X.env (eval o X.env) = eval o X.env := by rfl)
    (hfew : ((backTo cpos (starEach [.Tuple [e1, e2, .Name x px] kt pt] X.env)).all (fun x => !x.1) && (backToKw cpos (keywordEach [] X.env)).all (fun x => x.1.isSome)
      && decide ([Expr.Tuple [e1, e2, .Name x px] kt pt].length + ([] : List Keyword).length + (if ([] : List Keyword).isEmpty then 0 else 1) < 30)) = true := by rfl)
    (hline : (apos.endLine == cpos.line) = true := by rfl) (hs : starEach [.Tuple [e1, e2, .Name x px] kt pt] X.env = (false, eval (.Tuple [e1, e2, .Name x px] kt pt) X.env) :: starEach [] X.env := by rfl) (hplain : (backTo cpos (starEach [] X.env)).any (·.1) = false := by rfl)
    (t1 : starEach [e1, e2, .Name x px] X.env = (false, eval e1 X.env) :: starEach [e2, .Name x px] X.env := by rfl) (t2 : starEach [e2, .Name x px] X.env = (false, eval e2 X.env) :: starEach [.Name x px] X.env := by rfl) (t3 : starEach [.Name x px] X.env = (false, eval (.Name x px) X.env) :: starEach [] X.env := by rfl)
    (hsw : swapsWith (.Call (.Attribute o "append" apos) [.Tuple [e1, e2, .Name x px] kt pt] [] cpos) none pos'.line X.env = pure false := by rfl) : PS X (.Expr (.Call (.Attribute o "append" apos) [.Tuple [e1, e2, .Name x px] kt pt] [] cpos) pos') (tG X.K W (gAppMvT i gs f g j)) := by
  refine psI (ps_expr (pe_bm PySem.F.plainAttrs_list PySem.F.slot_list_append PySem.F.type_list_append mt_append ho (pa_cons (pe_tup (pa_cons h1 (pa_cons h2 (pa_cons hx pa_nil t3) t2) t1)) pa_nil hs) hbase hfew hline hs hplain) hsw) fun De σ H ⟨Bf, Hf, B0, H0, env, Q, ⟨B, ps, s⟩, h, eo⟩ => ?_
  obtain ⟨d, π, xs, e0, hx, hg, hk⟩ := gPl_of h
  refine runP e0 hx hg s fun v0 v B1 H1 p1 hv0 hsel st1 s1 r1 => ?_
  obtain ⟨a, vs1, qs1, ev, h1, _, _⟩ := SRb.node (Bf := Bf) (Hf := Hf) (B0 := B0) (H0 := H0) (σ := σ) (env := env) (ps := ps) r1
  subst ev
  refine ⟨.inl ⟨rfl, vs1, .of h1⟩, ?_⟩
  refine runE2 (Q := Q) s1 hk (fun c q => eo.rz c env q) fun ya wa B2 H2 q2 ka s2 st2 ra nda fra => ?_
  refine runE2 (Q := Q) s2 ka (fun c q => eo.rz c env q) fun yb wb B3 H3 q3 kb s3 st3 rb ndb frb => ?_
  cases ya with
  | int na =>
    cases yb with
    | int nb =>
      have ea : wa = .int na := rp_int ra
      have eb : wb = .int nb := rp_int rb
      subst ea eb
      have kb' : appMvTK i j d π xs env Q env[j]? (.int na) (.int nb) := kb
      unfold appMvTK at kb'
      simp only at kb'
      split at kb'
      · rename_i y ey
        obtain ⟨hz, hq⟩ := kb'
        obtain ⟨w, hw, hy, rw, ndw, s4, f4⟩ := s3.take ey
        refine ⟨w, hw, by show ([V.int na, V.int nb, w] : List V).length ≤ sizeLine; rw [sizeLine_eq]; simp, fun p hp => ?_⟩
        have hsm : Same H3 (upd H3 p (.tup [V.int na, V.int nb, w])) := same_upd hp
        have s5 := s4.same hsm
        have f5 : ∀ q ∈ ps j, H0 q = none ∧ Hf q = none ∧ B3 q = none ∧ ∀ i, q ∉ (fun i => if i = j then [] else ps i) i := f4
        have e1 : (env.set j none)[i]? = some (some d) := by rw [List.getElem?_set_ne (Ne.symm hij)]; exact e0
        have hsel5 : sel (upd H3 p (.tup [V.int na, V.int nb, w])) v0 π = some (.ref a) := sel_mono hsm (sel_mono st3.h (sel_mono st2.h hsel))
        obtain ⟨p6, vs, qs, ep, hp6, rr, nd, sub, K⟩ := s5.at e1 hg hv0 hsel5
        cases ep
        refine ⟨a, vs, .ref p, rfl, rfl, hp6, by rw [rps_len rr, sizeLine_eq]; exact hz, ?_⟩
        refine eo.nx _ hq σ _ (K (xs ++ [.tup [.int na, .int nb, y]]) (vs ++ [.ref p]) (qs ++ ps j) ?_ ?_ ?_ fun q hqm => ?_)
        · refine stos_app ?_ (by simp [D.stos, D.sto, hy])
          have := sto_getP (stos_of s5 e1) hg
          simpa [D.sto] using this
        · refine rps_app rr ?_
          unfold Rps
          refine ⟨.ref p, [], ps j, [], rfl, by simp, ?_, ⟨rfl, rfl⟩⟩
          unfold Rp
          refine ⟨p, _, rfl, upd_same, ?_⟩
          unfold Rps
          refine ⟨.int na, _, [], ps j, rfl, rfl, ⟨rfl, rfl⟩, ?_⟩
          unfold Rps
          refine ⟨.int nb, _, [], ps j, rfl, rfl, ⟨rfl, rfl⟩, ?_⟩
          unfold Rps
          exact ⟨w, [], ps j, [], rfl, by simp, rp_mono (.refl _) hsm rw, ⟨rfl, rfl⟩⟩
        · exact List.nodup_append.mpr ⟨nd, ndw, fun x hx y hy z => (f5 y hy).2.2.2 i (z ▸ sub x hx)⟩
        · rcases List.mem_append.mp hqm with z | z
          · exact .inl z
          · exact .inr (f5 q z)
      · exact kb'.elim
    | _ => exact kb.elim
  | _ => cases yb <;> exact kb.elim
end
end BC

namespace BC
open PySem PySem.Spec PyProof.Rows L2

/-! ## a thing is equal to itself, however it is held -/
mutual
theorem py_bor : ∀ d : D, d.bor.py = d.py
  | .non => rfl
  | .bl _ => rfl
  | .int _ => rfl
  | .str _ => rfl
  | .exc _ _ => rfl
  | .dic _ _ => rfl
  | .loc _ => rfl
  | .wit _ _ => rfl
  | .obj _ _ _ _ _ => rfl
  | .lst k xs => by unfold D.bor D.py; rw [pys_bor xs]
  | .tup xs => by unfold D.bor D.py; rw [pys_bor xs]
theorem pys_bor : ∀ ds : List D, D.pys (D.bors ds) = D.pys ds
  | [] => rfl
  | d :: ds => by unfold D.bors D.pys; rw [py_bor d, pys_bor ds]
end
mutual
theorem dat_bor : ∀ d : D, d.bor.dat = d.dat
  | .non => rfl
  | .bl _ => rfl
  | .int _ => rfl
  | .str _ => rfl
  | .exc _ _ => rfl
  | .dic _ _ => rfl
  | .loc _ => rfl
  | .wit _ _ => rfl
  | .obj _ _ _ _ _ => rfl
  | .lst k xs => by unfold D.bor D.dat; exact dats_bor xs
  | .tup xs => by unfold D.bor D.dat; exact dats_bor xs
theorem dats_bor : ∀ ds : List D, D.dats (D.bors ds) = D.dats ds
  | [] => rfl
  | d :: ds => by unfold D.bors D.dats; rw [dat_bor d, dats_bor ds]
end
mutual
theorem eqv_self : ∀ d : D, d.dat = true → d.eqv d = true
  | .non, _ => rfl
  | .bl b, _ => by rw [eqv_bl]; simp
  | .int b, _ => by rw [eqv_int]; simp
  | .str b, _ => by rw [eqv_str]; simp
  | .exc _ _, h => by simp [D.dat] at h
  | .dic _ _, h => by simp [D.dat] at h
  | .loc _, h => by simp [D.dat] at h
  | .wit _ _, h => by simp [D.dat] at h
  | .obj _ _ _ _ _, h => by simp [D.dat] at h
  | .lst k xs, h => by rw [eqv_lst]; exact eqvs_self xs (by simpa [D.dat] using h)
  | .tup xs, h => by rw [eqv_tup]; exact eqvs_self xs (by simpa [D.dat] using h)
theorem eqvs_self : ∀ ds : List D, D.dats ds = true → D.eqvs ds ds = true
  | [], _ => rfl
  | d :: ds, h => by
    simp only [D.dats, Bool.and_eq_true] at h
    rw [eqvs_cons, eqv_self d h.1, eqvs_self ds h.2]
    rfl
end
theorem CD.bor {n : Nat} {d : D} (h : CD n d) : CD n d.bor := ⟨by rw [dat_bor]; exact h.dat, by rw [py_bor]; exact h.lay, by rw [py_bor]; exact h.dep⟩
theorem eqD_bor {d : D} {n : Nat} (h : CD n d) (hn : n ≤ 64) : eqD d d.bor = some (.bl true) := by
  rw [eqD_of (h.ok hn) (h.bor.ok hn)]
  unfold D.eqv
  rw [py_bor]
  have := eqv_self d h.dat
  unfold D.eqv at this
  rw [this]
theorem eqD_self {d e : D} {n : Nat} (h : CD n d) (k : CD n e) (hn : n ≤ 64) (he : e.py = d.py) : eqD d e = some (.bl true) := by
  rw [eqD_of (h.ok hn) (k.ok hn)]
  unfold D.eqv
  rw [he]
  have := eqv_self d h.dat
  unfold D.eqv at this
  rw [this]
theorem neD_bor {d : D} {n : Nat} (h : CD n d) (hn : n ≤ 64) : neD d d.bor = some (.bl false) := by
  rw [neD_of (h.ok hn) (h.bor.ok hn)]
  unfold D.eqv
  rw [py_bor]
  have := eqv_self d h.dat
  unfold D.eqv at this
  rw [this]
  rfl
end BC

namespace BC
open PySem PySem.Spec PyProof.Rows L2

/-! ## names take what a name's tuple holds; that name is used no more -/
def unpVK (is : List Nat) (j : Nat) (env : Env) (Q : Ou → Prop) : Option (Option D) → Prop
  | some (some (.tup ds)) => ∃ e, setAll is ds (env.set j none) = some e ∧ Q (.nx e)
  | _ => False
def gUnpV (is : List Nat) (j : Nat) : G := fun env Q => unpVK is j env Q env[j]?
@[simp] theorem gUnpV_eq (is : List Nat) (j : Nat) (env : Env) (Q : Ou → Prop) : gUnpV is j env Q = unpVK is j env Q env[j]? := rfl
@[simp] theorem unpVK_tup (is : List Nat) (j : Nat) (ds : List D) (env : Env) (Q : Ou → Prop) : unpVK is j env Q (some (some (.tup ds))) = ∃ e, setAll is ds (env.set j none) = some e ∧ Q (.nx e) := rfl
section
variable {X : Cx} {W : WC} {e : Expr} {pos : Pos}
theorem ss_unpV {es : List Expr} {k : Nat} {pos' : Pos} (is : List Nat) (j : Nat) (hc : X.calm = true) (he : PE X e (tVar j)) (hg : PGs X es (gAll is)) (hs : swapsWithSole [.Tuple es k pos'] e pos.line X.env = pure false := by rfl) (hw : swappedStores [.Tuple es k pos'] e X.env = pure none := by rfl)
    (h1 : (assignEach [.Tuple es k pos'] X.env).map (·.2) = [assign (.Tuple es k pos') X.env] := by rfl) (hn : (assignEach es X.env).length = is.length := by rfl) (hst : (assignEach es X.env).findIdx? (·.1) = none := by rfl) : PS X (.Assign [.Tuple es k pos'] e pos) (tG X.K W (gUnpV is j)) := by
  refine psI (ps_asg he (pg_tup hc hg hn hst) hs hw h1) fun De σ H ⟨Bf, Hf, B0, H0, env, Q, ⟨B, ps, s⟩, h, eo⟩ => ?_
  have h' : unpVK is j env Q env[j]? := h
  unfold unpVK at h'
  split at h'
  · rename_i ds ey
    obtain ⟨env', e1, q⟩ := h'
    obtain ⟨w, hw, hy, rw, ndw, s2, f2⟩ := s.take ey
    refine ⟨w, hw, ?_⟩
    obtain ⟨a, vs, ev, sq, r⟩ := rp_tup rw
    refine ⟨a, vs, ev, sq, by rw [rps_len r]; exact (setAll_len e1).symm, ?_⟩
    exact SRb.sets e1 s2 (by simpa [BC.D.sto] using hy) r ndw f2 fun σ' ps' s' => eo.nx _ q _ _ ⟨B, ps', s'⟩
  · exact h'.elim
end
end BC

namespace BC
open PySem PySem.Spec PyProof.Rows L2

/-! ## name[a], name[b] = x, y of whole numbers -/
def swpK (i : Nat) (gs : List (Env → R D)) (g1 g2 : Env → R D) (env : Env) (Q : Ou → Prop) : D → D → Prop
  | .int a, .int b => gSeq (gSetI i gs g1 (xC (.int a))) (gSetI i gs g2 (xC (.int b))) env Q
  | _, _ => False
def gSwp (i : Nat) (gs : List (Env → R D)) (g1 g2 f1 f2 : Env → R D) : G := fun env Q => gEv (f1 env) env Q fun x => gEv (f2 env) env Q fun y => swpK i gs g1 g2 env Q x y
@[simp] theorem gSwp_eq (i : Nat) (gs : List (Env → R D)) (g1 g2 f1 f2 : Env → R D) (env : Env) (Q : Ou → Prop) : gSwp i gs g1 g2 f1 f2 env Q = gEv (f1 env) env Q fun x => gEv (f2 env) env Q fun y => swpK i gs g1 g2 env Q x y := rfl
@[simp] theorem swpK_int (i : Nat) (gs : List (Env → R D)) (g1 g2 : Env → R D) (env : Env) (Q : Ou → Prop) (a b : Int) : swpK i gs g1 g2 env Q (.int a) (.int b) = gSeq (gSetI i gs g1 (xC (.int a))) (gSetI i gs g2 (xC (.int b))) env Q := rfl
section
variable {X : Cx} {W : WC} {e1 e2 o b1 b2 : Expr} {f1 f2 g g1 g2 : Env → R D} {gs : List (Env → R D)} {i : Nat} {pos : Pos}
theorem subI {Bf Hf B0 H0 H : Hp} {σ : L2.St} {env : Env} {De : Ends} {Q : Ou → Prop} {b : Int} (s0 : SR X.K Bf Hf B0 H0 σ H env) (h : gSetI i gs g (xC (.int b)) env Q) (eo : EOk X.K W Bf Hf B0 H0 De Q) : gSub (tPl X.K W i gs) (tF X.K W g) rSetL (.int b) σ H De.nx := by
  obtain ⟨B, ps, s⟩ := s0
  obtain ⟨d, π, xs, e0, hx, hg, hk⟩ := gPl_of h
  have k1 : gEv (g env) env Q fun n => (D.int b).sto = true ∧ match n with
    | .int n => match L2.ixN xs.length n with
      | some j => Q (.nx (env.set i (some (setP d π (.lst .ow (xs.set j (.int b)))))))
      | none => False
    | _ => False := hk
  refine runP e0 hx hg s fun v0 v B2 H2 p2 hv0 hsel st2 s2 r2 => ?_
  refine runE2 (Q := Q) s2 k1 (fun c q => eo.rz c env q) fun n wn B3 H3 q3 k3 s3 st3 r3 nd3 fr3 => ?_
  obtain ⟨hy, k3⟩ := k3
  cases n with
  | int n =>
    have en := rp_int r3
    subst en
    cases ej : L2.ixN xs.length n with
    | none => simp only [ej] at k3
    | some j =>
      simp only [ej] at k3
      obtain ⟨p, vs, qs, ep, hp, rr, nd, sub, K⟩ := s3.at e0 hg hv0 (sel_mono st3.h hsel)
      subst ep
      obtain ⟨qs', g1, g2, g3⟩ := rps_set (d := .int b) (v := .int b) (q := []) rr (ixN_lt ej) (by unfold Rp; exact ⟨rfl, rfl⟩) nd .nil (by intro t ht; cases ht)
      refine ⟨p, vs, n, j, rfl, rfl, hp, by rw [rps_len rr]; exact ej, ?_⟩
      refine eo.nx _ k3 σ _ (K (xs.set j (.int b)) (vs.set j (.int b)) qs' ?_ g1 g2 fun q hqm => ?_)
      · refine stos_set ?_ rfl
        have := sto_getP (stos_of s3 e0) hg
        simpa [D.sto] using this
      · rcases g3 q hqm with z | z
        · exact .inl z
        · cases z
  | _ => exact k3.elim
theorem ss_swp {o1 o2 : Expr} {p1 p2 pt pv : Pos} {kt kv : Nat} (hc : X.calm = true) (h1 : PE X e1 (tF X.K W f1)) (h2 : PE X e2 (tF X.K W f2)) (ho1 : PE X o1 (tPl X.K W i gs)) (ho2 : PE X o2 (tPl X.K W i gs)) (hb1 : PE X b1 (tF X.K W g1)) (hb2 : PE X b2 (tF X.K W g2))
    (ha1 : ∀ v, assign (.Subscript o1 b1 p1) X.env v = (do
      let ov ← holding [v] (eval o1 X.env)
      let iv ← holding [v, ov] (eval b1 X.env)
      standAt p1
      holding [v, ov, iv] (setItem ov iv v)
      release [v, ov, iv] []) := by intro _; rfl)
    (ha2 : ∀ v, assign (.Subscript o2 b2 p2) X.env v = (do
      let ov ← holding [v] (eval o2 X.env)
      let iv ← holding [v, ov] (eval b2 X.env)
      standAt p2
      holding [v, ov, iv] (setItem ov iv v)
      release [v, ov, iv] []) := by intro _; rfl)
    (t1 : starEach [e1, e2] X.env = (false, eval e1 X.env) :: starEach [e2] X.env := by rfl) (t2 : starEach [e2] X.env = (false, eval e2 X.env) :: starEach [] X.env := by rfl)
    (hp1 : (assignEach [.Subscript o1 b1 p1, .Subscript o2 b2 p2] X.env).map (·.2) = assign (.Subscript o1 b1 p1) X.env :: (assignEach [.Subscript o2 b2 p2] X.env).map (·.2) := by rfl)
    (hp2 : (assignEach [.Subscript o2 b2 p2] X.env).map (·.2) = assign (.Subscript o2 b2 p2) X.env :: (assignEach [] X.env).map (·.2) := by rfl)
    (hs : swapsWithSole [.Tuple [.Subscript o1 b1 p1, .Subscript o2 b2 p2] kt pt] (.Tuple [e1, e2] kv pv) pos.line X.env = pure false := by rfl) (hw : swappedStores [.Tuple [.Subscript o1 b1 p1, .Subscript o2 b2 p2] kt pt] (.Tuple [e1, e2] kv pv) X.env = pure none := by rfl)
    (ht : (assignEach [.Tuple [.Subscript o1 b1 p1, .Subscript o2 b2 p2] kt pt] X.env).map (·.2) = [assign (.Tuple [.Subscript o1 b1 p1, .Subscript o2 b2 p2] kt pt) X.env] := by rfl)
    (hn : (assignEach [.Subscript o1 b1 p1, .Subscript o2 b2 p2] X.env).length = 2 := by rfl) (hst : (assignEach [.Subscript o1 b1 p1, .Subscript o2 b2 p2] X.env).findIdx? (·.1) = none := by rfl) :
    PS X (.Assign [.Tuple [.Subscript o1 b1 p1, .Subscript o2 b2 p2] kt pt] (.Tuple [e1, e2] kv pv) pos) (tG X.K W (gSwp i gs g1 g2 f1 f2)) := by
  refine psI (ps_asg (pe_tup (pa_cons h1 (pa_cons h2 pa_nil t2) t1)) (pg_tup hc (pgs_cons (pg_sub ho1 hb1 set_list ha1) (pgs_cons (pg_sub ho2 hb2 set_list ha2) pgs_nil hp2) hp1) hn hst) hs hw ht) fun De σ H ⟨Bf, Hf, B0, H0, env, Q, ⟨B, ps, s⟩, h, eo⟩ => ?_
  have h' : gEv (f1 env) env Q fun x => gEv (f2 env) env Q fun y => swpK i gs g1 g2 env Q x y := h
  refine runE2 (Q := Q) s h' (fun c q => eo.rz c env q) fun ya wa B1 H1 q1 ka s1 st1 ra nda fra => ?_
  refine runE2 (Q := Q) s1 ka (fun c q => eo.rz c env q) fun yb wb B2 H2 q2 kb s2 st2 rb ndb frb => ?_
  cases ya with
  | int na =>
    cases yb with
    | int nb =>
      have ea : wa = .int na := rp_int ra
      have eb : wb = .int nb := rp_int rb
      subst ea eb
      refine ⟨by show ([V.int na, V.int nb] : List V).length ≤ sizeLine; rw [sizeLine_eq]; simp, fun p hp => ?_⟩
      have hsm : Same H2 (upd H2 p (.tup [V.int na, V.int nb])) := same_upd hp
      have s3 := s2.same hsm
      have kb' : gSetI i gs g1 (xC (.int na)) env fun o => match o with
        | .nx e => gSetI i gs g2 (xC (.int nb)) e Q
        | o => Q o := kb
      refine ⟨p, [.int na, .int nb], rfl, .of upd_same, rfl, .int na, [.int nb], rfl, ?_⟩
      refine subI (De := { De with nx := fun σ' H' => gCons (gSub (tPl X.K W i gs) (tF X.K W g2) rSetL) gNil [.int nb] σ' H' De.nx }) ⟨_, _, s3⟩ kb' (eo.withNx (fun o ho q => ?_) fun e q σ' H' s' => ?_)
      · cases o with
        | nx x => exact absurd rfl (ho x)
        | _ => exact q
      · refine ⟨.int nb, [], rfl, ?_⟩
        refine subI (De := { De with nx := fun σ' H' => gNil [] σ' H' De.nx }) s' q (eo.withNx (fun o ho q => q) fun e q σ' H' s' => ⟨rfl, eo.nx e q σ' H' s'⟩)
    | _ => exact kb.elim
  | _ => cases yb <;> exact kb.elim
end
end BC

namespace BC
open PySem PySem.Spec PyProof.Rows L2

/-! ## for x in [a, b, ..]: each item one's own -/
inductive It1 where
  | mv (j : Nat)
  | ex (f : Env → R D)
def itsK : List It1 → Env → (Ou → Prop) → (List D → Env → Prop) → Prop
  | [], env, _, k => k [] env
  | .mv j :: r, env, Q, k => match env[j]? with
    | some (some d) => itsK r (env.set j none) Q fun ds e => k (d :: ds) e
    | _ => False
  | .ex f :: r, env, Q, k => gEv (f env) env Q fun d => d.sto = true ∧ itsK r env Q fun ds e => k (d :: ds) e
def gForMv (v : Nat) (its : List It1) (body : G) : G := fun env Q => itsK its env Q fun ds e => ds.length ≤ 16777216 ∧ gForL (tgN v) body ds e Q
@[simp] theorem gForMv_eq (v : Nat) (its : List It1) (body : G) (env : Env) (Q : Ou → Prop) : gForMv v its body env Q = itsK its env Q fun ds e => ds.length ≤ 16777216 ∧ gForL (tgN v) body ds e Q := rfl
@[simp] theorem itsK_nil (env : Env) (Q : Ou → Prop) (k : List D → Env → Prop) : itsK [] env Q k = k [] env := rfl
def mvK (r : List It1) (j : Nat) (env : Env) (Q : Ou → Prop) (k : List D → Env → Prop) : Option (Option D) → Prop
  | some (some d) => itsK r (env.set j none) Q fun ds e => k (d :: ds) e
  | _ => False
@[simp] theorem mvK_some (r : List It1) (j : Nat) (env : Env) (Q : Ou → Prop) (k : List D → Env → Prop) (d : D) : mvK r j env Q k (some (some d)) = itsK r (env.set j none) Q fun ds e => k (d :: ds) e := rfl
@[simp] theorem itsK_mv (j : Nat) (r : List It1) (env : Env) (Q : Ou → Prop) (k : List D → Env → Prop) : itsK (.mv j :: r) env Q k = mvK r j env Q k env[j]? := by
  unfold mvK
  rw [itsK]
@[simp] theorem itsK_ex (f : Env → R D) (r : List It1) (env : Env) (Q : Ou → Prop) (k : List D → Env → Prop) : itsK (.ex f :: r) env Q k = gEv (f env) env Q fun d => d.sto = true ∧ itsK r env Q fun ds e => k (d :: ds) e := rfl
def teIt (K : PySem.W.Frag) (W : WC) : It1 → TE
  | .mv j => tVar j
  | .ex f => tF K W f
def taIts (K : PySem.W.Frag) (W : WC) : List It1 → TA
  | [] => tNil
  | i :: r => tCons (teIt K W i) (taIts K W r)
section
variable {K : PySem.W.Frag} {B H Hw : Hp}
mutual
theorem rp_loc (hk : Same (kp B H) Hw) : ∀ {d : D} {v : V} {ps : List Addr}, d.sto = true → (∀ q ∈ ps, Hw q = H q) → Rp K B H d v ps → Rp K B Hw d v ps
  | .non, _, _, _, _, r => r
  | .bl _, _, _, _, _, r => r
  | .int _, _, _, _, _, r => r
  | .str _, _, _, _, _, r => r
  | .loc _, _, _, _, _, r => r
  | .wit _ _, v, ps, hs, hq, r => by simp [D.sto] at hs
  | .obj k a C ns fs, v, ps, hs, hq, r => by
    unfold Rp at r ⊢
    obtain ⟨dx, vs, qs, e, n, l, o, q, r⟩ := r
    have o' : objD Hw C a dx := by
      cases C with
      | none => trivial
      | some C => exact hk _ _ (kp_h o rfl)
    cases k with
    | ow =>
      have q' : ps = a :: qs := q
      exact ⟨dx, vs, qs, e, (hq a (by rw [q']; simp)).trans n, l, o', q, rps_loc hk (by simpa [D.sto] using hs) (fun t ht => hq t (by rw [q']; simp [ht])) r⟩
    | bo => simp [D.sto] at hs
    | fz =>
      refine ⟨dx, vs, qs, e, n, l, o', q, rps_loc hk (by simpa [D.sto] using hs) (fun t ht => ?_) r⟩
      rw [q.2] at ht
      cases ht
    | sc => exact n.elim
  | .exc _ _, _, _, _, _, ⟨a, e1, e2, e3⟩ => ⟨a, e1, hk _ _ (kp_h e2 rfl), e3⟩
  | .dic k _, _, ps, hs, hq, ⟨a, e1, e2, e3⟩ => ⟨a, e1, by
      cases k with
      | ow =>
        have : a ∈ ps := by rw [e3]; simp [dicP]
        exact (hq a this).trans e2
      | bo => simp [D.sto] at hs
      | fz => exact e2
      | sc => exact e2, e3⟩
  | .lst k xs, v, ps, hs, hq, r => by
    unfold Rp at r ⊢
    obtain ⟨a, vs, qs, e, n, q, r⟩ := r
    cases k with
    | ow =>
      have q' : ps = a :: qs := q
      exact ⟨a, vs, qs, e, (hq a (by rw [q']; simp)).trans n, q, rps_loc hk (by simpa [D.sto] using hs) (fun t ht => hq t (by rw [q']; simp [ht])) r⟩
    | bo => simp [D.sto] at hs
    | fz =>
      refine ⟨a, vs, qs, e, n, q, rps_loc hk (by simpa [D.sto] using hs) (fun t ht => ?_) r⟩
      rw [q.2] at ht
      cases ht
    | sc =>
      refine ⟨a, vs, qs, e, n, q, rps_loc hk (by simpa [D.sto] using hs) (fun t ht => ?_) r⟩
      rw [q.2] at ht
      cases ht
  | .tup xs, v, ps, hs, hq, r => by
    unfold Rp at r ⊢
    obtain ⟨a, vs, e, n, r⟩ := r
    exact ⟨a, vs, e, hk _ _ (kp_h n rfl), rps_loc hk (by simpa [D.sto] using hs) hq r⟩
theorem rps_loc (hk : Same (kp B H) Hw) : ∀ {ds : List D} {vs : List V} {ps : List Addr}, D.stos ds = true → (∀ q ∈ ps, Hw q = H q) → Rps K B H ds vs ps → Rps K B Hw ds vs ps
  | [], _, _, _, _, r => r
  | d :: ds, vs, ps, hs, hq, r => by
    unfold Rps at r ⊢
    obtain ⟨v, vr, p, q, e1, e2, r1, r2⟩ := r
    simp only [D.stos, Bool.and_eq_true] at hs
    exact ⟨v, vr, p, q, e1, e2, rp_loc hk hs.1 (fun t ht => hq t (by rw [e2]; simp [ht])) r1, rps_loc hk hs.2 (fun t ht => hq t (by rw [e2]; simp [ht])) r2⟩
end
end
section
variable {K : PySem.W.Frag} {W : WC} {Bf Hf B0 H0 B H : Hp} {σ : L2.St} {env : Env} {ps : Nat → List Addr}
/-- what waits: owned, held by no name -/
structure Wt (K : PySem.W.Frag) (Hf H0 B H : Hp) (ps : Nat → List Addr) (ds : List D) (vs : List V) (qs : List Addr) : Prop where
  st : D.stos ds = true
  rp : Rps K B H ds vs qs
  nd : qs.Nodup
  fr : ∀ q ∈ qs, H0 q = none ∧ Hf q = none ∧ B q = none ∧ (∃ o, H q = some o ∧ Mu o = true) ∧ ∀ i, q ∉ ps i
theorem stos_app2 : ∀ {a b : List D}, D.stos a = true → D.stos b = true → D.stos (a ++ b) = true
  | [], _, _, h => h
  | d :: a, b, h1, h2 => by
    simp only [D.stos, Bool.and_eq_true, List.cons_append] at h1 ⊢
    exact ⟨h1.1, stos_app2 h1.2 h2⟩
theorem Wt.nil : Wt K Hf H0 B H ps [] [] [] := ⟨rfl, ⟨rfl, rfl⟩, .nil, by intro q hq; cases hq⟩
theorem runIts {Q : Ou → Prop} (er : ∀ c e, Q (.rz c e) → ∀ σ H, SR K Bf Hf B0 H0 σ H e → W c σ H) : ∀ {its : List It1} {env : Env} {H B : Hp} {ps : Nat → List Addr} {ds0 : List D} {vs0 : List V} {qs0 : List Addr} {k : List D → Env → Prop} {R' : List V → Hp → Prop}, itsK its env Q k → SRb K Bf Hf B0 H0 σ H env B ps → Wt K Hf H0 B H ps ds0 vs0 qs0 →
    (∀ ds vs qs env' H' B' ps', k ds env' → SRb K Bf Hf B0 H0 σ H' env' B' ps' → Wt K Hf H0 B' H' ps' (ds0 ++ ds) (vs0 ++ vs) qs → R' vs H') → taIts K W its σ H R'
  | [], env, H, B, ps, ds0, vs0, qs0, k, R', hk, s, w, kk => kk [] [] qs0 env H B ps hk s (by rw [List.append_nil, List.append_nil]; exact w)
  | .mv j :: r, env, H, B, ps, ds0, vs0, qs0, k, R', hk, s, w, kk => by
    rw [itsK_mv] at hk
    unfold mvK at hk
    split at hk
    · rename_i d ed
      obtain ⟨x, hx, hd, rx, ndx, s2, f2⟩ := s.take ed
      refine ⟨x, hx, ?_⟩
      have hown : ∀ q ∈ ps j, ∃ o, H q = some o ∧ Mu o = true := fun q hq => (s.ow j q hq).2.2.2
      have w2 : Wt K Hf H0 B H (fun i => if i = j then [] else ps i) (ds0 ++ [d]) (vs0 ++ [x]) (qs0 ++ ps j) := by
        refine ⟨stos_app2 w.st (by simp [D.stos, hd]), rps_app w.rp (by unfold Rps; exact ⟨x, [], ps j, [], rfl, by simp, rx, ⟨rfl, rfl⟩⟩), ?_, fun q hq => ?_⟩
        · exact List.nodup_append.mpr ⟨w.nd, ndx, fun a ha b hb z => (w.fr a ha).2.2.2.2 j (z ▸ hb)⟩
        · rcases List.mem_append.mp hq with z | z
          · obtain ⟨a1, a2, a3, a4, a5⟩ := w.fr q z
            refine ⟨a1, a2, a3, a4, fun i => ?_⟩
            split
            · exact fun z => by cases z
            · exact a5 i
          · obtain ⟨a1, a2, a3, a4⟩ := f2 q z
            exact ⟨a1, a2, a3, hown q z, a4⟩
      refine runIts er (its := r) hk s2 w2 fun ds vs qs env' H' B' ps' h1 h2 h3 => ?_
      refine kk (d :: ds) (x :: vs) qs env' H' B' ps' h1 h2 ?_
      rw [List.append_assoc, List.append_assoc] at h3
      exact h3
    · exact hk.elim
  | .ex f :: r, env, H, B, ps, ds0, vs0, qs0, k, R', hk, s, w, kk => by
    rw [itsK_ex] at hk
    refine runE2 (Q := Q) s hk (fun c q => er c env q) fun d x B' H' q' kd s1 st1 rx ndx frx => ?_
    obtain ⟨hd, hk⟩ := kd
    have f1 := s.fresh st1 frx
    have w2 : Wt K Hf H0 B' H' ps (ds0 ++ [d]) (vs0 ++ [x]) (qs0 ++ q') := by
      refine ⟨stos_app2 w.st (by simp [D.stos, hd]), rps_app (rps_mono st1.b st1.h w.rp) (by unfold Rps; exact ⟨x, [], q', [], rfl, by simp, rx, ⟨rfl, rfl⟩⟩), ?_, fun q hq => ?_⟩
      · refine List.nodup_append.mpr ⟨w.nd, ndx, fun a ha b hb z => ?_⟩
        obtain ⟨o, ho, _⟩ := (w.fr a ha).2.2.2.1
        have := (frx b hb).1
        rw [← z, ho] at this
        cases this
      · rcases List.mem_append.mp hq with z | z
        · obtain ⟨a1, a2, a3, ⟨o, a4, a6⟩, a5⟩ := w.fr q z
          exact ⟨a1, a2, st1.n q o a3 a4, ⟨o, st1.h _ _ a4, a6⟩, a5⟩
        · obtain ⟨a1, a2, a3, a4⟩ := f1 q z
          exact ⟨a1, a2, a3, rp_own rx q z, a4⟩
    refine runIts er (its := r) hk s1 w2 fun ds vs qs env' H' B' ps' h1 h2 h3 => ?_
    refine kk (d :: ds) (x :: vs) qs env' H' B' ps' h1 h2 ?_
    rw [List.append_assoc, List.append_assoc] at h3
    exact h3
theorem SRb.base {C : Hp} (s : SRb K Bf Hf B0 H0 σ H env B ps) (hC : Same C H) (hB : ∀ q o, C q = some o → B q = none) (hp : ∀ i q, q ∈ ps i → C q = none) : SRb K Bf Hf B0 (uni H0 C) σ H env B ps where
  fb := s.fb
  fh := s.fh
  st := ⟨s.st.b, uni_in s.st.h hC, s.st.i, fun p o h1 h2 => by
    unfold uni at h2
    cases q : H0 p with
    | some u => exact s.st.n p u h1 q
    | none => rw [q] at h2; exact hB p o h2⟩
  len := s.len
  sl := s.sl
  nd := s.nd
  dj := s.dj
  ow := fun i p hpi => ⟨uni_none (s.ow i p hpi).1 (hp i p hpi), (s.ow i p hpi).2⟩
theorem Step.unbase {C : Hp} (h : Step B0 (uni H0 C) B H) : Step B0 H0 B H := ⟨h.b, uni_l.trans h.h, h.i, fun p o h1 h2 => h.n p o h1 (uni_l _ _ h2)⟩
theorem SRb.unbase {Bg Hg C : Hp} (s : SRb K Bg Hg B0 (uni H0 C) σ H env B ps) (b : Same Bf B) (h : Same Hf Hg) : SRb K Bf Hf B0 H0 σ H env B ps where
  fb := b
  fh := h.trans s.fh
  st := s.st.unbase
  len := s.len
  sl := s.sl
  nd := s.nd
  dj := s.dj
  ow := fun i p hpi => by
    have h1 := (s.ow i p hpi).2.1
    refine ⟨(none_uni (s.ow i p hpi).1).1, ?_, (s.ow i p hpi).2.2⟩
    cases e : Hf p with
    | none => rfl
    | some o => rw [h p o e] at h1; cases h1
end
section
variable {X : Cx} {W : WC} {es : List Expr} {its : List It1} {body : List Stmt} {g : G} {pos lpos : Pos}
theorem ss_forMv (v : Nat) {tgx : Expr} (hp : PassesOwn (model X.prog X.w) X.A X.env X.xe) (hc : X.calm = true) (ha : PA X es (taIts X.K W its)) (hg : PG X tgx (gName v)) (hb : PSs X body (tG X.K W g))
    (hf : ∀ x, foldedSetIterable (.List es lpos) X.env x = pure x := by intro _; rfl) : PS X (.For tgx (.List es lpos) body [] pos) (tG X.K W (gForMv v its g)) := by
  refine psI (ps_for hp hc (pi_list (pe_lst ha)) hg hb hf) fun De σ H ⟨Bf, Hf, B0, H0, env, Q, ⟨B, ps, s⟩, h, eo⟩ => ?_
  refine runIts (Q := Q) (fun c e q => eo.rz c e q) (k := fun ds e => ds.length ≤ 16777216 ∧ gForL (tgN v) g ds e Q) h s .nil fun ds vs qs env' H1 B1 ps1 hgo s1 w1 => ?_
  obtain ⟨hsz, hgo⟩ := hgo
  rw [List.nil_append, List.nil_append] at w1
  have hlen := rps_len w1.rp
  refine ⟨?_, fun p hp1 => ?_⟩
  · rw [hlen, sizeLine_eq]; exact hsz
  have hsm : Same H1 (upd H1 p (.lst vs)) := same_upd hp1
  refine ⟨p, rfl, ⟨vs, .of upd_same⟩, ?_⟩
  have hH0p : H0 p = none := by
    cases e : H0 p with
    | none => rfl
    | some o => rw [s1.st.h _ _ e] at hp1; cases hp1
  have hHfp : Hf p = none := by
    cases e : Hf p with
    | none => rfl
    | some o => rw [s1.fh _ _ e] at hp1; cases hp1
  refine ⟨fun k m σ' H' => m = ds.length - k ∧ k ≤ ds.length ∧ ∃ B' env' ps' qs', SRb X.K Bf Hf B0 H0 σ' H' env' B' ps' ∧ Wt X.K Hf H0 B' H' ps' (ds.drop k) (vs.drop k) qs' ∧ p ∉ qs' ∧ (∀ i, p ∉ ps' i) ∧ B' p = none ∧ H' p = some (.lst vs) ∧ gForL (tgN v) g (ds.drop k) env' Q, ⟨ds.length, rfl, Nat.zero_le _, B1, env', ps1, qs, s1.same hsm, ⟨w1.st, rps_mono (.refl _) hsm w1.rp, w1.nd, fun q hq => ?_⟩, fun hq => ?_, fun i hi => ?_, ?_, upd_same, hgo⟩, ?_⟩
  · obtain ⟨a1, a2, a3, ⟨o, a4, a6⟩, a5⟩ := w1.fr q hq
    exact ⟨a1, a2, a3, ⟨o, hsm _ _ a4, a6⟩, a5⟩
  · obtain ⟨_, _, _, ⟨o, a4, _⟩, _⟩ := w1.fr p hq
    rw [hp1] at a4
    cases a4
  · obtain ⟨_, _, _, o, a4, _⟩ := s1.ow i p hi
    rw [hp1] at a4
    cases a4
  · cases e : B1 p with
    | none => rfl
    | some o => rw [s1.st.i _ _ e] at hp1; cases hp1
  rintro k m σ' H' ⟨rfl, hk, B', env2, ps', qs', s2, w2, hpq, hpp, hBp, hHp, hgl⟩
  by_cases hkl : k < ds.length
  · right
    have hkv : k < vs.length := by rw [hlen]; exact hkl
    have ed : ds.drop k = ds[k] :: ds.drop (k + 1) := List.drop_eq_getElem_cons hkl
    have ev : vs.drop k = vs[k] :: vs.drop (k + 1) := List.drop_eq_getElem_cons hkv
    have hwk : vs[k]? = some vs[k] := List.getElem?_eq_getElem hkv
    rw [ed] at hgl w2
    rw [ev] at w2
    generalize ds[k] = d at hgl w2
    generalize vs[k] = x at w2 hwk
    obtain ⟨hst, hrp, hnd, hfr⟩ := w2
    unfold Rps at hrp
    obtain ⟨x', vr, q1, q2, e1, e2, r1, r2⟩ := hrp
    injection e1 with e1 e3
    subst e1 e3 e2
    simp only [D.stos, Bool.and_eq_true] at hst
    obtain ⟨n1, n2, n3⟩ := List.nodup_append.mp hnd
    obtain ⟨hd, ee, et, hbody⟩ := hgl
    refine ⟨⟨vs, x, .of hHp, hwk⟩, fun σ3 H3 => ∃ m', m' < ds.length - k ∧ m' = ds.length - (k + 1) ∧ k + 1 ≤ ds.length ∧ ∃ B' env' ps' qs', SRb X.K Bf Hf B0 H0 σ3 H3 env' B' ps' ∧ Wt X.K Hf H0 B' H3 ps' (ds.drop (k + 1)) (vs.drop (k + 1)) qs' ∧ p ∉ qs' ∧ (∀ i, p ∉ ps' i) ∧ B' p = none ∧ H3 p = some (.lst vs) ∧ gForL (tgN v) g (ds.drop (k + 1)) env' Q, fun σ3 H3 z => z, fun x1 H3 hy => ?_⟩
    obtain ⟨eH, hx1⟩ := hy
    subst eH
    have hxw : x1 = x := by
      have := hx1 vs (.of hHp)
      rw [hwk] at this
      injection this with this
      exact this.symm
    subst hxw
    -- the name takes the item
    have ee2 : ee = env2.set v (some d) := by
      have := et
      unfold tgN at this
      injection this with this
      exact this.symm
    subst ee2
    have s3 := s2.set (j := v) hd r1 n1 fun q hq => by
      obtain ⟨a1, a2, a3, a4, a5⟩ := hfr q (by simp [hq])
      exact ⟨a1, a2, a3, fun i _ => a5 i⟩
    -- the cells that must stay
    let C : Hp := fun t => if t ∈ q2 ∨ t = p then H3 t else none
    have hC : Same C H3 := fun t o e => by
      have e' : (if t ∈ q2 ∨ t = p then H3 t else none) = some o := e
      split at e'
      · exact e'
      · cases e'
    have hCq : ∀ t, t ∈ q2 ∨ t = p → C t = H3 t := fun t ht => if_pos ht
    have hCn : ∀ t, ¬ (t ∈ q2 ∨ t = p) → C t = none := fun t ht => if_neg ht
    have hps3 : ∀ i q, q ∈ (fun k => if k = v then q1 else ps' k) i → ¬ (q ∈ q2 ∨ q = p) := fun i q hq z => by
      by_cases hi : i = v
      · simp only [if_pos hi] at hq
        rcases z with z | z
        · exact n3 q hq q z rfl
        · exact hpq (by rw [← z]; simp [hq])
      · simp only [if_neg hi] at hq
        rcases z with z | z
        · exact (hfr q (by simp [z])).2.2.2.2 i hq
        · exact hpp i (z ▸ hq)
    have s4 := s3.base hC (fun q o e => by
      by_cases z : q ∈ q2 ∨ q = p
      · rcases z with z | z
        · exact (hfr q (by simp [z])).2.2.1
        · rw [z]; exact hBp
      · rw [hCn q z] at e; cases e) fun i q hq => hCn q (hps3 i q hq)
    -- the floor
    have hkp : Same (kp B' H3) H3 := kp_same s3.st.i
    have s5 := s4.floor (Bg := B') (Hg := uni Hf (kp B' H3)) (.refl _) (uni_in s4.fh hkp) fun j q hq => by
      obtain ⟨_, _, h3, o, h4, hm⟩ := s3.ow j q hq
      exact uni_none (s3.ow j q hq).2.1 (kp_none h4 hm h3)
    -- back behind the body
    have back : ∀ {σ5 H5 e5}, SR X.K B' (uni Hf (kp B' H3)) B0 (uni H0 C) σ5 H5 e5 → ∃ B5 ps5, SRb X.K Bf Hf B0 H0 σ5 H5 e5 B5 ps5 ∧ Wt X.K Hf H0 B5 H5 ps5 (ds.drop (k + 1)) (vs.drop (k + 1)) q2 ∧ (∀ i, p ∉ ps5 i) ∧ B5 p = none ∧ H5 p = some (.lst vs) := fun {σ5 H5 e5} ⟨B5, ps5, s6⟩ => by
      have hCH : Same C H5 := (uni_r s3.st.h hC).trans s6.st.h
      have hkH : Same (kp B' H3) H5 := (uni_r s3.fh hkp).trans s6.fh
      have hin : ∀ t, t ∈ q2 ∨ t = p → H3 t ≠ none → H0 t = none → ∃ o, uni H0 C t = some o ∧ H5 t = some o ∧ H3 t = some o := fun t ht hne h0 => by
        cases e : H3 t with
        | none => exact absurd e hne
        | some o =>
          have e2 : C t = some o := (hCq t ht).trans e
          exact ⟨o, by unfold uni; rw [h0]; exact e2, hCH _ _ e2, rfl⟩
      have hB0 : ∀ t, B' t = none → B0 t = none := fun t ht => by
        cases e : B0 t with
        | none => rfl
        | some o => rw [s3.st.b _ _ e] at ht; cases ht
      have hnp : ∀ i t o, uni H0 C t = some o → t ∉ ps5 i := fun i t o e hi => by
        rw [(s6.ow i t hi).1] at e
        cases e
      obtain ⟨op, p1, p2, p3⟩ := hin p (.inr rfl) (by rw [hHp]; simp) hH0p
      refine ⟨B5, ps5, s6.unbase (s3.fb.trans s6.fb) uni_l, ⟨hst.2, ?_, n2, fun q hq => ?_⟩, fun i => hnp i p op p1, s6.st.n p op (hB0 p hBp) p1, by rw [p2, ← p3]; exact hHp⟩
      · refine rps_mono s6.fb (uni_in hkH hCH) (rps_loc (H := H3) uni_l hst.2 (fun q hq => ?_) r2)
        obtain ⟨_, _, a3, ⟨o, a4, a6⟩, _⟩ := hfr q (by simp [hq])
        unfold uni
        rw [kp_none a4 a6 a3]
        exact hCq q (.inl hq)
      · obtain ⟨a1, a2, a3, ⟨o, a4, a6⟩, _⟩ := hfr q (by simp [hq])
        obtain ⟨o', b1, b2, b3⟩ := hin q (.inl hq) (by rw [a4]; simp) a1
        rw [a4] at b3
        cases b3
        exact ⟨a1, a2, s6.st.n q o (hB0 q a3) b1, ⟨o, b2, a6⟩, fun i => hnp i q o b1⟩
    have again : ∀ {σ5 H5 e5}, gForL (tgN v) g (ds.drop (k + 1)) e5 Q → SR X.K B' (uni Hf (kp B' H3)) B0 (uni H0 C) σ5 H5 e5 → ∃ m', m' < ds.length - k ∧ m' = ds.length - (k + 1) ∧ k + 1 ≤ ds.length ∧ ∃ B' env' ps' qs', SRb X.K Bf Hf B0 H0 σ5 H5 env' B' ps' ∧ Wt X.K Hf H0 B' H5 ps' (ds.drop (k + 1)) (vs.drop (k + 1)) qs' ∧ p ∉ qs' ∧ (∀ i, p ∉ ps' i) ∧ B' p = none ∧ H5 p = some (.lst vs) ∧ gForL (tgN v) g (ds.drop (k + 1)) env' Q := fun {σ5 H5 e5} hq s6 => by
      obtain ⟨B5, ps5, a1, a2, a3, a4, a5⟩ := back s6
      exact ⟨_, by omega, rfl, hkl, B5, e5, ps5, q2, a1, a2, fun z => hpq (by simp [z]), a3, a4, a5, hq⟩
    refine ⟨B', uni Hf (kp B' H3), B0, uni H0 C, _, _, ⟨_, _, s5⟩, hbody, ⟨fun e q σ5 H5 s6 => again q s6, fun e q σ5 H5 s6 => ?_, fun e q σ5 H5 s6 => again q s6, fun d q v H5 r => ?_, fun c e q σ5 H5 s6 => ?_⟩⟩
    · obtain ⟨B5, ps5, a1, _⟩ := back s6
      exact eo.nx e q σ5 H5 ⟨B5, ps5, a1⟩
    · obtain ⟨B5, qs5, b1, b2, b3, b4⟩ := r
      exact eo.rt d q v H5 ⟨B5, qs5, b1.unbase, b2, b3, fun t ht => ⟨(none_uni (b4 t ht).1).1, (b4 t ht).2⟩⟩
    · obtain ⟨B5, ps5, a1, _⟩ := back s6
      exact eo.rz c e q σ5 H5 ⟨B5, ps5, a1⟩
  · left
    have hke : k = ds.length := by omega
    refine ⟨⟨vs, .of hHp, by rw [hlen]; omega⟩, ?_⟩
    rw [hke, List.drop_length] at hgl
    exact eo.nx env2 hgl σ' H' ⟨B', ps', s2⟩
end
end BC

namespace BC
open PySem PySem.Spec PyProof.Rows L2

/-! ## the lists within a list are frozen -/
def D.frzI : D → D
  | .lst .ow xs => .lst .ow (D.frzs xs)
  | d => d
@[simp] theorem frzI_ow (xs : List D) : D.frzI (.lst .ow xs) = .lst .ow (D.frzs xs) := rfl
def gFrzI (i : Nat) (g : G) : G := fun env Q => g (env.modify i (Option.map D.frzI)) Q
@[simp] theorem gFrzI_eq (i : Nat) (g : G) (env : Env) (Q : Ou → Prop) : gFrzI i g env Q = g (env.modify i (Option.map D.frzI)) Q := rfl
section
variable {K : PySem.W.Frag} {Bf Hf B0 H0 B H : Hp} {σ : L2.St} {env : Env} {ps : Nat → List Addr}
theorem modify_same {α : Type} : ∀ {l : List α} {j : Nat} {f : α → α}, (∀ a, l[j]? = some a → f a = a) → l.modify j f = l
  | [], j, f, _ => by simp
  | a :: l, 0, f, h => by
    rw [List.modify_zero_cons, h a rfl]
  | a :: l, j + 1, f, h => by
    rw [List.modify_succ_cons, modify_same fun b hb => h b (by simpa using hb)]
theorem SRb.frzI (s : SRb K Bf Hf B0 H0 σ H env B ps) (j : Nat) : ∃ B2 ps2, SRb K Bf Hf B0 H0 σ H (env.modify j (Option.map D.frzI)) B2 ps2 := by
  by_cases hx : ∃ xs, env[j]? = some (some (.lst .ow xs))
  · obtain ⟨xs, hxs⟩ := hx
    obtain ⟨hst, v0, hv0, hr0⟩ := s.sl j _ hxs
    unfold Rp at hr0
    obtain ⟨a, vs, qs, ev, hn, hp, hrs⟩ := hr0
    have hn : H a = some (.lst vs) := hn
    have hp : ps j = a :: qs := hp
    have hnd := s.nd j
    rw [hp] at hnd
    obtain ⟨ha, hqs⟩ := List.nodup_cons.mp hnd
    have qin : ∀ q ∈ qs, q ∈ ps j := fun q hq => by rw [hp]; exact List.mem_cons_of_mem _ hq
    have ain : a ∈ ps j := by rw [hp]; exact List.mem_cons_self ..
    have k1 : Same B (ovr B H qs) := same_ovr s.st.i
    have hxs2 : D.stos xs = true := by simpa [D.sto] using hst
    refine ⟨ovr B H qs, fun i => if i = j then [a] else ps i, s.fb.trans k1, s.fh, ⟨s.st.b.trans k1, s.st.h, ovr_same s.st.i, fun p vs hb hh => ovr_none (fun z => by rw [(s.ow j p (qin p z)).1] at hh; cases hh) (s.st.n p vs hb hh)⟩, by simp [s.len], fun i d e => ?_, fun i => ?_, fun i k p h1 h2 => ?_, fun i p hpi => ?_⟩
    · by_cases h : j = i
      · subst h
        rw [List.getElem?_modify_eq, hxs] at e
        cases e
        refine ⟨?_, v0, hv0, ?_⟩
        · show D.sto (.lst .ow (D.frzs xs)) = true
          simpa [D.sto] using stos_frzs xs
        · rw [if_pos rfl]
          show Rp K _ H (.lst .ow (D.frzs xs)) v0 [a]
          unfold Rp
          exact ⟨a, vs, [], ev, hn, rfl, rps_frz k1 hxs2 (fun p hp' o ho => ovr_mem hp' ho) hrs⟩
      · rw [List.getElem?_modify_ne (h := h)] at e
        obtain ⟨h0, v, h1, h2⟩ := s.sl i d e
        refine ⟨h0, v, h1, ?_⟩
        rw [if_neg (Ne.symm h)]
        exact rp_mono k1 (.refl _) h2
    · split
      · simp
      · exact s.nd i
    · by_cases hi : i = j
      · by_cases hk : k = j
        · rw [hi, hk]
        · rw [if_pos hi] at h1
          rw [if_neg hk] at h2
          have := List.mem_singleton.mp h1
          subst this
          exact absurd (s.dj j k p ain h2).symm hk
      · by_cases hk : k = j
        · rw [if_neg hi] at h1
          rw [if_pos hk] at h2
          have := List.mem_singleton.mp h2
          subst this
          exact absurd (s.dj i j p h1 ain) hi
        · rw [if_neg hi] at h1
          rw [if_neg hk] at h2
          exact s.dj i k p h1 h2
    · by_cases hi : i = j
      · rw [if_pos hi] at hpi
        have := List.mem_singleton.mp hpi
        subst this
        obtain ⟨h1, h2, h3, h4⟩ := s.ow j p ain
        exact ⟨h1, h2, ovr_none ha h3, h4⟩
      · rw [if_neg hi] at hpi
        obtain ⟨h1, h2, h3, h4⟩ := s.ow i p hpi
        exact ⟨h1, h2, ovr_none (fun z => hi (s.dj i j p hpi (qin p z))) h3, h4⟩
  · have : env.modify j (Option.map D.frzI) = env := modify_same fun o ho => by
      cases o with
      | none => rfl
      | some d =>
        show some (D.frzI d) = some d
        congr 1
        cases d with
        | lst k xs =>
          cases k with
          | ow => exact absurd ⟨xs, ho⟩ hx
          | _ => rfl
        | _ => rfl
    rw [this]
    exact ⟨B, ps, s⟩
end
section
variable {X : Cx} {W : WC} {rest : List Stmt} {g : G}
theorem sss_frzI (i : Nat) (h1 : PSs X rest (tG X.K W g)) : PSs X rest (tG X.K W (gFrzI i g)) := pssI h1 fun D σ H ⟨Bf, Hf, B0, H0, env, Q, ⟨B, ps, s⟩, hh, eo⟩ => by
  obtain ⟨B2, ps2, s2⟩ := s.frzI i
  exact ⟨Bf, Hf, B0, H0, _, Q, ⟨B2, ps2, s2⟩, hh, eo⟩
end
/-! ## name[a], name[b] = x, y of whole numbers or frozen lists of them -/
def D.pin : D → Bool
  | .int _ => true
  | .lst .fz xs => xs.all fun d => match d with | .int _ => true | _ => false
  | _ => false
theorem pins_sto : ∀ {xs : List D}, (xs.all fun d => match d with | .int _ => true | _ => false) = true → D.stos xs = true
  | [], _ => rfl
  | d :: ds, h => by
    rw [List.all_cons, Bool.and_eq_true] at h
    simp only [D.stos, Bool.and_eq_true]
    refine ⟨?_, pins_sto h.2⟩
    cases d <;> first | rfl | (exact absurd h.1 (by simp))
theorem pin_sto : ∀ {d : D}, d.pin = true → d.sto = true
  | .int _, _ => rfl
  | .lst .fz xs, h => by
    simp only [D.sto]
    exact pins_sto h
theorem rps_flatB {K : PySem.W.Frag} {B H B' H' : Hp} : ∀ {xs : List D} {vs : List V} {ps : List Addr}, (xs.all fun d => match d with | .int _ => true | _ => false) = true → Rps K B H xs vs ps → Rps K B' H' xs vs []
  | [], _, _, _, r => ⟨r.1, rfl⟩
  | d :: ds, vs, ps, h, r => by
    unfold Rps at r ⊢
    obtain ⟨v, vr, p, q, e1, e2, r1, r2⟩ := r
    rw [List.all_cons, Bool.and_eq_true] at h
    refine ⟨v, vr, [], [], e1, rfl, ?_, rps_flatB h.2 r2⟩
    cases d <;> first | exact ⟨r1.1, rfl⟩ | (exact absurd h.1 (by simp))
theorem pin_mono {K : PySem.W.Frag} {B H B' H' : Hp} (b : Same B B') : ∀ {d : D} {v : V} {p : List Addr}, d.pin = true → Rp K B H d v p → Rp K B' H' d v []
  | .int _, v, p, _, r => ⟨r.1, rfl⟩
  | .lst .fz xs, v, p, h, r => by
    unfold Rp at r ⊢
    obtain ⟨a, vs, qs, e, n, q, r⟩ := r
    exact ⟨a, vs, [], e, b _ _ n, ⟨rfl, rfl⟩, rps_flatB h r⟩
def swpL (i : Nat) (gs : List (Env → R D)) (g1 g2 : Env → R D) (env : Env) (Q : Ou → Prop) (a b : D) : Prop := a.pin = true ∧ b.pin = true ∧ gSeq (gSetI i gs g1 (xC a)) (gSetI i gs g2 (xC b)) env Q
def gSwpL (i : Nat) (gs : List (Env → R D)) (g1 g2 f1 f2 : Env → R D) : G := fun env Q => gEv (f1 env) env Q fun x => gEv (f2 env) env Q fun y => swpL i gs g1 g2 env Q x y
@[simp] theorem gSwpL_eq (i : Nat) (gs : List (Env → R D)) (g1 g2 f1 f2 : Env → R D) (env : Env) (Q : Ou → Prop) : gSwpL i gs g1 g2 f1 f2 env Q = gEv (f1 env) env Q fun x => gEv (f2 env) env Q fun y => swpL i gs g1 g2 env Q x y := rfl
@[simp] theorem swpL_eq (i : Nat) (gs : List (Env → R D)) (g1 g2 : Env → R D) (env : Env) (Q : Ou → Prop) (a b : D) : swpL i gs g1 g2 env Q a b = (a.pin = true ∧ b.pin = true ∧ gSeq (gSetI i gs g1 (xC a)) (gSetI i gs g2 (xC b)) env Q) := rfl
@[simp] theorem pin_int (i : Int) : D.pin (.int i) = true := rfl
@[simp] theorem pin_fz (xs : List Int) : D.pin (iL .fz xs) = true := by
  show (xs.map D.int).all _ = true
  rw [List.all_map]
  exact List.all_eq_true.mpr fun _ _ => rfl
section
variable {X : Cx} {W : WC} {e1 e2 o b1 b2 : Expr} {f1 f2 g g1 g2 : Env → R D} {gs : List (Env → R D)} {i : Nat} {pos : Pos}
theorem subL {Bf Hf B0 H0 B H : Hp} {σ : L2.St} {env : Env} {De : Ends} {Q : Ou → Prop} {b : D} {vb : V} {ps : Nat → List Addr} (s : SRb X.K Bf Hf B0 H0 σ H env B ps) (hb : b.pin = true) (rb : Rp X.K B H b vb []) (h : gSetI i gs g (xC b) env Q) (eo : EOk X.K W Bf Hf B0 H0 De Q) : gSub (tPl X.K W i gs) (tF X.K W g) rSetL vb σ H De.nx := by
  obtain ⟨d, π, xs, e0, hx, hg, hk⟩ := gPl_of h
  have k1 : gEv (g env) env Q fun n => b.sto = true ∧ match n with
    | .int n => match L2.ixN xs.length n with
      | some j => Q (.nx (env.set i (some (setP d π (.lst .ow (xs.set j b))))))
      | none => False
    | _ => False := hk
  refine runP e0 hx hg s fun v0 v B2 H2 p2 hv0 hsel st2 s2 r2 => ?_
  refine runE2 (Q := Q) s2 k1 (fun c q => eo.rz c env q) fun n wn B3 H3 q3 k3 s3 st3 r3 nd3 fr3 => ?_
  obtain ⟨hy, k3⟩ := k3
  cases n with
  | int n =>
    have en := rp_int r3
    subst en
    cases ej : L2.ixN xs.length n with
    | none => simp only [ej] at k3
    | some j =>
      simp only [ej] at k3
      obtain ⟨p, vs, qs, ep, hp, rr, nd, sub, K⟩ := s3.at e0 hg hv0 (sel_mono st3.h hsel)
      subst ep
      obtain ⟨qs', g1, g2, g3⟩ := rps_set (d := b) (v := vb) (q := []) rr (ixN_lt ej) (pin_mono (st2.b.trans st3.b) hb rb) nd .nil (by intro t ht; cases ht)
      refine ⟨p, vs, n, j, rfl, rfl, hp, by rw [rps_len rr]; exact ej, ?_⟩
      refine eo.nx _ k3 σ _ (K (xs.set j b) (vs.set j vb) qs' ?_ g1 g2 fun q hqm => ?_)
      · refine stos_set ?_ (pin_sto hb)
        have := sto_getP (stos_of s3 e0) hg
        simpa [D.sto] using this
      · rcases g3 q hqm with z | z
        · exact .inl z
        · cases z
  | _ => exact k3.elim
theorem SRb.floorB {K : PySem.W.Frag} {Bf Hf B0 H0 B H : Hp} {σ : L2.St} {env : Env} {ps : Nat → List Addr} (s : SRb K Bf Hf B0 H0 σ H env B ps) : SRb K B Hf B0 H0 σ H env B ps := { s with fb := Same.refl _ }
theorem EOk.floorB {K : PySem.W.Frag} {Bf Bg Hf B0 H0 : Hp} {De : Ends} {Q : Ou → Prop} (eo : EOk K W Bf Hf B0 H0 De Q) (h : Same Bf Bg) : EOk K W Bg Hf B0 H0 De Q where
  nx e q σ H := fun ⟨B, ps, s⟩ => eo.nx e q σ H ⟨B, ps, { s with fb := h.trans s.fb }⟩
  bk e q σ H := fun ⟨B, ps, s⟩ => eo.bk e q σ H ⟨B, ps, { s with fb := h.trans s.fb }⟩
  ct e q σ H := fun ⟨B, ps, s⟩ => eo.ct e q σ H ⟨B, ps, { s with fb := h.trans s.fb }⟩
  rt d q v H := eo.rt d q v H
  rz c e q σ H := fun ⟨B, ps, s⟩ => eo.rz c e q σ H ⟨B, ps, { s with fb := h.trans s.fb }⟩
theorem ss_swpL {o1 o2 : Expr} {p1 p2 pt pv : Pos} {kt kv : Nat} (hc : X.calm = true) (h1 : PE X e1 (tF X.K W f1)) (h2 : PE X e2 (tF X.K W f2)) (ho1 : PE X o1 (tPl X.K W i gs)) (ho2 : PE X o2 (tPl X.K W i gs)) (hb1 : PE X b1 (tF X.K W g1)) (hb2 : PE X b2 (tF X.K W g2))
    (ha1 : ∀ v, assign (.Subscript o1 b1 p1) X.env v = (do
      let ov ← holding [v] (eval o1 X.env)
      let iv ← holding [v, ov] (eval b1 X.env)
      standAt p1
      holding [v, ov, iv] (setItem ov iv v)
      release [v, ov, iv] []) := by intro _; rfl)
    (ha2 : ∀ v, assign (.Subscript o2 b2 p2) X.env v = (do
      let ov ← holding [v] (eval o2 X.env)
      let iv ← holding [v, ov] (eval b2 X.env)
      standAt p2
      holding [v, ov, iv] (setItem ov iv v)
      release [v, ov, iv] []) := by intro _; rfl)
    (t1 : starEach [e1, e2] X.env = (false, eval e1 X.env) :: starEach [e2] X.env := by rfl) (t2 : starEach [e2] X.env = (false, eval e2 X.env) :: starEach [] X.env := by rfl)
    (hp1 : (assignEach [.Subscript o1 b1 p1, .Subscript o2 b2 p2] X.env).map (·.2) = assign (.Subscript o1 b1 p1) X.env :: (assignEach [.Subscript o2 b2 p2] X.env).map (·.2) := by rfl)
    (hp2 : (assignEach [.Subscript o2 b2 p2] X.env).map (·.2) = assign (.Subscript o2 b2 p2) X.env :: (assignEach [] X.env).map (·.2) := by rfl)
    (hs : swapsWithSole [.Tuple [.Subscript o1 b1 p1, .Subscript o2 b2 p2] kt pt] (.Tuple [e1, e2] kv pv) pos.line X.env = pure false := by rfl) (hw : swappedStores [.Tuple [.Subscript o1 b1 p1, .Subscript o2 b2 p2] kt pt] (.Tuple [e1, e2] kv pv) X.env = pure none := by rfl)
    (ht : (assignEach [.Tuple [.Subscript o1 b1 p1, .Subscript o2 b2 p2] kt pt] X.env).map (·.2) = [assign (.Tuple [.Subscript o1 b1 p1, .Subscript o2 b2 p2] kt pt) X.env] := by rfl)
    (hn : (assignEach [.Subscript o1 b1 p1, .Subscript o2 b2 p2] X.env).length = 2 := by rfl) (hst : (assignEach [.Subscript o1 b1 p1, .Subscript o2 b2 p2] X.env).findIdx? (·.1) = none := by rfl) :
    PS X (.Assign [.Tuple [.Subscript o1 b1 p1, .Subscript o2 b2 p2] kt pt] (.Tuple [e1, e2] kv pv) pos) (tG X.K W (gSwpL i gs g1 g2 f1 f2)) := by
  refine psI (ps_asg (pe_tup (pa_cons h1 (pa_cons h2 pa_nil t2) t1)) (pg_tup hc (pgs_cons (pg_sub ho1 hb1 set_list ha1) (pgs_cons (pg_sub ho2 hb2 set_list ha2) pgs_nil hp2) hp1) hn hst) hs hw ht) fun De σ H ⟨Bf, Hf, B0, H0, env, Q, ⟨B, ps, s⟩, h, eo⟩ => ?_
  have h' : gEv (f1 env) env Q fun x => gEv (f2 env) env Q fun y => swpL i gs g1 g2 env Q x y := h
  refine runE2 (Q := Q) s h' (fun c q => eo.rz c env q) fun ya wa B1 H1 q1 ka s1 st1 ra nda fra => ?_
  refine runE2 (Q := Q) s1 ka (fun c q => eo.rz c env q) fun yb wb B2 H2 q2 kb s2 st2 rb ndb frb => ?_
  obtain ⟨pa, pb, kb⟩ := kb
  refine ⟨by show ([wa, wb] : List V).length ≤ sizeLine; rw [sizeLine_eq]; simp, fun p hp => ?_⟩
  have hsm : Same H2 (upd H2 p (.tup [wa, wb])) := same_upd hp
  have s3 := (s2.same hsm).floorB
  have kb' : gSetI i gs g1 (xC ya) env fun o => match o with
    | .nx e => gSetI i gs g2 (xC yb) e Q
    | o => Q o := kb
  refine ⟨p, [wa, wb], rfl, .of upd_same, rfl, wa, [wb], rfl, ?_⟩
  have eo2 := eo.floorB s2.fb
  refine subL (De := { De with nx := fun σ' H' => gCons (gSub (tPl X.K W i gs) (tF X.K W g2) rSetL) gNil [wb] σ' H' De.nx }) s3 pa (pin_mono st2.b pa ra) kb' (eo2.withNx (fun o ho q => ?_) fun e q σ' H' s' => ?_)
  · cases o with
    | nx x => exact absurd rfl (ho x)
    | _ => exact q
  · refine ⟨wb, [], rfl, ?_⟩
    obtain ⟨B4, ps4, s4⟩ := s'
    refine subL (De := { De with nx := fun σ' H' => gNil [] σ' H' De.nx }) s4 pb (pin_mono s4.fb pb rb) q (eo2.withNx (fun o ho q => q) fun e q σ' H' s' => ⟨rfl, eo2.nx e q σ' H' s'⟩)
end
end BC

namespace BC
open PySem PySem.Spec PyProof.Rows L2 HandSPX

/-! ## an exception leaves a list comprehension -/
theorem noteFrame_same {e : Value} {a b : PySem.Env} (h : a.frame = b.frame) : noteFrame e a = noteFrame e b := by
  unfold noteFrame PySem.frameOf
  rw [h]
section
variable {M : Model} {A : Around} {E : Value → Shared → Prop} {s : Shared} {Z : Obj → Prop} {base B : Heap} {env : PySem.Env} {outer l : List PySem.Env} {L L' e a : Addr}
/-- held at another hand -/
theorem looks_heldZ {Q : Unit → Shared → Prop} (hZ : Steady Z) (hfr : A.frames = some (env :: outer)) (hf : env.frame = some L) (hh : HeldZ base (env :: outer) e Z L' s.heap)
    (hQ : ∀ h', HeldZ base (env :: outer) e Z L h' → s.heap.UpToSlots h' → Q () { s with heap := h' }) : wpAny M A (noteFrame (.ref e) env) Q E s := by
  by_cases hL : (rawInt L' == rawInt L) = true
  · have hL : rawInt L' = rawInt L := eq_of_beq hL
    obtain ⟨x1, x2, x3, x4⟩ := hh
    rw [hL] at x4
    exact againZ hf x4 (hQ s.heap ⟨x1, x2, x3, x4⟩ (Heap.UpToSlots.refl _))
  · obtain ⟨hkb, hen, hl, oe, vs, T, oT, ts, he, hz, hd, h1, hnT, hTe, hT, hdT, h3⟩ := hh
    unfold noteFrame
    simp only [hf]
    refine wpAny_bind (wpAny_field he hd h1 ?_)
    rw [if_pos (show (Value.ref T != Value.none) = true from by simp)]
    refine wpAny_bind (wpAny_field hT hdT h3 ?_)
    rw [if_neg hL]
    refine wpAny_bind (wpAny_setField hT hdT (Array.getElem?_eq_some_iff.mp h3).1 ?_)
    have other : ∀ b, b ≠ T → (s.heap.update T (Obj.mapFields (·.setIfInBounds 3 Value.none))).get? b = s.heap.get? b := fun b hb => Heap.get?_update_other _ _ (Ne.symm hb)
    have noRecord : ∀ b o, s.heap.get? b = some o → (∀ vs, o.data ≠ .fields vs) → b ≠ T := fun b o hb hnf q => by
      rw [q, hT] at hb; injection hb with hb; subst hb; exact hnf ts hdT
    refine wpAny_entryZ hZ hfr (hl.of_keeps fun b o hb hnf => ⟨o, (other b (noRecord b o hb hnf)).trans hb, rfl⟩) hf ((other e (Ne.symm hTe)).trans he)
      (fun b o hbo => (other b fun q => by rw [q, hnT] at hbo; cases hbo).trans (hkb b o hbo)) hen hd (Array.getElem?_eq_some_iff.mp h1).1 hz fun h' hN => ?_
    obtain ⟨x1, x2, x3, x4⟩ := hN
    exact hQ h' ⟨x1, hen, x2, x3⟩ fun b o hb hnf => x4 b o ((other b (noRecord b o hb hnf)).trans hb) hnf
theorem sky_note {Q : Unit → Shared → Prop} (hZ : Steady Z) (hfr : A.frames = some (env :: outer)) (hf : env.frame = some L) (x : Sky B (env :: outer) a Z L' s.heap)
    (hQ : ∀ h', HeldZ B (env :: outer) a Z L h' → s.heap.UpToSlots h' → Q () { s with heap := h' }) : wpAny M A (noteFrame (.ref a) env) Q E s := by
  rcases x with ⟨hB, hn, hl, oe, vs, he, hz, hd, h1⟩ | fl | hh
  · exact look_newZ hZ hfr hl hf he hB hn hd h1 hz hQ
  · exact looks_onZ hZ hfr hf fl hQ
  · exact looks_heldZ hZ hfr hf hh hQ
theorem funFrames_at {base B h h' : Heap} : ∀ {l : List PySem.Env}, h.FunFrames base l → (∀ L ∈ frs l, B.get? L = none ∧ h'.get? L = h.get? L) → h'.FunFrames B l
  | [], _, _ => trivial
  | env :: l, h1, hn => by
    obtain ⟨hk, ⟨L, o, hf, _, ho, hd⟩, hr⟩ := h1
    have z := hn L (List.mem_filterMap.mpr ⟨env, List.mem_cons_self, hf⟩)
    exact ⟨hk, ⟨L, o, hf, z.1, z.2.trans ho, hd⟩, funFrames_at hr fun b hb => by
      obtain ⟨e, he, q⟩ := List.mem_filterMap.mp hb
      exact hn b (List.mem_filterMap.mpr ⟨e, List.mem_cons_of_mem _ he, q⟩)⟩
end
/-- as compPost, the frame told -/
def compPostE (M : Model) (A : Around) (E : Value → Shared → Prop) (fr : Option Addr) (use : Option (Value → Sem Unit)) (Q : Value → Shared → Prop) (acc : Value) (C : Addr) (r : Result) (s' : Shared) : Prop :=
  match r, use with
  | .ok _, none => ∃ m, s'.heap.Ns C m ∧ ∀ h', Heap.SameBut C s'.heap h' → Q acc { s' with heap := h' }
  | .ok _, some u => wpAny M A (u acc) (fun _ s'' => ∃ m, s''.heap.Ns C m ∧ ∀ h', Heap.SameBut C s''.heap h' → Q .none { s'' with heap := h' }) E s'
  | .error x, _ => ∃ m, s'.heap.Ns C m ∧ ∀ h', Heap.SameBut C s'.heap h' → ∀ cenv : PySem.Env, cenv.locals = C → cenv.frame = fr → wpAny M A (PySem.passOn "comprehension.variables-let-go" x cenv : Sem Value) (fun _ _ => False) E { s' with heap := h' }
theorem compPostE_of {M : Model} {A : Around} {E : Value → Shared → Prop} {fr : Option Addr} {use : Option (Value → Sem Unit)} {Q : Value → Shared → Prop} {acc : Value} {C : Addr} {f : Flow} {s' : Shared} (h : compPost M A E use Q acc C (.ok f) s') : compPostE M A E fr use Q acc C (.ok f) s' := by
  cases use <;> exact h
section
variable {M : Model} {A : Around} {E : Value → Shared → Prop} {s : Shared} {env : PySem.Env}
theorem wpAny_comprehension_freeE {e : Expr} {scope : Scope} {pos : Pos} {newAcc first : Sem Value} {g : Comprehension} {gs : List Comprehension} {cl : List (Str × Addr)} {use : Option (Value → Sem Unit)}
    {Q : Value → Shared → Prop}
    (hcl : clausesOf e = g :: gs) (hs : ∀ x, foldedSetIterable g.iter env x = pure x) (hclos : closureFor scope env = pure cl)
    (hkind : scope.kind = .function) (hnames : ∀ x ∈ scope.names, x.2 = .local → scope.names.lookup x.1 = some .local)
    (h : wpAny M A first (fun x s₁ => wpAny M A (pyIter x) (fun it s₂ => wpAny M A newAcc (fun acc s₃ =>
      wpAny M A (newFunctionEnv scope env.globals cl [] env.qual none .none (some env)) (fun cenv s₄ =>
        codeAny M A (.compStart e 0 it acc { cenv with scope := relabel scope env }) (compPostE M A E cenv.frame use Q acc cenv.locals) s₄) E s₃) E s₂) E s₁) E s) :
    wpAny M A (comprehension e scope env pos newAcc false first use) Q E s := by
  unfold comprehension
  rw [hclos, hcl]
  refine wpAny_bind (wpAny_mono h (fun x s₁ h₁ => wpAny_bind (wpAny_standAt (wpAny_bind (wpAny_of_eq (hs x) (wpAny_bind (wpAny_holding (wpAny_mono h₁ (fun it s₂ h₂ =>
    wpAny_standIf (wpAny_bind (wpAny_mono h₂ (fun acc s₃ h₃ => wpAny_bind (wpAny_pure (wpAny_bind (wpAny_mono h₃ (fun cenv s₄ h₄ => ?_) fun _ _ h' => h')))) fun _ _ h' => h')))
      fun _ _ h' => h'))))))) fun _ _ h' => h')
  dsimp only
  have hv : ∀ x ∈ (scope.names.filter fun x => (x.2 == .local || x.2 == .cell) && x.1 != (".0" : Str)).reverse, x.2 = .local →
      Env.kindOf { cenv with scope := relabel scope env } x.1 = some .local := fun x hx hl => lookup_relabel_local (hnames x (List.mem_filter.mp (List.mem_reverse.mp hx)).1 hl)
  have hv' : ∀ x ∈ (scope.names.filter fun x => (x.2 == .local || x.2 == .cell) && x.1 != (".0" : Str)).reverse.drop 1 ++ (scope.names.filter fun x => (x.2 == .local || x.2 == .cell) && x.1 != (".0" : Str)).reverse.take 1,
      x.2 = .local → Env.kindOf { cenv with scope := relabel scope env } x.1 = some .local := fun x hx hl => by
    rcases List.mem_append.mp hx with h1 | h1
    · exact hv x (List.mem_of_mem_drop h1) hl
    · exact hv x (List.mem_of_mem_take h1) hl
  refine wpAny_holding (wpAny_bind (wpAny_attempt (wpAny_holding (wpAny_run (codeAny_mono h₄ fun r s' hr => ?_)))))
  cases r with
  | ok f =>
    cases use with
    | none =>
      obtain ⟨m, hn, hr⟩ := hr
      exact wpAny_bind (wpAny_holding (wpAny_comp_letGo (cenv := { cenv with scope := relabel scope env }) hkind _ s' m hv hn fun h' m' _ hs' => wpAny_pure (hr h' hs')))
    | some u =>
      refine wpAny_bind (wpAny_rule (wpAny_bind (wpAny_holding (wpAny_mono hr (fun _ s'' hr' => ?_) fun _ _ h' => h'))))
      obtain ⟨m, hn, hr'⟩ := hr'
      exact wpAny_bind (wpAny_comp_letGo (cenv := { cenv with scope := relabel scope env }) hkind _ s'' m hv' hn fun h' m' _ hs' => wpAny_pure (hr' h' hs'))
  | error x =>
    have hr' : ∃ m, s'.heap.Ns cenv.locals m ∧ ∀ h', Heap.SameBut cenv.locals s'.heap h' → ∀ cenv' : PySem.Env, cenv'.locals = cenv.locals → cenv'.frame = cenv.frame → wpAny M A (PySem.passOn "comprehension.variables-let-go" x cenv' : Sem Value) (fun _ _ => False) E { s' with heap := h' } := by cases use <;> exact hr
    obtain ⟨m, hn, hr⟩ := hr'
    exact wpAny_bind (wpAny_holding (wpAny_comp_letGo (cenv := { cenv with scope := relabel scope env }) hkind _ s' m hv hn fun h' m' _ hs' => wpAny_mono (hr h' hs' _ rfl rfl) (fun _ _ f => f.elim) fun _ _ y => y))
end
section
variable {X : Cx}
/-- what the block lets out is taken -/
theorem comp_takes {pins : List (Addr × Obj)} {σ : L2.St} {H3 : Hp} {s3 : Shared} {scope : Scope} {ce : PySem.Env} {fp : List Addr} {W : WX} {use : Option (Value → Sem Unit)} {Qf : Value → Shared → Prop} {D : Value}
    (hs : X.stack = X.env :: X.outer) (hf : X.env.frame = some X.env.locals) (I3 : Inv X pins σ H3 s3) (cL : ce.locals = s3.heap.objs.size) (cf : ce.frame = X.env.frame) (f3 : ∀ b ∈ fp, FpOk X pins H3 b ∧ b < s3.heap.objs.size) (tk : Takes X W) :
    Takes ((X.blk s3 H3 scope ce fp).wish (notedBy (model X.prog X.w) X.A ce fun e s' => compPostE (model X.prog X.w) X.A X.xe X.env.frame use Qf D s3.heap.objs.size (.error e) s')) (fun cls d _ H' => W cls d σ H') := by
  rintro u s' ⟨a, B, sI, pins', σ', H', cls, d, rfl, I', nb, up, sky, na, os, ag, w⟩
  have hfr : X.A.frames = some (X.env :: X.outer) := by rw [I3.ok.frames, hs]
  show wpAny _ _ (noteFrame (.ref a) ce) _ _ s'
  rw [noteFrame_same cf]
  have sky : Sky B (X.env :: X.outer) a (Zc cls d) ce.locals s'.heap := by rw [← hs]; exact sky
  have nb : ∀ b o, sI.heap.get? b = some o → b ∉ frs X.stack → B.get? b = some o := nb
  refine sky_note Zc.steady hfr hf sky fun h1 hh up1 => ?_
  have nC : H' s3.heap.objs.size = none := by
    have z : H' ce.locals = none := I'.free
    rwa [cL] at z
  obtain ⟨m, hn, _⟩ := I'.loc
  have hn : sI.heap.Ns ce.locals m := hn
  rw [cL] at hn
  have up2 := up.trans up1
  have hn1 := up2.ns hn
  have hCs : s3.heap.objs.size ∉ frs X.stack := fun hm => by
    rcases List.mem_cons.mp (I3.stkSub _ hm) with z | z
    · exact absurd I3.lt (by rw [← z]; exact Nat.lt_irrefl _)
    · exact I3.nofs (Nat.le_refl _) z
  have hC3 : s3.heap.get? s3.heap.objs.size = none := by
    cases q : s3.heap.get? s3.heap.objs.size with
    | none => rfl
    | some o => exact absurd (Heap.lt_size q) (Nat.lt_irrefl _)
  generalize hCe : s3.heap.objs.size = C at nC hn hn1 hCs hC3 ⊢
  refine ⟨m, hn1, fun h2 sb cenv' e1 e2 => ?_⟩
  show wpAny _ _ (PySem.passOn "comprehension.variables-let-go" (.ref a) cenv' : Sem Value) _ _ { s' with heap := h2 }
  obtain ⟨oC, es, ep, hoC, hdC, _⟩ := hn
  have hBC : B.get? C = some oC := nb C oC hoC hCs
  obtain ⟨k1, k2, k3, oe, vs, T, oT, ts, he, hz, hd, h1', hnT, hTe, hT, hdT, h3'⟩ := hh
  have haC : a ≠ C := fun z => by rw [z, hBC] at k2; cases k2
  have hTC : T ≠ C := fun z => by rw [z, hBC] at hnT; cases hnT
  have hold : ∀ b, b ≠ C → h2.get? b = h1.get? b := fun b hb => sb.2 b hb
  have hid : ∀ {h : Heap} {b o}, (PySem.W.hideAll h [C]).get? b = some o → h.get? b = some o ∧ b ≠ C := fun {h b o} e => ⟨PySem.W.of_hideAll _ e, fun z => by
    rw [z, PySem.W.hideAll_none [C] (by simp)] at e
    cases e⟩
  have hnid : ∀ {h : Heap} {b}, h.get? b = none → (PySem.W.hideAll h [C]).get? b = none := fun {h b} e => by
    cases q : (PySem.W.hideAll h [C]).get? b with
    | none => rfl
    | some o => rw [(hid q).1] at e; cases e
  have held : HeldZ (PySem.W.hideAll B [C]) (X.env :: X.outer) a (Zc cls d) X.env.locals h2 := by
    refine ⟨fun b o e => ?_, hnid k2, funFrames_at k3 fun L hL => ⟨hnid (k3.mem hL).1, hold L fun z => hCs (by rw [hs, ← z]; exact hL)⟩, oe, vs, T, oT, ts, (hold a haC).trans he, hz, hd, h1', hnid hnT, hTe, (hold T hTC).trans hT, hdT, h3'⟩
    obtain ⟨e, hb⟩ := hid e
    rw [hold b hb]
    exact k1 b o e
  unfold PySem.passOn
  refine wpAny_bind (wpAny_field (s := { s' with heap := h2 }) ((hold a haC).trans he) hd h1' ?_)
  rw [if_neg (show ¬ (Value.ref T == Value.none) = true from by simp)]
  rw [e2, hf]
  refine wpAny_bind (setFlight_onZ (s := { s' with heap := h2 }) held fun h3 hh3 up3 => ?_)
  refine wpAny_throw ?_
  refine tk _ _ ⟨a, PySem.W.hideAll B [C], { sI with heap := PySem.W.hideAll sI.heap [C] }, pins, σ, H', cls, d, rfl, ?_, fun b o e hb => ?_, fun b o e hnf => ?_, .inr (.inr (by rw [hs]; exact hh3)), na, os, ag, w⟩
  · have ub : Un (frs X.stack) fp H3 H' s3.heap sI.heap := I'.base
    refine I3.call' (ch := fp) I'.os ⟨fun b o e n hb hx => ?_, fun b o e n hb hx => ?_, ub.free, fun b o e hx => ?_, ub.tups, ub.frzs, ub.tbls⟩ ?_ I'.bare fun b hb => ⟨(f3 b hb).1.2.2.2.1, (f3 b hb).1.2.1, (f3 b hb).1.2.2.2.2.1, (f3 b hb).1.2.2.2.2.2⟩
    · exact PySem.W.hideAll_get _ (ub.keep b o e n hb hx) (by simp; intro z; rw [z, hC3] at e; cases e)
    · obtain ⟨sl, q⟩ := ub.slot b o e n hb hx
      exact ⟨sl, PySem.W.hideAll_get _ q (by simp; intro z; rw [z, hC3] at e; cases e)⟩
    · obtain ⟨o', q⟩ := ub.there b o e hx
      exact ⟨o', PySem.W.hideAll_get _ q (by simp; intro z; rw [z, hC3] at e; cases e)⟩
    · exact fun b o q => (I'.hok b o q).stay (fun c u hc r => PySem.W.hideAll_get _ r (by
        simp
        intro z
        subst z
        rcases hc with hc | hc
        · rw [hc, q] at nC; cases nC
        · rw [hc] at nC; cases nC)) (fun _ r => r) fun _ _ r => r
  · obtain ⟨e, hbC⟩ := hid e
    exact PySem.W.hideAll_get _ (nb b o e hb) (by simpa using hbC)
  · obtain ⟨e, hbC⟩ := hid e
    obtain ⟨sl, q⟩ := up2 b o e hnf
    have q2 : h2.get? b = some { o with slots := sl } := (hold b hbC).trans q
    obtain ⟨sl2, q3⟩ := up3 b _ q2 hnf
    exact ⟨sl2, q3⟩
/-- the tests and the value of a turn may raise: W at the slots ahead of the comprehension -/
theorem lc_coreE {pins : List (Addr × Obj)} {s : Shared} {σ : L2.St} {H : Hp} {Q : VK} {elt tg iter : Expr} {ifs : List Expr} {scope : Scope} {own : List (Str × Nat)} {pos pos' : Pos} {wi : TI} {g : TG} {tt : TT} {te : TE} {W : WX} {use : Option (Value → Sem Unit)} {Qf : Value → Shared → Prop}
    (hs0 : X.stack = X.env :: X.outer) (hf : X.env.frame = some X.env.locals) (tk : Takes X W) (hc : X.calm = true) (hN : X.N.Nodup) (I : Inv X pins σ H s) (hi : PI X tg iter wi) (ok : BlkOk X.N X.env.scope scope own)
    (hg : ∀ (s : Shared) (H : Hp) (C : Addr) (cl : List (Str × Addr)) (fp : List Addr), PG (X.blk s H scope (compEnvC scope cl C X.env) fp) tg g)
    (ht : ∀ (s : Shared) (H : Hp) (C : Addr) (cl : List (Str × Addr)) (fp : List Addr) (xe : Value → Shared → Prop), Takes ((X.blk s H scope (compEnvC scope cl C X.env) fp).wish xe) (fun cls d _ H' => W cls d σ H') → PTs ((X.blk s H scope (compEnvC scope cl C X.env) fp).wish xe) ifs tt)
    (he : ∀ (s : Shared) (H : Hp) (C : Addr) (cl : List (Str × Addr)) (fp : List Addr) (xe : Value → Shared → Prop), Takes ((X.blk s H scope (compEnvC scope cl C X.env) fp).wish xe) (fun cls d _ H' => W cls d σ H') → PE ((X.blk s H scope (compEnvC scope cl C X.env) fp).wish xe) elt te)
    (hs : ∀ x, foldedSetIterable iter X.env x = pure x)
    (h : tLc wi g tt te (own.map (·.2)) σ H Q)
    (hRR : ∀ D C s' m H', Inv X pins σ H' s' → Q (.ref D) H' → s'.heap.Ns C m → FpOk X pins H' C → compPost (model X.prog X.w) X.A X.xe use Qf (.ref D) C (.ok .next) s') :
    wpAny (model X.prog X.w) X.A (comprehension (.ListComp elt [⟨tg, iter, ifs, 0⟩] scope pos) scope X.env pos' (newList []) false (eval iter X.env) use) Qf X.xe s := by
  have hfree : ∀ y ∈ scope.names, y.2 = .free → ∃ c, X.env.cells.lookup y.1 = some c := fun y hy e => (ok.free y hy e).elim (fun k => I.ok.has _ (.inl k)) fun k => I.ok.has _ (.inr k)
  refine wpAny_comprehension_freeE (use := use) rfl hs (closure_ok hfree) ok.kind (fun y hy e => by rw [ok.uniq y hy, e])
    (thn (hi.run pins s σ H _ I h) fun xv s1 hx => thn hx fun itv s2 h2 => ?_)
  obtain ⟨it, fp, tn, J, H2, e, I2, T, st2, f2, q⟩ := h2
  subst e
  refine wpAny_newObj_type (newEnv_comp ?_) (by show 0 ≤ sizeLine; decide)
  generalize hD : s2.heap.objs.size = D
  have hDn : H2 D = none := I2.hok.fresh (Nat.le_of_eq hD)
  obtain ⟨Wv, ⟨m0, w0⟩, turn⟩ := q D hDn
  generalize hs3 : ({ s2 with heap := s2.heap.push { cls := .type "list", data := .seq ([] : List Value).toArray } } : Shared) = s3
  have h3 : s3.heap = s2.heap.push { cls := .type "list", data := .seq ([] : List Value).toArray } := by rw [← hs3]
  have kp : ∀ b o, s2.heap.get? b = some o → s3.heap.get? b = some o := fun b o e => by rw [h3]; exact Heap.get?_push_of_some _ e
  have I3 : Inv X pins σ (upd H2 D (.lst [])) s3 := by
    rw [← hs3]
    refine I2.laid (t' := s2.toks) (fun b o e => Heap.get?_push_of_some _ e) (Nat.le_of_eq hD) ⟨Nat.zero_le _, [], 0, .nil, ?_⟩
    rw [← hD]
    exact Heap.get?_push_size _ rfl
  have f3 : ∀ b ∈ fp, FpOk X pins (upd H2 D (.lst [])) b ∧ b < s3.heap.objs.size := fun b hb => by
    obtain ⟨o, e, _⟩ := T.obj _ _ st2 b hb
    have hlt := Heap.lt_size e
    refine ⟨⟨?_, (f2 b hb).2⟩, by rw [h3, Heap.size_push]; exact Nat.lt_succ_of_lt hlt⟩
    rw [upd_ne (by rw [← hD]; exact Nat.ne_of_lt hlt)]
    exact (f2 b hb).1
  have st3 : tn 0 s3.heap := T.keep _ _ _ st2 fun b _ o e => kp b o e
  have I4 := block_start I3 ok hN f3
  have pg := hg s3 (upd H2 D (.lst [])) s3.heap.objs.size (cellsFrom (s3.heap.objs.size + 1) scope.names (cloFrom X.env.cells scope.names [])) fp
  have pt := ht s3 (upd H2 D (.lst [])) s3.heap.objs.size (cellsFrom (s3.heap.objs.size + 1) scope.names (cloFrom X.env.cells scope.names [])) fp
  have pe := he s3 (upd H2 D (.lst [])) s3.heap.objs.size (cellsFrom (s3.heap.objs.size + 1) scope.names (cloFrom X.env.cells scope.names [])) fp
  show codeAny _ _ (.compStart (.ListComp elt [⟨tg, iter, ifs, 0⟩] scope pos) 0 (.ref it) (.ref D) (compEnvC scope (cellsFrom (s3.heap.objs.size + 1) scope.names (cloFrom X.env.cells scope.names [])) s3.heap.objs.size X.env)) (compPostE (model X.prog X.w) X.A X.xe X.env.frame use Qf (.ref D) s3.heap.objs.size) { s3 with heap := pushCells (s3.heap.push { cls := .type "dict", data := .dict #[] }) scope.names }
  have nfp : ∀ b ∈ fp, (upd H2 D (.lst [])) b = none := fun b hb => (f3 b hb).1.1
  have cF : (compEnvC scope (cellsFrom (s3.heap.objs.size + 1) scope.names (cloFrom X.env.cells scope.names [])) s3.heap.objs.size X.env).frame = X.env.frame := rfl
  have cL : (compEnvC scope (cellsFrom (s3.heap.objs.size + 1) scope.names (cloFrom X.env.cells scope.names [])) s3.heap.objs.size X.env).locals = s3.heap.objs.size := rfl
  generalize compEnvC scope (cellsFrom (s3.heap.objs.size + 1) scope.names (cloFrom X.env.cells scope.names [])) s3.heap.objs.size X.env = ce at I4 pg pt pe cF cL ⊢
  generalize hH3 : upd H2 D (.lst []) = H3 at I3 I4 pg pt pe w0 nfp f3
  have tkc := comp_takes (scope := scope) (use := use) (Qf := Qf) (D := .ref D) hs0 hf I3 cL cF f3 tk
  replace pt := pt _ tkc
  replace pe := pe _ tkc
  generalize hxe : (notedBy (model X.prog X.w) X.A ce fun e s' => compPostE (model X.prog X.w) X.A X.xe X.env.frame use Qf (.ref D) s3.heap.objs.size (.error e) s') = xe at tkc pt pe
  generalize hs4 : ({ s3 with heap := pushCells (s3.heap.push { cls := .type "dict", data := .dict #[] }) scope.names } : Shared) = s4 at I4 ⊢
  have st4 : tn 0 s4.heap := T.keep _ _ _ st3 fun b _ o e => by rw [← hs4]; exact pushCells_keeps _ _ _ _ (Heap.get?_push_of_some _ e)
  have stat : ∀ {σ' : L2.St} {H' : Hp} {s' : Shared}, Inv (X.blk s3 H3 scope ce fp) [] σ' H' s' → (∀ b ∈ fp, H' b = none) → ∀ b ∈ fp, FpOk (X.blk s3 H3 scope ce fp) [] H' b := fun {σ' H' s'} I' hn b hb =>
    ⟨hn b hb, (I'.ok.exf b hb).1, I'.ok.exfs b hb, .inl hb, fun x c e => (I'.ok.exf b hb).2 x c e, fun p hp => absurd (show p ∈ ([] : List (Addr × Obj)) ++ [] from hp) (by simp)⟩
  have loop : codeAny (model X.prog X.w) X.A (.compLoop (.ListComp elt [⟨tg, iter, ifs, 0⟩] scope pos) 0 (.ref it) (.ref D) ce) (compPostE (model X.prog X.w) X.A X.xe X.env.frame use Qf (.ref D) s3.heap.objs.size) s4 := by
    refine compLoop_any (fun n s' => ∃ i H', Inv (X.blk s3 H3 scope ce fp) [] (wipe σ (own.map (·.2))) H' s' ∧ tn i s'.heap ∧ (∀ b ∈ fp, H' b = none) ∧ Wv i n H') ?_ m0 ⟨0, H3, I4, st4, nfp, w0⟩
    rw [hxe]
    rintro n s5 ⟨i, H5, I5, st5, n5, w5⟩
    rcases turn i n H5 w5 with ⟨stop, qq⟩ | ⟨go, Nx, hNx, step⟩
    · refine thnF (T.done (X.blk s3 H3 scope ce fp) rfl rfl rfl hc i [] s5 _ H5 (fun _ _ => False) I5 (stat I5 n5) st5 stop) fun r s6 ⟨hr, I6⟩ => ?_
      subst hr
      have I7 : Inv X pins σ H5 s6 := I3.call' (ch := fp) I6.os I6.base I6.hok I6.bare fun b hb => ⟨(f3 b hb).1.2.2.2.1, (f3 b hb).1.2.1, (f3 b hb).1.2.2.2.2.1, (f3 b hb).1.2.2.2.2.2⟩
      have nC : H5 s3.heap.objs.size = none := by
        have z : H5 ce.locals = none := I6.free
        rwa [cL] at z
      obtain ⟨m, hn, _⟩ := I6.loc
      have hn : s6.heap.Ns ce.locals m := hn
      rw [cL] at hn
      exact compPostE_of (hRR D s3.heap.objs.size s6 m H5 I7 qq hn (I3.fpOk (Nat.le_refl _) nC))
    · refine thnF (T.item (X.blk s3 H3 scope ce fp) rfl rfl rfl hc i [] s5 _ H5 (fun _ _ => False) I5 (stat I5 n5) st5 go) fun r s6 ⟨u, hr, h6⟩ => ?_
      subst hr
      refine thnF h6 fun _ s7 ⟨x, H7, I7, r7, y7, st7, n7⟩ => ?_
      have I7' := I7.pinned (stat I7 n7) (T.obj _ _ st7)
      refine thnF (pg.run _ s7 _ H7 x u _ I7' r7 (step x H7 y7)) fun _ s8 ⟨σ8, H8, I8, hw8, q8⟩ => ?_
      have fin : ∀ {s' : Shared} {H' : Hp}, Inv (X.blk s3 H3 scope ce fp) ([] ++ pinsAt fp s7.heap) σ8 H' s' → Nx H' → ∃ m, m < n ∧ ∃ i H', Inv (X.blk s3 H3 scope ce fp) [] (wipe σ (own.map (·.2))) H' s' ∧ tn i s'.heap ∧ (∀ b ∈ fp, H' b = none) ∧ Wv i m H' := fun {s' H'} I' nx => by
        obtain ⟨m', hm, w'⟩ := hNx H' nx
        have pin' : ∀ b ∈ fp, ∀ o, s7.heap.get? b = some o → s'.heap.get? b = some o ∧ H' b = none := fun b hb o e =>
          let z := I'.pin (b, o) (List.mem_append_right _ (List.mem_append_right _ (mem_pinsAt hb e)))
          ⟨z.1, z.2.1⟩
        have hl : (wipe σ (own.map (·.2))).length = σ8.length := by rw [← hw8, wipe_length]
        refine ⟨m', hm, i + 1, H', (I'.unpinned (pins := [])).weak hl (fun j v e => ?_), T.keep _ _ _ st7 fun b hb o e => (pin' b hb o e).1, fun b hb => ?_, w'⟩
        · rw [← hw8] at e
          exact (wipe_some e).1
        · obtain ⟨o, e, _⟩ := T.obj _ _ st7 b hb
          exact (pin' b hb o e).2
      refine thn (pt.run _ s8 σ8 H8 _ (I8.wish _) q8) fun b s9 ⟨H9, I9, q9⟩ => ?_
      cases b with
      | false =>
        simp only [Bool.false_eq_true, if_false] at q9 ⊢
        exact fin I9.unwish q9
      | true =>
        simp only [if_true] at q9 ⊢
        refine thn (pe.run _ s9 σ8 H9 _ I9 q9) fun z s10 ⟨yv, H10, I10, r10, acc, hD10, hz10, nx⟩ => ?_
        exact app_ok (X := X.blk s3 H3 scope ce fp) I10.unwish hD10 hz10 r10 fun s11 I11 => fin I11 nx
  exact codeAny_compStart_list loop (T.self X.A 0 _ _ _ st4 loop)
/-- the list, or the first exception -/
def xLcRE (tg : Tgt) (c : Env → R Bool) (f : Env → R D) (vs : List Nat) (env : Env) (xs : List D) : R D := if xs.length ≤ 16777216 then lcGo tg c f (wipeE env vs) xs >>= fun ys => R.ok (.lst .ow ys) else .no
def xLcE (src : Env → R (Bool × List D)) (tg : Tgt) (c : Env → R Bool) (f : Env → R D) (vs : List Nat) : Env → R D := fun env => src env >>= fun s => xLcRE tg c f vs env s.2
@[simp] theorem xLcE_eq (src : Env → R (Bool × List D)) (tg : Tgt) (c : Env → R Bool) (f : Env → R D) (vs : List Nat) (env : Env) : xLcE src tg c f vs env = src env >>= fun s => xLcRE tg c f vs env s.2 := (rfl)
/-- what is to come of the rest of the items -/
def lcFin (K : PySem.W.Frag) (W : WC) (B H : Hp) (σ : L2.St) (Q : VK) (ys : List D) : R (List D) → Prop
  | .ok zs => OkE K B H (.lst .ow (ys ++ zs)) Q
  | .er c => ∀ H', Same H H' → W c σ H'
  | .no => False
theorem tLcE_of {K : PySem.W.Frag} {W : WC} {V : WC} {src : Env → R (Bool × List D)} {g : TG} {tg : Tgt} {c : Env → R Bool} {f : Env → R D} {vs : List Nat} {σ : L2.St} {H : Hp} {Q : VK} (hg : TgE K g tg vs) (hV : ∀ cc σ' H', W cc σ H' → V cc σ' H') (h : tF K W (xLcE src tg c f vs) σ H Q) :
    tLc (tI K W src) g (tFT K V c) (tF K V f) vs σ H Q := by
  obtain ⟨env, B, i0, s0, h⟩ := h
  refine ⟨env, B, i0, s0, ?_⟩
  unfold xLcE at h
  cases es : src env with
  | er cc => rw [es] at h; exact h
  | no => rw [es] at h; exact h.elim
  | ok bx =>
    rw [es] at h
    obtain ⟨bb, xs⟩ := bx
    replace h : Pst K W B H σ Q (xLcRE tg c f vs env xs) := h
    unfold xLcRE at h
    by_cases hz : xs.length ≤ 16777216
    · rw [if_pos hz] at h
      replace h : lcFin K W B H σ Q [] (lcGo tg c f (wipeE env vs) xs) := by
        cases el : lcGo tg c f (wipeE env vs) xs with
        | er cc => rw [el] at h; exact h
        | no => rw [el] at h; exact h.elim
        | ok total => rw [el] at h; exact h
      intro J B1 H1 st1 wk Dl hD
      refine ⟨fun i m Hc => ∃ B2 ys ws qs, m = xs.length - i ∧ i ≤ xs.length ∧ Step B1 H1 B2 Hc ∧ Hc Dl = some (.lst ws) ∧ B2 Dl = none ∧ Rps K B2 Hc ys ws qs ∧ D.stos ys = true ∧ qs.Nodup ∧ Dl ∉ qs ∧ (∀ q ∈ qs, H1 q = none ∧ B2 q = none) ∧ ys.length ≤ i ∧
        lcFin K W B H σ Q ys (lcGo tg c f (wipeE env vs) (xs.drop i)), ⟨xs.length, B1, [], [], [], rfl, Nat.zero_le _, step_new st1.i hD, upd_same, noB st1.i hD, ⟨rfl, rfl⟩, rfl, .nil, by simp, (by intro q hq; cases hq), Nat.le_refl _, h⟩, ?_⟩
      rintro i m Hc ⟨B2, ys, ws, qs, rfl, hi, st2, hDl, hBl, ry, hst, nd, nDl, fr, hly, egl⟩
      have wki := wk i B2 Hc st2.b st2.i ((hs_same st1.i).trans st2.h)
      cases ex : xs[i]? with
      | none =>
        refine .inl ⟨wki.2 ex, ?_⟩
        have hlen := List.getElem?_eq_none_iff.mp ex
        rw [List.drop_of_length_le hlen] at egl
        replace egl : OkE K B H (.lst .ow (ys ++ [])) Q := egl
        rw [List.append_nil] at egl
        refine egl (.ref Dl) B2 Hc (Dl :: qs) (st1.trans st2) ?_ (List.nodup_cons.mpr ⟨nDl, nd⟩) fun q hq => ?_
        · unfold Rp
          exact ⟨Dl, ws, qs, rfl, hDl, rfl, ry⟩
        · rcases List.mem_cons.mp hq with e | e
          · subst e
            exact ⟨st1.h.free hD, hBl⟩
          · exact ⟨st1.h.free (fr q e).1, (fr q e).2⟩
      | some d =>
        obtain ⟨hgo, hy⟩ := wki.1 d ex
        have hlt := (List.getElem?_eq_some_iff.mp ex).1
        have edrop : xs.drop i = d :: xs.drop (i + 1) := by
          rw [List.drop_eq_getElem_cons hlt]
          congr 1
          exact (List.getElem?_eq_some_iff.mp ex).2
        rw [edrop] at egl
        refine .inr ⟨hgo, fun H' => ∃ m', m' < xs.length - i ∧ ∃ B2 ys ws qs, m' = xs.length - (i + 1) ∧ i + 1 ≤ xs.length ∧ Step B1 H1 B2 H' ∧ H' Dl = some (.lst ws) ∧ B2 Dl = none ∧ Rps K B2 H' ys ws qs ∧ D.stos ys = true ∧ qs.Nodup ∧ Dl ∉ qs ∧ (∀ q ∈ qs, H1 q = none ∧ B2 q = none) ∧ ys.length ≤ i + 1 ∧
          lcFin K W B H σ Q ys (lcGo tg c f (wipeE env vs) (xs.drop (i + 1))), fun H' z => z, fun x H' hx => ?_⟩
        obtain ⟨B3, st3, rx⟩ := hy x H' hx
        have st23 := st2.trans st3
        have st13 := st1.trans st23
        have sl := (s0.step st13).wipe vs
        unfold lcGo at egl
        cases et : tg d (wipeE env vs) with
        | none => rw [et] at egl; exact egl.elim
        | some e1 =>
          rw [et] at egl
          refine hg d x (wipeE env vs) e1 (wipe σ vs) B3 H' _ et st3.i sl rx fun σ2 sl2 hw => ?_
          refine ⟨hw.trans (wipe_wipe fun _ z => z), ?_⟩
          refine ⟨e1, B3, st3.i, sl2, ?_⟩
          cases ec : c e1 with
          | er cc =>
            simp only [ec, R.bind_er] at egl
            exact fun H'' sm => hV cc σ2 H'' (egl H'' (st13.h.trans sm))
          | no => simp only [ec, R.bind_no] at egl; exact egl.elim
          | ok b =>
            simp only [ec, R.bind_ok] at egl
            intro B4 H4 st4
            cases b with
            | false =>
              simp only [Bool.false_eq_true, if_false] at egl
              have st24 := st3.trans st4
              show ∃ m', _
              refine ⟨xs.length - (i + 1), by omega, B4, ys, ws, qs, rfl, hlt, st2.trans st24, st24.h _ _ hDl, st24.n _ _ hBl hDl, rps_mono st24.b st24.h ry, hst, nd, nDl, fun q hq => ⟨(fr q hq).1, ?_⟩, by omega, egl⟩
              obtain ⟨us, hu, _⟩ := rps_own ry q hq
              exact st24.n q us (fr q hq).2 hu
            | true =>
              simp only [if_true] at egl
              show tF K V f σ2 H4 _
              have sl4 := sl2.step st4
              refine ⟨e1, B4, st4.i, sl4, ?_⟩
              cases ef : f e1 with
              | er cc =>
                simp only [ef, R.bind_er] at egl
                exact fun H'' sm => hV cc σ2 H'' (egl H'' (st13.h.trans (st4.h.trans sm)))
              | no => simp only [ef, R.bind_no] at egl; exact egl.elim
              | ok y =>
                simp only [ef, R.bind_ok] at egl
                by_cases hys : y.sto = true
                · simp only [hys, if_true] at egl
                  replace egl : lcFin K W B H σ Q (ys ++ [y]) (lcGo tg c f (wipeE env vs) (xs.drop (i + 1))) := by
                    cases eg2 : lcGo tg c f (wipeE env vs) (xs.drop (i + 1)) with
                    | er cc => rw [eg2] at egl; exact egl
                    | no => rw [eg2] at egl; exact egl.elim
                    | ok zs2 =>
                      rw [eg2] at egl
                      show OkE K B H (.lst .ow ((ys ++ [y]) ++ zs2)) Q
                      rw [List.append_assoc]
                      exact egl
                  intro v B5 H5 q5 st5 r5 nd5 fr5
                  have st24 := st3.trans st4
                  have st25 := st24.trans st5
                  have hD5 := st25.h _ _ hDl
                  have hD4 := st24.h _ _ hDl
                  refine ⟨ws, hD5, by rw [rps_len ry, sizeLine_eq]; omega, ?_⟩
                  have nq5 : Dl ∉ q5 := fun z => by rw [(fr5 Dl z).1] at hD4; cases hD4
                  have nall : Dl ∉ qs ++ q5 := by simp only [List.mem_append, not_or]; exact ⟨nDl, nq5⟩
                  have hB5 : B5 Dl = none := st25.n _ _ hBl hDl
                  have ry5 := rps_mono st25.b st25.h ry
                  have rall : Rps K B5 H5 (ys ++ [y]) (ws ++ [v]) (qs ++ q5) := rps_app ry5 (by
                    unfold Rps
                    exact ⟨v, [], q5, [], rfl, by simp, r5, ⟨rfl, rfl⟩⟩)
                  have sall : D.stos (ys ++ [y]) = true := stos_app hst (by simp [D.stos, hys])
                  have hH1 : H1 Dl = none := hD
                  refine ⟨xs.length - (i + 1), by omega, B5, ys ++ [y], ws ++ [v], qs ++ q5, rfl, hlt, ?_, upd_same, hB5, rps_upd hD5 hB5 sall nall rall, sall, ?_, nall, ?_, by simp; omega, egl⟩
                  · have stt := st2.trans st25
                    refine ⟨stt.b, fun p o e => ?_, fun p o e => ?_, stt.n⟩
                    · have : p ≠ Dl := fun z => by subst z; rw [hH1] at e; cases e
                      rw [upd_ne this]
                      exact stt.h p o e
                    · have : p ≠ Dl := fun z => by subst z; rw [hB5] at e; cases e
                      rw [upd_ne this]
                      exact stt.i p o e
                  · refine List.nodup_append.mpr ⟨nd, nd5, fun a ha b hb e => ?_⟩
                    subst e
                    obtain ⟨us, hu, _⟩ := rps_own ry a ha
                    have := st24.h _ _ hu
                    rw [(fr5 a hb).1] at this
                    cases this
                  · intro q hq
                    rcases List.mem_append.mp hq with z | z
                    · obtain ⟨us, hu, _⟩ := rps_own ry q z
                      exact ⟨(fr q z).1, st25.n q us (fr q z).2 hu⟩
                    · exact ⟨(st2.trans st24).h.free (fr5 q z).1, (fr5 q z).2⟩
                · simp only [hys] at egl
                  exact egl.elim
    · rw [if_neg hz] at h
      exact h.elim
section
variable {X : Cx} {W : WC} {cl : String → Addr} {f : Env → R D} {c : Env → R Bool} {src : Env → R (Bool × List D)}
theorem spt_nilE {X : Cx} {K : PySem.W.Frag} {V : WC} : PTs X [] (tFT K V xYes) := ⟨fun pins s σ H Q I h => by
  obtain ⟨env, B, i, sl, h⟩ := h
  exact pts_nil.run pins s σ H Q I (h B H (.refl i))⟩
theorem spt_oneE {X : Cx} {e : Expr} {K : PySem.W.Frag} {V : WC} (h : PT X e (tFT K V c)) : PTs X [e] (tFT K V c) := pts_one h
theorem se_lcE {elt tgx iter : Expr} {ifs : List Expr} {scope : Scope} (own : List (Str × Nat)) {pos : Pos} {g : TG} {tg : Tgt} (hs0 : X.stack = X.env :: X.outer) (hf : X.env.frame = some X.env.locals) (tk : Takes X (wx cl W)) (hc : X.calm = true) (hN : X.N.Nodup) (hi : PI X tgx iter (tI X.K W src)) (ok : BlkOk X.N X.env.scope scope own)
    (hg : ∀ (s : Shared) (H : Hp) (C : Addr) (cls : List (Str × Addr)) (fp : List Addr), PG (X.blk s H scope (compEnvC scope cls C X.env) fp) tgx g)
    (ht : ∀ (s : Shared) (H : Hp) (C : Addr) (cls : List (Str × Addr)) (fp : List Addr) (xe : Value → Shared → Prop) (V : WC), Takes ((X.blk s H scope (compEnvC scope cls C X.env) fp).wish xe) (wx cl V) → PTs ((X.blk s H scope (compEnvC scope cls C X.env) fp).wish xe) ifs (tFT X.K V c))
    (he : ∀ (s : Shared) (H : Hp) (C : Addr) (cls : List (Str × Addr)) (fp : List Addr) (xe : Value → Shared → Prop) (V : WC), Takes ((X.blk s H scope (compEnvC scope cls C X.env) fp).wish xe) (wx cl V) → PE ((X.blk s H scope (compEnvC scope cls C X.env) fp).wish xe) elt (tF X.K V f)) (tgo : TgE X.K g tg (own.map (·.2))) (hs : ∀ x, foldedSetIterable iter X.env x = pure x := by intro _; rfl) :
    PE X (.ListComp elt [⟨tgx, iter, ifs, 0⟩] scope pos) (tF X.K W (xLcE src tg c f (own.map (·.2)))) := by
  refine ⟨fun pins s σ H Q I h => ?_⟩
  rw [eval_ListComp]
  refine lc_coreE (W := wx cl W) (te := tF X.K (fun cc _ H' => W cc σ H') f) (tt := tFT X.K (fun cc _ H' => W cc σ H') c) hs0 hf tk hc hN I hi ok hg
    (fun s H C cls fp xe t => ht s H C cls fp xe _ (t.imp fun cl' d σ' H' z => z)) (fun s H C cls fp xe t => he s H C cls fp xe _ (t.imp fun cl' d σ' H' z => z)) hs (tLcE_of tgo (fun cc σ' H' z => z) h) fun D C s' m H' I' q hn ff => ⟨m, hn, fun h'' sb => ?_⟩
  obtain ⟨f0, f1, f2, f3, f4, f5⟩ := ff
  exact ⟨.ref D, H', I'.turned (t' := s'.toks) (fun b o hb e => (sb.2 b hb).trans e) f0 f1 f3 f4 f5, rfl, q⟩
theorem ss_setLcE (i : Nat) {y : Str} {py : Pos} {elt tgx iter : Expr} {ifs : List Expr} {scope : Scope} (own : List (Str × Nat)) {pos spos : Pos} {g : TG} {tg : Tgt} (hs0 : X.stack = X.env :: X.outer) (hf : X.env.frame = some X.env.locals) (tk : Takes X (wx cl W)) (hc : X.calm = true) (hN : X.N.Nodup)
    (hsw : swapsWith (.ListComp elt [⟨tgx, iter, ifs, 0⟩] scope pos) (some (.Name y py)) spos.line X.env = pure true) (hi : PI X tgx iter (tI X.K W src)) (ok : BlkOk X.N X.env.scope scope own)
    (hg : ∀ (s : Shared) (H : Hp) (C : Addr) (cls : List (Str × Addr)) (fp : List Addr), PG (X.blk s H scope (compEnvC scope cls C X.env) fp) tgx g)
    (ht : ∀ (s : Shared) (H : Hp) (C : Addr) (cls : List (Str × Addr)) (fp : List Addr) (xe : Value → Shared → Prop) (V : WC), Takes ((X.blk s H scope (compEnvC scope cls C X.env) fp).wish xe) (wx cl V) → PTs ((X.blk s H scope (compEnvC scope cls C X.env) fp).wish xe) ifs (tFT X.K V c))
    (he : ∀ (s : Shared) (H : Hp) (C : Addr) (cls : List (Str × Addr)) (fp : List Addr) (xe : Value → Shared → Prop) (V : WC), Takes ((X.blk s H scope (compEnvC scope cls C X.env) fp).wish xe) (wx cl V) → PE ((X.blk s H scope (compEnvC scope cls C X.env) fp).wish xe) elt (tF X.K V f)) (tgo : TgE X.K g tg (own.map (·.2)))
    (hy : X.N[i]? = some y := by rfl) (hyl : X.env.scope.names.lookup y = some .local := by rfl) (hs : ∀ x, foldedSetIterable iter X.env x = pure x := by intro _; rfl) :
    PS X (.Assign [.Name y py] (.ListComp elt [⟨tgx, iter, ifs, 0⟩] scope pos) spos) (tG X.K W (gAsg i (xLcE src tg c f (own.map (·.2))))) := by
  refine ⟨fun pins s σ H D I h => ?_⟩
  have h1 := asg_of h
  rw [exec_Assign_Name_used _ _ _ _ hsw]
  refine wpAny_bind (wpAny_standAt (wpAny_bind ?_))
  show wpAny _ X.A (do let _ ← comprehension (.ListComp elt [⟨tgx, iter, ifs, 0⟩] scope pos) scope X.env (firstIterPos [⟨tgx, iter, ifs, 0⟩] pos) (newList []) false (eval iter X.env) (some (assign (.Name y py) X.env))) _ _ s
  refine wpAny_bind (thn (lc_coreE (W := wx cl W) (te := tF X.K (fun cc _ H' => W cc σ H') f) (tt := tFT X.K (fun cc _ H' => W cc σ H') c) (Qf := fun _ s' => SP X pins D .next s') hs0 hf tk hc hN I hi ok hg
    (fun s H C cls fp xe t => ht s H C cls fp xe _ (t.imp fun cl' d σ' H' z => z)) (fun s H C cls fp xe t => he s H C cls fp xe _ (t.imp fun cl' d σ' H' z => z)) hs (tLcE_of tgo (fun cc σ' H' z => z) h1) fun L C s' m H' I' q hn ff => ?_) fun _ s' hq => wpAny_pure (wpAny_pure hq))
  show wpAny _ _ (assign (.Name y py) X.env (.ref L)) _ _ _
  refine wpAny_assign_Name (store_ok2 (v := V.ref L) I' hN hy (.inl hyl) rfl (fun s2 I2 ⟨a, sb, ha⟩ => ?_) (.inr hyl))
  obtain ⟨f0, f1, f2, f3, f4, f5⟩ := ff
  have haC : C ≠ a := by
    rcases ha with z | z
    · rw [z]; exact f1
    · exact fun e => f4 y a z e.symm
  refine ⟨m, hn.sameBut sb haC, fun h3 sb3 => ?_⟩
  exact ⟨_, H', I2.turned (t' := s2.toks) (fun b o hb e => (sb3.2 b hb).trans e) f0 f1 f3 f4 f5, q⟩
end
end
section
variable {α β : Type} {fa : α → D} {fb : β → D} {tg : Tgt} {c : Env → R Bool} {f : Env → R D} {vs : List Nat} {env : Env}
/-- each item that stays tells a thing, or the first one that tells none raises x -/
theorem lcGoE_enc (x : String) (p : α → Bool) (g : α → Option β) : ∀ xs : List α, (∀ a ∈ xs, ∃ e, tg (fa a) env = some e ∧ c e = .ok (p a) ∧ (p a = true → (match g a with | some b => f e = .ok (fb b) ∧ (fb b).sto = true | none => f e = .er x))) →
    lcGo tg c f env (encL fa xs) = match (xs.filter p).mapM g with | some ys => .ok (encL fb ys) | none => .er x
  | [], _ => rfl
  | a :: as, h => by
    have ih := lcGoE_enc x p g as fun b hb => h b (by simp [hb])
    obtain ⟨e, h1, h2, h3⟩ := h a (by simp)
    show lcGo tg c f env (fa a :: encL fa as) = _
    unfold lcGo
    rw [h1]
    simp only [h2, R.bind_ok]
    cases hp : p a with
    | false =>
      rw [List.filter_cons_of_neg (by simp [hp])]
      simpa using ih
    | true =>
      rw [List.filter_cons_of_pos hp, List.mapM_cons]
      have h3 := h3 hp
      cases hg : g a with
      | none =>
        rw [hg] at h3
        simp only [h3]
        simp
      | some b =>
        rw [hg] at h3
        simp only [h3.1, R.bind_ok, h3.2, if_true, ih]
        cases (as.filter p).mapM g with
        | none => simp
        | some ys => simp [encL]
theorem lcRE_enc (x : String) (xs : List α) (p : α → Bool) (g : α → Option β) (hl : xs.length ≤ 16777216) (h : ∀ a ∈ xs, ∃ e, tg (fa a) (wipeE env vs) = some e ∧ c e = .ok (p a) ∧ (p a = true → (match g a with | some b => f e = .ok (fb b) ∧ (fb b).sto = true | none => f e = .er x))) :
    xLcRE tg c f vs env (encL fa xs) = match (xs.filter p).mapM g with | some ys => .ok (.lst .ow (encL fb ys)) | none => .er x := by
  unfold xLcRE
  rw [if_pos (by simpa using hl), lcGoE_enc x p g xs h]
  cases (xs.filter p).mapM g <;> rfl
end
end BC

namespace BC
open PySem PySem.Spec PyProof.Rows L2
/-! ## for .. in x, x a list or a tuple -/
def srcA : D → Option (Bool × List D)
  | .tup xs => srcT (.tup xs)
  | d => srcL d
@[simp] theorem srcA_tup (xs : List D) : srcA (.tup xs) = srcT (.tup xs) := rfl
@[simp] theorem srcA_lst (k : Kd) (xs : List D) : srcA (.lst k xs) = srcL (.lst k xs) := rfl
def xSrcA (f : Env → R D) : Env → R (Bool × List D) := fun env => do
  let d ← f env
  R.of (srcA d)
@[simp] theorem xSrcA_eq (f : Env → R D) (env : Env) : xSrcA f env = f env >>= fun d => R.of (srcA d) := (rfl)
theorem si_any {X : Cx} {W : WC} {f : Env → R D} {tg e : Expr} (h : PE X e (tF X.K W f)) : PI X tg e (tI X.K W (xSrcA f)) := ⟨fun pins s σ H R' I ⟨env, B, i, sl, hh⟩ => by
  unfold xSrcA at hh
  cases ef : f env with
  | ok d =>
    rw [ef] at hh
    cases d with
    | tup xs => exact (si_tup h).run pins s σ H R' I ⟨env, B, i, sl, by unfold xSrcT; rw [ef]; exact hh⟩
    | _ => exact (si_list h).run pins s σ H R' I ⟨env, B, i, sl, by unfold xSrc; rw [ef]; exact hh⟩
  | er c => exact (si_list h).run pins s σ H R' I ⟨env, B, i, sl, by unfold xSrc; rw [ef]; rw [ef] at hh; exact hh⟩
  | no => rw [ef] at hh; exact hh.elim⟩
end BC

namespace BC
open PySem PySem.Spec PyProof.Rows L2
/-! ## for .. in a text -/
def chD (x : Str) : List D := x.cps.toList.map fun c => D.str ⟨#[c]⟩
def srcS : D → Option (Bool × List D)
  | .str x => some (false, chD x)
  | _ => none
@[simp] theorem srcS_str (x : Str) : srcS (.str x) = some (false, chD x) := rfl
def xSrcS (f : Env → R D) : Env → R (Bool × List D) := fun env => do
  let d ← f env
  R.of (srcS d)
@[simp] theorem xSrcS_eq (f : Env → R D) (env : Env) : xSrcS f env = f env >>= fun d => R.of (srcS d) := (rfl)
theorem wk_str {K : PySem.W.Frag} {B Hs : Hp} (x : Str) : Wk K B Hs (Its x) (chD x) := fun i B1 H e1 e2 e3 => by
  refine ⟨fun d hd => ?_, fun hn => ?_⟩
  · unfold chD at hd
    rw [List.getElem?_map] at hd
    cases hc : x.cps.toList[i]? with
    | none => rw [hc] at hd; cases hd
    | some c =>
      rw [hc] at hd
      cases hd
      have hca : x.cps[i]? = some c := by rw [← hc]; simp
      refine ⟨(Array.getElem?_eq_some_iff.mp hca).1, fun y H' hy => ?_⟩
      obtain ⟨eH, c', hc', hy⟩ := hy
      subst eH
      rw [hca] at hc'
      cases hc'
      subst hy
      exact ⟨B1, .refl e2, by unfold Rp; exact ⟨rfl, rfl⟩⟩
  · unfold chD at hn
    rw [List.getElem?_map, Option.map_eq_none_iff, List.getElem?_eq_none_iff] at hn
    show x.cps.size ≤ i
    simpa using hn
theorem si_str {X : Cx} {W : WC} {f : Env → R D} {tg e : Expr} (h : PE X e (tF X.K W f)) : PI X tg e (tI X.K W (xSrcS f)) := by
  refine piI (pi_str h) fun σ H R' ⟨env, B, i, s, h⟩ => ?_
  refine seqE (P := PstI X.K W B H σ R') i s h (fun c z => z) (fun z => z) fun d v B1 H1 q e1 h1 st1 r nd fr => ?_
  cases d with
  | str x =>
    obtain ⟨rfl, rfl⟩ : v = .str x ∧ q = [] := r
    exact ⟨x, rfl, h1 (Its x) B1 H1 st1 (wk_str x)⟩
  | _ => exact h1.elim
end BC

namespace BC
open PySem PySem.Spec PyProof.Rows L2
/-! ## a name takes an item of a name's tuple: what is left there is known by its place alone -/
def D.isRef : D → Bool
  | .lst _ _ => true
  | .tup _ => true
  | .loc _ => true
  | _ => false
@[simp] theorem isRef_lst (k : Kd) (xs : List D) : D.isRef (.lst k xs) = true := rfl
@[simp] theorem isRef_tup (xs : List D) : D.isRef (.tup xs) = true := rfl
theorem rp_ref {K : PySem.W.Frag} {B H : Hp} {d : D} {v : V} {ps : List Addr} (h : d.isRef = true) (r : Rp K B H d v ps) : ∃ a, v = .ref a := by
  cases d with
  | lst k xs => unfold Rp at r; obtain ⟨a, _, _, e, _⟩ := r; exact ⟨a, e⟩
  | tup xs => unfold Rp at r; obtain ⟨a, _, e, _⟩ := r; exact ⟨a, e⟩
  | loc a => exact ⟨a, r.1⟩
  | _ => cases h
theorem rps_part {K : PySem.W.Frag} {B H : Hp} : ∀ {ds : List D} {vs : List V} {qs : List Addr} {k : Nat} {d : D}, Rps K B H ds vs qs → ds[k]? = some d → ∃ v q1 q2 q3, vs[k]? = some v ∧ qs = q1 ++ (q2 ++ q3) ∧ Rp K B H d v q2 ∧ ∀ a, v = .ref a → Rps K B H (ds.set k (.loc a)) vs (q1 ++ q3)
  | [], _, _, k, d, _, e => by simp at e
  | x :: ds, vs, qs, 0, d, r, e => by
    unfold Rps at r
    obtain ⟨v, vr, p, q, e1, e2, r1, r2⟩ := r
    simp at e
    subst e e1 e2
    refine ⟨v, [], p, q, rfl, rfl, r1, fun a ea => ?_⟩
    show Rps K B H (.loc a :: ds) (v :: vr) q
    unfold Rps
    exact ⟨v, vr, [], q, rfl, rfl, ⟨ea, rfl⟩, r2⟩
  | x :: ds, vs, qs, k + 1, d, r, e => by
    unfold Rps at r
    obtain ⟨v, vr, p, q, e1, e2, r1, r2⟩ := r
    simp at e
    subst e1 e2
    obtain ⟨w, q1, q2, q3, h1, h2, h3, h4⟩ := rps_part r2 e
    refine ⟨w, p ++ q1, q2, q3, by simpa using h1, by rw [h2]; simp, h3, fun a ea => ?_⟩
    show Rps K B H (x :: ds.set k (.loc a)) (v :: vr) (p ++ q1 ++ q3)
    unfold Rps
    exact ⟨v, vr, p, q1 ++ q3, rfl, by simp, r1, h4 a ea⟩
def mvIxK (i j k : Nat) (env : Env) (Q : Ou → Prop) : Option (Option D) → Prop
  | some (some (.tup ds)) => ∃ d, ds[k]? = some d ∧ d.isRef = true ∧ ∀ a, Q (.nx ((env.set j (some (.tup (ds.set k (.loc a))))).set i (some d)))
  | _ => False
def gMvIx (i j k : Nat) : G := fun env Q => mvIxK i j k env Q env[j]?
@[simp] theorem gMvIx_eq (i j k : Nat) (env : Env) (Q : Ou → Prop) : gMvIx i j k env Q = mvIxK i j k env Q env[j]? := rfl
@[simp] theorem mvIxK_0 (i j : Nat) (env : Env) (Q : Ou → Prop) (d : D) (ds : List D) : mvIxK i j 0 env Q (some (some (.tup (d :: ds)))) = (d.isRef = true ∧ ∀ a, Q (.nx ((env.set j (some (.tup (.loc a :: ds)))).set i (some d)))) := by
  unfold mvIxK
  simp
section
variable {X : Cx} {W : WC} {e : Expr} {pos : Pos}
theorem ss_mvIx (i j k : Nat) {x : Str} {pos' : Pos} (hij : i ≠ j) (hN : X.N.Nodup) (he : PE X e (tPl X.K W j [xC (.int (k : Nat))])) (hi : X.N[i]? = some x := by rfl) (hx : Loc X.env.scope x := by first | exact Or.inl rfl | exact Or.inr rfl) (hs : swapsWith e (some (.Name x pos')) pos.line X.env = pure false := by rfl) (hf : X.fn x = true ∨ X.env.scope.names.lookup x = some .local := by first | exact .inl rfl | exact .inr rfl | assumption) :
    PS X (.Assign [.Name x pos'] e pos) (tG X.K W (gMvIx i j k)) := by
  refine psI (ps_set hN hi hx he hs hf) fun De σ H ⟨Bf, Hf, B0, H0, env, Q, ⟨B, ps, s⟩, h, eo⟩ => ?_
  have h' : mvIxK i j k env Q env[j]? := h
  unfold mvIxK at h'
  split at h'
  · rename_i ds ey
    obtain ⟨d, hd, hr, q⟩ := h'
    have hlt : k < ds.length := (List.getElem?_eq_some_iff.mp hd).1
    have hg : getP (.tup ds) [(k : Int)] = some d := by
      show (L2.atI ds (k : Int)).bind _ = _
      rw [atI_natc, hd]
      rfl
    refine runP ey (gs := [xC (.int (k : Nat))]) (π := [(k : Int)]) rfl hg s fun v0 v B2 H2 p2 hv0 hsel st2 s2 r2 => ?_
    obtain ⟨w, hw, hy, rw0, ndw, s3, f3⟩ := s2.take ey
    rw [hv0] at hw
    cases hw
    obtain ⟨a, vs, ev, hH, rr⟩ := rp_tupX rw0
    obtain ⟨u, q1, q2, q3, hu, hq, ru, hl⟩ := rps_part rr hd
    have hvu : v = u := by
      rw [ev, sel_tup hH, atI_natc, hu] at hsel
      cases hsel
      rfl
    subst hvu
    obtain ⟨b, hb⟩ := rp_ref hr ru
    rw [hq] at ndw
    have nd13 : (q1 ++ q3).Nodup := ndw.sublist (List.Sublist.append (List.Sublist.refl _) (List.sublist_append_right _ _))
    have nd2 : q2.Nodup := (ndw.sublist (List.sublist_append_right _ _)).sublist (List.sublist_append_left _ _)
    have hdis : ∀ t ∈ q2, t ∉ q1 ++ q3 := by
      intro t ht z
      rw [List.nodup_append] at ndw
      obtain ⟨n1, n2, n3⟩ := ndw
      rw [List.nodup_append] at n2
      rcases List.mem_append.mp z with z | z
      · exact n3 t z t (List.mem_append_left _ ht) rfl
      · exact n2.2.2 t ht t z rfl
    have hst : D.stos ds = true := by simpa [BC.D.sto] using hy
    have s4 := s3.set (j := j) (d := .tup (ds.set k (.loc b))) (v := v0) (qs := q1 ++ q3) (by show D.stos (ds.set k (.loc b)) = true; exact stos_set hst rfl) (by unfold Rp; exact ⟨a, vs, ev, hH, hl b hb⟩) nd13 (fun t ht => by
      have hm : t ∈ ps j := by rw [hq]; rcases List.mem_append.mp ht with z | z <;> simp [z]
      obtain ⟨h1, h2, h3, h4⟩ := f3 t hm
      exact ⟨h1, h2, h3, fun l hl => h4 l⟩)
    have s5 := s4.set (j := i) (d := d) (v := v) (qs := q2) (stos_at hst hd) ru nd2 (fun t ht => by
      have hm : t ∈ ps j := by rw [hq]; simp [ht]
      obtain ⟨h1, h2, h3, h4⟩ := f3 t hm
      refine ⟨h1, h2, h3, fun l hl z => ?_⟩
      by_cases hlj : l = j
      · rw [if_pos hlj] at z
        exact hdis t ht z
      · rw [if_neg hlj, if_neg hlj] at z
        have := h4 l
        simp only [if_neg hlj] at this
        exact this z)
    have e1 : σ.set j (some v0) = σ := by
      obtain ⟨hj, hv⟩ := List.getElem?_eq_some_iff.mp hv0
      rw [← hv]
      exact List.set_getElem_self hj
    rw [e1, List.set_set] at s5
    exact eo.nx _ (q b) _ _ ⟨B2, _, s5⟩
  · exact h'.elim
/-! ## return NAME, e: the name's own value -/
def retTeK (f : Env → R D) (env : Env) (Q : Ou → Prop) : Option (Option D) → Prop
  | some (some a) => gEv (f env) env Q fun d => d.sto = true ∧ Q (.rt (.tup [a, d]))
  | _ => False
def gRetTe (i : Nat) (f : Env → R D) : G := fun env Q => retTeK f env Q env[i]?
@[simp] theorem gRetTe_eq (i : Nat) (f : Env → R D) (env : Env) (Q : Ou → Prop) : gRetTe i f env Q = retTeK f env Q env[i]? := rfl
@[simp] theorem retTeK_some (f : Env → R D) (env : Env) (Q : Ou → Prop) (a : D) : retTeK f env Q (some (some a)) = gEv (f env) env Q fun d => d.sto = true ∧ Q (.rt (.tup [a, d])) := rfl
theorem ss_retTe (i : Nat) {f : Env → R D} {x : Str} {px pt : Pos} {k : Nat} (hx : PE X (.Name x px) (tVar i)) (he : PE X e (tF X.K W f))
    (hs1 : starEach [.Name x px, e] X.env = (false, eval (.Name x px) X.env) :: starEach [e] X.env := by rfl) (hs2 : starEach [e] X.env = (false, eval e X.env) :: starEach [] X.env := by rfl) :
    PS X (.Return (some (.Tuple [.Name x px, e] k pt)) pos) (tG X.K W (gRetTe i f)) := by
  refine psI (ps_ret (pe_tup (pa_cons hx (pa_cons he pa_nil hs2) hs1))) fun De σ H ⟨Bf, Hf, B0, H0, env, Q, ⟨B, ps, s⟩, h, eo⟩ => ?_
  have h0 : retTeK f env Q env[i]? := h
  unfold retTeK at h0
  split at h0
  case h_2 => exact h0.elim
  rename_i a ea
  have h' : gEv (f env) env Q fun d => d.sto = true ∧ Q (.rt (.tup [a, d])) := h0
  obtain ⟨_, v, h1, h2⟩ := s.sl i a ea
  refine ⟨v, h1, ?_⟩
  refine runE2 (Q := Q) s h' (fun c q => eo.rz c env q) fun d w B1 H1 q1 kd s1 st1 r1 nd1 fr1 => ?_
  obtain ⟨hd, hq⟩ := kd
  refine ⟨by show ([v, w] : List V).length ≤ sizeLine; rw [sizeLine_eq]; simp, fun p hp => ?_⟩
  have hs : Same H1 (upd H1 p (.tup [v, w])) := same_upd hp
  have hst : Step B1 H1 B1 (upd H1 p (.tup [v, w])) := ⟨.refl _, hs, s1.st.i.trans hs, fun _ _ h _ => h⟩
  refine eo.rt _ hq (.ref p) _ ⟨B1, ps i ++ q1, s1.st.trans hst, ?_, ?_, fun q hq => ?_⟩
  · unfold Rp
    refine ⟨p, [v, w], rfl, upd_same, ?_⟩
    unfold Rps
    refine ⟨v, [w], ps i, q1, rfl, rfl, rp_mono st1.b (st1.h.trans hs) h2, ?_⟩
    unfold Rps
    refine ⟨w, [], q1, [], rfl, by simp, rp_mono (.refl _) hs r1, ?_⟩
    unfold Rps
    exact ⟨rfl, rfl⟩
  · exact nodup_later (B := B) (H := H) h2 (s.nd i) nd1 fr1
  · rcases List.mem_append.mp hq with z | z
    · exact ⟨(s1.ow i q z).1, (s1.ow i q z).2.2.1⟩
    · have := s.fresh st1 fr1 q z
      exact ⟨this.1, this.2.2.1⟩
end
end BC

namespace BC
open PySem PySem.Spec PyProof.Rows L2
/-! ## defs with defaults -/
structure FxD (K : PySem.W.Frag) (mg : Str → Option Value) (x : Str) (st : Stmt) (f : Addr) (fd : FuncData) (ps : List Str) (dvs : List V) : Prop where
  F : FunD K x x (defArgs st) (defBody st) (defScope st) dvs [] f fd
  g : mg x = some (.ref f)
  b : Binds K fd ps []
  bd : ∃ ds, Vals dvs ds ∧ Binds K fd ps ds
theorem okDD {P : Program} {w : World} {K : PySem.W.Frag} {mg : Str → Option Value} {base : Heap} {cl : String → Addr} {x qual : Str} {st : Stmt} {f : Addr} {fd : FuncData} {dvs : List V} {N ps : List Str} {k n : Nat} {m : List D → R D} {g : G} (F : FunD K x qual (defArgs st) (defBody st) (defScope st) dvs [] f fd) (S : FnScope N ps (defScope st)) (hn : n = ps.length) (hN : ps.length ≤ N.length)
    (hm : ∀ ds, ds.length = n → D.stos ds = true → m ds ≠ .no → g (env0 N ds) (Out (m ds)))
    (hd : ∀ (cdv : Value) (A : Around) (outer : List PySem.Env) (s : Shared) (H : Hp) (E : XK), Room k (A.deeper (envOfC qual (defScope st) s.heap.objs.size f cdv)) →
      PSs (cxOf (L2.CX P w) P w K mg base N qual (defScope st) f cdv A outer s H E) (defBody st) (tG K (fun c _ H => E (.ref (cl c)) none H) g)) : FnOk P w K mg base (L2.CX P w) (k + 1) f fd ps (Ctr K cl n m) := by
  subst hn
  refine F.ok S (fun vs H Q E h => ?_) (fun cdv A outer s H vs Q E hr h => ⟨_, hd cdv A outer s H E hr, ?_⟩)
  · obtain ⟨B, ds, _, _, _, e, _⟩ := h
    exact e
  · obtain ⟨B, ds, i, r, hs, hl, q⟩ := h
    have hl2 : ds.length = ps.length := by rw [← rps_len r]; exact hl
    have hno : m ds ≠ .no := fun z => by rw [z] at q; exact q.elim
    refine ⟨B, H, B, H, env0 N ds, Out (m ds), ⟨B, fun _ => [], ⟨.refl _, .refl _, .refl i, ?_, fun j d e => ?_, fun _ => .nil, fun _ _ p hp => by (cases hp), fun _ p hp => by (cases hp)⟩⟩, hm ds hl2 hs hno, ?_⟩
    · unfold L2.start env0
      simp [hl, hl2]
    · unfold env0 at e
      by_cases hj : j < ds.length
      · rw [List.getElem?_append_left (by simpa using hj), List.getElem?_map, Option.map_eq_some_iff] at e
        obtain ⟨d', e1, e2⟩ := e
        cases e2
        obtain ⟨v, h1, h2⟩ := rps_get r e1
        refine ⟨stos_at hs e1, v, ?_, h2⟩
        unfold L2.start
        rw [List.getElem?_append_left (by rw [List.length_map]; exact (List.getElem?_eq_some_iff.mp h1).1), List.getElem?_map, h1]
        rfl
      · rw [List.getElem?_append_right (by simpa using hj)] at e
        rw [List.getElem?_replicate] at e
        split at e <;> cases e
    · have rt : ∀ d, m ds = .ok d → ∀ v H', RetOk K B H H' d v → Q v H' := fun d e v H' ⟨B', qs, st, rp, nd, fr⟩ => by
        rw [e] at q
        exact q v B' H' qs st rp nd fr
      refine ⟨fun e z σ H' s' => ?_, fun e z => z.elim, fun e z => z.elim, fun d z v H' r => rt d z v H' r, fun c e z σ H' s' => ?_⟩
      · obtain ⟨B', ps', s'⟩ := s'
        exact rt .non z .non H' ⟨B', [], s'.st, by unfold Rp; exact ⟨rfl, rfl⟩, .nil, by intro q hq; cases hq⟩
      · replace z : m ds = .er c := z
        obtain ⟨B', ps', s'⟩ := s'
        rw [z] at q
        exact q H' s'.st.h
/-- a call that leaves the last parameters to their defaults -/
def xApp (fs : Env → R (List D)) (dd : List D) : Env → R (List D) := fun env => fs env >>= fun ds => R.ok (ds ++ dd)
@[simp] theorem xApp_eq (fs : Env → R (List D)) (dd : List D) (env : Env) : xApp fs dd env = fs env >>= fun ds => R.ok (ds ++ dd) := rfl
theorem frzs_app' : ∀ ds es : List D, D.frzs (ds ++ es) = D.frzs ds ++ D.frzs es
  | [], _ => rfl
  | d :: ds, es => by
    show d.frz :: D.frzs (ds ++ es) = _
    rw [frzs_app' ds es]
    rfl
theorem stos_app' : ∀ ds es : List D, D.stos (ds ++ es) = (D.stos ds && D.stos es)
  | [], _ => by simp [D.stos]
  | d :: ds, es => by
    simp only [List.cons_append, D.stos, stos_app' ds es, Bool.and_assoc]
section
variable {X : Cx} {W : WC} {cl : String → Addr} {e : Expr} {es : List Expr} {fs : Env → R (List D)} {pos : Pos}
theorem tCallSD_of {m : List D → R D} {n : Nat} {σ : L2.St} {H : Hp} {Q : VK} {dd : List D} {dvs : List V} (hdd : ∀ B H, Rps X.K B H dd dvs []) (h : tF X.K W (xCall m (xApp fs dd)) σ H Q) (hn : ∀ env ds, fs env = .ok ds → ds.length + dd.length = n) : tCallSD (Ctr X.K cl n m) dvs (WE (wx cl W)) (tFA X.K W fs) σ H Q := by
  obtain ⟨env, B, i, s, h⟩ := h
  have h' : Pst X.K W B H σ Q (fs env >>= fun ds0 => (if D.stos (ds0 ++ dd) = true then m (D.frzs (ds0 ++ dd)) else m (D.frzs (ds0 ++ dd)) >>= fun r => if r.nsc = true then R.ok r.unf else R.no)) := by
    have e : xCall m (xApp fs dd) env = fs env >>= fun ds0 => (if D.stos (ds0 ++ dd) = true then m (D.frzs (ds0 ++ dd)) else m (D.frzs (ds0 ++ dd)) >>= fun r => if r.nsc = true then R.ok r.unf else R.no) := by
      unfold xCall xApp
      cases fs env <;> rfl
    rw [← e]
    exact h
  refine seqA (P := Pst X.K W B H σ Q) i s h' (fun c z => z) (fun z => z) fun ds0 vs0 B1 H1 q e1 h1 st1 r10 nd1 fr1 => ?_
  have r1 : Rps X.K B1 H1 (ds0 ++ dd) (vs0 ++ dvs) q := by
    have := rps_app r10 (hdd B1 H1)
    rwa [List.append_nil] at this
  have hlen : (ds0 ++ dd).length = n := by rw [List.length_append]; exact hn env ds0 e1
  show Ctr X.K cl n m (vs0 ++ dvs) H1 Q _
  generalize vs0 ++ dvs = vs at *
  generalize ds0 ++ dd = ds at *
  by_cases hs : D.stos ds = true
  · simp only [hs, if_true] at h1
    have k1 : Same B1 (ovr B1 H1 q) := same_ovr st1.i
    have r2 : Rps X.K (ovr B1 H1 q) H1 (D.frzs ds) vs [] := rps_frz k1 hs (fun p hp o ho => ovr_mem hp ho) r1
    have st2 : Step B H (ovr B1 H1 q) H1 := ⟨st1.b.trans k1, st1.h, ovr_same st1.i, fun p xs hb hh => ovr_none (fun z => by rw [(fr1 p z).1] at hh; cases hh) (st1.n p xs hb hh)⟩
    refine ⟨ovr B1 H1 q, D.frzs ds, ovr_same st1.i, r2, stos_frzs ds, by rw [rps_len r1]; exact hlen, ?_⟩
    cases em : m (D.frzs ds) with
    | ok d =>
      rw [em] at h1
      exact fun v B3 H3 q3 st3 r3 nd3 fr3 => h1 v B3 H3 q3 (st2.trans st3) r3 nd3 (fr3.back st1.h)
    | er c =>
      rw [em] at h1
      exact fun H3 z => ⟨c, rfl, rfl, h1 H3 (st1.h.trans z)⟩
    | no => rw [em] at h1; exact h1
  · simp only [hs] at h1
    have r2 : Rps X.K H1 H1 (D.frzs ds) vs [] := rps_all st1.i r1
    refine ⟨H1, D.frzs ds, .refl _, r2, stos_frzs ds, by rw [rps_len r1]; exact hlen, ?_⟩
    cases em : m (D.frzs ds) with
    | ok d =>
      rw [em] at h1
      have h2 : Pst X.K W B H σ Q (if d.nsc = true then R.ok d.unf else R.no) := h1
      by_cases hk : d.nsc = true
      · rw [if_pos hk] at h2
        refine fun v B3 H3 q3 st3 r3 nd3 fr3 => h2 v B1 H3 q3 ⟨st1.b, st1.h.trans st3.h, st1.i.trans st3.h, fun p xs hb hh => st1.n p xs hb hh⟩ (rp_unf st3.i hk r3) nd3 fun t ht => ⟨st1.h.free (fr3 t ht).1, st1.i.free (fr3 t ht).1⟩
      · rw [if_neg hk] at h2
        exact h2.elim
    | er c =>
      rw [em] at h1
      exact fun H3 z => ⟨c, rfl, rfl, h1 H3 (st1.h.trans z)⟩
    | no => rw [em] at h1; exact h1
theorem se_callD {x : Str} {k j : Nat} {f : Addr} {fd : FuncData} {ps : List Str} {m : List D → R D} {n : Nat} {p : Pos} {dd : List D} {dvs : List V} (hdd : ∀ B H, Rps X.K B H dd dvs []) (F : FnOk X.prog X.w X.K X.mg X.base (L2.CX X.prog X.w) k f fd ps (Ctr X.K cl n m)) (hr : Room j X.A) (hj : k ≤ j) (hg : Gl X x) (hm : X.mg x = some (.ref f)) (hk : PySem.W.keepIn X.K (.ref f) = true) (hb : ∃ ds, Vals dvs ds ∧ Binds X.K fd ps ds) (tk : Takes X (wx cl W))
    (ha : PA X (e :: es) (tFA X.K W fs)) (hn : ∀ env ds, fs env = .ok ds → ds.length + dd.length = n) (hdb : (x == ("__debug__" : Str)) = false := by decide) (he : starEach (e :: es) X.env = (false, eval e X.env) :: starEach es X.env := by rfl) (hpl : (backTo pos (starEach es X.env)).any (·.1) = false := by rfl) :
    PE X (.Call (.Name x p) (e :: es) [] pos) (tF X.K W (xCall m (xApp fs dd))) := by
  obtain ⟨ds, hd, hb⟩ := hb
  exact peI (pe_callSD F (hr.mono hj) hg hm hk hb hd (fun σ => passAt tk σ) ha hdb he hpl) fun _ _ _ h => tCallSD_of hdd h hn
theorem rps_int1 {K : PySem.W.Frag} (i : Int) (B H : Hp) : Rps K B H [.int i] [.int i] [] := by
  unfold Rps
  exact ⟨.int i, [], [], [], rfl, rfl, ⟨rfl, rfl⟩, ⟨rfl, rfl⟩⟩
theorem xaD {fs : Env → R (List D)} {n d : Nat} (h : ∀ env ds, fs env = .ok ds → ds.length = n) : ∀ env ds, fs env = .ok ds → ds.length + d = n + d := fun env ds e => by rw [h env ds e]
end
end BC

namespace BC
open PySem PySem.Spec PyProof.Rows L2
/-! ## x in LIST, of data in data -/
def inDD (neg : Bool) : D → D → Option D
  | a, .lst k xs => if a.cmpOk && (D.lst k xs).cmpOk then some (.bl (if neg then !(xs.any fun z => z.eqv a) else xs.any fun z => z.eqv a)) else none
  | _, _ => none
theorem pys_any (a : PyData) : ∀ xs : List D, ((D.pys xs).any fun z => PyData.eqv z a) = xs.any fun z => PyData.eqv z.py a
  | [] => rfl
  | x :: xs => by
    show (PyData.eqv x.py a || (D.pys xs).any _) = _
    rw [pys_any a xs]
    rfl
theorem o2_inDD {K : PySem.W.Frag} : Op2 K (rInD K) (inDD false) := by
  intro a b d x y B H p q Q e i ra rb nd fb h
  unfold inDD at e
  split at e
  · rename_i k xs
    split at e
    · rename_i hz
      cases e
      simp only [D.cmpOk, Bool.and_eq_true] at hz
      refine ⟨_, _, rp_dp i hz.1.1 ra, rp_dp i hz.2.1 rb, hz.1.2, hz.2.2, ?_⟩
      rw [pys_any]
      exact okO_bl i h
    · cases e
  · cases e
theorem o2_notInDD {K : PySem.W.Frag} : Op2 K (rNotInD K) (inDD true) := by
  intro a b d x y B H p q Q e i ra rb nd fb h
  unfold inDD at e
  split at e
  · rename_i k xs
    split at e
    · rename_i hz
      cases e
      simp only [D.cmpOk, Bool.and_eq_true] at hz
      refine ⟨_, _, rp_dp i hz.1.1 ra, rp_dp i hz.2.1 rb, hz.1.2, hz.2.2, ?_⟩
      rw [pys_any]
      exact okO_bl i h
    · cases e
  · cases e
theorem any_enc {α : Type} {f : α → D} (p : D → Bool) : ∀ xs : List α, (encL f xs).any p = xs.any fun x => p (f x)
  | [] => rfl
  | x :: xs => by
    rw [encL_cons, List.any_cons, any_enc p xs]
    rfl
theorem hr65 {k : Nat} {A : Around} (r : Room k A) : A.units + 65 < cLine := by have := r.un; omega
end BC

namespace BC
open PySem PySem.Spec PyProof.Rows L2

/-! ## for .. in NAME (and others), NAME an owned list that is owned again behind the loop -/
def frzA (env : Env) : Env := env.map (Option.map D.frz)
def thQ (i : Nat) (a : Addr) (xs : List D) (Q : Ou → Prop) : Ou → Prop
  | .nx e => e[i]? = some (some (.loc a)) ∧ Q (.nx ((List.replicate e.length none).set i (some (.lst .ow xs))))
  | .rt d => Q (.rt d)
  | .rz c e => Q (.rz c e)
  | _ => False
def gForH (i : Nat) (src : Env → R (Bool × List D)) (tg : Tgt) (g : G) : G := fun env Q => ∃ xs, env[i]? = some (some (.lst .ow xs)) ∧ ∀ a, gEv (src (frzA env)) (frzA env) (thQ i a xs Q) fun s => s.1 = false ∧ gForL tg g s.2 ((frzA env).set i (some (.loc a))) (thQ i a xs Q)
@[simp] theorem thQ_nx (i : Nat) (a : Addr) (xs : List D) (Q : Ou → Prop) (e : Env) : thQ i a xs Q (.nx e) = (e[i]? = some (some (.loc a)) ∧ Q (.nx ((List.replicate e.length none).set i (some (.lst .ow xs))))) := rfl
@[simp] theorem thQ_rt (i : Nat) (a : Addr) (xs : List D) (Q : Ou → Prop) (d : D) : thQ i a xs Q (.rt d) = Q (.rt d) := rfl
@[simp] theorem thQ_rz (i : Nat) (a : Addr) (xs : List D) (Q : Ou → Prop) (c : String) (e : Env) : thQ i a xs Q (.rz c e) = Q (.rz c e) := rfl
@[simp] theorem frzA_cons (o : Option D) (e : Env) : frzA (o :: e) = o.map D.frz :: frzA e := rfl
@[simp] theorem frzA_nil : frzA [] = [] := rfl
section
variable {K : PySem.W.Frag} {W : WC} {Bf Hf B0 H0 B H : Hp} {σ : L2.St} {env : Env} {ps : Nat → List Addr}
/-- all is frozen -/
theorem SRb.frzA (s : SRb K Bf Hf B0 H0 σ H env B ps) : ∃ B2, Same B B2 ∧ SRb K Bf Hf B0 H0 σ H (frzA env) B2 fun _ => [] := by
  have k1 : Same B (ovr B H ((List.range env.length).flatMap ps)) := same_ovr s.st.i
  refine ⟨_, k1, s.fb.trans k1, s.fh, ⟨s.st.b.trans k1, s.st.h, ovr_same s.st.i, fun p vs hb hh => ovr_none (fun z => ?_) (s.st.n p vs hb hh)⟩, by simp [BC.frzA, s.len], fun i d e => ?_, fun _ => List.nodup_nil, fun i j p h => (by cases h), fun i p h => (by cases h)⟩
  · obtain ⟨i, _, hz⟩ := List.mem_flatMap.mp z
    rw [(s.ow i p hz).1] at hh
    cases hh
  · unfold BC.frzA at e
    rw [List.getElem?_map] at e
    cases e2 : env[i]? with
    | none => rw [e2] at e; cases e
    | some o =>
      rw [e2] at e
      cases o with
      | none => cases e
      | some d0 =>
        cases e
        obtain ⟨h0, v, h1, h2⟩ := s.sl i d0 e2
        have hi := (List.getElem?_eq_some_iff.mp e2).1
        refine ⟨by have := stos_frzs [d0]; simpa [D.frzs, D.stos] using this, v, h1, ?_⟩
        exact rp_frz k1 h0 (fun p hp o ho => ovr_mem (List.mem_flatMap.mpr ⟨i, List.mem_range.mpr hi, hp⟩) ho) h2
theorem SRb.hide {i : Nat} {a : Addr} (s : SRb K Bf Hf B0 H0 σ H env B fun _ => []) (hv : σ[i]? = some (some (V.ref a))) : SRb K Bf Hf B0 H0 σ H (env.set i (some (.loc a))) B fun _ => [] :=
  ⟨s.fb, s.fh, s.st, by simp [s.len], fun j d e => by
    by_cases h : i = j
    · subst h
      rw [List.getElem?_set] at e
      split at e
      · split at e
        · cases e
          exact ⟨rfl, _, hv, rfl, rfl⟩
        · cases e
      · rename_i z; exact absurd rfl z
    · rw [List.getElem?_set_ne h] at e
      exact s.sl j d e, s.nd, s.dj, s.ow⟩
theorem thaw_ok {De : Ends} {Q : Ou → Prop} {i : Nat} {a : Addr} {xs : List D} (s : SRb K Bf Hf B0 H0 σ H env B ps) (hx : env[i]? = some (some (.lst .ow xs))) (hv : σ[i]? = some (some (V.ref a))) (eo : EOk K W Bf Hf B0 H0 De Q) : EOk K W B H B0 H0 De (thQ i a xs Q) where
  nx e q σ' H' := fun ⟨B1, ps1, s1⟩ => by
    obtain ⟨q1, q2⟩ := q
    obtain ⟨_, v', hv', hr'⟩ := s1.sl i _ q1
    obtain ⟨hst, v, hv2, hr⟩ := s.sl i _ hx
    rw [hv] at hv2
    cases hv2
    obtain ⟨hva, _⟩ : v' = V.ref a ∧ _ := hr'
    subst hva
    have hi : i < e.length := (List.getElem?_eq_some_iff.mp q1).1
    refine eo.nx _ q2 σ' H' ⟨B, fun k => if k = i then ps i else [], s.fb, s.fh.trans s1.fh, ⟨s.st.b, s.st.h.trans s1.fh, s.st.i.trans s1.fh, s.st.n⟩, by simp [s1.len], fun j d ed => ?_, fun j => ?_, fun j k p h1 h2 => ?_, fun j p hp => ?_⟩
    · by_cases h : i = j
      · subst h
        rw [List.getElem?_set, if_pos rfl, if_pos (by simpa using hi)] at ed
        cases ed
        refine ⟨hst, _, hv', ?_⟩
        rw [if_pos rfl]
        exact rp_mono (.refl _) s1.fh hr
      · rw [List.getElem?_set_ne h, List.getElem?_replicate] at ed
        split at ed <;> cases ed
    · split
      · exact s.nd i
      · exact List.nodup_nil
    · split at h1
      · split at h2
        · rename_i x y; rw [x, y]
        · cases h2
      · cases h1
    · split at hp
      · obtain ⟨h1, h2, h3, o, h4, h5⟩ := s.ow i p hp
        exact ⟨h1, h2, h3, o, s1.fh p o h4, h5⟩
      · cases hp
  bk e q := q.elim
  ct e q := q.elim
  rt d q v H' := eo.rt d q v H'
  rz c e q σ' H' := fun ⟨B1, ps1, s1⟩ => eo.rz c e q σ' H' ⟨B1, ps1, s1.floor (s.fb.trans s1.fb) (s.fh.trans s1.fh) fun j p hp => by
    have := (s1.ow j p hp).2.1
    cases h : Hf p with
    | none => rfl
    | some o => rw [s.fh p o h] at this; cases this⟩
end
section
variable {X : Cx} {W : WC} {g : G} {pos : Pos}
theorem ss_forH (i0 : Nat) {tgx iter : Expr} {body : List Stmt} {src : Env → R (Bool × List D)} {gt : TG} {tg : Tgt} (hp : PassesOwn (model X.prog X.w) X.A X.env X.xe) (hc : X.calm = true) (hi : PI X tgx iter (tI X.K W src)) (hg : PG X tgx gt) (htg : TgS X.K gt tg) (hb : PSs X body (tG X.K W g))
    (hs : ∀ x, foldedSetIterable iter X.env x = pure x := by intro _; rfl) : PS X (.For tgx iter body [] pos) (tG X.K W (gForH i0 src tg g)) := by
  refine psI (ps_for hp hc hi hg hb hs) fun De σ H ⟨Bf0, Hf0, B0, H0, env0, Q0, ⟨Bs, pss, sO⟩, hO, eoO⟩ => ?_
  obtain ⟨ys, hx0, hall⟩ := hO
  obtain ⟨_, v0, hv0, hr0⟩ := sO.sl i0 _ hx0
  obtain ⟨a, hva⟩ : ∃ a, v0 = V.ref a := by
    unfold Rp at hr0
    obtain ⟨a, vs, qs, ev, _⟩ := hr0
    exact ⟨a, ev⟩
  subst hva
  have h := hall a
  have eo := thaw_ok sO hx0 hv0 eoO
  obtain ⟨B, kB, sF0⟩ := sO.frzA
  have sF : SRb X.K Bs H B0 H0 σ H (frzA env0) B fun _ => [] := sF0.floor kB (.refl _) fun j p hp => by cases hp
  have s := sF.hide hv0
  generalize thQ i0 a ys Q0 = Q at h eo
  clear sO hall eoO hr0 hx0 sF0 kB
  generalize hps : (fun _ : Nat => ([] : List Addr)) = ps at s sF
  generalize frzA env0 = env1 at *
  generalize env1.set i0 (some (.loc a)) = env at h s
  generalize hBf : Bs = Bf at *
  obtain ⟨Hf, hHf⟩ : ∃ Hf, Hf = H := ⟨_, rfl⟩
  replace s : SRb X.K Bf Hf B0 H0 σ H env B ps := by rw [hHf]; exact s
  replace sF : SRb X.K Bf Hf B0 H0 σ H env1 B ps := by rw [hHf]; exact sF
  replace eo : EOk X.K W Bf Hf B0 H0 De Q := by rw [hHf]; exact eo
  refine ⟨env1, B, sF.st.i, sF.sle, ?_⟩
  have h' : gEv (src env1) env1 Q _ := h
  cases es : src env1 with
  | er cc => rw [es] at h'; exact fun H' hs => eo.rz cc env1 h' σ H' ⟨B, ps, sF.same hs⟩
  | no => rw [es] at h'; exact h'.elim
  | ok bx =>
    rw [es] at h'
    obtain ⟨bb, xs⟩ := bx
    obtain ⟨hbb, h'⟩ := h'
    replace hbb : bb = false := hbb
    subst hbb
    intro J B1 H1 st1 wk
    have s1 := s.step st1
    -- the floor of the loop: what the source leans on
    refine ⟨fun i m σ' H' => ∃ B' env' ps', m = xs.length - i ∧ i ≤ xs.length ∧ SRb X.K Bf Hf B0 H0 σ' H' env' B' ps' ∧ Same B1 B' ∧ Same (kp B1 H1) H' ∧ (∀ j p, p ∈ ps' j → kp B1 H1 p = none) ∧ gForL tg g (xs.drop i) env' Q,
      ⟨xs.length, B1, env, ps, rfl, Nat.zero_le _, s1, .refl _, kp_same st1.i, fun j p hp => by
        obtain ⟨_, _, h3, vs, h4, hm⟩ := s1.ow j p hp
        exact kp_none h4 hm h3, h'⟩, ?_⟩
    rintro i m σ' H' ⟨B', env', ps', rfl, hi2, s2, kb, kh, kn, hf⟩
    have wki := wk i B' H' kb s2.st.i kh
    cases ex : xs[i]? with
    | none =>
      refine .inl ⟨wki.2 ex, ?_⟩
      rw [List.drop_of_length_le (List.getElem?_eq_none_iff.mp ex)] at hf
      exact eo.nx env' hf σ' H' ⟨B', ps', s2⟩
    | some d =>
      obtain ⟨hgo, hy⟩ := wki.1 d ex
      have hlt := (List.getElem?_eq_some_iff.mp ex).1
      have edrop : xs.drop i = d :: xs.drop (i + 1) := by
        rw [List.drop_eq_getElem_cons hlt]
        congr 1
        exact (List.getElem?_eq_some_iff.mp ex).2
      rw [edrop] at hf
      obtain ⟨hd, e1, et, hbody⟩ := hf
      refine .inr ⟨hgo, fun σ3 H3 => ∃ m', m' < xs.length - i ∧ ∃ B' env' ps', m' = xs.length - (i + 1) ∧ i + 1 ≤ xs.length ∧ SRb X.K Bf Hf B0 H0 σ3 H3 env' B' ps' ∧ Same B1 B' ∧ Same (kp B1 H1) H3 ∧ (∀ j p, p ∈ ps' j → kp B1 H1 p = none) ∧ gForL tg g (xs.drop (i + 1)) env' Q, fun _ _ z => z, fun x H3 hx => ?_⟩
      obtain ⟨B3, st3, rx⟩ := hy x H3 hx
      have s3 := s2.step st3
      refine htg Bf Hf B0 H0 d x env' e1 σ' H3 B3 ps' _ et hd s3 rx fun σ4 ps4 s4 => ?_
      -- the body's run, over the loop's floor
      have kb4 : Same B1 B3 := kb.trans st3.b
      have kh4 : Same (kp B1 H1) H3 := kh.trans st3.h
      have q1 : Same Hf H1 := s.fh.trans st1.h
      have q2 : Same (kp B1 H1) H1 := kp_same st1.i
      have s5 : SRb X.K B1 (uni Hf (kp B1 H1)) B0 H0 σ4 H3 e1 B3 ps4 := s4.floor kb4 (uni_in s4.fh kh4) fun j p hp => by
        refine uni_none (s4.ow j p hp).2.1 ?_
        -- what is owned is in no frozen list
        obtain ⟨_, _, h3, vs, h4, hm⟩ := s4.ow j p hp
        cases ek : kp B1 H1 p with
        | none => rfl
        | some o =>
          have e5 := kh4 p o ek
          rw [h4] at e5
          cases e5
          have e6 := q2 p _ ek
          have : kp B1 H1 p = B1 p := by unfold kp; rw [e6]; exact if_pos hm
          rw [this] at ek
          rw [kb4 p _ ek] at h3
          cases h3
      have back : ∀ {σ5 H5 e5}, SR X.K B1 (uni Hf (kp B1 H1)) B0 H0 σ5 H5 e5 → ∃ B' ps', SRb X.K Bf Hf B0 H0 σ5 H5 e5 B' ps' ∧ Same B1 B' ∧ Same (kp B1 H1) H5 ∧ ∀ j p, p ∈ ps' j → kp B1 H1 p = none := fun {σ5 H5 e5} ⟨B5, ps5, s5⟩ =>
        ⟨B5, ps5, s5.floor (s1.fb.trans s5.fb) ((uni_l).trans s5.fh) fun j p hp => (none_uni (s5.ow j p hp).2.1).1, s5.fb, (uni_r q1 q2).trans s5.fh, fun j p hp => (none_uni (s5.ow j p hp).2.1).2⟩
      have again : ∀ {σ5 H5 e5}, gForL tg g (xs.drop (i + 1)) e5 Q → SR X.K B1 (uni Hf (kp B1 H1)) B0 H0 σ5 H5 e5 → ∃ m', m' < xs.length - i ∧ ∃ B' env' ps', m' = xs.length - (i + 1) ∧ i + 1 ≤ xs.length ∧ SRb X.K Bf Hf B0 H0 σ5 H5 env' B' ps' ∧ Same B1 B' ∧ Same (kp B1 H1) H5 ∧ (∀ j p, p ∈ ps' j → kp B1 H1 p = none) ∧ gForL tg g (xs.drop (i + 1)) env' Q := fun {σ5 H5 e5} hq s5 => by
        obtain ⟨B', ps', a1, a2, a3, a4⟩ := back s5
        exact ⟨_, by omega, B', e5, ps', rfl, hlt, a1, a2, a3, a4, hq⟩
      refine ⟨B1, uni Hf (kp B1 H1), B0, H0, e1, _, ⟨B3, ps4, s5⟩, hbody, ⟨fun e q σ5 H5 s6 => again q s6, fun e q σ5 H5 s6 => ?_, fun e q σ5 H5 s6 => again q s6, fun d q v H5 r => eo.rt d q v H5 r, fun c e q σ5 H5 s6 => ?_⟩⟩
      · obtain ⟨B', ps', a1, _⟩ := back s6
        exact eo.nx e q σ5 H5 ⟨B', ps', a1⟩
      · obtain ⟨B', ps', a1, _⟩ := back s6
        exact eo.rz c e q σ5 H5 ⟨B', ps', a1⟩
end
end BC

namespace BC
open PySem PySem.Spec PyProof.Rows L2

/-! ## a def that gets objects and hands them back changed -/
structure StepW (ps : List Addr) (B H B' H' : Hp) : Prop where
  b : Same B B'
  h : ∀ p o, p ∉ ps → H p = some o → H' p = some o
  i : Same B' H'
  n : ∀ p o, p ∉ ps → B p = none → H p = some o → B' p = none
/-- an owned object's address -/
def D.oad : D → Option Addr
  | .obj .ow a _ _ _ => some a
  | _ => none
@[simp] theorem oad_obj (a : Addr) (C : Option Addr) (ns : List Str) (fs : List D) : (D.obj .ow a C ns fs).oad = some a := rfl
def isOs (os : List D) : Bool := os.all fun d => d.oad.isSome
@[simp] theorem isOs_nil : isOs [] = true := rfl
@[simp] theorem isOs_cons (d : D) (os : List D) : isOs (d :: os) = (d.oad.isSome && isOs os) := by simp [isOs]
section
variable {K : PySem.W.Frag} {B H B' H' : Hp}
theorem oad_of {d : D} {a : Addr} (e : d.oad = some a) : ∃ C ns fs, d = .obj .ow a C ns fs := by
  unfold D.oad at e
  split at e
  · cases e
    exact ⟨_, _, _, rfl⟩
  · cases e
theorem rp_oad {d : D} {a : Addr} {v : V} {p : List Addr} (e : d.oad = some a) (r : Rp K B H d v p) : v = .ref a := by
  obtain ⟨C, ns, fs, rfl⟩ := oad_of e
  unfold Rp at r
  obtain ⟨_, _, _, e, _⟩ := r
  exact e
theorem rps_oad : ∀ {os os' : List D} {ws ws' : List V} {p p' : List Addr}, isOs os = true → os'.map D.oad = os.map D.oad → Rps K B H os ws p → Rps K B' H' os' ws' p' → ws' = ws
  | [], [], _, _, _, _, _, _, r, r' => by rw [r.1, r'.1]
  | [], _ :: _, _, _, _, _, _, e, _, _ => by simp at e
  | _ :: _, [], _, _, _, _, _, e, _, _ => by simp at e
  | o :: os, o' :: os', ws, ws', p, p', h, e, r, r' => by
    unfold Rps at r r'
    obtain ⟨v, vr, p1, q1, e1, e2, r1, r2⟩ := r
    obtain ⟨v', vr', p1', q1', e1', e2', r1', r2'⟩ := r'
    subst e1 e1'
    simp only [isOs_cons, Bool.and_eq_true] at h
    simp only [List.map_cons, List.cons.injEq] at e
    obtain ⟨a, ha⟩ := Option.isSome_iff_exists.mp h.1
    rw [rp_oad ha r1, rp_oad (e.1.trans ha) r1', rps_oad h.2 e.2 r2 r2']
/-- what each of a row of values owns -/
theorem rps_parts : ∀ {ds : List D} {vs : List V} {ps : List Addr}, Rps K B H ds vs ps → ps.Nodup → ∃ f : Nat → List Addr, (∀ i d, ds[i]? = some d → ∃ v, vs[i]? = some v ∧ Rp K B H d v (f i)) ∧ (∀ i p, p ∈ f i → p ∈ ps) ∧ (∀ i, (f i).Nodup) ∧ ∀ i j p, p ∈ f i → p ∈ f j → i = j
  | [], vs, ps, r, _ => ⟨fun _ => [], fun i d e => (by simp at e), fun i p h => (by cases h), fun _ => List.nodup_nil, fun i j p h => (by cases h)⟩
  | d :: ds, vs, ps, r, nd => by
    unfold Rps at r
    obtain ⟨v, vr, p1, q1, e1, e2, r1, r2⟩ := r
    subst e1 e2
    obtain ⟨n1, n2, n3⟩ := List.nodup_append.mp nd
    obtain ⟨f, f1, f2, f3, f4⟩ := rps_parts r2 n2
    refine ⟨fun i => match i with | 0 => p1 | i + 1 => f i, fun i d' e => ?_, fun i p h => ?_, fun i => ?_, fun i j p h1 h2 => ?_⟩
    · cases i with
      | zero => simp at e; subst e; exact ⟨v, rfl, r1⟩
      | succ i =>
        obtain ⟨w, g1, g2⟩ := f1 i d' (by simpa using e)
        exact ⟨w, by simpa using g1, g2⟩
    · cases i with
      | zero => exact List.mem_append.mpr (.inl h)
      | succ i => exact List.mem_append.mpr (.inr (f2 i p h))
    · cases i with
      | zero => exact n1
      | succ i => exact f3 i
    · cases i with
      | zero =>
        cases j with
        | zero => rfl
        | succ j => exact absurd rfl (n3 p h1 p (f2 j p h2))
      | succ i =>
        cases j with
        | zero => exact absurd rfl (n3 p h2 p (f2 i p h1))
        | succ j => rw [f4 i j p h1 h2]
theorem rps_take : ∀ {ds : List D} {vs : List V} {ps : List Addr} (n : Nat), Rps K B H ds vs ps → ∃ p q, ps = p ++ q ∧ Rps K B H (ds.take n) (vs.take n) p ∧ Rps K B H (ds.drop n) (vs.drop n) q
  | [], vs, ps, n, r => by
    rw [r.1, r.2]
    exact ⟨[], [], rfl, by simp [Rps], by simp [Rps]⟩
  | d :: ds, vs, ps, 0, r => ⟨[], ps, rfl, by simp [Rps], r⟩
  | d :: ds, vs, ps, n + 1, r => by
    unfold Rps at r
    obtain ⟨v, vr, p1, q1, e1, e2, r1, r2⟩ := r
    subst e1 e2
    obtain ⟨p, q, h1, h2, h3⟩ := rps_take n r2
    refine ⟨p1 ++ p, q, by rw [h1, List.append_assoc], ?_, by simpa using h3⟩
    rw [List.take_succ_cons, List.take_succ_cons]
    unfold Rps
    exact ⟨v, _, p1, p, rfl, rfl, r1, h2⟩
end
def PstW (K : PySem.W.Frag) (W : String → Hp → Prop) (B H : Hp) (ps : List Addr) (os : List D) (ws : List V) (Q : VK) : R D → Prop
  | .ok (.wit d os') => D.stos os' = true ∧ os'.map D.oad = os.map D.oad ∧ ∀ v B' H' qs ps', StepW ps B H B' H' → Rp K B' H' d v qs → Rps K B' H' os' ws ps' → (qs ++ ps').Nodup → (∀ q ∈ qs ++ ps', B' q = none ∧ (H q = none ∨ q ∈ ps)) → Q v H'
  | .er c => ∀ B' H' ps', StepW ps B H B' H' → Rps K B' H' os ws ps' → ps'.Nodup → (∀ q ∈ ps', B' q = none ∧ (H q = none ∨ q ∈ ps)) → W c H'
  | _ => False
/-- no of the arguments, the first ones, are objects that are handed in -/
def CtrW (K : PySem.W.Frag) (cl : String → Addr) (n no : Nat) (m : List D → R D) : Sp := fun vs H Q E => ∃ B ds ps, Same B H ∧ Rps K B H ds vs ps ∧ D.stos ds = true ∧ ps.Nodup ∧ (∀ p ∈ ps, B p = none) ∧ vs.length = n ∧ no ≤ n ∧ isOs (ds.take no) = true ∧
  PstW K (fun c H' => E (.ref (cl c)) none H') B H ps (ds.take no) (vs.take no) Q (m ds)
def objsAt (env : Env) : List Nat → Option (List D)
  | [] => some []
  | j :: js => match env[j]? with
    | some (some (.obj .ow a C ns fs)) => (objsAt env js).map fun os => .obj .ow a C ns fs :: os
    | _ => none
def OutW (no : Nat) (os : List D) (r : R D) : Ou → Prop
  | .nx e => ∃ os', objsAt e (List.range no) = some os' ∧ r = .ok (.wit .non os')
  | .rt d => r = .ok d
  | .rz c e => r = .er c ∧ objsAt e (List.range no) = some os
  | .bk _ => False
  | .ct _ => False
theorem objsAt_cons {env : Env} {j : Nat} {js : List Nat} {os : List D} (h : objsAt env (j :: js) = some os) : ∃ a C ns fs os', env[j]? = some (some (.obj .ow a C ns fs)) ∧ objsAt env js = some os' ∧ os = .obj .ow a C ns fs :: os' := by
  unfold objsAt at h
  split at h
  · rename_i a C ns fs e
    rw [Option.map_eq_some_iff] at h
    obtain ⟨os', h1, h2⟩ := h
    exact ⟨a, C, ns, fs, os', e, h1, h2.symm⟩
  · cases h
section
variable {K : PySem.W.Frag} {Bf Hf B0 H0 B H : Hp} {σ : L2.St} {env : Env} {ps : Nat → List Addr}
theorem SRb.objs (s : SRb K Bf Hf B0 H0 σ H env B ps) : ∀ {js : List Nat} {os : List D}, js.Nodup → objsAt env js = some os →
    ∃ ws, Rps K B H os ws (js.flatMap ps) ∧ (js.flatMap ps).Nodup ∧ D.stos os = true ∧ isOs os = true ∧ js.map (fun j => σ[j]?) = ws.map fun v => some (some v)
  | [], os, _, h => by
    cases h
    exact ⟨[], ⟨rfl, rfl⟩, .nil, rfl, rfl, rfl⟩
  | j :: js, os, nd, h => by
    obtain ⟨a, C, ns, fs, os', e1, e2, e3⟩ := objsAt_cons h
    subst e3
    obtain ⟨n1, n2⟩ := List.nodup_cons.mp nd
    obtain ⟨ws, h1, h2, h3, h4, h5⟩ := s.objs n2 e2
    obtain ⟨hd, v, hv, r⟩ := s.sl j _ e1
    refine ⟨v :: ws, ?_, ?_, by simp [D.stos, hd, h3], by simp [h4], by simp [hv, h5]⟩
    · rw [List.flatMap_cons]
      unfold Rps
      exact ⟨v, ws, ps j, _, rfl, rfl, r, h1⟩
    · rw [List.flatMap_cons]
      refine List.nodup_append.mpr ⟨s.nd j, h2, fun x hx y hy z => ?_⟩
      subst z
      obtain ⟨i, hi, hxi⟩ := List.mem_flatMap.mp hy
      exact n1 (by rw [s.dj j i x hx hxi]; exact hi)
end
/-- without the objects' own addresses -/
def les (H : Hp) (ps : List Addr) : Hp := fun p => if p ∈ ps then none else H p
theorem les_same {H : Hp} {ps : List Addr} : Same (les H ps) H := fun p o e => by
  unfold les at e
  split at e
  · cases e
  · exact e
theorem les_none {H : Hp} {ps : List Addr} {p : Addr} (h : p ∈ ps) : les H ps p = none := by unfold les; rw [if_pos h]
theorem les_some {H : Hp} {ps : List Addr} {p : Addr} {o : HO} (h : p ∉ ps) (e : H p = some o) : les H ps p = some o := by unfold les; rw [if_neg h]; exact e
theorem les_or {H : Hp} {ps : List Addr} {p : Addr} (h : les H ps p = none) : H p = none ∨ p ∈ ps := by
  unfold les at h
  split at h
  · exact .inr (by assumption)
  · exact .inl h
theorem stepW_of {ps : List Addr} {B H B' H' : Hp} (st : Step B (les H ps) B' H') : StepW ps B H B' H' :=
  ⟨st.b, fun p o h e => st.h p o (les_some h e), st.i, fun p o h e1 e2 => st.n p o e1 (les_some h e2)⟩
theorem stos_take {ds : List D} (h : D.stos ds = true) (n : Nat) : D.stos (ds.take n) = true := stos_sub h (List.take_sublist _ _)
theorem okDW {P : Program} {w : World} {K : PySem.W.Frag} {mg : Str → Option Value} {base : Heap} {cl : String → Addr} {x qual : Str} {st : Stmt} {f : Addr} {fd : FuncData} {N ps : List Str} {k n : Nat} {m : List D → R D} {g : G} (no : Nat) (F : Fun K x qual st f fd) (S : FnScope N ps (defScope st)) (hn : n = ps.length) (hN : ps.length ≤ N.length)
    (hm : ∀ ds, ds.length = n → D.stos ds = true → isOs (ds.take no) = true → m ds ≠ .no → g (env0 N ds) (OutW no (ds.take no) (m ds)))
    (hd : ∀ (cdv : Value) (A : Around) (outer : List PySem.Env) (s : Shared) (H : Hp) (E : XK), Room k (A.deeper (envOfC qual (defScope st) s.heap.objs.size f cdv)) →
      PSs (cxOf (L2.CX P w) P w K mg base N qual (defScope st) f cdv A outer s H E) (defBody st) (tG K (fun c _ H => E (.ref (cl c)) none H) g)) : FnOk P w K mg base (L2.CX P w) (k + 1) f fd ps (CtrW K cl n no m) := by
  subst hn
  refine F.okX S (fun vs H Q E h => ?_) (fun cdv A outer s H vs Q E hr h => ⟨_, hd cdv A outer s H E hr, ?_⟩)
  · obtain ⟨B, ds, qs, _, _, _, _, _, e, _⟩ := h
    exact e
  · obtain ⟨B, ds, qs, i, r, hs, nd, hB, hl, hno, hos, q⟩ := h
    have hl2 : ds.length = ps.length := by rw [← rps_len r]; exact hl
    have hmn : m ds ≠ .no := fun z => by rw [z] at q; exact q.elim
    have i0 : Same B (les H qs) := fun p o e => les_some (fun z => by rw [hB p z] at e; cases e) (i p o e)
    obtain ⟨pf, f1, f2, f3, f4⟩ := rps_parts r nd
    obtain ⟨pa, pb, epab, ra, rb⟩ := rps_take no r
    refine ⟨B, les H qs, B, les H qs, env0 N ds, OutW no (ds.take no) (m ds), ⟨B, pf, ⟨.refl _, les_same, ⟨.refl _, les_same, i, fun p o hb _ => hb⟩, ?_, fun j d e => ?_, f3, f4, fun j p hp => ?_⟩⟩, hm ds hl2 hs hos hmn, ?_⟩
    · unfold L2.start env0
      simp [hl, hl2]
    · unfold env0 at e
      by_cases hj : j < ds.length
      · rw [List.getElem?_append_left (by simpa using hj), List.getElem?_map, Option.map_eq_some_iff] at e
        obtain ⟨d', e1, e2⟩ := e
        cases e2
        obtain ⟨v, h1, h2⟩ := f1 j _ e1
        refine ⟨stos_at hs e1, v, ?_, h2⟩
        unfold L2.start
        rw [List.getElem?_append_left (by rw [List.length_map]; exact (List.getElem?_eq_some_iff.mp h1).1), List.getElem?_map, h1]
        rfl
      · rw [List.getElem?_append_right (by simpa using hj)] at e
        rw [List.getElem?_replicate] at e
        split at e <;> cases e
    · have hq := f2 j p hp
      exact ⟨les_none hq, les_none hq, hB p hq, rps_own r p hq⟩
    · have ends : ∀ {σ' H' e os'}, SR K B (les H qs) B (les H qs) σ' H' e → objsAt e (List.range no) = some os' → os'.map D.oad = (ds.take no).map D.oad → ∃ B' ps', StepW qs B H B' H' ∧ Rps K B' H' os' (vs.take no) ps' ∧ D.stos os' = true ∧ ps'.Nodup ∧ ∀ q ∈ ps', B' q = none ∧ (H q = none ∨ q ∈ qs) := fun {σ' H' e os'} ⟨B', ps', s'⟩ z1 zo => by
        obtain ⟨ws, w1, w2, w3, w4, _⟩ := s'.objs List.nodup_range z1
        have ew : ws = vs.take no := rps_oad hos zo ra w1
        subst ew
        refine ⟨B', _, stepW_of s'.st, w1, w3, w2, fun t ht => ?_⟩
        obtain ⟨j, _, hj⟩ := List.mem_flatMap.mp ht
        exact ⟨(s'.ow j t hj).2.2.1, les_or (s'.ow j t hj).1⟩
      refine ⟨fun e z σ H' s' => ?_, fun e z => z.elim, fun e z => z.elim, fun d z v H' rt => ?_, fun c e z σ H' s' => ?_⟩
      · obtain ⟨os', z1, z2⟩ := z
        rw [z2] at q
        obtain ⟨q1, q2, q3⟩ := q
        obtain ⟨B', ps', h1, h2, h3, h4, h5⟩ := ends s' z1 q2
        exact q3 .non B' H' [] ps' h1 (by unfold Rp; exact ⟨rfl, rfl⟩) h2 h4 h5
      · replace z : m ds = .ok d := z
        rw [z] at q
        cases d with
        | wit d' os' =>
          obtain ⟨q1, q2, q3⟩ := q
          obtain ⟨B', qs', st, rp, nd', fr⟩ := rt
          unfold Rp at rp
          obtain ⟨p, q', ws, e1, r1, r2⟩ := rp
          have ew : ws = vs.take no := rps_oad hos q2 ra r2
          subst ew e1
          exact q3 v B' H' p q' (stepW_of st) r1 r2 nd' fun t ht => ⟨(fr t ht).2, les_or (fr t ht).1⟩
        | _ => exact q.elim
      · obtain ⟨z1, z2⟩ := z
        rw [z1] at q
        obtain ⟨B', ps', h1, h2, h3, h4, h5⟩ := ends s' z2 rfl
        exact q B' H' ps' h1 h2 h4 h5
/-! ### return e, objects beside it -/
def witW (env : Env) (js : List Nat) (d : D) : D := match objsAt env js with
  | some os => .wit d os
  | none => d
def gRetW (js : List Nat) (f : Env → R D) : G := fun env Q => gEv (f env) env Q fun d => Q (.rt (witW env js d))
section
variable {X : Cx} {W : WC} {e : Expr} {f : Env → R D} {pos : Pos}
theorem retOk_W {K : PySem.W.Frag} {Bf Hf B0 H0 B H : Hp} {σ : L2.St} {env : Env} {ps : Nat → List Addr} {js : List Nat} {d : D} {v : V} {qs : List Addr} (hj : js.Nodup) (s : SRb K Bf Hf B0 H0 σ H env B ps) (r : Rp K B H d v qs) (nd : qs.Nodup) (fr : ∀ q ∈ qs, H0 q = none ∧ B q = none ∧ ∀ i, q ∉ ps i) : RetOk K B0 H0 H (witW env js d) v := by
  unfold witW
  cases eo : objsAt env js with
  | none => exact ⟨B, qs, s.st, r, nd, fun q hq => ⟨(fr q hq).1, (fr q hq).2.1⟩⟩
  | some os =>
    obtain ⟨ws, w1, w2, w3, w4, _⟩ := s.objs hj eo
    refine ⟨B, qs ++ js.flatMap ps, s.st, by show Rp K B H (.wit d os) v _; unfold Rp; exact ⟨qs, _, ws, rfl, r, w1⟩, ?_, fun q hq2 => ?_⟩
    · refine List.nodup_append.mpr ⟨nd, w2, fun x hx y hy z => ?_⟩
      subst z
      obtain ⟨j, _, hy⟩ := List.mem_flatMap.mp hy
      exact (fr x hx).2.2 j hy
    · rcases List.mem_append.mp hq2 with z | z
      · exact ⟨(fr q z).1, (fr q z).2.1⟩
      · obtain ⟨j, _, hy⟩ := List.mem_flatMap.mp z
        exact ⟨(s.ow j q hy).1, (s.ow j q hy).2.2.1⟩
theorem ss_retW (js : List Nat) (he : PE X e (tF X.K W f)) (hj : js.Nodup := by decide) : PS X (.Return (some e) pos) (tG X.K W (gRetW js f)) := by
  refine psI (ps_ret he) fun D σ H ⟨Bf, Hf, B0, H0, env, Q, s, h, eo⟩ => ?_
  refine runE s h (fun c q => eo.rz c env q) fun d v B B' H' qs ps k s0 s1 st rp nd fr => ?_
  have f1 := s0.fresh st fr
  exact eo.rt _ k v H' (retOk_W hj s1 rp nd fun q hq => ⟨(f1 q hq).1, (f1 q hq).2.2.1, (f1 q hq).2.2.2⟩)
end
end BC

namespace BC
open PySem PySem.Spec PyProof.Rows L2

/-! ## NAME.f, NAME an object of the class at C0 -/
def xFldO (C0 : Addr) (f : Str) : Option (Option D) → R D
  | some (some (.obj _ _ (some C) ns fs)) => if C = C0 then R.of ((ns.zip (D.bors fs)).lookup f) else .no
  | _ => .no
def xFld (C0 : Addr) (j : Nat) (f : Str) : Env → R D := fun env => xFldO C0 f env[j]?
@[simp] theorem xFld_eq (C0 : Addr) (j : Nat) (f : Str) (env : Env) : xFld C0 j f env = xFldO C0 f env[j]? := rfl
@[simp] theorem xFldO_eq (C0 : Addr) (f : Str) (k : Kd) (a : Addr) (ns : List Str) (fs : List D) : xFldO C0 f (some (some (.obj k a (some C0) ns fs))) = R.of ((ns.zip (D.bors fs)).lookup f) := if_pos rfl
theorem zip_lookup {K : PySem.W.Frag} {B H : Hp} {f : Str} {d : D} : ∀ {ns : List Str} {fs : List D} {vs : List V}, Rps K B H fs vs [] → (ns.zip fs).lookup f = some d → ∃ v, (ns.zip vs).lookup f = some v ∧ Rp K B H d v []
  | [], fs, vs, r, e => by simp at e
  | n :: ns, [], vs, r, e => by simp at e
  | n :: ns, x :: fs, vs, r, e => by
    unfold Rps at r
    obtain ⟨v, vr, p, q, e1, e2, r1, r2⟩ := r
    have e3 := e2.symm
    rw [List.append_eq_nil_iff] at e3
    obtain ⟨e3, e4⟩ := e3
    subst e1 e3 e4
    rw [List.zip_cons_cons, List.lookup_cons] at e ⊢
    cases h : (f == n) with
    | true =>
      rw [h] at e
      cases e
      exact ⟨v, rfl, r1⟩
    | false =>
      rw [h] at e
      exact zip_lookup r2 e
theorem bors_bors : ∀ ds : List D, D.bors (D.bors ds) = D.bors ds := by
  have hk : ∀ k : Kd, k.bor.bor = k.bor := fun k => by cases k <;> rfl
  have h : ∀ d : D, d.bor.bor = d.bor := fun d => D.rec (motive_1 := fun d => d.bor.bor = d.bor) (motive_2 := fun ds => D.bors (D.bors ds) = D.bors ds)
    rfl (fun _ => rfl) (fun _ => rfl) (fun _ => rfl) (fun k xs ih => by simp [hk, ih]) (fun xs ih => by simp [ih]) (fun _ _ => by simp) (fun k _ => by simp [hk]) (fun _ => by simp) (fun k _ _ _ fs ih => by simp [hk, ih]) (fun d os h1 h2 => by simp [h1, h2]) (by simp) (fun d ds h1 h2 => by simp [h1, h2]) d
  intro ds
  induction ds with
  | nil => simp
  | cons d ds ih => simp [h d, ih]
theorem ndD_in {B H : Hp} {k : Kd} {a : Addr} {o : HO} (i : Same B H) (n : NdD B H k a o) : H a = some o := by
  cases k with
  | fz => exact i _ _ n
  | ow => exact n
  | bo => exact n
  | sc => exact n.elim
/-- what an object is in the heap -/
theorem rp_objAt {K : PySem.W.Frag} {B H : Hp} {k : Kd} {a : Addr} {C : Option Addr} {ns : List Str} {fs : List D} {v : V} {p : List Addr} (i : Same B H) (r : Rp K B H (.obj k a C ns fs) v p) : ∃ dx vs, v = .ref a ∧ H a = some (objO C dx (ns.zip vs)) ∧ vs.length = ns.length ∧ Rps K B H (D.bors fs) vs [] := by
  unfold Rp at r
  obtain ⟨dx, vs, qs, ev, n, l, o, q, r⟩ := r
  exact ⟨dx, vs, ev, ndD_in i n, l, rps_bor r⟩
section
variable {X : Cx} {W : WC}
theorem se_fld (C0 : Addr) (j : Nat) {x f : Str} {p pos : Pos} (hx : PE X (.Name x p) (tVar j)) (cl : Cls X.K C0) (na : NoAttr X.K C0 f) (hb : attributeBase (.Name x p) f X.env (eval (.Name x p) X.env) = eval (.Name x p) X.env := by rfl) : PE X (.Attribute (.Name x p) f pos) (tF X.K W (xFld C0 j f)) := by
  refine peI (pe_fld hx hb) fun σ H Q ⟨env, B, i, sl, h⟩ => ?_
  rw [xFld_eq] at h
  unfold xFldO at h
  split at h
  · rename_i k a C ns fs e
    obtain ⟨v, hv, r⟩ := sl.2 j _ e
    by_cases hc : C = C0
    · subst hc
      rw [if_pos rfl] at h
      cases el : (ns.zip (D.bors fs)).lookup f with
      | none => rw [el] at h; exact h.elim
      | some d' =>
        rw [el] at h
        have h : OkE X.K B H d' Q := h
        rw [show (D.obj k a (some C) ns fs).bor = .obj k.bor a (some C) ns (D.bors fs) by simp [D.bor]] at r
        obtain ⟨dx, vs, ev, n, l, rr⟩ := rp_objAt i r
        have ebb : D.bors (D.bors fs) = D.bors fs := bors_bors fs
        rw [ebb] at rr
        subst ev
        obtain ⟨u, hu, ru⟩ := zip_lookup rr el
        exact ⟨_, hv, a, C, dx, _, u, rfl, n, cl, na, hu, h u B H [] (.refl i) ru .nil (by intro t ht; cases ht)⟩
    · rw [if_neg hc] at h
      exact h.elim
  · exact h.elim
end

/-! ### methods that change nothing -/
/-- the object is of the class at C0 and holds no field of that name -/
def okO (C0 : Addr) (m : Str) : D → Bool
  | .obj _ _ (some C) ns _ => decide (C = C0) && !(ns.contains m)
  | _ => false
@[simp] theorem okO_eq (C0 : Addr) (m : Str) (k : Kd) (a : Addr) (ns : List Str) (fs : List D) : okO C0 m (.obj k a (some C0) ns fs) = !(ns.contains m) := by simp [okO]
/-- a call at values -/
def callD (m : List D → R D) (ds : List D) : R D := if D.stos ds = true then m (D.frzs ds) else m (D.frzs ds) >>= fun r => if r.nsc = true then R.ok r.unf else R.no
theorem callD_eq (m : List D → R D) (ds : List D) : callD m ds = if D.stos ds = true then m (D.frzs ds) else m (D.frzs ds) >>= fun r => if r.nsc = true then R.ok r.unf else R.no := rfl
def xMeth (C0 : Addr) (mn : Str) (m : List D → R D) (f : Env → R D) (fs : Env → R (List D)) : Env → R D := fun env => do
  let d ← f env
  if okO C0 mn d = true then do
    let ds ← fs env
    callD m (d :: ds)
  else R.no
@[simp] theorem xMeth_eq (C0 : Addr) (mn : Str) (m : List D → R D) (f : Env → R D) (fs : Env → R (List D)) (env : Env) : xMeth C0 mn m f fs env = f env >>= fun d => if okO C0 mn d = true then fs env >>= fun ds => (if D.stos (d :: ds) = true then m (D.frzs (d :: ds)) else m (D.frzs (d :: ds)) >>= fun r => if r.nsc = true then R.ok r.unf else R.no) else R.no := rfl
theorem lookup_zip_none {f : Str} : ∀ {ns : List Str} {vs : List V}, ns.contains f = false → (ns.zip vs).lookup f = none
  | [], _, _ => by simp
  | n :: ns, [], _ => by simp
  | n :: ns, v :: vs, h => by
    rw [List.contains_cons, Bool.or_eq_false_iff] at h
    rw [List.zip_cons_cons, List.lookup_cons, h.1]
    exact lookup_zip_none h.2
section
variable {X : Cx} {W : WC} {cl : String → Addr} {σ : L2.St} {H : Hp} {Q : VK}
/-- a call's contract, at values that stand -/
theorem ctr_core {m : List D → R D} {n : Nat} {B H1 B1 : Hp} {ds : List D} {vs : List V} {q : List Addr} (st1 : Step B H B1 H1) (r1 : Rps X.K B1 H1 ds vs q) (fr1 : Fresh H B1 q) (hn : ds.length = n) (h1 : Pst X.K W B H σ Q (callD m ds)) : Ctr X.K cl n m vs H1 Q (WE (wx cl W) σ) := by
  unfold callD at h1
  by_cases hs : D.stos ds = true
  · simp only [hs, if_true] at h1
    have k1 : Same B1 (ovr B1 H1 q) := same_ovr st1.i
    have r2 : Rps X.K (ovr B1 H1 q) H1 (D.frzs ds) vs [] := rps_frz k1 hs (fun p hp o ho => ovr_mem hp ho) r1
    have st2 : Step B H (ovr B1 H1 q) H1 := ⟨st1.b.trans k1, st1.h, ovr_same st1.i, fun p xs hb hh => ovr_none (fun z => by rw [(fr1 p z).1] at hh; cases hh) (st1.n p xs hb hh)⟩
    refine ⟨ovr B1 H1 q, D.frzs ds, ovr_same st1.i, r2, stos_frzs ds, by rw [rps_len r1]; exact hn, ?_⟩
    cases em : m (D.frzs ds) with
    | ok d =>
      rw [em] at h1
      exact fun v B3 H3 q3 st3 r3 nd3 fr3 => h1 v B3 H3 q3 (st2.trans st3) r3 nd3 (fr3.back st1.h)
    | er c =>
      rw [em] at h1
      exact fun H3 z => ⟨c, rfl, rfl, h1 H3 (st1.h.trans z)⟩
    | no => rw [em] at h1; exact h1
  · simp only [hs] at h1
    have r2 : Rps X.K H1 H1 (D.frzs ds) vs [] := rps_all st1.i r1
    refine ⟨H1, D.frzs ds, .refl _, r2, stos_frzs ds, by rw [rps_len r1]; exact hn, ?_⟩
    cases em : m (D.frzs ds) with
    | ok d =>
      rw [em] at h1
      have h2 : Pst X.K W B H σ Q (if d.nsc = true then R.ok d.unf else R.no) := h1
      by_cases hk : d.nsc = true
      · rw [if_pos hk] at h2
        refine fun v B3 H3 q3 st3 r3 nd3 fr3 => h2 v B1 H3 q3 ⟨st1.b, st1.h.trans st3.h, st1.i.trans st3.h, fun p xs hb hh => st1.n p xs hb hh⟩ (rp_unf st3.i hk r3) nd3 fun t ht => ⟨st1.h.free (fr3 t ht).1, st1.i.free (fr3 t ht).1⟩
      · rw [if_neg hk] at h2
        exact h2.elim
    | er c =>
      rw [em] at h1
      exact fun H3 z => ⟨c, rfl, rfl, h1 H3 (st1.h.trans z)⟩
    | no => rw [em] at h1; exact h1
end
/-- o.m(..), what is raised wished for at the caller's slots -/
def tMethE (C : Addr) (m : Str) (sp : Sp) (E : L2.St → XK) (ta : TE) (t : TA) : TE := fun σ H Q => ta σ H fun x H1 => ∃ a dx fs, x = .ref a ∧ H1 a = some (.ins C dx fs) ∧ fs.lookup m = none ∧ t σ H1 fun vs H2 => sp (x :: vs) H2 Q (E σ)
section
variable {X : Cx} {CX : CXT} {k : Nat} {f C : Addr} {fd : FuncData} {ps : List Str} {sp : Sp} {E : L2.St → XK} {m : Str} {pos apos : Pos} {e o : Expr} {es : List Expr} {ta : TE} {t : TA}
theorem pe_methE {pl : Sem Bool} (he : PE X o ta) (c : Cls X.K C) (hm : Meth X.K C m f) (F : FnOk X.prog X.w X.K X.mg X.base CX k f fd ps sp) (hr : Room k X.A) (hb : Binds X.K fd ps []) (hx : ∀ σ, PassesAt CX X σ (E σ)) (ha : PA X (e :: es) t)
    (hst : starEach (e :: es) X.env = (false, eval e X.env) :: starEach es X.env := by rfl) (hpl : (backTo pos (starEach es X.env)).any (·.1) = false := by rfl)
    (ht : eval (.Call (.Attribute o m apos) (e :: es) [] pos) X.env = (do
      let ov ← eval o X.env
      standAt apos.atName
      let (f, first) ← holding [ov] (getMethod ov m pl)
      callWith pos f first (backTo pos (starEach (e :: es) X.env)) (backToKw pos (keywordEach [] X.env))) := by rfl) :
    PE X (.Call (.Attribute o m apos) (e :: es) [] pos) (tMethE C m sp E ta t) := by
  refine ⟨fun pins s σ H Q I h => ?_⟩
  refine PySem.W.methodCall_KW (pl := pl) (thn (he.run pins s σ H _ I h) fun u s1 ⟨x, H1, I1, rx, a, dx, fs, ex, ea, l, q⟩ => ?_) ht
  subst ex
  obtain rfl : u = Value.ref a := rx
  refine getmeth_ok I1 ea c hm l ?_
  refine PySem.W.callWith_K (first := [.ref a]) (h₀ := X.base) I.ok.mod.kin hm.kp (thn (ha.run pos pins s1 σ H1 _ I1 q) fun us s2 ⟨vs, H2, I2, r, q2⟩ => ⟨I2.kIn, ?_⟩) hst hpl
  exact run_fnS (us := .ref a :: us) (vs := .ref a :: vs) F hr hb (hx σ) I2 (.cons rfl r) q2
theorem pe_methE0 {pl : Sem Bool} (he : PE X o ta) (c : Cls X.K C) (hm : Meth X.K C m f) (F : FnOk X.prog X.w X.K X.mg X.base CX k f fd ps sp) (hr : Room k X.A) (hb : Binds X.K fd ps []) (hx : ∀ σ, PassesAt CX X σ (E σ))
    (ht : eval (.Call (.Attribute o m apos) [] [] pos) X.env = (do
      let ov ← eval o X.env
      standAt apos.atName
      let (f, first) ← holding [ov] (getMethod ov m pl)
      callWith pos f first (backTo pos (starEach [] X.env)) (backToKw pos (keywordEach [] X.env))) := by rfl) :
    PE X (.Call (.Attribute o m apos) [] [] pos) (tMethE C m sp E ta tNil) := by
  refine ⟨fun pins s σ H Q I h => ?_⟩
  refine PySem.W.methodCall_KW (pl := pl) (thn (he.run pins s σ H _ I h) fun u s1 ⟨x, H1, I1, rx, a, dx, fs, ex, ea, l, q⟩ => ?_) ht
  subst ex
  obtain rfl : u = Value.ref a := rx
  refine getmeth_ok I1 ea c hm l ?_
  exact PySem.W.callWith_K0 (first := [.ref a]) I1.kIn hm.kp (run_fnS (us := [.ref a]) (vs := [.ref a]) F hr hb (hx σ) I1 (.cons rfl .nil) q)
end
section
variable {X : Cx} {W : WC} {cl : String → Addr} {o e : Expr} {es : List Expr} {f : Env → R D} {fs : Env → R (List D)} {pos apos : Pos} {C0 g : Addr} {k j : Nat} {fd : FuncData} {ps : List Str} {m : List D → R D} {n : Nat} {mn : Str}
theorem tMeth_of {σ : L2.St} {H : Hp} {Q : VK} (hn : ∀ env ds, fs env = .ok ds → ds.length + 1 = n) (h : tF X.K W (xMeth C0 mn m f fs) σ H Q) : tMethE C0 mn (Ctr X.K cl n m) (WE (wx cl W)) (tF X.K W f) (tFA X.K W fs) σ H Q := by
  obtain ⟨env, B, i, s, h⟩ := h
  refine seqE (P := Pst X.K W B H σ Q) (g := fun d => if okO C0 mn d = true then (fs env >>= fun ds => callD m (d :: ds)) else R.no) i s h (fun c z => z) (fun z => z) fun d x B1 H1 p e1 h1 st1 r1 nd1 fr1 => ?_
  by_cases hk : okO C0 mn d = true
  · rw [if_pos hk] at h1
    cases d with
    | obj kk a C ns vs =>
      cases C with
      | none => cases hk
      | some C =>
        simp only [okO, Bool.and_eq_true, decide_eq_true_eq, Bool.not_eq_true'] at hk
        obtain ⟨hC, hns⟩ := hk
        subst hC
        obtain ⟨dx, us, ev, ea, l, _⟩ := rp_objAt st1.i r1
        subst ev
        refine ⟨a, dx, _, rfl, ea, lookup_zip_none hns, ?_⟩
        refine seqA (P := Pst X.K W B H σ Q) (g := fun ds => callD m (.obj kk a (some C) ns vs :: ds)) st1.i (s.step st1) h1 (fun c z => erBack (P := True) st1.h z) (fun z => z) fun ds ws B2 H2 q e2 h2 st2 r2 nd2 fr2 => ?_
        have fa : Fresh H B2 (p ++ q) := (Fresh.on r1 fr1 st2).app (fr2.back st1.h)
        refine ctr_core (st1.trans st2) (ds := .obj kk a (some C) ns vs :: ds) (q := p ++ q) ?_ fa (by rw [List.length_cons]; exact hn env ds e2) h2
        unfold Rps
        exact ⟨_, ws, p, q, rfl, rfl, rp_mono st2.b st2.h r1, r2⟩
    | _ => cases hk
  · rw [if_neg hk] at h1
    exact h1.elim
theorem se_meth (c : Cls X.K C0) (hm : Meth X.K C0 mn g) (F : FnOk X.prog X.w X.K X.mg X.base (L2.CX X.prog X.w) k g fd ps (Ctr X.K cl n m)) (hr : Room j X.A) (hj : k ≤ j) (hb : Binds X.K fd ps []) (tk : Takes X (wx cl W)) (ho : PE X o (tF X.K W f)) (ha : PA X (e :: es) (tFA X.K W fs)) (hn : ∀ env ds, fs env = .ok ds → ds.length + 1 = n) {pl : Sem Bool}
    (hst : starEach (e :: es) X.env = (false, eval e X.env) :: starEach es X.env := by rfl) (hpl : (backTo pos (starEach es X.env)).any (·.1) = false := by rfl)
    (ht : eval (.Call (.Attribute o mn apos) (e :: es) [] pos) X.env = (do
      let ov ← eval o X.env
      standAt apos.atName
      let (f, first) ← holding [ov] (getMethod ov mn pl)
      callWith pos f first (backTo pos (starEach (e :: es) X.env)) (backToKw pos (keywordEach [] X.env))) := by rfl) :
    PE X (.Call (.Attribute o mn apos) (e :: es) [] pos) (tF X.K W (xMeth C0 mn m f fs)) := peI (pe_methE ho c hm F (hr.mono hj) hb (fun σ => passAt tk σ) ha hst hpl ht) fun _ _ _ h => tMeth_of hn h
theorem se_meth0 (c : Cls X.K C0) (hm : Meth X.K C0 mn g) (F : FnOk X.prog X.w X.K X.mg X.base (L2.CX X.prog X.w) k g fd ps (Ctr X.K cl 1 m)) (hr : Room j X.A) (hj : k ≤ j) (hb : Binds X.K fd ps []) (tk : Takes X (wx cl W)) (ho : PE X o (tF X.K W f)) {pl : Sem Bool}
    (ht : eval (.Call (.Attribute o mn apos) [] [] pos) X.env = (do
      let ov ← eval o X.env
      standAt apos.atName
      let (f, first) ← holding [ov] (getMethod ov mn pl)
      callWith pos f first (backTo pos (starEach [] X.env)) (backToKw pos (keywordEach [] X.env))) := by rfl) :
    PE X (.Call (.Attribute o mn apos) [] [] pos) (tF X.K W (xMeth C0 mn m f xNil)) := peI (pe_methE0 ho c hm F (hr.mono hj) hb (fun σ => passAt tk σ) ht) fun σ H Q h => by
  obtain ⟨env, B, i, s, h⟩ := h
  refine seqE (P := Pst X.K W B H σ Q) (g := fun d => if okO C0 mn d = true then (xNil env >>= fun ds => callD m (d :: ds)) else R.no) i s h (fun c z => z) (fun z => z) fun d x B1 H1 p e1 h1 st1 r1 nd1 fr1 => ?_
  by_cases hk : okO C0 mn d = true
  · rw [if_pos hk] at h1
    cases d with
    | obj kk a C ns vs =>
      cases C with
      | none => cases hk
      | some C =>
        simp only [okO, Bool.and_eq_true, decide_eq_true_eq, Bool.not_eq_true'] at hk
        obtain ⟨hC, hns⟩ := hk
        subst hC
        obtain ⟨dx, us, ev, ea, l, _⟩ := rp_objAt st1.i r1
        subst ev
        refine ⟨a, dx, _, rfl, ea, lookup_zip_none hns, ?_⟩
        refine ctr_core st1 (ds := [.obj kk a (some C) ns vs]) (q := p) ?_ fr1 rfl h1
        unfold Rps
        exact ⟨_, [], p, [], rfl, by simp, r1, ⟨rfl, rfl⟩⟩
    | _ => cases hk
  · rw [if_neg hk] at h1
    exact h1.elim
end
end BC

namespace BC
open PySem PySem.Spec PyProof.Rows L2

/-! ## an object's fields are changed -/
section
variable {K : PySem.W.Frag} {B H B' H' : Hp}
mutual
/-- an object that nobody here holds is changed -/
theorem rp_updI {p : Addr} {o0 o1 : HO} (hp : H p = some o0) (m0 : Mu o0 = true) (hb : B p = none) : ∀ {d : D} {v : V} {ps : List Addr}, d.sto = true → p ∉ ps → (∀ vs, o0 ≠ .tup vs) → (∀ C, o0 ≠ ExT C p) → Rp K B H d v ps → Rp K B (upd H p o1) d v ps
  | .loc _, _, _, _, _, _, _, r => r
  | .non, _, _, _, _, _, _, r => r
  | .bl _, _, _, _, _, _, _, r => r
  | .int _, _, _, _, _, _, _, r => r
  | .str _, _, _, _, _, _, _, r => r
  | .wit d o, v, ps, hs, hn, _, _, r => by simp [D.sto] at hs
  | .exc _ C, _, _, _, _, _, hx, ⟨a, e1, e2, e3⟩ => ⟨a, e1, (upd_ne (fun z => by subst z; rw [hp] at e2; cases e2; cases m0)).trans e2, e3⟩
  | .dic k _, _, _, hs, hn, _, _, ⟨a, e1, e2, e3⟩ => ⟨a, e1, by
      cases k with
      | ow => exact (upd_ne (fun z => hn (by rw [e3, z]; simp [dicP]))).trans e2
      | bo => simp [D.sto] at hs
      | fz => exact e2
      | sc => exact e2, e3⟩
  | .obj k a C ns fs, v, ps, hs, hn, ht, hx, r => by
    unfold Rp at r ⊢
    obtain ⟨dx, vs, qs, e, n, l, o, q, r⟩ := r
    have o' := objD_upd (o' := o1) hp m0 o
    cases k with
    | ow =>
      subst q
      simp only [List.mem_cons, not_or] at hn
      exact ⟨dx, vs, qs, e, (upd_ne (Ne.symm hn.1)).trans n, l, o', rfl, rps_updI hp m0 hb (by simpa [D.sto] using hs) hn.2 ht hx r⟩
    | bo => simp [D.sto] at hs
    | fz => exact ⟨dx, vs, qs, e, n, l, o', q, rps_updI hp m0 hb (by simpa [D.sto] using hs) (by rw [q.2]; simp) ht hx r⟩
    | sc => exact n.elim
  | .lst k xs, v, ps, hs, hn, ht, hx, r => by
    unfold Rp at r ⊢
    obtain ⟨a, vs, qs, e, n, q, r⟩ := r
    cases k with
    | ow =>
      subst q
      simp only [List.mem_cons, not_or] at hn
      exact ⟨a, vs, qs, e, (upd_ne (Ne.symm hn.1)).trans n, rfl, rps_updI hp m0 hb (by simpa [D.sto] using hs) hn.2 ht hx r⟩
    | bo => simp [D.sto] at hs
    | fz => exact ⟨a, vs, qs, e, n, q, rps_updI hp m0 hb (by simpa [D.sto] using hs) (by rw [q.2]; simp) ht hx r⟩
    | sc => exact ⟨a, vs, qs, e, n, q, rps_updI hp m0 hb (by simpa [D.sto] using hs) (by rw [q.2]; simp) ht hx r⟩
  | .tup xs, v, ps, hs, hn, ht, hx, r => by
    unfold Rp at r ⊢
    obtain ⟨a, vs, e, n, r⟩ := r
    refine ⟨a, vs, e, ?_, rps_updI hp m0 hb (by simpa [D.sto] using hs) hn ht hx r⟩
    have : a ≠ p := fun z => by subst z; rw [hp] at n; cases n; exact ht _ rfl
    exact (upd_ne this).trans n
theorem rps_updI {p : Addr} {o0 o1 : HO} (hp : H p = some o0) (m0 : Mu o0 = true) (hb : B p = none) : ∀ {ds : List D} {vs : List V} {ps : List Addr}, D.stos ds = true → p ∉ ps → (∀ vs, o0 ≠ .tup vs) → (∀ C, o0 ≠ ExT C p) → Rps K B H ds vs ps → Rps K B (upd H p o1) ds vs ps
  | [], _, _, _, _, _, _, r => r
  | d :: ds, vs, ps, hs, hn, ht, hx, r => by
    unfold Rps at r ⊢
    obtain ⟨v, vr, p1, q, e1, e2, r1, r2⟩ := r
    subst e2
    simp only [D.stos, Bool.and_eq_true] at hs
    simp only [List.mem_append, not_or] at hn
    exact ⟨v, vr, p1, q, e1, rfl, rp_updI hp m0 hb hs.1 hn.1 ht hx r1, rps_updI hp m0 hb hs.2 hn.2 ht hx r2⟩
end
theorem objO_nt {C : Option Addr} {dx : Addr} {us : List (Str × V)} : ∀ vs, objO C dx us ≠ .tup vs := fun vs => by cases C <;> (intro z; cases z)
theorem objO_nx {C : Option Addr} {dx : Addr} {us : List (Str × V)} {p : Addr} : ∀ C', objO C dx us ≠ ExT C' p := fun C' => by cases C <;> (intro z; cases z)
end
/-- fields by name -/
def getF (f : Str) : List Str → List D → Option D
  | g :: r, y :: ys => if g = f then some y else getF f r ys
  | _, _ => none
def putN (f : Str) : List Str → List Str
  | [] => [f]
  | g :: r => if g = f then g :: r else g :: putN f r
def putX {α : Type} (f : Str) (x : α) : List Str → List α → List α
  | [], _ => [x]
  | _ :: _, [] => []
  | g :: r, y :: ys => if g = f then x :: ys else y :: putX f x r ys
theorem putF_zip (f : Str) (v : V) : ∀ (ns : List Str) (vs : List V), vs.length = ns.length → putF f v (ns.zip vs) = (putN f ns).zip (putX f v ns vs) ∧ (putX f v ns vs).length = (putN f ns).length
  | [], [], _ => ⟨rfl, rfl⟩
  | [], _ :: _, h => by simp at h
  | _ :: _, [], h => by simp at h
  | g :: r, y :: ys, h => by
    obtain ⟨h1, h2⟩ := putF_zip f v r ys (by simpa using h)
    rw [List.zip_cons_cons]
    unfold putF putN putX
    by_cases e : g = f
    · rw [if_pos e, if_pos e, if_pos e, List.zip_cons_cons]
      exact ⟨rfl, by simpa using h⟩
    · rw [if_neg e, if_neg e, if_neg e, List.zip_cons_cons, h1]
      exact ⟨rfl, by simp [h2]⟩
theorem putX_sto (f : Str) (d : D) (hd : d.sto = true) : ∀ (ns : List Str) (fs : List D), D.stos fs = true → D.stos (putX f d ns fs) = true
  | [], _, _ => by simp [putX, D.stos, hd]
  | _ :: _, [], _ => rfl
  | g :: r, y :: ys, h => by
    simp only [D.stos, Bool.and_eq_true] at h
    unfold putX
    split
    · simp [D.stos, hd, h.2]
    · simp [D.stos, h.1, putX_sto f d hd r ys h.2]
theorem rps_putX {K : PySem.W.Frag} {B H : Hp} (f : Str) {d : D} {v : V} {p : List Addr} (rd : Rp K B H d v p) : ∀ (ns : List Str) {fs : List D} {vs : List V} {qs : List Addr}, vs.length = ns.length → (qs ++ p).Nodup → Rps K B H fs vs qs → ∃ q', Rps K B H (putX f d ns fs) (putX f v ns vs) q' ∧ q'.Nodup ∧ ∀ t ∈ q', t ∈ qs ∨ t ∈ p
  | [], fs, vs, qs, hl, nd, r => by
    refine ⟨p ++ [], ?_, by simpa using (List.nodup_append.mp nd).2.1, fun t ht => .inr (by simpa using ht)⟩
    show Rps K B H [d] [v] (p ++ [])
    unfold Rps
    exact ⟨v, [], p, [], rfl, rfl, rd, ⟨rfl, rfl⟩⟩
  | g :: r, [], vs, qs, hl, nd, rr => by
    have h1 := rr.1
    subst h1
    simp at hl
  | g :: r, y :: ys, vs, qs, hl, nd, rr => by
    unfold Rps at rr
    obtain ⟨u, us, p1, q1, e1, e2, r1, r2⟩ := rr
    subst e1 e2
    obtain ⟨n1, n2, n3⟩ := List.nodup_append.mp nd
    obtain ⟨n4, n5, n6⟩ := List.nodup_append.mp n1
    unfold putX
    by_cases e : g = f
    · rw [if_pos e, if_pos e]
      refine ⟨p ++ q1, ?_, ?_, fun t ht => ?_⟩
      · unfold Rps
        exact ⟨v, us, p, q1, rfl, rfl, rd, r2⟩
      · exact List.nodup_append.mpr ⟨n2, n5, fun a ha b hb z => n3 b (by simp [hb]) a ha z.symm⟩
      · rcases List.mem_append.mp ht with z | z
        · exact .inr z
        · exact .inl (by simp [z])
    · rw [if_neg e, if_neg e]
      obtain ⟨q', a1, a2, a3⟩ := rps_putX f rd r (by simpa using hl) (List.nodup_append.mpr ⟨n5, n2, fun a ha b hb z => n3 a (by simp [ha]) b hb z⟩) r2
      refine ⟨p1 ++ q', ?_, ?_, fun t ht => ?_⟩
      · unfold Rps
        exact ⟨u, _, p1, q', rfl, rfl, r1, a1⟩
      · refine List.nodup_append.mpr ⟨n4, a2, fun a ha b hb z => ?_⟩
        rcases a3 b hb with w | w
        · exact n6 a ha b w z
        · exact n3 a (by simp [ha]) b w z
      · rcases List.mem_append.mp ht with z | z
        · exact .inl (by simp [z])
        · rcases a3 t z with w | w
          · exact .inl (by simp [w])
          · exact .inr w
/-- a field, by its place -/
theorem getF_ix {f : Str} {d : D} : ∀ {ns : List Str} {fs : List D}, getF f ns fs = some d → ∃ k, fs[k]? = some d ∧ (∀ x : D, putX f x ns fs = fs.set k x) ∧ ∀ vs : List V, vs.length = ns.length → (ns.zip vs).lookup f = vs[k]?
  | [], fs, h => by cases fs <;> cases h
  | _ :: _, [], h => by cases h
  | g :: r, y :: ys, h => by
    unfold getF at h
    by_cases e : g = f
    · rw [if_pos e] at h
      cases h
      refine ⟨0, rfl, fun x => by unfold putX; rw [if_pos e]; rfl, fun vs hl => ?_⟩
      cases vs with
      | nil => simp at hl
      | cons v vs => rw [List.zip_cons_cons, List.lookup_cons, show (f == g) = true by simp [e]]; rfl
    · rw [if_neg e] at h
      obtain ⟨k, h1, h2, h3⟩ := getF_ix h
      refine ⟨k + 1, by simpa using h1, fun x => by unfold putX; rw [if_neg e, h2]; rfl, fun vs hl => ?_⟩
      cases vs with
      | nil => simp at hl
      | cons v vs =>
        rw [List.zip_cons_cons, List.lookup_cons, show (f == g) = false by simpa using Ne.symm e]
        simpa using h3 vs (by simpa using hl)
theorem putX_len {α : Type} (f : Str) (x : α) : ∀ (ns : List Str) (ys : List α), ys.length = ns.length → (putX f x ns ys).length = (putN f ns).length
  | [], _, _ => rfl
  | _ :: _, [], h => by simp at h
  | g :: r, y :: ys, h => by
    unfold putX putN
    split
    · simpa using h
    · simp [putX_len f x r ys (by simpa using h)]
section
variable {K : PySem.W.Frag} {W : WC} {Bf Hf B0 H0 B H : Hp} {σ : L2.St} {env : Env} {ps : Nat → List Addr}
theorem SRb.objAt (s : SRb K Bf Hf B0 H0 σ H env B ps) {i : Nat} {a : Addr} {C : Option Addr} {ns : List Str} {fs : List D} (e : env[i]? = some (some (.obj .ow a C ns fs))) :
    ∃ dx vs qs, σ[i]? = some (some (.ref a)) ∧ H a = some (objO C dx (ns.zip vs)) ∧ objD H C a dx ∧ vs.length = ns.length ∧ Rps K B H fs vs qs ∧ ps i = a :: qs ∧ D.stos fs = true := by
  obtain ⟨hd, v, hv, r⟩ := s.sl i _ e
  unfold Rp at r
  obtain ⟨dx, vs, qs, ev, n, l, o, g1, g3⟩ := r
  subst ev
  exact ⟨dx, vs, qs, hv, n, o, l, g3, g1, by simpa [D.sto] using hd⟩
/-- what slot i holds is told anew: the heap is changed at what it owned, or at nothing -/
theorem SRb.reown (s : SRb K Bf Hf B0 H0 σ H env B ps) {i : Nat} {d : D} {v : V} {p : Addr} {o0 o1 : HO} {qs : List Addr} (hv : σ[i]? = some (some v)) (hi : i < env.length) (hp : H p = some o0) (hpi : p ∈ ps i) (m1 : Mu o1 = true) (ht : ∀ vs, o0 ≠ .tup vs) (hx : ∀ C, o0 ≠ ExT C p) (hd : d.sto = true)
    (r : Rp K B (upd H p o1) d v qs) (nd : qs.Nodup) (hq : ∀ q ∈ qs, q ∈ ps i ∨ (H0 q = none ∧ Hf q = none ∧ B q = none ∧ ∀ j, q ∉ ps j)) : SRb K Bf Hf B0 H0 σ (upd H p o1) (env.set i (some d)) B fun j => if j = i then qs else ps j := by
  obtain ⟨o1', o2, o3, o0', h0, m0⟩ := s.ow i p hpi
  rw [hp] at h0
  cases h0
  refine ⟨s.fb, fun t oo ee => ?_, ⟨s.st.b, fun t oo ee => ?_, fun t oo ee => ?_, s.st.n⟩, by simp [s.len], fun j d' e' => ?_, fun j => ?_, fun j k t h1 h2 => ?_, fun j t ht => ?_⟩
  · rw [upd_ne (fun z => by subst z; rw [o2] at ee; cases ee)]
    exact s.fh t oo ee
  · rw [upd_ne (fun z => by subst z; rw [o1'] at ee; cases ee)]
    exact s.st.h t oo ee
  · rw [upd_ne (fun z => by subst z; rw [o3] at ee; cases ee)]
    exact s.st.i t oo ee
  · by_cases h : j = i
    · subst h
      rw [List.getElem?_set_self hi] at e'
      cases e'
      refine ⟨hd, v, hv, ?_⟩
      rw [if_pos rfl]
      exact r
    · rw [List.getElem?_set_ne (Ne.symm h)] at e'
      obtain ⟨h0, w, h1, h2⟩ := s.sl j d' e'
      refine ⟨h0, w, h1, ?_⟩
      rw [if_neg h]
      exact rp_updI hp m0 o3 h0 (fun z => h (s.dj j i p z hpi)) ht hx h2
  · split
    · exact nd
    · exact s.nd j
  · have key : ∀ t, t ∈ qs → ∀ k, k ≠ i → t ∉ ps k := fun t ht k hk => by
      rcases hq t ht with z | z
      · exact fun y => hk (s.dj k i t y z)
      · exact z.2.2.2 k
    by_cases hj : j = i
    · rw [if_pos hj] at h1
      by_cases hk : k = i
      · exact hj.trans hk.symm
      · rw [if_neg hk] at h2
        exact absurd h2 (key t h1 k hk)
    · rw [if_neg hj] at h1
      by_cases hk : k = i
      · rw [if_pos hk] at h2
        exact absurd h1 (key t h2 j hj)
      · rw [if_neg hk] at h2
        exact s.dj j k t h1 h2
  · by_cases hj : j = i
    · rw [if_pos hj] at ht
      obtain ⟨o', b1, b2⟩ := rp_own r t ht
      rcases hq t ht with h | h
      · obtain ⟨q1, q2, q3, _⟩ := s.ow i t h
        exact ⟨q1, q2, q3, o', b1, b2⟩
      · exact ⟨h.1, h.2.1, h.2.2.1, o', b1, b2⟩
    · rw [if_neg hj] at ht
      obtain ⟨q1, q2, q3, us, q4, q5⟩ := s.ow j t ht
      refine ⟨q1, q2, q3, us, ?_, q5⟩
      rw [upd_ne (fun z => hj (s.dj j i t ht (by rw [z]; exact hpi)))]
      exact q4
/-- the object's fields are put anew -/
theorem SRb.objSet (s : SRb K Bf Hf B0 H0 σ H env B ps) {i : Nat} {a : Addr} {C : Option Addr} {ns ns' : List Str} {fs fs' : List D} {dx : Addr} {vs ws : List V} {qs qs' : List Addr} (e : env[i]? = some (some (.obj .ow a C ns fs))) (ea : H a = some (objO C dx (ns.zip vs))) (od : objD H C a dx) (eq : ps i = a :: qs)
    (hl : ws.length = ns'.length) (hst : D.stos fs' = true) (rr : Rps K B H fs' ws qs') (ndq : qs'.Nodup) (hq : ∀ q ∈ qs', q ∈ qs ∨ (H0 q = none ∧ Hf q = none ∧ B q = none ∧ ∀ j, q ∉ ps j)) :
    SRb K Bf Hf B0 H0 σ (upd H a (objO C dx (ns'.zip ws))) (env.set i (some (.obj .ow a C ns' fs'))) B fun j => if j = i then a :: qs' else ps j := by
  obtain ⟨hd, v, hv, r⟩ := s.sl i _ e
  have ev := rp_oad (a := a) rfl r
  subst ev
  have hpi : a ∈ ps i := by rw [eq]; simp
  have nd := s.nd i
  rw [eq] at nd
  obtain ⟨m7, m8⟩ := List.nodup_cons.mp nd
  have npq : a ∉ qs' := fun z => by
    rcases hq a z with h | h
    · exact m7 h
    · exact h.2.2.2 i hpi
  have o3 := (s.ow i a hpi).2.2.1
  refine s.reown hv (List.getElem?_eq_some_iff.mp e).1 ea hpi mu_objO objO_nt objO_nx (by simpa [D.sto] using hst) ?_ (List.nodup_cons.mpr ⟨npq, ndq⟩) fun q hqm => ?_
  · unfold Rp
    exact ⟨dx, ws, qs', rfl, upd_same, hl, objD_upd ea mu_objO od, rfl, rps_updI ea mu_objO o3 hst npq objO_nt objO_nx rr⟩
  · rcases List.mem_cons.mp hqm with z | z
    · exact .inl (z ▸ hpi)
    · exact (hq q z).imp (fun y => by rw [eq]; simp [y]) id
/-- a list that is a field of the object -/
theorem SRb.fldLst (s : SRb K Bf Hf B0 H0 σ H env B ps) {i : Nat} {a : Addr} {C : Option Addr} {ns : List Str} {fs : List D} {f : Str} {xs : List D} {dx : Addr} {vs : List V} {qs : List Addr} (e : env[i]? = some (some (.obj .ow a C ns fs))) (ea : H a = some (objO C dx (ns.zip vs))) (od : objD H C a dx) (hl : vs.length = ns.length) (rr : Rps K B H fs vs qs) (eq : ps i = a :: qs) (hg : getF f ns fs = some (.lst .ow xs)) :
    ∃ p us l q r, (ns.zip vs).lookup f = some (.ref p) ∧ H p = some (.lst us) ∧ Rps K B H xs us q ∧ qs = l ++ (p :: q) ++ r ∧ ∀ (xs' : List D) (ws : List V) (q' : List Addr), D.stos xs' = true → Rps K B H xs' ws q' → q'.Nodup → (∀ t ∈ q', t ∈ q ∨ (H0 t = none ∧ Hf t = none ∧ B t = none ∧ ∀ j, t ∉ ps j)) →
      Rps K B (upd H p (.lst ws)) (putX f (.lst .ow xs') ns fs) vs (l ++ (p :: q') ++ r) ∧ upd H p (.lst ws) a = some (objO C dx (ns.zip vs)) ∧ objD (upd H p (.lst ws)) C a dx ∧ D.stos (putX f (.lst .ow xs') ns fs) = true ∧
      SRb K Bf Hf B0 H0 σ (upd H p (.lst ws)) (env.set i (some (.obj .ow a C ns (putX f (.lst .ow xs') ns fs)))) B fun j => if j = i then a :: (l ++ (p :: q') ++ r) else ps j := by
  obtain ⟨hd, v, hv, rv⟩ := s.sl i _ e
  have ev := rp_oad (a := a) rfl rv
  subst ev
  have hsf : D.stos fs = true := by simpa [D.sto] using hd
  obtain ⟨k, g1, g2, g3⟩ := getF_ix hg
  obtain ⟨w, l, m, r, h1, h2, h3, h4⟩ := rps_split rr hsf g1
  unfold Rp at h3
  obtain ⟨p, us, q, ew, n, em, rx⟩ := h3
  have em : m = p :: q := em
  subst ew em h2
  have nd := s.nd i
  rw [eq] at nd
  obtain ⟨m7, m8⟩ := List.nodup_cons.mp nd
  obtain ⟨n1, n2, n3⟩ := List.nodup_append.mp m8
  obtain ⟨n4, n5, n6⟩ := List.nodup_append.mp n1
  obtain ⟨n7, n8⟩ := List.nodup_cons.mp n5
  have hpi : p ∈ ps i := by rw [eq]; simp
  have nap : a ≠ p := fun z => m7 (by rw [z]; simp)
  have npl : p ∉ l := fun z => n6 p z p (by simp) rfl
  have npr : p ∉ r := fun z => n3 p (by simp) p z rfl
  obtain ⟨_, _, o3, _⟩ := s.ow i p hpi
  refine ⟨p, us, l, q, r, (g3 vs hl).trans h1, n, rx, rfl, fun xs' ws q' hst rx' ndq' hq => ?_⟩
  have npq : p ∉ q' := fun z => by
    rcases hq p z with h | h
    · exact n7 h
    · exact h.2.2.2 i hpi
  have naq : ∀ t ∈ q', t ≠ a ∧ t ∉ l ∧ t ∉ r := fun t ht => by
    rcases hq t ht with h | h
    · exact ⟨fun z => m7 (by rw [← z]; simp [h]), fun z => n6 t z t (by simp [h]) rfl, fun z => n3 t (by simp [h]) t z rfl⟩
    · have h5 := h.2.2.2 i
      rw [eq] at h5
      simp only [List.mem_cons, List.mem_append, not_or] at h5
      exact ⟨h5.1, h5.2.1.1, h5.2.2⟩
  have r2 : Rps K B (upd H p (.lst ws)) xs' ws q' := rps_upd n o3 hst npq rx'
  have r3 := h4 p us ws (.lst .ow xs') (p :: q') n o3 npl npr (by unfold Rp; exact ⟨p, ws, q', rfl, upd_same, rfl, r2⟩)
  rw [← g2] at r3
  have e5 : upd H p (.lst ws) a = some (objO C dx (ns.zip vs)) := (upd_ne nap).trans ea
  have e6 := objD_upd (o' := .lst ws) n rfl od
  have e7 : D.stos (putX f (.lst .ow xs') ns fs) = true := putX_sto f _ (by simpa [D.sto] using hst) ns fs hsf
  refine ⟨r3, e5, e6, e7, ?_⟩
  refine s.reown (o1 := .lst ws) hv (List.getElem?_eq_some_iff.mp e).1 n hpi rfl (fun vs z => by cases z) (fun C z => by cases z) (by simpa [D.sto] using e7) ?_ ?_ fun t ht => ?_
  · unfold Rp
    exact ⟨dx, vs, _, rfl, e5, hl, e6, rfl, r3⟩
  · refine List.nodup_cons.mpr ⟨fun z => ?_, List.nodup_append.mpr ⟨List.nodup_append.mpr ⟨n4, List.nodup_cons.mpr ⟨npq, ndq'⟩, fun x hx y hy z => ?_⟩, n2, fun x hx y hy z => ?_⟩⟩
    · simp only [List.mem_append, List.mem_cons] at z
      rcases z with (z | z | z) | z
      · exact m7 (by simp [z])
      · exact nap z
      · exact (naq a z).1 rfl
      · exact m7 (by simp [z])
    · subst z
      rcases List.mem_cons.mp hy with z | z
      · exact npl (z ▸ hx)
      · exact (naq x z).2.1 hx
    · subst z
      rcases List.mem_append.mp hx with z | z
      · exact n3 x (by simp [z]) x hy rfl
      · rcases List.mem_cons.mp z with z | z
        · exact npr (z ▸ hy)
        · exact (naq x z).2.2 hy
  · simp only [List.mem_append, List.mem_cons] at ht
    rcases ht with z | (z | z | z) | z
    · exact .inl (by rw [eq]; simp [z])
    · exact .inl (by rw [eq]; simp [z])
    · exact .inl (by rw [eq]; simp [z])
    · rcases hq t z with y | y
      · exact .inl (by rw [eq]; simp [y])
      · exact .inr y
    · exact .inl (by rw [eq]; simp [z])
theorem rps_unsnoc {x : D} : ∀ {xs : List D} {us : List V} {q : List Addr}, Rps K B H (xs ++ [x]) us q → ∃ us0 v q0 q1, us = us0 ++ [v] ∧ q = q0 ++ q1 ∧ Rps K B H xs us0 q0 ∧ Rp K B H x v q1
  | [], us, q, r => by
    rw [List.nil_append] at r
    unfold Rps at r
    obtain ⟨v, vr, p, q', e1, e2, r1, r2⟩ := r
    subst e1 e2
    rw [r2.1, r2.2]
    exact ⟨[], v, [], p, rfl, by simp, ⟨rfl, rfl⟩, r1⟩
  | d :: ds, us, q, r => by
    rw [List.cons_append] at r
    unfold Rps at r
    obtain ⟨v, vr, p, q', e1, e2, r1, r2⟩ := r
    subst e1 e2
    obtain ⟨us0, w, q0, q1, h1, h2, h3, h4⟩ := rps_unsnoc r2
    subst h1 h2
    refine ⟨v :: us0, w, p ++ q0, q1, rfl, by simp, ?_, h4⟩
    unfold Rps
    exact ⟨v, us0, p, q0, rfl, rfl, r1, h3⟩
end
end BC

namespace BC
open PySem PySem.Spec PyProof.Rows L2

/-! ## NAME.f = e -/
def setFK (C0 : Addr) (j : Nat) (f : Str) (d : D) (env : Env) (Q : Ou → Prop) : Option (Option D) → Prop
  | some (some (.obj .ow a (some C) ns fs)) => C = C0 ∧ ns.length < 1000 ∧ Q (.nx (env.set j (some (.obj .ow a (some C) (putN f ns) (putX f d ns fs)))))
  | _ => False
def gSetF (C0 : Addr) (j : Nat) (f : Str) (g : Env → R D) : G := fun env Q => gEv (g env) env Q fun d => d.sto = true ∧ setFK C0 j f d env Q env[j]?
@[simp] theorem gSetF_eq (C0 : Addr) (j : Nat) (f : Str) (g : Env → R D) (env : Env) (Q : Ou → Prop) : gSetF C0 j f g env Q = gEv (g env) env Q fun d => d.sto = true ∧ setFK C0 j f d env Q env[j]? := rfl
@[simp] theorem setFK_eq (C0 : Addr) (j : Nat) (f : Str) (d : D) (env : Env) (Q : Ou → Prop) (a : Addr) (ns : List Str) (fs : List D) : setFK C0 j f d env Q (some (some (.obj .ow a (some C0) ns fs))) = (ns.length < 1000 ∧ Q (.nx (env.set j (some (.obj .ow a (some C0) (putN f ns) (putX f d ns fs)))))) := by
  show (C0 = C0 ∧ _) = _
  simp
/-! ## NAME.f = NAME.g.pop() -/
def popK (k : List D → D → Prop) : Option D → Prop
  | some (.lst .ow xs) => match xs.getLast? with
    | some y => k xs.dropLast y
    | none => False
  | _ => False
@[simp] theorem popK_snoc (k : List D → D → Prop) (xs : List D) (y : D) : popK k (some (.lst .ow (xs ++ [y]))) = k xs y := by simp [popK]
theorem popK_of {k : List D → D → Prop} {o : Option D} (h : popK k o) : ∃ xs y, o = some (.lst .ow (xs ++ [y])) ∧ k xs y := by
  unfold popK at h
  split at h
  · rename_i xs
    split at h
    · rename_i y e
      obtain ⟨zs, hz⟩ := List.getLast?_eq_some_iff.mp e
      subst hz
      exact ⟨zs, y, rfl, by simpa using h⟩
    · exact h.elim
  · exact h.elim
def fPopK (C0 : Addr) (j : Nat) (f g : Str) (env : Env) (Q : Ou → Prop) : Option (Option D) → Prop
  | some (some (.obj .ow a (some C) ns fs)) => C = C0 ∧ ns.length < 1000 ∧ popK (fun xs y => Q (.nx (env.set j (some (.obj .ow a (some C) (putN f ns) (putX f y ns (putX g (.lst .ow xs) ns fs))))))) (getF g ns fs)
  | _ => False
def gFPop (C0 : Addr) (j : Nat) (f g : Str) : G := fun env Q => fPopK C0 j f g env Q env[j]?
@[simp] theorem gFPop_eq (C0 : Addr) (j : Nat) (f g : Str) (env : Env) (Q : Ou → Prop) : gFPop C0 j f g env Q = fPopK C0 j f g env Q env[j]? := rfl
@[simp] theorem fPopK_eq (C0 : Addr) (j : Nat) (f g : Str) (env : Env) (Q : Ou → Prop) (a : Addr) (ns : List Str) (fs : List D) : fPopK C0 j f g env Q (some (some (.obj .ow a (some C0) ns fs))) = (ns.length < 1000 ∧ popK (fun xs y => Q (.nx (env.set j (some (.obj .ow a (some C0) (putN f ns) (putX f y ns (putX g (.lst .ow xs) ns fs))))))) (getF g ns fs)) := by
  show (C0 = C0 ∧ _) = _
  simp
/-! ## NAME.g.append(NAME.f), then NAME.f = e -/
/-- the object ahead of the second statement: as it reads (its field f is the same list as the last one of g) -/
def aMvK (C0 : Addr) (f g : Str) (k : Addr → List Str → List D → Prop) : Option (Option D) → Prop
  | some (some (.obj .ow a (some C) ns fs)) => C = C0 ∧ ns.length < 1000 ∧ f ≠ g ∧ match getF f ns fs, getF g ns fs with
    | some (.lst .ow hs), some (.lst .ow xs) => xs.length < 16777216 ∧ k a ns (putX g (.lst .ow (xs ++ [.lst .ow hs])) ns fs)
    | _, _ => False
  | _ => False
def rOk {α : Type} (r : R α) (k : α → Prop) : Prop := match r with
  | .ok d => k d
  | _ => False
@[simp] theorem rOk_ok {α : Type} (d : α) (k : α → Prop) : rOk (.ok d) k = k d := rfl
@[simp] theorem rOk_ite {α : Type} (c : Prop) [Decidable c] (x y : R α) (k : α → Prop) : rOk (if c then x else y) k = if c then rOk x k else rOk y k := by split <;> rfl
@[simp] theorem rOk_no {α : Type} (k : α → Prop) : rOk (.no) k = False := rfl
@[simp] theorem rOk_er {α : Type} (c : String) (k : α → Prop) : rOk (.er c) k = False := rfl
def gMvSet (C0 : Addr) (j : Nat) (f g : Str) (e : Env → R D) : G := fun env Q => aMvK C0 f g (fun a ns fs => rOk (e (env.set j (some (.obj .ow a (some C0) ns fs)))) fun d => d.sto = true ∧ Q (.nx (env.set j (some (.obj .ow a (some C0) (putN f ns) (putX f d ns fs)))))) env[j]?
def mvVK (C0 : Addr) (j i : Nat) (f : Str) (env : Env) (Q : Ou → Prop) (a : Addr) (ns : List Str) (fs : List D) : Option (Option D) → Prop
  | some (some d) => Q (.nx ((env.set i none).set j (some (.obj .ow a (some C0) (putN f ns) (putX f d ns fs)))))
  | _ => False
def gMvSetV (C0 : Addr) (j i : Nat) (f g : Str) : G := fun env Q => aMvK C0 f g (fun a ns fs => mvVK C0 j i f env Q a ns fs env[i]?) env[j]?
theorem gMvSet_eq (C0 : Addr) (j : Nat) (f g : Str) (e : Env → R D) (env : Env) (Q : Ou → Prop) : gMvSet C0 j f g e env Q = aMvK C0 f g (fun a ns fs => rOk (e (env.set j (some (.obj .ow a (some C0) ns fs)))) fun d => d.sto = true ∧ Q (.nx (env.set j (some (.obj .ow a (some C0) (putN f ns) (putX f d ns fs)))))) env[j]? := rfl
theorem gMvSetV_eq (C0 : Addr) (j i : Nat) (f g : Str) (env : Env) (Q : Ou → Prop) : gMvSetV C0 j i f g env Q = aMvK C0 f g (fun a ns fs => mvVK C0 j i f env Q a ns fs env[i]?) env[j]? := rfl
@[simp] theorem mvVK_some (C0 : Addr) (j i : Nat) (f : Str) (env : Env) (Q : Ou → Prop) (a : Addr) (ns : List Str) (fs : List D) (d : D) : mvVK C0 j i f env Q a ns fs (some (some d)) = Q (.nx ((env.set i none).set j (some (.obj .ow a (some C0) (putN f ns) (putX f d ns fs))))) := rfl
def aMvK2 (g : Str) (a : Addr) (ns : List Str) (fs : List D) (k : Addr → List Str → List D → Prop) : Option D → Option D → Prop
  | some (.lst .ow hs), some (.lst .ow xs) => xs.length < 16777216 ∧ k a ns (putX g (.lst .ow (xs ++ [.lst .ow hs])) ns fs)
  | _, _ => False
@[simp] theorem aMvK_eq (C0 : Addr) (f g : Str) (k : Addr → List Str → List D → Prop) (a : Addr) (ns : List Str) (fs : List D) : aMvK C0 f g k (some (some (.obj .ow a (some C0) ns fs))) = (ns.length < 1000 ∧ f ≠ g ∧ aMvK2 g a ns fs k (getF f ns fs) (getF g ns fs)) := by
  show (C0 = C0 ∧ ns.length < 1000 ∧ f ≠ g ∧ _) = _
  simp only [true_and]
  congr 2
@[simp] theorem aMvK2_eq (g : Str) (a : Addr) (ns : List Str) (fs : List D) (k : Addr → List Str → List D → Prop) (hs xs : List D) : aMvK2 g a ns fs k (some (.lst .ow hs)) (some (.lst .ow xs)) = (xs.length < 16777216 ∧ k a ns (putX g (.lst .ow (xs ++ [.lst .ow hs])) ns fs)) := rfl
theorem aMvK_of {C0 : Addr} {f g : Str} {k : Addr → List Str → List D → Prop} {o : Option (Option D)} (h : aMvK C0 f g k o) : ∃ a ns fs hs xs, o = some (some (.obj .ow a (some C0) ns fs)) ∧ ns.length < 1000 ∧ f ≠ g ∧ getF f ns fs = some (.lst .ow hs) ∧ getF g ns fs = some (.lst .ow xs) ∧ xs.length < 16777216 ∧ k a ns (putX g (.lst .ow (xs ++ [.lst .ow hs])) ns fs) := by
  unfold aMvK at h
  split at h
  · rename_i a C ns fs
    obtain ⟨h1, h2, h3, h4⟩ := h
    subst h1
    split at h4
    · rename_i hs xs e1 e2
      exact ⟨a, ns, fs, hs, xs, rfl, h2, h3, e1, e2, h4.1, h4.2⟩
    · exact h4.elim
  · exact h.elim
section
variable {X : Cx} {W : WC} {g : Env → R D}
theorem ss_setF (C0 : Addr) (j : Nat) {x f : Str} {value : Expr} {p pos pos' : Pos} (hx : PE X (.Name x p) (tVar j)) (cl : Cls X.K C0) (na : NoAttr X.K C0 f) (hv : PE X value (tF X.K W g)) (hs : swapsWith value (some (.Attribute (.Name x p) f pos')) pos.line X.env = pure false := by rfl) :
    PS X (.Assign [.Attribute (.Name x p) f pos'] value pos) (tG X.K W (gSetF C0 j f g)) := by
  refine psI (ps_fld hx hv hs) fun De σ H ⟨Bf, Hf, B0, H0, env, Q, s, h, eo⟩ => ?_
  refine runE s h (fun c q => eo.rz c env q) fun d v B B' H' qs ps k s0 s1 st rp nd fr => ?_
  obtain ⟨hst, k⟩ := k
  unfold setFK at k
  split at k
  · rename_i a C ns fs e
    obtain ⟨hc, hn, hq⟩ := k
    subst hc
    obtain ⟨dx, vs, rs, k1, k2, k3, k4, k5, k6, k7⟩ := s1.objAt e
    obtain ⟨z1, z2⟩ := putF_zip f v ns vs k4
    have f1 := s0.fresh st fr
    have nd1 := s1.nd j
    rw [k6] at nd1
    obtain ⟨m7, m8⟩ := List.nodup_cons.mp nd1
    have hnd : (rs ++ qs).Nodup := List.nodup_append.mpr ⟨m8, nd, fun a ha b hb z => by
      subst z
      exact (f1 a hb).2.2.2 j (by rw [k6]; simp [ha])⟩
    obtain ⟨q', a1, a2, a3⟩ := rps_putX f rp ns k4 hnd k5
    refine ⟨_, k1, a, C, dx, _, rfl, k2, cl, na, by rw [List.length_zip]; omega, ?_⟩
    rw [z1]
    exact eo.nx _ hq _ _ ⟨_, _, s1.objSet e k2 k3 k6 z2 (putX_sto f d hst ns fs k7) a1 a2 fun t ht => (a3 t ht).imp id fun z => f1 t z⟩
  · exact k.elim
theorem ss_fPop (C0 : Addr) (j : Nat) {x f g : Str} {p p2 pos pos' gpos apos cpos : Pos} (hx : PE X (.Name x p) (tVar j)) (hx2 : PE X (.Name x p2) (tVar j)) (cl : Cls X.K C0) (na : NoAttr X.K C0 f) (na2 : NoAttr X.K C0 g)
    (hb : attributeBase (.Name x p2) g X.env (eval (.Name x p2) X.env) = eval (.Name x p2) X.env := by rfl) (hbase : attributeBase (.Attribute (.Name x p2) g gpos) "pop" X.env (eval (.Attribute (.Name x p2) g gpos) X.env) = eval (.Attribute (.Name x p2) g gpos) X.env := by rfl) (hline : (apos.endLine == cpos.line) = true := by rfl)
    (hs : swapsWith (.Call (.Attribute (.Attribute (.Name x p2) g gpos) "pop" apos) [] [] cpos) (some (.Attribute (.Name x p) f pos')) pos.line X.env = pure false := by rfl) :
    PS X (.Assign [.Attribute (.Name x p) f pos'] (.Call (.Attribute (.Attribute (.Name x p2) g gpos) "pop" apos) [] [] cpos) pos) (tG X.K W (gFPop C0 j f g)) := by
  refine psI (ps_fld hx (pe_bm0 PySem.F.plainAttrs_list PySem.F.slot_list_pop PySem.F.type_list_pop mt_pop (pe_fld hx2 hb) hbase hline) hs) fun De σ H ⟨Bf, Hf, B0, H0, env, Q, ⟨B, ps, s⟩, h, eo⟩ => ?_
  rw [gFPop_eq] at h
  unfold fPopK at h
  split at h
  · rename_i a C ns fs e
    obtain ⟨hc, hn, hp⟩ := h
    subst hc
    obtain ⟨xs, y, hg, hq⟩ := popK_of hp
    obtain ⟨dx, vs, rs, k1, k2, k3, k4, k5, k6, k7⟩ := s.objAt e
    obtain ⟨p0, us, l, q, r, b1, b2, b3, b4, b5⟩ := s.fldLst e k2 k3 k4 k5 k6 hg
    obtain ⟨us0, w, q0, q1, c1, c2, c3, c4⟩ := rps_unsnoc b3
    subst c1
    have nd := s.nd j
    rw [k6, b4, c2] at nd
    obtain ⟨m7, m8⟩ := List.nodup_cons.mp nd
    obtain ⟨n1, n2, n3⟩ := List.nodup_append.mp m8
    obtain ⟨n4, n5, n6⟩ := List.nodup_append.mp n1
    obtain ⟨n7, n8⟩ := List.nodup_cons.mp n5
    obtain ⟨n9, n10, n11⟩ := List.nodup_append.mp n8
    have hys : D.stos (xs ++ [y]) = true := by
      have := sto_getF hg k7
      simpa [D.sto] using this
    have hxs : D.stos xs = true := stos_sub hys (List.sublist_append_left _ _)
    have hy : y.sto = true := by
      have := stos_sub hys (List.sublist_append_right xs [y])
      simpa [D.stos] using this
    obtain ⟨r1, r2, r3, r4, s2⟩ := b5 xs us0 q0 hxs c3 n9 fun t ht => .inl (by rw [c2]; simp [ht])
    -- the popped one, told in the new heap
    have hpi : p0 ∈ ps j := by rw [k6, b4]; simp
    have np1 : p0 ∉ q1 := fun z => n7 (by simp [z])
    have rw1 := rp_upd (ys := us0) b2 ((s.ow j p0 hpi).2.2.1) hy np1 c4
    have free : ∀ t ∈ q1, t ∈ ps j := fun t ht => by rw [k6, b4, c2]; simp [ht]
    have off : ∀ t ∈ q1, t ∉ (a :: (l ++ (p0 :: q0) ++ r)) := fun t ht z => by
      simp only [List.mem_cons, List.mem_append] at z
      rcases z with z | (z | z | z) | z
      · exact m7 (by rw [← z]; simp [ht])
      · exact n6 t z t (by simp [ht]) rfl
      · exact np1 (z ▸ ht)
      · exact n11 t z t ht rfl
      · exact n3 t (by simp [ht]) t z rfl
    have e2 : (env.set j (some (.obj .ow a (some C) ns (putX g (.lst .ow xs) ns fs))))[j]? = some (some (.obj .ow a (some C) ns (putX g (.lst .ow xs) ns fs))) := List.getElem?_set_self (List.getElem?_eq_some_iff.mp e).1
    have hnd : ((l ++ (p0 :: q0) ++ r) ++ q1).Nodup := by
      have ndj := s2.nd j
      simp only [if_true] at ndj
      refine List.nodup_append.mpr ⟨(List.nodup_cons.mp ndj).2, n10, fun x hx y hy z => ?_⟩
      subst z
      exact off x hy (by simp only [List.mem_cons]; exact .inr hx)
    obtain ⟨q', a1, a2, a3⟩ := rps_putX f rw1 ns k4 hnd r1
    obtain ⟨z1, z2⟩ := putF_zip f w ns vs k4
    have ew : (us0 ++ [w])[(us0 ++ [w]).length - 1]? = some w := by simp
    refine ⟨_, k1, a, C, dx, _, _, rfl, k2, cl, na2, b1, .inl ⟨rfl, _, .of b2⟩, p0, _, w, rfl, rfl, b2, ew, _, k1, a, C, dx, ns.zip vs, rfl, ?_, cl, na, by rw [List.length_zip]; omega, ?_⟩
    · rw [List.dropLast_concat]
      exact r2
    · rw [List.dropLast_concat, z1]
      have s3 := s2.objSet (i := j) (ns' := putN f ns) (fs' := putX f y ns (putX g (.lst .ow xs) ns fs)) e2 r2 r3 (if_pos rfl) z2 (putX_sto f y hy ns _ r4) a1 a2 fun t ht => (a3 t ht).imp id fun z => by
        obtain ⟨o1, o2, o3, _⟩ := s.ow j t (free t z)
        refine ⟨o1, o2, o3, fun k hk => ?_⟩
        by_cases hkj : k = j
        · simp only [if_pos hkj] at hk
          exact off t z hk
        · simp only [if_neg hkj] at hk
          exact hkj (s.dj k j t hk (free t z))
      rw [List.set_set] at s3
      exact eo.nx _ hq _ _ ⟨_, _, s3⟩
  · exact h.elim
where
  sto_getF {f : Str} {d : D} : ∀ {ns : List Str} {fs : List D}, getF f ns fs = some d → D.stos fs = true → d.sto = true := fun {ns fs} h hs => by
    obtain ⟨k, h1, _⟩ := getF_ix h
    exact stos_at hs h1
end
end BC

namespace BC
open PySem PySem.Spec PyProof.Rows L2

/-! ## NAME.g.append(NAME.f), NAME.f = e: the list moves -/
theorem getF_putX_ne {f g : Str} (h : f ≠ g) (x : D) : ∀ {ns : List Str} {fs : List D}, getF f ns fs ≠ none → getF g ns (putX f x ns fs) = getF g ns fs
  | [], fs, e => by cases fs <;> exact absurd rfl e
  | _ :: _, [], _ => rfl
  | n :: ns, y :: ys, e => by
    unfold putX
    by_cases c : n = f
    · rw [if_pos c]
      unfold getF
      have : ¬ n = g := fun z => h (c.symm.trans z)
      rw [if_neg this, if_neg this]
    · rw [if_neg c]
      unfold getF at e ⊢
      rw [if_neg c] at e
      rw [getF_putX_ne h x e]
theorem getF_putX {f : Str} (x : D) : ∀ {ns : List Str} {fs : List D}, getF f ns fs ≠ none → getF f ns (putX f x ns fs) = some x
  | [], fs, e => by cases fs <;> exact absurd rfl e
  | _ :: _, [], e => absurd rfl e
  | n :: ns, y :: ys, e => by
    unfold putX
    by_cases c : n = f
    · rw [if_pos c]
      unfold getF
      rw [if_pos c]
    · rw [if_neg c]
      unfold getF at e ⊢
      rw [if_neg c] at e
      rw [if_neg c, getF_putX x e]
theorem putX_comm {f g : Str} (h : f ≠ g) (x y : D) : ∀ {ns : List Str} {fs : List D}, getF f ns fs ≠ none → getF g ns fs ≠ none → putX g y ns (putX f x ns fs) = putX f x ns (putX g y ns fs)
  | [], fs, e, _ => by cases fs <;> exact absurd rfl e
  | _ :: _, [], e, _ => absurd rfl e
  | n :: ns, z :: zs, e, e2 => by
    by_cases c : n = f
    · have c2 : ¬ n = g := fun z => h (c.symm.trans z)
      simp only [putX, if_pos c, if_neg c2]
    · by_cases c2 : n = g
      · simp only [putX, if_neg c, if_pos c2]
      · unfold getF at e e2
        rw [if_neg c] at e
        rw [if_neg c2] at e2
        simp only [putX, if_neg c, if_neg c2, putX_comm h x y e e2]
theorem putX_putX {f : Str} (x y : D) : ∀ {ns : List Str} {fs : List D}, getF f ns fs ≠ none → putX f x ns (putX f y ns fs) = putX f x ns fs
  | [], fs, e => by cases fs <;> exact absurd rfl e
  | _ :: _, [], e => absurd rfl e
  | n :: ns, z :: zs, e => by
    by_cases c : n = f
    · simp only [putX, if_pos c]
    · unfold getF at e
      rw [if_neg c] at e
      simp only [putX, if_neg c, putX_putX x y e]
theorem putX_self {f : Str} {x : D} : ∀ {ns : List Str} {fs : List D}, getF f ns fs = some x → putX f x ns fs = fs
  | [], fs, e => by cases fs <;> cases e
  | _ :: _, [], e => by cases e
  | n :: ns, z :: zs, e => by
    unfold getF at e
    by_cases c : n = f
    · rw [if_pos c] at e
      cases e
      simp only [putX, if_pos c]
    · rw [if_neg c] at e
      simp only [putX, if_neg c, putX_self e]
theorem bors_putX {f : Str} (x : D) : ∀ {ns : List Str} {fs : List D}, getF f ns fs ≠ none → D.bors (putX f x ns fs) = putX f x.bor ns (D.bors fs)
  | [], fs, e => by cases fs <;> exact absurd rfl e
  | _ :: _, [], e => absurd rfl e
  | n :: ns, z :: zs, e => by
    by_cases c : n = f
    · simp only [putX, if_pos c, dbors_cons]
    · unfold getF at e
      rw [if_neg c] at e
      simp only [putX, if_neg c, dbors_cons, bors_putX x e]
theorem getF_bors {f : Str} : ∀ {ns : List Str} {fs : List D}, getF f ns (D.bors fs) = (getF f ns fs).map D.bor
  | [], fs => by cases fs <;> simp [getF]
  | _ :: _, [] => by simp [getF]
  | n :: ns, z :: zs => by
    rw [dbors_cons]
    unfold getF
    by_cases c : n = f
    · rw [if_pos c, if_pos c]; rfl
    · rw [if_neg c, if_neg c, getF_bors]
section
variable {K : PySem.W.Frag} {B H : Hp}
theorem rps_split0 : ∀ {ds : List D} {vs : List V} {ps : List Addr} {j : Nat} {d : D}, Rps K B H ds vs ps → ds[j]? = some d → ∃ v l m r, vs[j]? = some v ∧ ps = l ++ m ++ r ∧ Rp K B H d v m ∧ ∀ (d' : D) (m' : List Addr), Rp K B H d' v m' → Rps K B H (ds.set j d') vs (l ++ m' ++ r)
  | [], _, _, j, d, _, e => by simp at e
  | d0 :: ds, vs, ps, 0, d, r, e => by
    unfold Rps at r
    obtain ⟨v, vr, p1, q, e1, e2, r1, r2⟩ := r
    simp at e
    subst e e1 e2
    refine ⟨v, [], p1, q, rfl, rfl, r1, fun d' m' rr => ?_⟩
    show Rps K B H (d' :: ds) _ _
    unfold Rps
    exact ⟨v, vr, m', q, rfl, rfl, rr, r2⟩
  | d0 :: ds, vs, ps, j + 1, d, r, e => by
    unfold Rps at r
    obtain ⟨v, vr, p1, q, e1, e2, r1, r2⟩ := r
    simp at e
    subst e1 e2
    obtain ⟨w, l, m, rr, h1, h2, h3, h4⟩ := rps_split0 r2 e
    refine ⟨w, p1 ++ l, m, rr, by simpa using h1, by rw [h2]; simp, h3, fun d' m' rp => ?_⟩
    show Rps K B H (d0 :: ds.set j d') _ _
    unfold Rps
    exact ⟨v, vr, p1, l ++ m' ++ rr, rfl, by simp, r1, h4 d' m' rp⟩
end
theorem upd_id {H : Hp} {p : Addr} {o : HO} (h : H p = some o) : upd H p o = H := by
  funext q
  by_cases e : q = p
  · subst e; rw [upd_same, h]
  · rw [upd_ne e]
section
variable {K : PySem.W.Frag} {W : WC} {Bf Hf B0 H0 B H : Hp} {σ : L2.St} {env : Env} {ps : Nat → List Addr}
/-- the list at f has moved to the end of the one at g: told as owned there, and as it reads -/
theorem SRb.mvL (s : SRb K Bf Hf B0 H0 σ H env B ps) {j : Nat} {a : Addr} {C : Option Addr} {ns : List Str} {fs : List D} {f g : Str} {hs xs : List D} (e : env[j]? = some (some (.obj .ow a C ns fs))) (hfg : f ≠ g) (ef : getF f ns fs = some (.lst .ow hs)) (eg : getF g ns fs = some (.lst .ow xs)) :
    ∃ b p us dx vs, σ[j]? = some (some (.ref a)) ∧ H a = some (objO C dx (ns.zip vs)) ∧ vs.length = ns.length ∧ (ns.zip vs).lookup f = some (.ref b) ∧ (ns.zip vs).lookup g = some (.ref p) ∧ H p = some (.lst us) ∧ us.length = xs.length ∧
      (∃ ps2, SRb K Bf Hf B0 H0 σ (upd H p (.lst (us ++ [.ref b]))) (env.set j (some (.obj .ow a C ns (putX f (.loc b) ns (putX g (.lst .ow (xs ++ [.lst .ow hs])) ns fs))))) B ps2) ∧
      SlE K B (upd H p (.lst (us ++ [.ref b]))) (env.set j (some (.obj .ow a C ns (putX g (.lst .ow (xs ++ [.lst .ow hs])) ns fs)))) σ := by
  obtain ⟨dx, vs, rs, k1, k2, k3, k4, k5, k6, k7⟩ := s.objAt e
  obtain ⟨kf, g1, g2, g3⟩ := getF_ix ef
  obtain ⟨w, l, m, r, h1, h2, h3, h4⟩ := rps_split0 k5 g1
  have hfn : getF f ns fs ≠ none := by rw [ef]; simp
  have hgn : getF g ns fs ≠ none := by rw [eg]; simp
  have h3' := h3
  unfold Rp at h3
  obtain ⟨b, hv, qh, ew, nb, em, rh⟩ := h3
  have em : m = b :: qh := em
  subst ew
  have nd := s.nd j
  rw [k6, h2] at nd
  obtain ⟨m7, m8⟩ := List.nodup_cons.mp nd
  obtain ⟨n1, n2, n3⟩ := List.nodup_append.mp m8
  obtain ⟨n4, n5, n6⟩ := List.nodup_append.mp n1
  have hst : D.stos hs = true := by
    have := ss_fPop.sto_getF ef k7
    simpa [D.sto] using this
  have hsx : D.stos xs = true := by
    have := ss_fPop.sto_getF eg k7
    simpa [D.sto] using this
  have r0 := h4 (.loc b) [] (by unfold Rp; exact ⟨rfl, rfl⟩)
  rw [← g2, List.append_nil] at r0
  have nlr : (l ++ r).Nodup := List.nodup_append.mpr ⟨n4, n2, fun x hx y hy z => n3 x (by simp [hx]) y hy z⟩
  have inj : ∀ t ∈ m, t ∈ ps j := fun t ht => by rw [k6, h2]; simp [ht]
  have s0 := s.objSet (ns' := ns) (fs' := putX f (.loc b) ns fs) (ws := vs) (qs' := l ++ r) e k2 k3 k6 k4 (putX_sto f _ rfl ns fs k7) r0 nlr fun t ht => .inl (by rw [h2]; simp only [List.mem_append] at ht ⊢; exact ht.elim (fun z => .inl (.inl z)) .inr)
  rw [upd_id k2] at s0
  have e0 : (env.set j (some (.obj .ow a C ns (putX f (.loc b) ns fs))))[j]? = some (some (.obj .ow a C ns (putX f (.loc b) ns fs))) := List.getElem?_set_self (List.getElem?_eq_some_iff.mp e).1
  have off : ∀ t ∈ m, t ∉ a :: (l ++ r) := fun t ht z => by
    simp only [List.mem_cons, List.mem_append] at z
    rcases z with z | z | z
    · exact m7 (by rw [← z]; simp [ht])
    · exact n6 t z t ht rfl
    · exact n3 t (by simp [ht]) t z rfl
  obtain ⟨p, us, l2, q, r2, c1, c2, c3, c4, c5⟩ := s0.fldLst (f := g) e0 k2 k3 k4 r0 (if_pos rfl) (by rw [getF_putX_ne hfg _ hfn]; exact eg)
  have nq : q.Nodup := by
    rw [c4] at nlr
    obtain ⟨x1, x2, _⟩ := List.nodup_append.mp nlr
    exact (List.nodup_cons.mp (List.nodup_append.mp x1).2.1).2
  have hplr : p ∈ l ++ r := by rw [c4]; simp
  have hpj : p ∈ ps j := by
    rw [k6, h2]
    simp only [List.mem_append] at hplr
    simp only [List.mem_cons, List.mem_append]
    exact .inr (hplr.elim (fun z => .inl (.inl z)) .inr)
  obtain ⟨d1, d2, d3, d4, s1⟩ := c5 (xs ++ [.lst .ow hs]) (us ++ [.ref b]) (q ++ m) (stos_app hsx (by simp [D.stos, D.sto, hst])) (rps_app c3 (by unfold Rps; exact ⟨_, [], m, [], rfl, by simp, h3', ⟨rfl, rfl⟩⟩)) (List.nodup_append.mpr ⟨nq, n5, fun x hx y hy z => by
      subst z
      exact off x hy (by simp only [List.mem_cons]; exact .inr (by rw [c4]; simp [hx]))⟩) fun t ht => by
    rcases List.mem_append.mp ht with z | z
    · exact .inl z
    · obtain ⟨o1, o2, o3, _⟩ := s.ow j t (inj t z)
      refine .inr ⟨o1, o2, o3, fun k hk => ?_⟩
      by_cases hkj : k = j
      · simp only [if_pos hkj] at hk
        exact off t z hk
      · simp only [if_neg hkj] at hk
        exact hkj (s.dj k j t hk (inj t z))
  rw [List.set_set, putX_comm hfg _ _ hfn hgn] at s1
  rw [putX_comm hfg _ _ hfn hgn] at d1
  refine ⟨b, p, us, dx, vs, k1, k2, k4, (g3 vs k4).trans h1, c1, c2, rps_len c3, ⟨_, s1⟩, ?_⟩
  have sl1 := s1.sle
  have hj : j < env.length := (List.getElem?_eq_some_iff.mp e).1
  refine ⟨by simpa using sl1.1, fun i d ed => ?_⟩
  by_cases hij : j = i
  · subst hij
    rw [List.getElem?_set_self hj] at ed
    cases ed
    refine ⟨_, k1, ?_⟩
    -- the field f reads as the list that has moved
    have hbp : p ∉ m := fun z => off p z (by simp only [List.mem_cons]; exact .inr (by rw [c4]; simp))
    have rm := rp_upd (ys := us ++ [.ref b]) c2 ((s.ow j p hpj).2.2.1) (by simpa [D.sto] using hst) hbp h3'
    have rm := rp_bor rm
    have rb := rps_bor d1
    have hfg1 : getF f ns (putX g (.lst .ow (xs ++ [.lst .ow hs])) ns fs) = some (.lst .ow hs) := by rw [getF_putX_ne (Ne.symm hfg) _ hgn]; exact ef
    have hfn1 : getF f ns (putX g (.lst .ow (xs ++ [.lst .ow hs])) ns fs) ≠ none := by rw [hfg1]; simp
    rw [bors_putX _ hfn1] at rb
    have hb1 : getF f ns (putX f (D.loc b).bor ns (D.bors (putX g (.lst .ow (xs ++ [.lst .ow hs])) ns fs))) = some (D.loc b).bor := getF_putX _ (by rw [getF_bors, hfg1]; simp)
    obtain ⟨kk, y1, y2, y3⟩ := getF_ix hb1
    obtain ⟨w2, l3, m3, r3, z1, z2, z3, z4⟩ := rps_split0 rb y1
    have ew2 : w2 = .ref b := by
      have q1 := (y3 vs k4).symm.trans ((g3 vs k4).trans h1)
      rw [z1] at q1
      exact Option.some.inj q1
    subst ew2
    have z5 := z4 _ _ rm
    rw [← y2, putX_putX _ _ (by rw [getF_bors, hfg1]; simp), ← bors_putX _ hfn1, putX_self hfg1] at z5
    have ez : l3 ++ ([] : List Addr) ++ r3 = [] := by
      have := z2.symm
      rw [List.append_eq_nil_iff, List.append_eq_nil_iff] at this
      rw [this.1.1, this.2]
      rfl
    rw [ez] at z5
    rw [dbor_obj]
    unfold Rp
    exact ⟨dx, vs, [], rfl, d2, k4, d3, rfl, z5⟩
  · rw [List.getElem?_set_ne hij] at ed
    exact sl1.2 i d (by rw [List.getElem?_set_ne hij]; exact ed)
end
section
variable {X : Cx} {W : WC} {fe : Env → R D} {gr : G} {rest : List Stmt}
theorem few1 {e : Expr} : True := trivial
/-- the object takes the new value where the list was -/
theorem mvEnd {K : PySem.W.Frag} {Bf Hf B0 H0 B H : Hp} {σ : L2.St} {env : Env} {ps : Nat → List Addr} (s : SRb K Bf Hf B0 H0 σ H env B ps) {j : Nat} {a C0 b : Addr} {ns : List Str} {fs1 : List D} {f : Str} (hn : ns.length < 1000) (hf : getF f ns fs1 ≠ none) (e : env[j]? = some (some (.obj .ow a (some C0) ns (putX f (.loc b) ns fs1))))
    {d : D} {v : V} {qs : List Addr} (hd : d.sto = true) (rp : Rp K B H d v qs) (nd : qs.Nodup) (fr : ∀ q ∈ qs, H0 q = none ∧ Hf q = none ∧ B q = none ∧ ∀ i, q ∉ ps i) :
    ∃ dx us, H a = some (.ins C0 dx us) ∧ us.length < 1000 ∧ SR K Bf Hf B0 H0 σ (upd H a (.ins C0 dx (putF f v us))) (env.set j (some (.obj .ow a (some C0) (putN f ns) (putX f d ns fs1)))) := by
  obtain ⟨dx, vs, rs, k1, k2, k3, k4, k5, k6, k7⟩ := s.objAt e
  obtain ⟨z1, z2⟩ := putF_zip f v ns vs k4
  have nd1 := s.nd j
  rw [k6] at nd1
  obtain ⟨m7, m8⟩ := List.nodup_cons.mp nd1
  have hnd : (rs ++ qs).Nodup := List.nodup_append.mpr ⟨m8, nd, fun x hx y hy z => by
    subst z
    exact (fr x hy).2.2.2 j (by rw [k6]; simp [hx])⟩
  obtain ⟨q', a1, a2, a3⟩ := rps_putX f rp ns k4 hnd k5
  rw [putX_putX _ _ hf] at a1
  refine ⟨dx, ns.zip vs, k2, by rw [List.length_zip]; omega, ?_⟩
  rw [z1]
  have hst := putX_sto f d hd ns _ k7
  rw [putX_putX _ _ hf] at hst
  exact ⟨_, _, s.objSet e k2 k3 k6 z2 hst a1 a2 fun t ht => (a3 t ht).imp id fun z => fr t z⟩
theorem sss_mvSet (C0 : Addr) (j : Nat) {x f g : Str} {value : Expr} {p1 p2 p3 gpos fpos apos cpos epos fpos2 pos : Pos} (hx1 : PE X (.Name x p1) (tVar j)) (hx2 : PE X (.Name x p2) (tVar j)) (hx3 : PE X (.Name x p3) (tVar j)) (cl : Cls X.K C0) (na : NoAttr X.K C0 f) (na2 : NoAttr X.K C0 g) (hv : PE X value (tF X.K W fe)) (hrest : PSs X rest (tG X.K W gr))
    (hb1 : attributeBase (.Name x p1) g X.env (eval (.Name x p1) X.env) = eval (.Name x p1) X.env := by rfl) (hb2 : attributeBase (.Name x p2) f X.env (eval (.Name x p2) X.env) = eval (.Name x p2) X.env := by rfl)
    (hbase : attributeBase (.Attribute (.Name x p1) g gpos) "append" X.env (eval (.Attribute (.Name x p1) g gpos) X.env) = eval (.Attribute (.Name x p1) g gpos) X.env := by rfl)
    (hfew : ((backTo cpos (starEach [.Attribute (.Name x p2) f fpos] X.env)).all (fun x => !x.1) && (backToKw cpos (keywordEach [] X.env)).all (fun x => x.1.isSome)
      && decide ([Expr.Attribute (.Name x p2) f fpos].length + ([] : List Keyword).length + (if ([] : List Keyword).isEmpty then 0 else 1) < 30)) = true := by rfl)
    (hline : (apos.endLine == cpos.line) = true := by rfl) (hs1 : starEach [.Attribute (.Name x p2) f fpos] X.env = (false, eval (.Attribute (.Name x p2) f fpos) X.env) :: starEach [] X.env := by rfl) (hplain : (backTo cpos (starEach [] X.env)).any (·.1) = false := by rfl)
    (hsw : swapsWith (.Call (.Attribute (.Attribute (.Name x p1) g gpos) "append" apos) [.Attribute (.Name x p2) f fpos] [] cpos) none epos.line X.env = pure false := by rfl)
    (hs2 : swapsWith value (some (.Attribute (.Name x p3) f fpos2)) pos.line X.env = pure false := by rfl) :
    PSs X (.Expr (.Call (.Attribute (.Attribute (.Name x p1) g gpos) "append" apos) [.Attribute (.Name x p2) f fpos] [] cpos) epos :: .Assign [.Attribute (.Name x p3) f fpos2] value pos :: rest) (tG X.K W (gSeq (gMvSet C0 j f g fe) gr)) := by
  refine pssI (pss_cons (ps_expr (pe_bm PySem.F.plainAttrs_list PySem.F.slot_list_append PySem.F.type_list_append mt_append (pe_fld hx1 hb1) (pa_cons (pe_fld hx2 hb2) pa_nil hs1) hbase hfew hline hs1 hplain) hsw) (pss_cons (ps_fld hx3 hv hs2) hrest)) fun De σ H ⟨Bf, Hf, B0, H0, env, Q, ⟨B, ps, s⟩, h, eo⟩ => ?_
  replace h : gMvSet C0 j f g fe env (fun o => match o with | .nx e => gr e Q | o => Q o) := h
  rw [gMvSet_eq] at h
  obtain ⟨a, ns, fs, hs, xs, e, hn, hfg, ef, eg, hz, hk⟩ := aMvK_of h
  obtain ⟨b, p, us, dx, vs, k1, k2, k4, c1, c2, c3, c4, ⟨ps2, s1⟩, sle⟩ := s.mvL e hfg ef eg
  refine ⟨_, k1, a, C0, dx, ns.zip vs, _, rfl, k2, cl, na2, c2, .inl ⟨rfl, us, .of c3⟩, _, k1, a, C0, dx, ns.zip vs, _, rfl, k2, cl, na, c1, p, us, _, rfl, rfl, c3, by rw [c4, sizeLine_eq]; exact hz, ?_⟩
  have e1 : (env.set j (some (.obj .ow a (some C0) ns (putX f (.loc b) ns (putX g (.lst .ow (xs ++ [.lst .ow hs])) ns fs)))))[j]? = some (some (.obj .ow a (some C0) ns (putX f (.loc b) ns (putX g (.lst .ow (xs ++ [.lst .ow hs])) ns fs)))) := List.getElem?_set_self (List.getElem?_eq_some_iff.mp e).1
  refine tF_of s1.st.i sle ?_
  cases ev : fe (env.set j (some (.obj .ow a (some C0) ns (putX g (.lst .ow (xs ++ [.lst .ow hs])) ns fs)))) with
  | ok d =>
    rw [ev] at hk
    obtain ⟨hd, hq⟩ := hk
    intro v B' H' qs st rp nd fr
    have s2 := s1.step st
    have f1 := s1.fresh st fr
    have hfn : getF f ns (putX g (.lst .ow (xs ++ [.lst .ow hs])) ns fs) ≠ none := by rw [getF_putX_ne (Ne.symm hfg) _ (by rw [eg]; simp), ef]; simp
    obtain ⟨dx', us', w1, w2, w3⟩ := mvEnd s2 hn hfn e1 hd rp nd f1
    rw [List.set_set] at w3
    exact ⟨_, k1, a, C0, dx', us', rfl, w1, cl, na, w2, ⟨Bf, Hf, B0, H0, _, Q, w3, hq, eo⟩⟩
  | er c => rw [ev] at hk; exact hk.elim
  | no => rw [ev] at hk; exact hk.elim
theorem sss_mvSetV (C0 : Addr) (j i : Nat) (hij : i ≠ j) {x y f g : Str} {p1 p2 p3 py gpos fpos apos cpos epos fpos2 pos : Pos} (hx1 : PE X (.Name x p1) (tVar j)) (hx2 : PE X (.Name x p2) (tVar j)) (hx3 : PE X (.Name x p3) (tVar j)) (cl : Cls X.K C0) (na : NoAttr X.K C0 f) (na2 : NoAttr X.K C0 g) (hv : PE X (.Name y py) (tVar i)) (hrest : PSs X rest (tG X.K W gr))
    (hb1 : attributeBase (.Name x p1) g X.env (eval (.Name x p1) X.env) = eval (.Name x p1) X.env := by rfl) (hb2 : attributeBase (.Name x p2) f X.env (eval (.Name x p2) X.env) = eval (.Name x p2) X.env := by rfl)
    (hbase : attributeBase (.Attribute (.Name x p1) g gpos) "append" X.env (eval (.Attribute (.Name x p1) g gpos) X.env) = eval (.Attribute (.Name x p1) g gpos) X.env := by rfl)
    (hfew : ((backTo cpos (starEach [.Attribute (.Name x p2) f fpos] X.env)).all (fun x => !x.1) && (backToKw cpos (keywordEach [] X.env)).all (fun x => x.1.isSome)
      && decide ([Expr.Attribute (.Name x p2) f fpos].length + ([] : List Keyword).length + (if ([] : List Keyword).isEmpty then 0 else 1) < 30)) = true := by rfl)
    (hline : (apos.endLine == cpos.line) = true := by rfl) (hs1 : starEach [.Attribute (.Name x p2) f fpos] X.env = (false, eval (.Attribute (.Name x p2) f fpos) X.env) :: starEach [] X.env := by rfl) (hplain : (backTo cpos (starEach [] X.env)).any (·.1) = false := by rfl)
    (hsw : swapsWith (.Call (.Attribute (.Attribute (.Name x p1) g gpos) "append" apos) [.Attribute (.Name x p2) f fpos] [] cpos) none epos.line X.env = pure false := by rfl)
    (hs2 : swapsWith (.Name y py) (some (.Attribute (.Name x p3) f fpos2)) pos.line X.env = pure false := by rfl) :
    PSs X (.Expr (.Call (.Attribute (.Attribute (.Name x p1) g gpos) "append" apos) [.Attribute (.Name x p2) f fpos] [] cpos) epos :: .Assign [.Attribute (.Name x p3) f fpos2] (.Name y py) pos :: rest) (tG X.K W (gSeq (gMvSetV C0 j i f g) gr)) := by
  refine pssI (pss_cons (ps_expr (pe_bm PySem.F.plainAttrs_list PySem.F.slot_list_append PySem.F.type_list_append mt_append (pe_fld hx1 hb1) (pa_cons (pe_fld hx2 hb2) pa_nil hs1) hbase hfew hline hs1 hplain) hsw) (pss_cons (ps_fld hx3 hv hs2) hrest)) fun De σ H ⟨Bf, Hf, B0, H0, env, Q, ⟨B, ps, s⟩, h, eo⟩ => ?_
  replace h : gMvSetV C0 j i f g env (fun o => match o with | .nx e => gr e Q | o => Q o) := h
  rw [gMvSetV_eq] at h
  obtain ⟨a, ns, fs, hs, xs, e, hn, hfg, ef, eg, hz, hk⟩ := aMvK_of h
  obtain ⟨b, p, us, dx, vs, k1, k2, k4, c1, c2, c3, c4, ⟨ps2, s1⟩, sle⟩ := s.mvL e hfg ef eg
  refine ⟨_, k1, a, C0, dx, ns.zip vs, _, rfl, k2, cl, na2, c2, .inl ⟨rfl, us, .of c3⟩, _, k1, a, C0, dx, ns.zip vs, _, rfl, k2, cl, na, c1, p, us, _, rfl, rfl, c3, by rw [c4, sizeLine_eq]; exact hz, ?_⟩
  have e1 : (env.set j (some (.obj .ow a (some C0) ns (putX f (.loc b) ns (putX g (.lst .ow (xs ++ [.lst .ow hs])) ns fs)))))[j]? = some (some (.obj .ow a (some C0) ns (putX f (.loc b) ns (putX g (.lst .ow (xs ++ [.lst .ow hs])) ns fs)))) := List.getElem?_set_self (List.getElem?_eq_some_iff.mp e).1
  unfold mvVK at hk
  split at hk
  · rename_i d ed
    have ed2 : (env.set j (some (.obj .ow a (some C0) ns (putX f (.loc b) ns (putX g (.lst .ow (xs ++ [.lst .ow hs])) ns fs)))))[i]? = some (some d) := by rw [List.getElem?_set_ne (Ne.symm hij)]; exact ed
    obtain ⟨v, hv2, hd, rp, nd, s2, fr⟩ := s1.take ed2
    have hfn : getF f ns (putX g (.lst .ow (xs ++ [.lst .ow hs])) ns fs) ≠ none := by rw [getF_putX_ne (Ne.symm hfg) _ (by rw [eg]; simp), ef]; simp
    have e2 : ((env.set j (some (.obj .ow a (some C0) ns (putX f (.loc b) ns (putX g (.lst .ow (xs ++ [.lst .ow hs])) ns fs))))).set i none)[j]? = some (some (.obj .ow a (some C0) ns (putX f (.loc b) ns (putX g (.lst .ow (xs ++ [.lst .ow hs])) ns fs)))) := by rw [List.getElem?_set_ne hij]; exact e1
    obtain ⟨dx', us', w1, w2, w3⟩ := mvEnd s2 hn hfn e2 hd rp nd fr
    rw [List.set_comm _ _ (Ne.symm hij), List.set_set] at w3
    exact ⟨v, hv2, _, k1, a, C0, dx', us', rfl, w1, cl, na, w2, ⟨Bf, Hf, B0, H0, _, Q, w3, hk, eo⟩⟩
  · exact hk.elim
end
end BC

namespace BC
open PySem PySem.Spec PyProof.Rows L2

/-! ## expressions that change objects -/
def SRv (K : PySem.W.Frag) (Bf Hf B0 H0 : Hp) (σ : L2.St) (H : Hp) (env : Env) (d : D) (v : V) : Prop := ∃ B ps qs, SRb K Bf Hf B0 H0 σ H env B ps ∧ Rp K B H d v qs ∧ qs.Nodup ∧ ∀ q ∈ qs, H0 q = none ∧ Hf q = none ∧ B q = none ∧ ∀ i, q ∉ ps i
abbrev GE := Env → (D → Env → Prop) → (String → Env → Prop) → Prop
abbrev GT := Env → (Bool → Env → Prop) → (String → Env → Prop) → Prop
def tGE (K : PySem.W.Frag) (W : WC) (g : GE) : TE := fun σ H Q => ∃ Bf Hf B0 H0 env k x, SR K Bf Hf B0 H0 σ H env ∧ g env k x ∧ (∀ d e v H', k d e → SRv K Bf Hf B0 H0 σ H' e d v → Q v H') ∧ ∀ c e H', x c e → SR K Bf Hf B0 H0 σ H' e → W c σ H'
def tGT (K : PySem.W.Frag) (W : WC) (g : GT) : TT := fun σ H Q => ∃ Bf Hf B0 H0 env k x, SR K Bf Hf B0 H0 σ H env ∧ g env k x ∧ (∀ b e H', k b e → SR K Bf Hf B0 H0 σ H' e → Q b H') ∧ ∀ c e H', x c e → SR K Bf Hf B0 H0 σ H' e → W c σ H'
def gR {α : Type} (r : R α) (k : α → Prop) (x : String → Prop) : Prop := match r with
  | .ok a => k a
  | .er c => x c
  | .no => False
@[simp] theorem gR_ok {α : Type} (a : α) (k : α → Prop) (x : String → Prop) : gR (.ok a) k x = k a := rfl
@[simp] theorem gR_er {α : Type} (c : String) (k : α → Prop) (x : String → Prop) : gR (.er c) k x = x c := rfl
@[simp] theorem gR_no {α : Type} (k : α → Prop) (x : String → Prop) : gR (.no) k x = False := rfl
@[simp] theorem gR_ite {α : Type} (c : Prop) [Decidable c] (r s : R α) (k : α → Prop) (x : String → Prop) : gR (if c then r else s) k x = if c then gR r k x else gR s k x := by split <;> rfl
def oK {α : Type} (o : Option α) (k : α → Prop) : Prop := match o with
  | some a => k a
  | none => False
@[simp] theorem oK_some {α : Type} (a : α) (k : α → Prop) : oK (some a) k = k a := rfl
@[simp] theorem oK_none {α : Type} (k : α → Prop) : oK none k = False := rfl
@[simp] theorem oK_ite {α : Type} (c : Prop) [Decidable c] (r s : Option α) (k : α → Prop) : oK (if c then r else s) k = if c then oK r k else oK s k := by split <;> rfl
theorem oK_of {α : Type} {o : Option α} {k : α → Prop} (h : oK o k) : ∃ a, o = some a ∧ k a := by
  cases o with
  | some a => exact ⟨a, rfl, h⟩
  | none => exact h.elim
def geP (f : Env → R D) : GE := fun env k x => gR (f env) (fun d => k d env) fun c => x c env
def gtP (t : Env → R Bool) : GT := fun env k x => gR (t env) (fun d => k d env) fun c => x c env
def bE (k : Bool → Prop) : D → Prop
  | .bl b => k b
  | _ => False
@[simp] theorem bE_bl (k : Bool → Prop) (b : Bool) : bE k (.bl b) = k b := rfl
def gtV (g : GE) : GT := fun env k x => g env (fun d e => bE (fun b => k b e) d) x
def gtNot (t : GT) : GT := fun env k x => t env (fun b e => k (!b) e) x
def gtAnd (t u : GT) : GT := fun env k x => t env (fun b e => if b = true then u e k x else k false e) x
def gtOr (t u : GT) : GT := fun env k x => t env (fun b e => if b = true then k true e else u e k x) x
def eBin (o : D → D → Option D) (g : GE) (f : Env → R D) : GE := fun env k x => g env (fun d e => gR (f e) (fun d2 => oK (o d d2) fun d3 => k d3 e) fun c => x c e) x
def eAnd (g h : GE) : GE := fun env k x => g env (fun d e => bE (fun b => if b = true then h e k x else k (.bl false) e) d) x
def eOr (g h : GE) : GE := fun env k x => g env (fun d e => bE (fun b => if b = true then k (.bl true) e else h e k x) d) x
def eIf (t : GT) (g h : GE) : GE := fun env k x => t env (fun b e => if b = true then g e k x else h e k x) x
@[simp] theorem geP_eq (f : Env → R D) (env : Env) (k : D → Env → Prop) (x : String → Env → Prop) : geP f env k x = gR (f env) (fun d => k d env) fun c => x c env := rfl
@[simp] theorem gtP_eq (t : Env → R Bool) (env : Env) (k : Bool → Env → Prop) (x : String → Env → Prop) : gtP t env k x = gR (t env) (fun d => k d env) fun c => x c env := rfl
@[simp] theorem gtV_eq (g : GE) (env : Env) (k : Bool → Env → Prop) (x : String → Env → Prop) : gtV g env k x = g env (fun d e => bE (fun b => k b e) d) x := rfl
@[simp] theorem gtNot_eq (t : GT) (env : Env) (k : Bool → Env → Prop) (x : String → Env → Prop) : gtNot t env k x = t env (fun b e => k (!b) e) x := rfl
@[simp] theorem gtAnd_eq (t u : GT) (env : Env) (k : Bool → Env → Prop) (x : String → Env → Prop) : gtAnd t u env k x = t env (fun b e => if b = true then u e k x else k false e) x := rfl
@[simp] theorem gtOr_eq (t u : GT) (env : Env) (k : Bool → Env → Prop) (x : String → Env → Prop) : gtOr t u env k x = t env (fun b e => if b = true then k true e else u e k x) x := rfl
@[simp] theorem eBin_eq (o : D → D → Option D) (g : GE) (f : Env → R D) (env : Env) (k : D → Env → Prop) (x : String → Env → Prop) : eBin o g f env k x = g env (fun d e => gR (f e) (fun d2 => oK (o d d2) fun d3 => k d3 e) fun c => x c e) x := rfl
@[simp] theorem eAnd_eq (g h : GE) (env : Env) (k : D → Env → Prop) (x : String → Env → Prop) : eAnd g h env k x = g env (fun d e => bE (fun b => if b = true then h e k x else k (.bl false) e) d) x := rfl
@[simp] theorem eOr_eq (g h : GE) (env : Env) (k : D → Env → Prop) (x : String → Env → Prop) : eOr g h env k x = g env (fun d e => bE (fun b => if b = true then k (.bl true) e else h e k x) d) x := rfl
@[simp] theorem eIf_eq (t : GT) (g h : GE) (env : Env) (k : D → Env → Prop) (x : String → Env → Prop) : eIf t g h env k x = t env (fun b e => if b = true then g e k x else h e k x) x := rfl
def gAsgE (i : Nat) (g : GE) : G := fun env Q => g env (fun d e => d.sto = true ∧ Q (.nx (e.set i (some d)))) fun c e => Q (.rz c e)
def gDropE (g : GE) : G := fun env Q => g env (fun _ e => Q (.nx e)) fun c e => Q (.rz c e)
def gRetE (js : List Nat) (g : GE) : G := fun env Q => g env (fun d e => Q (.rt (witW e js d))) fun c e => Q (.rz c e)
def gIfE (t : GT) (g h : G) : G := fun env Q => t env (fun b e => if b = true then g e Q else h e Q) fun c e => Q (.rz c e)
@[simp] theorem gAsgE_eq (i : Nat) (g : GE) (env : Env) (Q : Ou → Prop) : gAsgE i g env Q = g env (fun d e => d.sto = true ∧ Q (.nx (e.set i (some d)))) fun c e => Q (.rz c e) := rfl
@[simp] theorem gDropE_eq (g : GE) (env : Env) (Q : Ou → Prop) : gDropE g env Q = g env (fun _ e => Q (.nx e)) fun c e => Q (.rz c e) := rfl
@[simp] theorem gRetE_eq (js : List Nat) (g : GE) (env : Env) (Q : Ou → Prop) : gRetE js g env Q = g env (fun d e => Q (.rt (witW e js d))) fun c e => Q (.rz c e) := rfl
@[simp] theorem gIfE_eq (t : GT) (g h : G) (env : Env) (Q : Ou → Prop) : gIfE t g h env Q = t env (fun b e => if b = true then g e Q else h e Q) fun c e => Q (.rz c e) := rfl
section
variable {K : PySem.W.Frag} {W : WC} {Bf Hf B0 H0 B H : Hp} {σ : L2.St} {env : Env}
theorem srv_bl {b : Bool} (s : SR K Bf Hf B0 H0 σ H env) : SRv K Bf Hf B0 H0 σ H env (.bl b) (.bl b) := by
  obtain ⟨B, ps, s⟩ := s
  exact ⟨B, ps, [], s, by unfold Rp; exact ⟨rfl, rfl⟩, .nil, by intro q hq; cases hq⟩
theorem SRv.sr {d : D} {v : V} (s : SRv K Bf Hf B0 H0 σ H env d v) : SR K Bf Hf B0 H0 σ H env := by
  obtain ⟨B, ps, _, s, _⟩ := s
  exact ⟨B, ps, s⟩
/-- a pure expression read where something is held -/
theorem runEv {f : Env → R D} {d : D} {v : V} {R' : VK} {k : D → Prop} {x : String → Prop} (s : SRv K Bf Hf B0 H0 σ H env d v) (h : gR (f env) k x) (er : ∀ c H', x c → SR K Bf Hf B0 H0 σ H' env → W c σ H')
    (kk : ∀ d2 v2 B2 H2 ps q q2, k d2 → SRb K Bf Hf B0 H0 σ H2 env B2 ps → Rp K B2 H2 d v q → Rp K B2 H2 d2 v2 q2 → (q ++ q2).Nodup → (∀ t ∈ q ++ q2, H0 t = none ∧ Hf t = none ∧ B2 t = none ∧ ∀ i, t ∉ ps i) → R' v2 H2) : tF K W f σ H R' := by
  obtain ⟨B, ps, q, s, r, nd, fr⟩ := s
  refine tF_of s.st.i s.sle ?_
  cases e : f env with
  | ok d2 =>
    rw [e] at h
    intro v2 B2 H2 q2 st r2 nd2 fr2
    have f2 := s.fresh st fr2
    refine kk d2 v2 B2 H2 ps q q2 h (s.step st) (rp_mono st.b st.h r) r2 (nodup_later (B := B) (H := H) r nd nd2 fr2) fun t ht => ?_
    rcases List.mem_append.mp ht with z | z
    · obtain ⟨o, ho, _⟩ := rp_own r t z
      exact ⟨(fr t z).1, (fr t z).2.1, st.n t o (fr t z).2.2.1 ho, (fr t z).2.2.2⟩
    · exact f2 t z
  | er c =>
    rw [e] at h
    exact fun H' hs => er c H' h ⟨B, ps, s.same hs⟩
  | no => rw [e] at h; exact h.elim
end
section
variable {X : Cx} {W : WC} {e a b c : Expr} {f : Env → R D} {t : Env → R Bool} {g h : GE} {u w : GT} {pos : Pos} {rest : List Expr}
theorem se_pureE (he : PE X e (tF X.K W f)) : PE X e (tGE X.K W (geP f)) := by
  refine peI he fun σ H Q ⟨Bf, Hf, B0, H0, env, k, x, ⟨B, ps, s⟩, hg, hk, hx⟩ => ?_
  refine tF_of s.st.i s.sle ?_
  rw [geP_eq] at hg
  cases ee : f env with
  | ok d =>
    rw [ee] at hg
    exact fun v B' H' qs st r nd fr => hk d env v H' hg ⟨B', ps, qs, s.step st, r, nd, s.fresh st fr⟩
  | er c =>
    rw [ee] at hg
    exact fun H' hs => hx c env H' hg ⟨B, ps, s.same hs⟩
  | no => rw [ee] at hg; exact hg.elim
theorem st_pureE (he : PT X e (tFT X.K W t)) : PT X e (tGT X.K W (gtP t)) := by
  refine ptI he fun σ H Q ⟨Bf, Hf, B0, H0, env, k, x, ⟨B, ps, s⟩, hg, hk, hx⟩ => ?_
  refine tFT_of s.st.i s.sle ?_
  rw [gtP_eq] at hg
  cases ee : t env with
  | ok d =>
    rw [ee] at hg
    exact fun B' H' st => hk d env H' hg ⟨B', ps, s.step st⟩
  | er c =>
    rw [ee] at hg
    exact fun H' hs => hx c env H' hg ⟨B, ps, s.same hs⟩
  | no => rw [ee] at hg; exact hg.elim
theorem tgB_of {K : PySem.W.Frag} {σ : L2.St} {H : Hp} {Q : Bool → Hp → Prop} (hh : tGT K W (gtV g) σ H Q) : tGE K W g σ H fun x H1 => ∃ c, x = .bl c ∧ Q c H1 := by
  obtain ⟨Bf, Hf, B0, H0, env, k, x, s, hg, hk, hx⟩ := hh
  refine ⟨Bf, Hf, B0, H0, env, _, x, s, hg, fun d e v H' hd sv => ?_, hx⟩
  cases d with
  | bl n =>
    obtain ⟨B, ps, q, s1, r, _⟩ := sv
    exact ⟨n, rp_bl r, hk n e H' hd ⟨B, ps, s1⟩⟩
  | _ => exact hd.elim
theorem st_valE (he : PE X e (tGE X.K W g)) (hr : ∀ whole, isTrue e X.env whole = (do let v ← whole; standAt e.pos; holding [v] (truthy v)) := by intro _; rfl) : PT X e (tGT X.K W (gtV g)) := ptI (pt_val he hr) fun _ _ _ h => tgB_of h
theorem tgOp_of {K : PySem.W.Frag} {r : R2} {o : D → D → Option D} (h2 : Op2 K r o) {σ : L2.St} {H : Hp} {Q : VK} (hh : tGE K W (eBin o g f) σ H Q) : tOp r (tGE K W g) (tF K W f) σ H Q := by
  obtain ⟨Bf, Hf, B0, H0, env, k, x, s, hg, hk, hx⟩ := hh
  refine ⟨Bf, Hf, B0, H0, env, _, x, s, hg, fun d e v H' hd sv => ?_, hx⟩
  refine runEv sv hd (fun c H' q s => hx c e H' q s) fun d2 v2 B2 H2 ps q q2 k2 s2 r r2 nd fr => ?_
  obtain ⟨d3, e3, k3⟩ := oK_of k2
  refine h2 d d2 d3 v v2 B2 H2 q q2 Q e3 s2.st.i r r2 nd (fun t ht => (fr t ht).2.2.1) fun v3 B3 H3 q3 st3 r3 nd3 fr3 => ?_
  refine hk d3 e v3 H3 k3 ⟨B3, ps, q3, s2.step st3, r3, nd3, fun t ht => ?_⟩
  obtain ⟨z, zb⟩ := fr3 t ht
  rcases z with z | z
  · exact ⟨(fr t z).1, (fr t z).2.1, zb, (fr t z).2.2.2⟩
  · refine ⟨s2.st.h.free z, s2.fh.free z, zb, fun i hi => ?_⟩
    obtain ⟨_, _, _, o, ho, _⟩ := s2.ow i t hi
    rw [z] at ho
    cases ho
theorem se_cmpE {op : CmpOp} {r : R2} {o : D → D → Option D} (ho : OpR X (compareOp op) r) (h2 : Op2 X.K r o) (ha : PE X a (tGE X.K W g)) (hb : PE X b (tF X.K W f)) (hm : behindInMarks op b = false := by first | exact nomark _ | rfl) : PE X (.Compare a [op] [b] pos) (tGE X.K W (eBin o g f)) := peI (pe_cmpR ho ha hb hm) fun _ _ _ h => tgOp_of h2 h
theorem st_cmpE {op : CmpOp} {r : R2} {o : D → D → Option D} (ho : OpR X (compareOp op) r) (h2 : Op2 X.K r o) (ha : PE X a (tGE X.K W g)) (hb : PE X b (tF X.K W f)) (hm : behindInMarks op b = false := by first | exact nomark _ | rfl) : PT X (.Compare a [op] [b] pos) (tGT X.K W (gtV (eBin o g f))) := ptI (pt_cmpR ho ha hb hm) fun _ _ _ h => tgOp_of h2 (tgB_of h)
theorem st_notE (ha : PT X a (tGT X.K W u)) : PT X (.UnaryOp .Not a pos) (tGT X.K W (gtNot u)) := by
  refine ptI (pt_not ha) fun σ H Q ⟨Bf, Hf, B0, H0, env, k, x, s, hg, hk, hx⟩ => ?_
  exact ⟨Bf, Hf, B0, H0, env, _, x, s, hg, fun b e H' hb s' => hk (!b) e H' hb s', hx⟩
theorem sw_and1E (ha : PT X a (tGT X.K W u)) : PW X (.BoolOp .And [a] pos) (tGT X.K W u) := pw_and1 ha
theorem sw_or1E (ha : PT X a (tGT X.K W u)) : PW X (.BoolOp .Or [a] pos) (tGT X.K W u) := pw_or1 ha
theorem sw_andE (ha : PT X a (tGT X.K W u)) (hb : PW X (.BoolOp .And (b :: rest) pos) (tGT X.K W w)) : PW X (.BoolOp .And (a :: b :: rest) pos) (tGT X.K W (gtAnd u w)) := by
  refine pwI (pw_and ha hb) fun σ H Q ⟨Bf, Hf, B0, H0, env, k, x, s, hg, hk, hx⟩ => ?_
  refine ⟨Bf, Hf, B0, H0, env, _, x, s, hg, fun b e H' hb s' => ?_, hx⟩
  cases b with
  | false => exact hk false e H' hb s'
  | true => exact ⟨Bf, Hf, B0, H0, e, k, x, s', hb, hk, hx⟩
theorem sw_orE (ha : PT X a (tGT X.K W u)) (hb : PW X (.BoolOp .Or (b :: rest) pos) (tGT X.K W w)) : PW X (.BoolOp .Or (a :: b :: rest) pos) (tGT X.K W (gtOr u w)) := by
  refine pwI (pw_or ha hb) fun σ H Q ⟨Bf, Hf, B0, H0, env, k, x, s, hg, hk, hx⟩ => ?_
  refine ⟨Bf, Hf, B0, H0, env, _, x, s, hg, fun b e H' hb s' => ?_, hx⟩
  cases b with
  | true => exact hk true e H' hb s'
  | false => exact ⟨Bf, Hf, B0, H0, e, k, x, s', hb, hk, hx⟩
theorem se_oneE {op : BoolOp} (ha : PE X a (tGE X.K W g)) : PE X (.BoolOp op [a] pos) (tGE X.K W g) := pe_one ha
theorem se_andE (ha : PE X a (tGE X.K W g)) (hb : PE X (.BoolOp .And (b :: rest) pos) (tGE X.K W h)) : PE X (.BoolOp .And (a :: b :: rest) pos) (tGE X.K W (eAnd g h)) := by
  refine peI (pe_and ha hb) fun σ H Q ⟨Bf, Hf, B0, H0, env, k, x, s, hg, hk, hx⟩ => ?_
  refine ⟨Bf, Hf, B0, H0, env, _, x, s, hg, fun d e v H' hd sv => ?_, hx⟩
  cases d with
  | bl b =>
    obtain ⟨B, ps, q, s1, r, _⟩ := sv
    refine ⟨b, rp_bl r, ?_⟩
    cases b with
    | true => exact ⟨Bf, Hf, B0, H0, e, k, x, ⟨B, ps, s1⟩, hd, hk, hx⟩
    | false => exact hk (.bl false) e _ H' hd (srv_bl ⟨B, ps, s1⟩)
  | _ => exact hd.elim
theorem se_orE (ha : PE X a (tGE X.K W g)) (hb : PE X (.BoolOp .Or (b :: rest) pos) (tGE X.K W h)) : PE X (.BoolOp .Or (a :: b :: rest) pos) (tGE X.K W (eOr g h)) := by
  refine peI (pe_or ha hb) fun σ H Q ⟨Bf, Hf, B0, H0, env, k, x, s, hg, hk, hx⟩ => ?_
  refine ⟨Bf, Hf, B0, H0, env, _, x, s, hg, fun d e v H' hd sv => ?_, hx⟩
  cases d with
  | bl b =>
    obtain ⟨B, ps, q, s1, r, _⟩ := sv
    refine ⟨b, rp_bl r, ?_⟩
    cases b with
    | false => exact ⟨Bf, Hf, B0, H0, e, k, x, ⟨B, ps, s1⟩, hd, hk, hx⟩
    | true => exact hk (.bl true) e _ H' hd (srv_bl ⟨B, ps, s1⟩)
  | _ => exact hd.elim
theorem se_ifExpE (hc : PT X c (tGT X.K W u)) (ha : PE X a (tGE X.K W g)) (hb : PE X b (tGE X.K W h)) : PE X (.IfExp c a b pos) (tGE X.K W (eIf u g h)) := by
  refine peI (pe_ifExp hc ha hb) fun σ H Q ⟨Bf, Hf, B0, H0, env, k, x, s, hg, hk, hx⟩ => ?_
  refine ⟨Bf, Hf, B0, H0, env, _, x, s, hg, fun b e H' hb s' => ?_, hx⟩
  cases b with
  | true => exact ⟨Bf, Hf, B0, H0, e, k, x, s', hb, hk, hx⟩
  | false => exact ⟨Bf, Hf, B0, H0, e, k, x, s', hb, hk, hx⟩
end
section
variable {X : Cx} {W : WC} {e c : Expr} {g : GE} {u : GT} {ga gb : G} {sa sb : List Stmt} {pos : Pos}
theorem ss_setE (i : Nat) {x : Str} {pos' : Pos} (hN : X.N.Nodup) (he : PE X e (tGE X.K W g)) (hi : X.N[i]? = some x := by rfl) (hx : Loc X.env.scope x := by first | exact Or.inl rfl | exact Or.inr rfl) (hs : swapsWith e (some (.Name x pos')) pos.line X.env = pure false := by rfl) (hf : X.fn x = true ∨ X.env.scope.names.lookup x = some .local := by first | exact .inl rfl | exact .inr rfl | assumption) :
    PS X (.Assign [.Name x pos'] e pos) (tG X.K W (gAsgE i g)) := by
  refine psI (ps_set hN hi hx he hs hf) fun De σ H ⟨Bf, Hf, B0, H0, env, Q, s, hh, eo⟩ => ?_
  refine ⟨Bf, Hf, B0, H0, env, _, _, s, hh, fun d e v H' hd sv => ?_, fun c e H' q s' => eo.rz c e q σ H' s'⟩
  obtain ⟨B, ps, qs, s1, r, nd, fr⟩ := sv
  exact eo.nx _ hd.2 _ H' ⟨B, _, s1.set (j := i) hd.1 r nd fun q hq => ⟨(fr q hq).1, (fr q hq).2.1, (fr q hq).2.2.1, fun k _ => (fr q hq).2.2.2 k⟩⟩
theorem ss_dropE (he : PE X e (tGE X.K W g)) (hs : swapsWith e none pos.line X.env = pure false := by rfl) : PS X (.Expr e pos) (tG X.K W (gDropE g)) := by
  refine psI (ps_expr he hs) fun De σ H ⟨Bf, Hf, B0, H0, env, Q, s, hh, eo⟩ => ?_
  exact ⟨Bf, Hf, B0, H0, env, _, _, s, hh, fun d e v H' hd sv => eo.nx e hd σ H' sv.sr, fun c e H' q s' => eo.rz c e q σ H' s'⟩
theorem ss_retE (js : List Nat) (he : PE X e (tGE X.K W g)) (hj : js.Nodup := by decide) : PS X (.Return (some e) pos) (tG X.K W (gRetE js g)) := by
  refine psI (ps_ret he) fun De σ H ⟨Bf, Hf, B0, H0, env, Q, s, hh, eo⟩ => ?_
  refine ⟨Bf, Hf, B0, H0, env, _, _, s, hh, fun d e v H' hd sv => ?_, fun c e H' q s' => eo.rz c e q σ H' s'⟩
  obtain ⟨B, ps, qs, s1, r, nd, fr⟩ := sv
  exact eo.rt _ hd v H' (retOk_W hj s1 r nd fun q hq => ⟨(fr q hq).1, (fr q hq).2.2.1, (fr q hq).2.2.2⟩)
theorem ss_ifE (hc : PT X c (tGT X.K W u)) (ha : PSs X sa (tG X.K W ga)) (hb : PSs X sb (tG X.K W gb)) : PS X (.If c sa sb pos) (tG X.K W (gIfE u ga gb)) := by
  refine psI (ps_if hc ha hb) fun De σ H ⟨Bf, Hf, B0, H0, env, Q, s, hh, eo⟩ => ?_
  refine ⟨Bf, Hf, B0, H0, env, _, _, s, hh, fun b e H' hb s' => ?_, fun c e H' q s' => eo.rz c e q σ H' s'⟩
  cases b with
  | true => exact ⟨Bf, Hf, B0, H0, e, Q, s', hb, eo⟩
  | false => exact ⟨Bf, Hf, B0, H0, e, Q, s', hb, eo⟩
end
end BC

namespace BC
open PySem PySem.Spec PyProof.Rows L2

/-! ## calls that objects are handed to -/
def setObjs : List Nat → List D → Env → Env
  | j :: js, o :: os, env => setObjs js os (env.set j (some o))
  | _, _, env => env
@[simp] theorem setObjs_nil (os : List D) (env : Env) : setObjs [] os env = env := by cases os <;> rfl
@[simp] theorem setObjs_cons (j : Nat) (js : List Nat) (o : D) (os : List D) (env : Env) : setObjs (j :: js) (o :: os) env = setObjs js os (env.set j (some o)) := rfl
theorem setObjs_self : ∀ {js : List Nat} {os : List D} {env : Env}, objsAt env js = some os → setObjs js os env = env
  | [], os, env, _ => setObjs_nil os env
  | j :: js, os, env, h => by
    obtain ⟨a, C, ns, fs, os', e1, e2, e3⟩ := objsAt_cons h
    subst e3
    rw [setObjs_cons, set_self e1]
    exact setObjs_self e2
theorem wipeE_setO {env : Env} {j : Nat} {x : Option D} : ∀ {js : List Nat}, j ∉ js → (wipeE env js).set j x = wipeE (env.set j x) js
  | [], _ => rfl
  | i :: js, h => by
    simp only [List.mem_cons, not_or] at h
    show ((wipeE env js).set i none).set j x = (wipeE (env.set j x) js).set i none
    rw [List.set_comm _ _ (Ne.symm h.1), wipeE_setO h.2]
theorem setObjs_wipe : ∀ {js : List Nat} {os : List D} {env : Env}, js.Nodup → js.length = os.length → setObjs js os (wipeE env js) = setObjs js os env
  | [], os, env, _, _ => rfl
  | j :: js, [], env, _, h => by simp at h
  | j :: js, o :: os, env, nd, h => by
    obtain ⟨n1, n2⟩ := List.nodup_cons.mp nd
    rw [setObjs_cons, setObjs_cons]
    show setObjs js os (((wipeE env js).set j none).set j (some o)) = _
    rw [List.set_set, wipeE_setO n1]
    exact setObjs_wipe n2 (by simpa using h)
theorem objsAt_len : ∀ {js : List Nat} {os : List D} {env : Env}, objsAt env js = some os → os.length = js.length
  | [], os, env, h => by cases h; rfl
  | j :: js, os, env, h => by
    obtain ⟨a, C, ns, fs, os', e1, e2, e3⟩ := objsAt_cons h
    subst e3
    simp [objsAt_len e2]
section
variable {K : PySem.W.Frag} {W : WC} {Bf Hf B0 H0 B H B' H' : Hp} {σ : L2.St} {env : Env} {ps : Nat → List Addr}
/-- the objects are put back -/
theorem SRb.back : ∀ {js : List Nat} {os : List D} {ws : List V} {P : List Addr} {env : Env} {ps : Nat → List Addr}, SRb K Bf Hf B0 H0 σ H env B ps → js.Nodup → (∀ j ∈ js, ps j = []) → Rps K B H os ws P → P.Nodup → D.stos os = true → (∀ q ∈ P, H0 q = none ∧ Hf q = none ∧ B q = none ∧ ∀ i, q ∉ ps i) → js.map (fun j => σ[j]?) = ws.map (fun v => some (some v)) →
    ∃ ps2, SRb K Bf Hf B0 H0 σ H (setObjs js os env) B ps2 ∧ ∀ i q, q ∈ ps2 i → q ∈ P ∨ q ∈ ps i
  | [], os, ws, P, env, ps, s, _, _, r, _, _, _, e => by
    rw [setObjs_nil]
    exact ⟨ps, s, fun i q h => .inr h⟩
  | j :: js, [], ws, P, env, ps, s, _, _, r, _, _, _, e => by
    rw [r.1] at e
    cases e
  | j :: js, o :: os, ws, P, env, ps, s, nd, h0, r, ndP, hs, fr, e => by
    unfold Rps at r
    obtain ⟨v, vr, p, q, e1, e2, r1, r2⟩ := r
    subst e1 e2
    simp only [List.map_cons, List.cons.injEq] at e
    obtain ⟨n1, n2⟩ := List.nodup_cons.mp nd
    obtain ⟨m1, m2, m3⟩ := List.nodup_append.mp ndP
    simp only [D.stos, Bool.and_eq_true] at hs
    have s2 := s.set (j := j) hs.1 r1 m1 fun x hx => ⟨(fr x (by simp [hx])).1, (fr x (by simp [hx])).2.1, (fr x (by simp [hx])).2.2.1, fun k _ => (fr x (by simp [hx])).2.2.2 k⟩
    rw [set_self e.1] at s2
    obtain ⟨ps2, s3, h3⟩ := SRb.back (js := js) s2 n2 (fun k hk => by
      have hkj : k ≠ j := fun z => n1 (by rw [← z]; exact hk)
      show (if k = j then p else ps k) = []
      rw [if_neg hkj]
      exact h0 k (by simp [hk])) r2 m2 hs.2 (fun x hx => by
      obtain ⟨a, b, c, d⟩ := fr x (by simp [hx])
      refine ⟨a, b, c, fun i => ?_⟩
      split
      · exact fun z => m3 x z x hx rfl
      · exact d i) e.2
    refine ⟨ps2, s3, fun i x hx => ?_⟩
    rcases h3 i x hx with z | z
    · exact .inl (by simp [z])
    · split at z
      · exact .inl (by simp [z])
      · exact .inr z
theorem SRb.afterW (s : SRb K Bf Hf B0 H0 σ H env B ps) {js : List Nat} {os os' : List D} {ws : List V} {P' : List Addr} (nd : js.Nodup) (eo : objsAt env js = some os) (rw : Rps K B H os ws (js.flatMap ps))
    (hb : Same B B') (hh : ∀ p o, p ∉ js.flatMap ps → H p = some o → H' p = some o) (hi : Same B' H') (hn : ∀ p o, p ∉ js.flatMap ps → B p = none → H p = some o → B' p = none)
    (em : os'.map D.oad = os.map D.oad) (hs : D.stos os' = true) (r : Rps K B' H' os' ws P') (ndP : P'.Nodup) (fr : ∀ q ∈ P', B' q = none ∧ (H q = none ∨ q ∈ js.flatMap ps)) :
    ∃ ps', SRb K Bf Hf B0 H0 σ H' (setObjs js os' env) B' ps' ∧ ∀ i q, q ∈ ps' i → q ∈ P' ∨ (q ∈ ps i ∧ i ∉ js) := by
  obtain ⟨ws0, w1, w2, w3, w4, w5⟩ := s.objs nd eo
  have ew : ws0 = ws := rps_oad w4 rfl rw w1
  subst ew
  have inP : ∀ {i q}, q ∈ ps i → q ∈ js.flatMap ps → i ∈ js := fun {i q} h1 h2 => by
    obtain ⟨j, hj, hq⟩ := List.mem_flatMap.mp h2
    rw [s.dj i j q h1 hq]
    exact hj
  have outP : ∀ {p}, p ∈ js.flatMap ps → H0 p = none ∧ Hf p = none := fun {p} h => by
    obtain ⟨j, _, hq⟩ := List.mem_flatMap.mp h
    exact ⟨(s.ow j p hq).1, (s.ow j p hq).2.1⟩
  have s1 : SRb K Bf Hf B0 H0 σ H' (wipeE env js) B' (fun i => if i ∈ js then [] else ps i) := by
    refine ⟨s.fb.trans hb, fun p o e => hh p o (fun z => by rw [(outP z).2] at e; cases e) (s.fh p o e), ⟨s.st.b.trans hb, fun p o e => hh p o (fun z => by rw [(outP z).1] at e; cases e) (s.st.h p o e), hi, fun p o b e => hn p o (fun z => by rw [(outP z).1] at e; cases e) (s.st.n p o b e) (s.st.h p o e)⟩, by rw [wipeE_length]; exact s.len, fun i d e => ?_, fun i => ?_, fun i k p h1 h2 => ?_, fun i p hp => ?_⟩
    · obtain ⟨e1, e2⟩ := wipeE_some e
      obtain ⟨hd, v, hv, rv⟩ := s.sl i d e1
      refine ⟨hd, v, hv, ?_⟩
      rw [if_neg e2]
      have hk : Same (kp B H) H' := fun p o e => by
        refine hh p o (fun z => ?_) (kp_same s.st.i p o e)
        obtain ⟨j, _, hq⟩ := List.mem_flatMap.mp z
        obtain ⟨_, _, h3, o', h4, h5⟩ := s.ow j p hq
        rw [kp_none h4 h5 h3] at e
        cases e
      refine rp_mono hb (.refl _) (rp_loc hk hd (fun q hq => ?_) rv)
      obtain ⟨_, _, _, o', h4, _⟩ := s.ow i q hq
      rw [h4]
      exact hh q o' (fun z => e2 (inP hq z)) h4
    · split
      · exact .nil
      · exact s.nd i
    · split at h1
      · cases h1
      · split at h2
        · cases h2
        · exact s.dj i k p h1 h2
    · split at hp
      · cases hp
      · rename_i hni
        obtain ⟨h1, h2, h3, o, h4, h5⟩ := s.ow i p hp
        have np : p ∉ js.flatMap ps := fun z => hni (inP hp z)
        exact ⟨h1, h2, hn p o np h3 h4, o, hh p o np h4, h5⟩
  obtain ⟨ps2, s2, h2⟩ := s1.back nd (fun j hj => if_pos hj) r ndP hs (fun q hq => by
    obtain ⟨f1, f2⟩ := fr q hq
    rcases f2 with f2 | f2
    · refine ⟨s.st.h.free f2, s.fh.free f2, f1, fun i hi => ?_⟩
      split at hi
      · cases hi
      · obtain ⟨_, _, _, o, h4, _⟩ := s.ow i q hi
        rw [f2] at h4
        cases h4
    · refine ⟨(outP f2).1, (outP f2).2, f1, fun i hi => ?_⟩
      split at hi
      · cases hi
      · rename_i hni
        exact hni (inP hi f2)) w5
  have hlen : js.length = os'.length := by
    have := congrArg List.length em
    simp at this
    rw [this, objsAt_len eo]
  rw [setObjs_wipe nd hlen] at s2
  refine ⟨ps2, s2, fun i q hq => ?_⟩
  rcases h2 i q hq with z | z
  · exact .inl z
  · split at z
    · cases z
    · rename_i hni
      exact .inr ⟨z, hni⟩
end
end BC

namespace BC
open PySem PySem.Spec PyProof.Rows L2

def retE (js : List Nat) (os : List D) (env : Env) (k : D → Env → Prop) (x : String → Env → Prop) : R D → Prop
  | .ok (.wit d os') => D.stos os' = true ∧ os'.map D.oad = os.map D.oad ∧ k d (setObjs js os' env)
  | .er c => x c env
  | _ => False
@[simp] theorem retE_ok (js : List Nat) (os : List D) (env : Env) (k : D → Env → Prop) (x : String → Env → Prop) (d : D) (os' : List D) : retE js os env k x (.ok (.wit d os')) = (D.stos os' = true ∧ os'.map D.oad = os.map D.oad ∧ k d (setObjs js os' env)) := rfl
@[simp] theorem retE_er (js : List Nat) (os : List D) (env : Env) (k : D → Env → Prop) (x : String → Env → Prop) (c : String) : retE js os env k x (.er c) = x c env := rfl
@[simp] theorem retE_ite (js : List Nat) (os : List D) (env : Env) (k : D → Env → Prop) (x : String → Env → Prop) (c : Prop) [Decidable c] (r s : R D) : retE js os env k x (if c then r else s) = if c then retE js os env k x r else retE js os env k x s := by split <;> rfl
/-- a call that objects are handed to; nothing else that is handed over is borrowed -/
def eCall (js : List Nat) (m : List D → R D) (fs : Env → R (List D)) : GE := fun env k x => oK (objsAt env js) fun os => gR (fs env) (fun ds => D.stos ds = true ∧ retE js os env k x (m (os ++ D.frzs ds))) fun c => x c env
@[simp] theorem eCall_eq (js : List Nat) (m : List D → R D) (fs : Env → R (List D)) (env : Env) (k : D → Env → Prop) (x : String → Env → Prop) : eCall js m fs env k x = oK (objsAt env js) fun os => gR (fs env) (fun ds => D.stos ds = true ∧ retE js os env k x (m (os ++ D.frzs ds))) fun c => x c env := rfl
mutual
/-- all that is in it is its own -/
def D.ownd : D → Bool
  | .lst .ow xs => D.ownds xs
  | .lst .fz _ => false
  | .lst .bo _ => false
  | .lst .sc _ => false
  | .tup xs => D.ownds xs
  | .obj .ow _ _ _ fs => D.ownds fs
  | .obj .fz _ _ _ _ => false
  | .obj .bo _ _ _ _ => false
  | .obj .sc _ _ _ _ => false
  | .dic .ow _ => true
  | .dic .fz _ => false
  | .dic .bo _ => false
  | .dic .sc _ => false
  | .non => true
  | .bl _ => true
  | .int _ => true
  | .str _ => true
  | .exc _ _ => true
  | .loc _ => true
  | .wit _ _ => false
def D.ownds : List D → Bool
  | [] => true
  | d :: ds => d.ownd && D.ownds ds
end
@[simp] theorem ownd_lst (xs : List D) : (D.lst .ow xs).ownd = D.ownds xs := by simp [D.ownd]
@[simp] theorem ownd_obj (a : Addr) (C : Option Addr) (ns : List Str) (fs : List D) : (D.obj .ow a C ns fs).ownd = D.ownds fs := by simp [D.ownd]
@[simp] theorem ownd_int (i : Int) : (D.int i).ownd = true := by simp [D.ownd]
@[simp] theorem ownd_str (i : Str) : (D.str i).ownd = true := by simp [D.ownd]
@[simp] theorem ownd_bl (i : Bool) : (D.bl i).ownd = true := by simp [D.ownd]
@[simp] theorem ownd_non : (D.non).ownd = true := by simp [D.ownd]
@[simp] theorem ownds_nil : D.ownds [] = true := by simp [D.ownds]
@[simp] theorem ownds_cons (d : D) (ds : List D) : D.ownds (d :: ds) = (d.ownd && D.ownds ds) := by simp [D.ownds]
theorem ownds_enc {α : Type} {f : α → D} (h : ∀ a, (f a).ownd = true) (xs : List α) : D.ownds (encL f xs) = true := by
  induction xs with
  | nil => simp [encL_nil]
  | cons a as ih => rw [encL_cons, ownds_cons, h, ih]; rfl
@[simp] theorem ownds_int (xs : List Int) : D.ownds (encL .int xs) = true := ownds_enc (fun _ => by simp) xs
@[simp] theorem ownds_iL (xs : List (List Int)) : D.ownds (encL (iL .ow) xs) = true := ownds_enc (fun _ => by simp) xs
@[simp] theorem ownds_app (xs ys : List D) : D.ownds (xs ++ ys) = (D.ownds xs && D.ownds ys) := by
  induction xs with
  | nil => simp
  | cons x xs ih => rw [List.cons_append, ownds_cons, ownds_cons, ih, Bool.and_assoc]
section
variable {K : PySem.W.Frag} {B B2 H : Hp}
mutual
theorem rp_ownd : ∀ {d : D} {v : V} {ps : List Addr}, d.ownd = true → Rp K B H d v ps → Rp K B2 H d v ps
  | .non, _, _, _, r => r
  | .bl _, _, _, _, r => r
  | .int _, _, _, _, r => r
  | .str _, _, _, _, r => r
  | .loc _, _, _, _, r => r
  | .exc _ _, _, _, _, r => r
  | .wit _ _, _, _, h, r => by simp [D.ownd] at h
  | .dic k _, _, _, h, ⟨a, e1, e2, e3⟩ => ⟨a, e1, by cases k <;> first | exact e2 | (simp [D.ownd] at h), e3⟩
  | .lst k xs, v, ps, h, r => by
    unfold Rp at r ⊢
    obtain ⟨a, vs, qs, e, n, q, r⟩ := r
    cases k with
    | ow => exact ⟨a, vs, qs, e, n, q, rps_ownd (by simpa [D.ownd] using h) r⟩
    | _ => simp [D.ownd] at h
  | .obj k a C ns fs, v, ps, h, r => by
    unfold Rp at r ⊢
    obtain ⟨dx, vs, qs, e, n, l, o, q, r⟩ := r
    cases k with
    | ow => exact ⟨dx, vs, qs, e, n, l, o, q, rps_ownd (by simpa [D.ownd] using h) r⟩
    | _ => simp [D.ownd] at h
  | .tup xs, v, ps, h, r => by
    unfold Rp at r ⊢
    obtain ⟨a, vs, e, n, r⟩ := r
    exact ⟨a, vs, e, n, rps_ownd (by simpa [D.ownd] using h) r⟩
theorem rps_ownd : ∀ {ds : List D} {vs : List V} {ps : List Addr}, D.ownds ds = true → Rps K B H ds vs ps → Rps K B2 H ds vs ps
  | [], _, _, _, r => r
  | d :: ds, vs, ps, h, r => by
    unfold Rps at r ⊢
    obtain ⟨v, vr, p, q, e1, e2, r1, r2⟩ := r
    simp only [ownds_cons, Bool.and_eq_true] at h
    exact ⟨v, vr, p, q, e1, e2, rp_ownd h.1 r1, rps_ownd h.2 r2⟩
end
theorem rp_flat_mk {d : D} {v : V} {ps : List Addr} {B' H' : Hp} (h : d.flat = true) (r : Rp K B H d v ps) : Rp K B' H' d v [] := by
  cases d <;> first | exact ⟨r.1, rfl⟩ | (simp [D.flat] at h)
end
def retEB (js : List Nat) (os : List D) (env : Env) (k : D → Env → Prop) (x : String → Env → Prop) : R D → Prop
  | .ok (.wit d os') => D.stos os' = true ∧ os'.map D.oad = os.map D.oad ∧ D.ownds os' = true ∧ d.flat = true ∧ k d (setObjs js os' env)
  | .er c => x c env
  | _ => False
@[simp] theorem retEB_ok (js : List Nat) (os : List D) (env : Env) (k : D → Env → Prop) (x : String → Env → Prop) (d : D) (os' : List D) : retEB js os env k x (.ok (.wit d os')) = (D.stos os' = true ∧ os'.map D.oad = os.map D.oad ∧ D.ownds os' = true ∧ d.flat = true ∧ k d (setObjs js os' env)) := rfl
@[simp] theorem retEB_er (js : List Nat) (os : List D) (env : Env) (k : D → Env → Prop) (x : String → Env → Prop) (c : String) : retEB js os env k x (.er c) = x c env := rfl
@[simp] theorem retEB_ite (js : List Nat) (os : List D) (env : Env) (k : D → Env → Prop) (x : String → Env → Prop) (c : Prop) [Decidable c] (r s : R D) : retEB js os env k x (if c then r else s) = if c then retEB js os env k x r else retEB js os env k x s := by split <;> rfl
/-- the same, what else is handed over may be borrowed: the objects hold nothing but their own, what is handed back is plain -/
def eCallB (js : List Nat) (m : List D → R D) (fs : Env → R (List D)) : GE := fun env k x => oK (objsAt env js) fun os => D.ownds os = true ∧ gR (fs (wipeE (frzA env) js)) (fun ds => D.stos ds = true ∧ retEB js os env k x (m (os ++ D.frzs ds))) fun c => x c env
@[simp] theorem eCallB_eq (js : List Nat) (m : List D → R D) (fs : Env → R (List D)) (env : Env) (k : D → Env → Prop) (x : String → Env → Prop) : eCallB js m fs env k x = oK (objsAt env js) fun os => D.ownds os = true ∧ gR (fs (wipeE (frzA env) js)) (fun ds => D.stos ds = true ∧ retEB js os env k x (m (os ++ D.frzs ds))) fun c => x c env := rfl
@[simp] theorem objsAt_nil (env : Env) : objsAt env [] = some [] := rfl
def objsK (o : Option (List D)) : Option (Option D) → Option (List D)
  | some (some (.obj .ow a C ns fs)) => o.map fun os => D.obj .ow a C ns fs :: os
  | _ => none
@[simp] theorem objsAt_eq (env : Env) (j : Nat) (js : List Nat) : objsAt env (j :: js) = objsK (objsAt env js) env[j]? := by
  show (match env[j]? with | some (some (D.obj .ow a C ns fs)) => (objsAt env js).map fun os => D.obj .ow a C ns fs :: os | _ => none) = _
  unfold objsK
  split <;> rfl
@[simp] theorem objsK_obj (o : Option (List D)) (a : Addr) (C : Option Addr) (ns : List Str) (fs : List D) : objsK o (some (some (.obj .ow a C ns fs))) = o.map fun os => D.obj .ow a C ns fs :: os := rfl
@[simp] theorem objsK_non (o : Option (List D)) : objsK o (some (some .non)) = none := rfl
@[simp] theorem objsK_fz (o : Option (List D)) (a : Addr) (C : Option Addr) (ns : List Str) (fs : List D) : objsK o (some (some (.obj .fz a C ns fs))) = none := rfl
theorem witW_eq (env : Env) (js : List Nat) (d : D) : witW env js d = match objsAt env js with | some os => .wit d os | none => d := rfl
/-! ### the contract at a call -/
def taJs : List Nat → TA → TA
  | [], t => t
  | j :: js, t => tCons (tVar j) (taJs js t)
theorem taJs_of {σ : L2.St} {H : Hp} {t : TA} : ∀ {js : List Nat} {ws : List V} {Q : List V → Hp → Prop}, js.map (fun j => σ[j]?) = ws.map (fun v => some (some v)) → t σ H (fun vs H1 => Q (ws ++ vs) H1) → taJs js t σ H Q
  | [], [], Q, _, h => h
  | [], _ :: _, Q, e, _ => by cases e
  | _ :: _, [], Q, e, _ => by cases e
  | j :: js, w :: ws, Q, e, h => by
    simp only [List.map_cons, List.cons.injEq] at e
    exact ⟨w, e.1, taJs_of (js := js) (ws := ws) e.2 h⟩
theorem ws_inj {σ : L2.St} {js : List Nat} : ∀ {ws ws' : List V}, js.map (fun j => σ[j]?) = ws.map (fun v => some (some v)) → js.map (fun j => σ[j]?) = ws'.map (fun v => some (some v)) → ws = ws' := fun {ws ws'} h1 h2 => by
  have := h1.symm.trans h2
  exact List.map_inj_right (by intro x y h; cases h; rfl) |>.mp this
section
variable {X : Cx} {W : WC} {cl : String → Addr} {Bf Hf B0 H0 B H : Hp} {σ : L2.St} {env : Env} {ps : Nat → List Addr} {Q : VK} {k : D → Env → Prop} {x : String → Env → Prop} {m : List D → R D} {n no : Nat}
theorem ctrW_core (s : SRb X.K Bf Hf B0 H0 σ H env B ps) {js : List Nat} {os : List D} {ws : List V} (nd : js.Nodup) (eo : objsAt env js = some os) (ew : js.map (fun j => σ[j]?) = ws.map fun v => some (some v)) {B1 H1 : Hp} {ds : List D} {vs : List V} {q : List Addr} (st1 : Step B H B1 H1) (r1 : Rps X.K B1 H1 ds vs q) (fr1 : Fresh H B1 q) (hst : D.stos ds = true)
    (hn : ds.length + js.length = n) (hno : js.length = no) (hk : retE js os env k x (m (os ++ D.frzs ds))) (kk : ∀ d e v H', k d e → SRv X.K Bf Hf B0 H0 σ H' e d v → Q v H') (xx : ∀ c e H', x c e → SR X.K Bf Hf B0 H0 σ H' e → W c σ H') : CtrW X.K cl n no m (ws ++ vs) H1 Q (WE (wx cl W) σ) := by
  have k1 : Same B1 (ovr B1 H1 q) := same_ovr st1.i
  have r2 : Rps X.K (ovr B1 H1 q) H1 (D.frzs ds) vs [] := rps_frz k1 hst (fun p hp o ho => ovr_mem hp ho) r1
  have st2 : Step B H (ovr B1 H1 q) H1 := ⟨st1.b.trans k1, st1.h, ovr_same st1.i, fun p xs hb hh => ovr_none (fun z => by rw [(fr1 p z).1] at hh; cases hh) (st1.n p xs hb hh)⟩
  have s2 := s.step st2
  obtain ⟨ws0, w1, w2, w3, w4, w5⟩ := s2.objs nd eo
  have e0 := ws_inj w5 ew
  subst e0
  have hlo : os.length = no := by rw [objsAt_len eo]; exact hno
  have hlw : ws0.length = no := by rw [rps_len w1]; exact hlo
  have t1 : (os ++ D.frzs ds).take no = os := by rw [← hlo]; exact List.take_left
  have t2 : (ws0 ++ vs).take no = ws0 := by rw [← hlw]; exact List.take_left
  have inP : ∀ {p}, p ∈ js.flatMap ps → H0 p = none ∧ Hf p = none ∧ ovr B1 H1 q p = none := fun {p} h => by
    obtain ⟨j, _, hq⟩ := List.mem_flatMap.mp h
    exact ⟨(s2.ow j p hq).1, (s2.ow j p hq).2.1, (s2.ow j p hq).2.2.1⟩
  refine ⟨ovr B1 H1 q, os ++ D.frzs ds, js.flatMap ps ++ [], ovr_same st1.i, rps_app w1 r2, stos_app w3 (stos_frzs ds), by simpa using w2, fun p hp => (inP (by simpa using hp)).2.2, ?_, ?_, by rw [t1]; exact w4, ?_⟩
  · rw [List.length_append, hlw, rps_len r1]
    omega
  · omega
  · rw [t1, t2, List.append_nil]
    cases em : m (os ++ D.frzs ds) with
    | ok d =>
      rw [em] at hk
      cases d with
      | wit d os' =>
        obtain ⟨h1, h2, h3⟩ := hk
        refine ⟨h1, h2, fun v B' H' qs ps' sw rd ro ndp fr => ?_⟩
        obtain ⟨n1, n2, n3⟩ := List.nodup_append.mp ndp
        obtain ⟨ps2, s3, h4⟩ := s2.afterW nd eo w1 sw.b sw.h sw.i sw.n h2 h1 ro n2 fun t ht => fr t (by simp [ht])
        refine kk d _ v H' h3 ⟨B', ps2, qs, s3, rd, n1, fun t ht => ?_⟩
        obtain ⟨f1, f2⟩ := fr t (by simp [ht])
        have hz : H0 t = none ∧ Hf t = none := by
          rcases f2 with f2 | f2
          · exact ⟨s2.st.h.free f2, s2.fh.free f2⟩
          · exact ⟨(inP f2).1, (inP f2).2.1⟩
        refine ⟨hz.1, hz.2, f1, fun i hi => ?_⟩
        rcases h4 i t hi with z | z
        · exact n3 t ht t z rfl
        · rcases f2 with f2 | f2
          · obtain ⟨_, _, _, o, ho, _⟩ := s2.ow i t z.1
            rw [f2] at ho
            cases ho
          · obtain ⟨j, hj, hq⟩ := List.mem_flatMap.mp f2
            exact z.2 (by rw [s2.dj i j t z.1 hq]; exact hj)
      | _ => exact hk.elim
    | er c =>
      rw [em] at hk
      refine fun B' H' ps' sw ro ndp fr => ⟨c, rfl, rfl, xx c env H' hk ?_⟩
      obtain ⟨ps2, s3, _⟩ := s2.afterW nd eo w1 sw.b sw.h sw.i sw.n rfl w3 ro ndp fr
      rw [setObjs_self eo] at s3
      exact ⟨B', ps2, s3⟩
    | no => rw [em] at hk; exact hk.elim
/-- what is read where all but the objects is frozen -/
theorem SRb.sleB (s : SRb X.K Bf Hf B0 H0 σ H env B ps) (js : List Nat) : SlE X.K (les H (js.flatMap ps)) H (wipeE (BC.frzA env) js) σ := by
  refine ⟨by rw [wipeE_length]; simp [BC.frzA, s.len], fun i d e => ?_⟩
  obtain ⟨e1, e2⟩ := wipeE_some e
  unfold BC.frzA at e1
  rw [List.getElem?_map] at e1
  cases e3 : env[i]? with
  | none => rw [e3] at e1; cases e1
  | some o =>
    rw [e3] at e1
    cases o with
    | none => cases e1
    | some d0 =>
      cases e1
      obtain ⟨h0, v, h1, h2⟩ := s.sl i d0 e3
      have off : ∀ p ∈ js.flatMap ps, B p = none ∧ p ∉ ps i := fun p hp => by
        obtain ⟨j, hj, hq⟩ := List.mem_flatMap.mp hp
        exact ⟨(s.ow j p hq).2.2.1, fun z => e2 (by rw [s.dj i j p z hq]; exact hj)⟩
      have k1 : Same B (les H (js.flatMap ps)) := fun p o e => les_some (fun z => by rw [(off p z).1] at e; cases e) (s.st.i p o e)
      refine ⟨v, h1, rp_bor (rp_frz k1 h0 (fun p hp o ho => les_some (fun z => (off p z).2 hp) ho) h2)⟩
theorem ctrW_coreB (s : SRb X.K Bf Hf B0 H0 σ H env B ps) {js : List Nat} {os : List D} {ws : List V} (nd : js.Nodup) (eo : objsAt env js = some os) (ew : js.map (fun j => σ[j]?) = ws.map fun v => some (some v)) (how : D.ownds os = true) {B1 H1 : Hp} {ds : List D} {vs : List V} {q : List Addr} (st1 : Step (les H (js.flatMap ps)) H B1 H1) (r1 : Rps X.K B1 H1 ds vs q) (fr1 : Fresh H B1 q) (hst : D.stos ds = true)
    (hn : ds.length + js.length = n) (hno : js.length = no) (hk : retEB js os env k x (m (os ++ D.frzs ds))) (kk : ∀ d e v H', k d e → SRv X.K Bf Hf B0 H0 σ H' e d v → Q v H') (xx : ∀ c e H', x c e → SR X.K Bf Hf B0 H0 σ H' e → W c σ H') : CtrW X.K cl n no m (ws ++ vs) H1 Q (WE (wx cl W) σ) := by
  have k1 : Same B1 (ovr B1 H1 q) := same_ovr st1.i
  have r2 : Rps X.K (ovr B1 H1 q) H1 (D.frzs ds) vs [] := rps_frz k1 hst (fun p hp o ho => ovr_mem hp ho) r1
  have s2 := s.same st1.h
  obtain ⟨ws0, w1, w2, w3, w4, w5⟩ := s2.objs nd eo
  have e0 := ws_inj w5 ew
  subst e0
  have hlo : os.length = no := by rw [objsAt_len eo]; exact hno
  have hlw : ws0.length = no := by rw [rps_len w1]; exact hlo
  have t1 : (os ++ D.frzs ds).take no = os := by rw [← hlo]; exact List.take_left
  have t2 : (ws0 ++ vs).take no = ws0 := by rw [← hlw]; exact List.take_left
  have inP : ∀ {p}, p ∈ js.flatMap ps → H0 p = none ∧ Hf p = none ∧ B p = none ∧ ovr B1 H1 q p = none := fun {p} h => by
    obtain ⟨j, _, hq⟩ := List.mem_flatMap.mp h
    obtain ⟨a1, a2, a3, o, a4, _⟩ := s.ow j p hq
    exact ⟨a1, a2, a3, ovr_none (fun z => by rw [(fr1 p z).1] at a4; cases a4) (st1.n p o (les_none h) a4)⟩
  have sB : ∀ {H'}, (∀ p o, p ∉ js.flatMap ps → H1 p = some o → H' p = some o) → Same B H' := fun {H'} h p o e => h p o (fun z => by rw [(inP z).2.2.1] at e; cases e) (s2.st.i p o e)
  have fB : ∀ {t}, (H1 t = none ∨ t ∈ js.flatMap ps) → B t = none := fun {t} h => by
    rcases h with h | h
    · exact s2.st.i.free h
    · exact (inP h).2.2.1
  refine ⟨ovr B1 H1 q, os ++ D.frzs ds, js.flatMap ps ++ [], ovr_same st1.i, rps_app (rps_ownd how w1) r2, stos_app w3 (stos_frzs ds), by simpa using w2, fun p hp => (inP (by simpa using hp)).2.2.2, ?_, ?_, by rw [t1]; exact w4, ?_⟩
  · rw [List.length_append, hlw, rps_len r1]
    omega
  · omega
  · rw [t1, t2, List.append_nil]
    cases em : m (os ++ D.frzs ds) with
    | ok d =>
      rw [em] at hk
      cases d with
      | wit d os' =>
        obtain ⟨h1, h2, h5, h6, h3⟩ := hk
        refine ⟨h1, h2, fun v B' H' qs ps' sw rd ro ndp fr => ?_⟩
        obtain ⟨n1, n2, n3⟩ := List.nodup_append.mp ndp
        obtain ⟨ps2, s3, h4⟩ := s2.afterW nd eo w1 (.refl _) sw.h (sB sw.h) (fun p o _ h _ => h) h2 h1 (rps_ownd h5 ro) n2 fun t ht => ⟨fB (fr t (by simp [ht])).2, (fr t (by simp [ht])).2⟩
        exact kk d _ v H' h3 ⟨B, ps2, [], s3, rp_flat_mk h6 rd, .nil, by intro t ht; cases ht⟩
      | _ => exact hk.elim
    | er c =>
      rw [em] at hk
      refine fun B' H' ps' sw ro ndp fr => ⟨c, rfl, rfl, xx c env H' hk ?_⟩
      obtain ⟨ps2, s3, _⟩ := s2.afterW nd eo w1 (.refl _) sw.h (sB sw.h) (fun p o _ h _ => h) rfl w3 (rps_ownd how ro) ndp fun t ht => ⟨fB (fr t ht).2, (fr t ht).2⟩
      rw [setObjs_self eo] at s3
      exact ⟨B, ps2, s3⟩
    | no => rw [em] at hk; exact hk.elim
end
section
variable {X : Cx} {W : WC} {cl : String → Addr} {σ : L2.St} {H : Hp} {Q : VK} {m : List D → R D} {n no : Nat} {fs : Env → R (List D)} {js : List Nat} {sp : Sp}
/-- the objects are read, then what else is handed over -/
theorem tArgsW_of (nd : js.Nodup) (hno : js.length = no) (hn : ∀ env ds, fs env = .ok ds → ds.length + js.length = n) (h : tGE X.K W (eCall js m fs) σ H Q) : taJs js (tFA X.K W fs) σ H fun vs H1 => CtrW X.K cl n no m vs H1 Q (WE (wx cl W) σ) := by
  obtain ⟨Bf, Hf, B0, H0, env, k, x, ⟨B, ps, s⟩, hg, hk, hx⟩ := h
  obtain ⟨os, eo, hg⟩ := oK_of hg
  obtain ⟨ws, _, _, _, _, w5⟩ := s.objs nd eo
  refine taJs_of w5 ?_
  refine tFA_of s.st.i s.sle ?_
  cases ef : fs env with
  | ok ds =>
    rw [ef] at hg
    obtain ⟨hst, hr⟩ := hg
    exact fun vs B1 H1 q st1 r1 nd1 fr1 => ctrW_core s nd eo w5 st1 r1 fr1 hst (hn env ds ef) hno hr hk hx
  | er c =>
    rw [ef] at hg
    exact fun H' hs => hx c env H' hg ⟨B, ps, s.same hs⟩
  | no => rw [ef] at hg; exact hg.elim
theorem tArgsWB_of (nd : js.Nodup) (hno : js.length = no) (hn : ∀ env ds, fs env = .ok ds → ds.length + js.length = n) (h : tGE X.K W (eCallB js m fs) σ H Q) : taJs js (tFA X.K W fs) σ H fun vs H1 => CtrW X.K cl n no m vs H1 Q (WE (wx cl W) σ) := by
  obtain ⟨Bf, Hf, B0, H0, env, k, x, ⟨B, ps, s⟩, hg, hk, hx⟩ := h
  obtain ⟨os, eo, how, hg⟩ := oK_of hg
  obtain ⟨ws, _, _, _, _, w5⟩ := s.objs nd eo
  refine taJs_of w5 ?_
  refine tFA_of (B := les H (js.flatMap ps)) les_same (s.sleB js) ?_
  cases ef : fs (wipeE (frzA env) js) with
  | ok ds =>
    rw [ef] at hg
    obtain ⟨hst, hr⟩ := hg
    exact fun vs B1 H1 q st1 r1 nd1 fr1 => ctrW_coreB s nd eo w5 how st1 r1 fr1 hst (hn _ ds ef) hno hr hk hx
  | er c =>
    rw [ef] at hg
    exact fun H' hs => hx c env H' hg ⟨B, ps, s.same hs⟩
  | no => rw [ef] at hg; exact hg.elim
end
section
variable {X : Cx} {W : WC} {cl : String → Addr} {e : Expr} {es : List Expr} {fs : Env → R (List D)} {pos apos : Pos} {k j : Nat} {f C0 : Addr} {fd : FuncData} {ps : List Str} {m : List D → R D} {n no : Nat} {x mn : Str} {p : Pos} {js : List Nat}
theorem se_callW (js : List Nat) (F : FnOk X.prog X.w X.K X.mg X.base (L2.CX X.prog X.w) k f fd ps (CtrW X.K cl n no m)) (hr : Room j X.A) (hj : k ≤ j) (hg : Gl X x) (hm : X.mg x = some (.ref f)) (hk : PySem.W.keepIn X.K (.ref f) = true) (hb : Binds X.K fd ps []) (tk : Takes X (wx cl W))
    (ha : PA X (e :: es) (taJs js (tFA X.K W fs))) (hn : ∀ env ds, fs env = .ok ds → ds.length + js.length = n) (nd : js.Nodup := by decide) (hno : js.length = no := by rfl) (hdb : (x == ("__debug__" : Str)) = false := by decide) (he : starEach (e :: es) X.env = (false, eval e X.env) :: starEach es X.env := by rfl) (hpl : (backTo pos (starEach es X.env)).any (·.1) = false := by rfl) :
    PE X (.Call (.Name x p) (e :: es) [] pos) (tGE X.K W (eCall js m fs)) := peI (pe_callS F (hr.mono hj) hg hm hk hb (fun σ => passAt tk σ) ha hdb he hpl) fun _ _ _ h => tArgsW_of nd hno hn h
theorem se_callWB (js : List Nat) (F : FnOk X.prog X.w X.K X.mg X.base (L2.CX X.prog X.w) k f fd ps (CtrW X.K cl n no m)) (hr : Room j X.A) (hj : k ≤ j) (hg : Gl X x) (hm : X.mg x = some (.ref f)) (hk : PySem.W.keepIn X.K (.ref f) = true) (hb : Binds X.K fd ps []) (tk : Takes X (wx cl W))
    (ha : PA X (e :: es) (taJs js (tFA X.K W fs))) (hn : ∀ env ds, fs env = .ok ds → ds.length + js.length = n) (nd : js.Nodup := by decide) (hno : js.length = no := by rfl) (hdb : (x == ("__debug__" : Str)) = false := by decide) (he : starEach (e :: es) X.env = (false, eval e X.env) :: starEach es X.env := by rfl) (hpl : (backTo pos (starEach es X.env)).any (·.1) = false := by rfl) :
    PE X (.Call (.Name x p) (e :: es) [] pos) (tGE X.K W (eCallB js m fs)) := peI (pe_callS F (hr.mono hj) hg hm hk hb (fun σ => passAt tk σ) ha hdb he hpl) fun _ _ _ h => tArgsWB_of nd hno hn h
/-- o.m(..), m changes o -/
def eMeth (C0 : Addr) (mn : Str) (i : Nat) (m : List D → R D) (fs : Env → R (List D)) : GE := fun env k x => oK (objsAt env [i]) fun os => os.all (okO C0 mn) = true ∧ eCall [i] m fs env k x
def eMethB (C0 : Addr) (mn : Str) (i : Nat) (m : List D → R D) (fs : Env → R (List D)) : GE := fun env k x => oK (objsAt env [i]) fun os => os.all (okO C0 mn) = true ∧ eCallB [i] m fs env k x
@[simp] theorem eMeth_eq (C0 : Addr) (mn : Str) (i : Nat) (m : List D → R D) (fs : Env → R (List D)) (env : Env) (k : D → Env → Prop) (x : String → Env → Prop) : eMeth C0 mn i m fs env k x = oK (objsAt env [i]) fun os => os.all (okO C0 mn) = true ∧ eCall [i] m fs env k x := rfl
@[simp] theorem eMethB_eq (C0 : Addr) (mn : Str) (i : Nat) (m : List D → R D) (fs : Env → R (List D)) (env : Env) (k : D → Env → Prop) (x : String → Env → Prop) : eMethB C0 mn i m fs env k x = oK (objsAt env [i]) fun os => os.all (okO C0 mn) = true ∧ eCallB [i] m fs env k x := rfl
theorem insOf {K : PySem.W.Frag} {Bf Hf B0 H0 : Hp} {σ : L2.St} {H : Hp} {env : Env} {i : Nat} {os : List D} (s : SR K Bf Hf B0 H0 σ H env) (eo : objsAt env [i] = some os) (ho : os.all (okO C0 mn) = true) : ∃ a dx us, σ[i]? = some (some (.ref a)) ∧ H a = some (.ins C0 dx us) ∧ us.lookup mn = none := by
  obtain ⟨a, C, ns, fs, os', e1, e2, e3⟩ := objsAt_cons eo
  cases e2
  subst e3
  obtain ⟨B, ps, s⟩ := s
  obtain ⟨dx, vs, qs, k1, k2, k3, k4, k5, k6, k7⟩ := s.objAt e1
  simp only [List.all_cons, List.all_nil, Bool.and_true] at ho
  cases C with
  | none => cases ho
  | some C =>
    simp only [okO, Bool.and_eq_true, decide_eq_true_eq, Bool.not_eq_true'] at ho
    obtain ⟨hC, hns⟩ := ho
    subst hC
    exact ⟨a, dx, _, k1, k2, lookup_zip_none hns⟩
theorem tMethW_of {i : Nat} {σ : L2.St} {H : Hp} {Q : VK} (hn : ∀ env ds, fs env = .ok ds → ds.length + 1 = n) (h : tGE X.K W (eMeth C0 mn i m fs) σ H Q) : tMethE C0 mn (CtrW X.K cl n 1 m) (WE (wx cl W)) (tVar i) (tFA X.K W fs) σ H Q := by
  obtain ⟨Bf, Hf, B0, H0, env, k, x, s, hg, hk, hx⟩ := h
  obtain ⟨os, eo, ho, hg⟩ := oK_of hg
  obtain ⟨a, dx, us, h1, h2, h3⟩ := insOf s eo ho
  obtain ⟨v, hv, hq⟩ := tArgsW_of (cl := cl) (no := 1) (n := n) (js := [i]) (by simp) rfl hn ⟨Bf, Hf, B0, H0, env, k, x, s, hg, hk, hx⟩
  rw [h1] at hv
  cases hv
  exact ⟨_, h1, a, dx, us, rfl, h2, h3, hq⟩
theorem tMethWB_of {i : Nat} {σ : L2.St} {H : Hp} {Q : VK} (hn : ∀ env ds, fs env = .ok ds → ds.length + 1 = n) (h : tGE X.K W (eMethB C0 mn i m fs) σ H Q) : tMethE C0 mn (CtrW X.K cl n 1 m) (WE (wx cl W)) (tVar i) (tFA X.K W fs) σ H Q := by
  obtain ⟨Bf, Hf, B0, H0, env, k, x, s, hg, hk, hx⟩ := h
  obtain ⟨os, eo, ho, hg⟩ := oK_of hg
  obtain ⟨a, dx, us, h1, h2, h3⟩ := insOf s eo ho
  obtain ⟨v, hv, hq⟩ := tArgsWB_of (cl := cl) (no := 1) (n := n) (js := [i]) (by simp) rfl hn ⟨Bf, Hf, B0, H0, env, k, x, s, hg, hk, hx⟩
  rw [h1] at hv
  cases hv
  exact ⟨_, h1, a, dx, us, rfl, h2, h3, hq⟩
theorem se_methW (i : Nat) {y : Str} {py : Pos} (c : Cls X.K C0) (hm : Meth X.K C0 mn f) (F : FnOk X.prog X.w X.K X.mg X.base (L2.CX X.prog X.w) k f fd ps (CtrW X.K cl n 1 m)) (hr : Room j X.A) (hj : k ≤ j) (hb : Binds X.K fd ps []) (tk : Takes X (wx cl W)) (ho : PE X (.Name y py) (tVar i)) (ha : PA X (e :: es) (tFA X.K W fs)) (hn : ∀ env ds, fs env = .ok ds → ds.length + 1 = n) {pl : Sem Bool}
    (hst : starEach (e :: es) X.env = (false, eval e X.env) :: starEach es X.env := by rfl) (hpl : (backTo pos (starEach es X.env)).any (·.1) = false := by rfl)
    (ht : eval (.Call (.Attribute (.Name y py) mn apos) (e :: es) [] pos) X.env = (do
      let ov ← eval (.Name y py) X.env
      standAt apos.atName
      let (f, first) ← holding [ov] (getMethod ov mn pl)
      callWith pos f first (backTo pos (starEach (e :: es) X.env)) (backToKw pos (keywordEach [] X.env))) := by rfl) :
    PE X (.Call (.Attribute (.Name y py) mn apos) (e :: es) [] pos) (tGE X.K W (eMeth C0 mn i m fs)) := peI (pe_methE ho c hm F (hr.mono hj) hb (fun σ => passAt tk σ) ha hst hpl ht) fun _ _ _ h => tMethW_of hn h
theorem se_methWB (i : Nat) {y : Str} {py : Pos} (c : Cls X.K C0) (hm : Meth X.K C0 mn f) (F : FnOk X.prog X.w X.K X.mg X.base (L2.CX X.prog X.w) k f fd ps (CtrW X.K cl n 1 m)) (hr : Room j X.A) (hj : k ≤ j) (hb : Binds X.K fd ps []) (tk : Takes X (wx cl W)) (ho : PE X (.Name y py) (tVar i)) (ha : PA X (e :: es) (tFA X.K W fs)) (hn : ∀ env ds, fs env = .ok ds → ds.length + 1 = n) {pl : Sem Bool}
    (hst : starEach (e :: es) X.env = (false, eval e X.env) :: starEach es X.env := by rfl) (hpl : (backTo pos (starEach es X.env)).any (·.1) = false := by rfl)
    (ht : eval (.Call (.Attribute (.Name y py) mn apos) (e :: es) [] pos) X.env = (do
      let ov ← eval (.Name y py) X.env
      standAt apos.atName
      let (f, first) ← holding [ov] (getMethod ov mn pl)
      callWith pos f first (backTo pos (starEach (e :: es) X.env)) (backToKw pos (keywordEach [] X.env))) := by rfl) :
    PE X (.Call (.Attribute (.Name y py) mn apos) (e :: es) [] pos) (tGE X.K W (eMethB C0 mn i m fs)) := peI (pe_methE ho c hm F (hr.mono hj) hb (fun σ => passAt tk σ) ha hst hpl ht) fun _ _ _ h => tMethWB_of hn h
theorem se_methW0 (i : Nat) {y : Str} {py : Pos} (c : Cls X.K C0) (hm : Meth X.K C0 mn f) (F : FnOk X.prog X.w X.K X.mg X.base (L2.CX X.prog X.w) k f fd ps (CtrW X.K cl 1 1 m)) (hr : Room j X.A) (hj : k ≤ j) (hb : Binds X.K fd ps []) (tk : Takes X (wx cl W)) (ho : PE X (.Name y py) (tVar i)) {pl : Sem Bool}
    (ht : eval (.Call (.Attribute (.Name y py) mn apos) [] [] pos) X.env = (do
      let ov ← eval (.Name y py) X.env
      standAt apos.atName
      let (f, first) ← holding [ov] (getMethod ov mn pl)
      callWith pos f first (backTo pos (starEach [] X.env)) (backToKw pos (keywordEach [] X.env))) := by rfl) :
    PE X (.Call (.Attribute (.Name y py) mn apos) [] [] pos) (tGE X.K W (eMeth C0 mn i m xNil)) := peI (pe_methE0 ho c hm F (hr.mono hj) hb (fun σ => passAt tk σ) ht) fun σ H Q h => by
  obtain ⟨Bf, Hf, B0, H0, env, k, x, s, hg, hk, hx⟩ := h
  obtain ⟨os, eo, ho, hg⟩ := oK_of hg
  obtain ⟨a, dx, us, h1, h2, h3⟩ := insOf s eo ho
  obtain ⟨B, ps2, s1⟩ := s
  obtain ⟨os2, eo2, hst, hr2⟩ := oK_of hg
  rw [eo] at eo2
  cases eo2
  have w5 : [i].map (fun j => σ[j]?) = [V.ref a].map fun v => some (some v) := by simp [h1]
  exact ⟨_, h1, a, dx, us, rfl, h2, h3, ctrW_core (cl := cl) (ws := [V.ref a]) s1 (by simp) eo w5 (.refl s1.st.i) (ds := []) (vs := []) (q := []) ⟨rfl, rfl⟩ (by intro t ht; cases ht) rfl rfl rfl hr2 hk hx⟩
end
end BC

namespace BC
open PySem PySem.Spec PyProof.Rows L2

/-! ## C(..): a new object -/
def tMakeE (C : Addr) (sp : Sp) (E : L2.St → XK) (t : TA) : TE := fun σ H Q => t σ H fun vs H1 => ∀ x dx, H1 x = none → H1 dx = none → dx ≠ x → sp (.ref x :: vs) (upd (upd H1 dx (.own x)) x (.ins C dx [])) (fun v H2 => v = .non ∧ Q (.ref x) H2) (E σ)
section
variable {X : Cx} {CX : CXT} {k : Nat} {f C : Addr} {fd : FuncData} {ps : List Str} {sp : Sp} {E : L2.St → XK} {x : Str} {p pos : Pos} {e : Expr} {es : List Expr} {t : TA}
theorem run_makeE {σ : L2.St} {pins : List (Addr × Obj)} {H : Hp} {s : Shared} {Q : VK} {us : List Value} {vs : List V} (M : Mk X.K C f) (F : FnOk X.prog X.w X.K X.mg X.base CX k f fd ps sp) (hr : Room (k + 1) X.A) (hb : Binds X.K fd ps [])
    (hx : PassesAt CX X σ (E σ)) (I : Inv X pins σ H s) (r : Vals vs us)
    (h : ∀ x dx, H x = none → H dx = none → dx ≠ x → sp (.ref x :: vs) (upd (upd H dx (.own x)) x (.ins C dx [])) (fun v H2 => v = .non ∧ Q (.ref x) H2) (E σ)) :
    wpAny (model X.prog X.w) X.A (call (.ref C) us) (EP X pins σ Q) X.xe s := by
  have hq := h (s.heap.objs.size + 1) s.heap.objs.size (I.hok.fresh (Nat.le_succ _)) (I.hok.fresh (Nat.le_refl _)) (Nat.ne_of_lt (Nat.lt_succ_self _))
  have I2 := Inv.made (C := C) I
  have r2 : Vals (V.ref (s.heap.objs.size + 1) :: vs) (Value.ref (s.heap.objs.size + 1) :: us) := .cons rfl r
  have hl : (Value.ref (s.heap.objs.size + 1) :: us).length = ps.length := by
    have e := r2.length
    rw [F.len _ _ _ _ hq] at e
    exact e.symm
  have b := hb _ (Value.ref (s.heap.objs.size + 1) :: us) I2.kIn (by rw [List.append_nil]; exact hl)
  rw [List.append_nil] at b
  refine wpAny_call (make_map (f := f) I.kIn M.makes M.init (beq_iff_eq.mp M.fn) (codeAny_mono (F.run _ X.stack _ _ ⟨Value.ref (s.heap.objs.size + 1) :: us, []⟩ (Value.ref (s.heap.objs.size + 1) :: us) _ _ (E σ) (hr.make C us [])
    (I2.env0.make C us []) b r2 hq) fun r s' hq' => ?_))
  cases r with
  | error e => exact hx pins _ _ e s' I2 hq'
  | ok fl =>
    cases fl with
    | ret u =>
      obtain ⟨v, H', I3, rv, ev, q3⟩ := I2.after hq'
      subst ev
      exact ⟨rv, ⟨V.ref (s.heap.objs.size + 1), H', I3, rfl, q3⟩⟩
    | next => exact False.elim hq'
    | brk => exact False.elim hq'
    | cont => exact False.elim hq'
theorem pe_makeE (M : Mk X.K C f) (F : FnOk X.prog X.w X.K X.mg X.base CX k f fd ps sp) (hr : Room (k + 1) X.A) (hg : Gl X x) (hm : X.mg x = some (.ref C)) (hb : Binds X.K fd ps []) (hx : ∀ σ, PassesAt CX X σ (E σ))
    (ha : PA X (e :: es) t) (hdb : (x == ("__debug__" : Str)) = false := by decide) (he : starEach (e :: es) X.env = (false, eval e X.env) :: starEach es X.env := by rfl) (hpl : (backTo pos (starEach es X.env)).any (·.1) = false := by rfl) :
    PE X (.Call (.Name x p) (e :: es) [] pos) (tMakeE C sp E t) := by
  refine ⟨fun pins s σ H Q I h => ?_⟩
  refine wpAny_Call_Name_kw (ld_glob I hg hm ?_ hdb)
  refine PySem.W.callWith_K (h₀ := X.base) I.ok.mod.kin M.kp (thn (ha.run pos pins s σ H _ I h) fun us s1 ⟨vs, H1, I1, r, q⟩ => ⟨I1.kIn, ?_⟩) he hpl
  exact run_makeE M F hr hb (hx σ) I1 r q
end
def mkE (a : Addr) (env : Env) (k : D → Env → Prop) (x : String → Env → Prop) : R D → Prop
  | .ok (.wit .non [o]) => o.sto = true ∧ o.oad = some a ∧ k o env
  | .er c => x c env
  | _ => False
@[simp] theorem mkE_ok (a : Addr) (env : Env) (k : D → Env → Prop) (x : String → Env → Prop) (o : D) : mkE a env k x (.ok (.wit .non [o])) = (o.sto = true ∧ o.oad = some a ∧ k o env) := rfl
@[simp] theorem mkE_er (a : Addr) (env : Env) (k : D → Env → Prop) (x : String → Env → Prop) (c : String) : mkE a env k x (.er c) = x c env := rfl
@[simp] theorem mkE_ite (a : Addr) (env : Env) (k : D → Env → Prop) (x : String → Env → Prop) (c : Prop) [Decidable c] (r s : R D) : mkE a env k x (if c then r else s) = if c then mkE a env k x r else mkE a env k x s := by split <;> rfl
def eMake (C0 : Addr) (m : List D → R D) (fs : Env → R (List D)) : GE := fun env k x => gR (fs env) (fun ds => D.stos ds = true ∧ ∀ a, mkE a env k x (m (.obj .ow a (some C0) [] [] :: D.frzs ds))) fun c => x c env
@[simp] theorem eMake_eq (C0 : Addr) (m : List D → R D) (fs : Env → R (List D)) (env : Env) (k : D → Env → Prop) (x : String → Env → Prop) : eMake C0 m fs env k x = gR (fs env) (fun ds => D.stos ds = true ∧ ∀ a, mkE a env k x (m (.obj .ow a (some C0) [] [] :: D.frzs ds))) fun c => x c env := rfl
section
variable {X : Cx} {W : WC} {cl : String → Addr} {e : Expr} {es : List Expr} {fs : Env → R (List D)} {pos : Pos} {k j : Nat} {f C0 : Addr} {fd : FuncData} {ps : List Str} {m : List D → R D} {n : Nat} {x : Str} {p : Pos}
theorem tMake_of {σ : L2.St} {H : Hp} {Q : VK} (hn : ∀ env ds, fs env = .ok ds → ds.length + 1 = n) (h : tGE X.K W (eMake C0 m fs) σ H Q) : tMakeE C0 (CtrW X.K cl n 1 m) (WE (wx cl W)) (tFA X.K W fs) σ H Q := by
  obtain ⟨Bf, Hf, B0, H0, env, k, x, ⟨B, ps, s⟩, hg, hk, hx⟩ := h
  refine tFA_of s.st.i s.sle ?_
  rw [eMake_eq] at hg
  cases ef : fs env with
  | er c =>
    rw [ef] at hg
    exact fun H' hs => hx c env H' hg ⟨B, ps, s.same hs⟩
  | no => rw [ef] at hg; exact hg.elim
  | ok ds =>
    rw [ef] at hg
    obtain ⟨hst, hall⟩ := hg
    intro vs B1 H1 q st1 r1 nd1 fr1 a dx ha hdx hne
    have hm := hall a
    have k1 : Same B1 (ovr B1 H1 q) := same_ovr st1.i
    have r2 : Rps X.K (ovr B1 H1 q) H1 (D.frzs ds) vs [] := rps_frz k1 hst (fun p hp o ho => ovr_mem hp ho) r1
    have st2 : Step B H (ovr B1 H1 q) H1 := ⟨st1.b.trans k1, st1.h, ovr_same st1.i, fun p xs hb hh => ovr_none (fun z => by rw [(fr1 p z).1] at hh; cases hh) (st1.n p xs hb hh)⟩
    have s3 : Same H1 (upd (upd H1 dx (.own a)) a (.ins C0 dx [])) := (same_upd hdx).trans (same_upd (by rw [upd_ne hne.symm]; exact ha))
    have eB : ovr B1 H1 q a = none := (ovr_same st1.i).free ha
    have ro : Rp X.K (ovr B1 H1 q) (upd (upd H1 dx (.own a)) a (.ins C0 dx [])) (.obj .ow a (some C0) [] []) (.ref a) [a] := by
      unfold Rp
      exact ⟨dx, [], [], rfl, upd_same, rfl, by show upd _ a _ dx = _; rw [upd_ne hne, upd_same], rfl, ⟨rfl, rfl⟩⟩
    have stp : ∀ {B' H'}, StepW [a] (ovr B1 H1 q) (upd (upd H1 dx (.own a)) a (.ins C0 dx [])) B' H' → Step B H B' H' := fun {B' H'} sw => by
      have off : ∀ p o, H p = some o → p ∉ [a] := fun p o e z => by
        obtain rfl := List.mem_singleton.mp z
        rw [st1.h p o e] at ha
        cases ha
      exact ⟨st2.b.trans sw.b, fun p o e => sw.h p o (off p o e) (s3 p o (st1.h p o e)), sw.i, fun p o hb hh => sw.n p o (off p o hh) (st2.n p o hb hh) (s3 p o (st1.h p o hh))⟩
    refine ⟨ovr B1 H1 q, .obj .ow a (some C0) [] [] :: D.frzs ds, [a], (ovr_same st1.i).trans s3, ?_, by simp [D.stos, D.sto, stos_frzs], by simp, fun p hp => by obtain rfl := List.mem_singleton.mp hp; exact eB, by rw [List.length_cons, rps_len r1]; exact hn env ds ef, ?_, by simp, ?_⟩
    · unfold Rps
      exact ⟨_, vs, [a], [], rfl, rfl, ro, rps_mono (.refl _) s3 r2⟩
    · have := hn env ds ef
      omega
    · show PstW X.K _ _ _ _ [.obj .ow a (some C0) [] []] [.ref a] _ _
      cases em : m (.obj .ow a (some C0) [] [] :: D.frzs ds) with
      | no => rw [em] at hm; exact hm.elim
      | er c =>
        rw [em] at hm
        exact fun B' H' ps' sw _ _ _ => ⟨c, rfl, rfl, hx c env H' hm ⟨B', ps, s.step (stp sw)⟩⟩
      | ok d =>
        rw [em] at hm
        cases d with
        | wit d os' =>
          cases d with
          | non =>
            match os', hm with
            | [o], hm =>
              obtain ⟨h1, h2, h3⟩ := hm
              refine ⟨by simp [D.stos, h1], by simp [h2], fun v B' H' qs ps' sw rd rr ndp fr => ⟨rd.1, ?_⟩⟩
              unfold Rps at rr
              obtain ⟨w, wr, p1, q1, e1, e2, r3, r4⟩ := rr
              cases e1
              have e3 := r4.2
              subst e3 e2
              rw [List.append_nil] at ndp fr
              have st := stp sw
              refine hk o env _ H' h3 ⟨B', ps, p1, s.step st, r3, (List.nodup_append.mp ndp).2.1, s.fresh st fun t ht => ?_⟩
              obtain ⟨f1, f2⟩ := fr t (by simp [ht])
              refine ⟨?_, f1⟩
              rcases f2 with f2 | f2
              · exact st1.h.free (s3.free f2)
              · obtain rfl := List.mem_singleton.mp f2
                exact st1.h.free ha
            | [], hm => exact hm.elim
            | _ :: _ :: _, hm => exact hm.elim
          | _ => exact hm.elim
        | _ => exact hm.elim
theorem se_make (M : Mk X.K C0 f) (F : FnOk X.prog X.w X.K X.mg X.base (L2.CX X.prog X.w) k f fd ps (CtrW X.K cl n 1 m)) (hr : Room j X.A) (hj : k + 1 ≤ j) (hg : Gl X x) (hm : X.mg x = some (.ref C0)) (hb : Binds X.K fd ps []) (tk : Takes X (wx cl W))
    (ha : PA X (e :: es) (tFA X.K W fs)) (hn : ∀ env ds, fs env = .ok ds → ds.length + 1 = n) (hdb : (x == ("__debug__" : Str)) = false := by decide) (he : starEach (e :: es) X.env = (false, eval e X.env) :: starEach es X.env := by rfl) (hpl : (backTo pos (starEach es X.env)).any (·.1) = false := by rfl) :
    PE X (.Call (.Name x p) (e :: es) [] pos) (tGE X.K W (eMake C0 m fs)) := peI (pe_makeE M F (hr.mono hj) hg hm hb (fun σ => passAt tk σ) ha hdb he hpl) fun _ _ _ h => tMake_of hn h
end
end BC

namespace BC
open PySem PySem.Spec PyProof.Rows L2

/-! ## e.append(g), e new and dropped -/
def appTK (env : Env) (Q : Ou → Prop) (r : R D) : D → Prop
  | .lst .ow xs => xs.length < 16777216 ∧ gEv r env Q fun _ => Q (.nx env)
  | _ => False
def gAppT (f g : Env → R D) : G := fun env Q => gEv (f env) env Q (appTK env Q (g env))
@[simp] theorem gAppT_eq (f g : Env → R D) (env : Env) (Q : Ou → Prop) : gAppT f g env Q = gEv (f env) env Q (appTK env Q (g env)) := rfl
@[simp] theorem appTK_eq (env : Env) (Q : Ou → Prop) (r : R D) (xs : List D) : appTK env Q r (.lst .ow xs) = (xs.length < 16777216 ∧ gEv r env Q fun _ => Q (.nx env)) := rfl
section
variable {X : Cx} {W : WC} {e o : Expr} {f g : Env → R D} {apos cpos : Pos}
theorem ss_appT {pos' : Pos} (ho : PE X o (tF X.K W f)) (he : PE X e (tF X.K W g)) (hbase : attributeBase o "append" X.env (eval o X.env) = eval o X.env := by rfl)
    (hfew : ((backTo cpos (starEach [e] X.env)).all (fun x => !x.1) && (backToKw cpos (keywordEach [] X.env)).all (fun x => x.1.isSome)
      && decide ([e].length + ([] : List Keyword).length + (if ([] : List Keyword).isEmpty then 0 else 1) < 30)) = true := by rfl)
    (hline : (apos.endLine == cpos.line) = true := by rfl) (hs : starEach [e] X.env = (false, eval e X.env) :: starEach [] X.env := by rfl) (hplain : (backTo cpos (starEach [] X.env)).any (·.1) = false := by rfl)
    (hsw : swapsWith (.Call (.Attribute o "append" apos) [e] [] cpos) none pos'.line X.env = pure false := by rfl) : PS X (.Expr (.Call (.Attribute o "append" apos) [e] [] cpos) pos') (tG X.K W (gAppT f g)) := by
  refine psI (ps_expr (pe_bm PySem.F.plainAttrs_list PySem.F.slot_list_append PySem.F.type_list_append mt_append ho (pa_cons he pa_nil hs) hbase hfew hline hs hplain) hsw) fun De σ H ⟨Bf, Hf, B0, H0, env, Q, ⟨B, ps, s⟩, h, eo⟩ => ?_
  refine runE2 (Q := Q) s h (fun c q => eo.rz c env q) fun d v B1 H1 q1 k1 s1 st1 r1 nd1 fr1 => ?_
  unfold appTK at k1
  split at k1
  · rename_i xs
    obtain ⟨hz, k1⟩ := k1
    unfold Rp at r1
    obtain ⟨a, vs, qs, ev, n, em, rx⟩ := r1
    have n : H1 a = some (.lst vs) := n
    have em : q1 = a :: qs := em
    subst ev em
    refine ⟨.inl ⟨rfl, vs, .of n⟩, ?_⟩
    refine runE2 (Q := Q) s1 k1 (fun c q => eo.rz c env q) fun y w B2 H2 q2 k2 s2 st2 r2 nd2 fr2 => ?_
    refine ⟨a, vs, w, rfl, rfl, st2.h _ _ n, by rw [rps_len rx, sizeLine_eq]; exact hz, ?_⟩
    have ha : H a = none := (fr1 a (by simp)).1
    have hB1 : B1 a = none := (fr1 a (by simp)).2
    have hB2 : B2 a = none := st2.n a _ hB1 n
    have st := st1.trans st2
    refine eo.nx _ k2 σ _ ⟨B2, ps, s.step ⟨st.b, fun p o e => ?_, fun p o e => ?_, st.n⟩⟩
    · rw [upd_ne (fun z => by subst z; rw [ha] at e; cases e)]
      exact st.h p o e
    · rw [upd_ne (fun z => by subst z; rw [hB2] at e; cases e)]
      exact st.i p o e
  · exact k1.elim
end
/-! ## return e, e changes objects, none of them is handed back -/
def gRetE0 (g : GE) : G := fun env Q => g env (fun d _ => Q (.rt d)) fun c e => Q (.rz c e)
@[simp] theorem gRetE0_eq (g : GE) (env : Env) (Q : Ou → Prop) : gRetE0 g env Q = g env (fun d _ => Q (.rt d)) fun c e => Q (.rz c e) := rfl
theorem ss_retE0 {X : Cx} {W : WC} {e : Expr} {g : GE} {pos : Pos} (he : PE X e (tGE X.K W g)) : PS X (.Return (some e) pos) (tG X.K W (gRetE0 g)) := by
  refine psI (ps_ret he) fun De σ H ⟨Bf, Hf, B0, H0, env, Q, s, hh, eo⟩ => ?_
  refine ⟨Bf, Hf, B0, H0, env, _, _, s, hh, fun d e v H' hd sv => ?_, fun c e H' q s' => eo.rz c e q σ H' s'⟩
  obtain ⟨B, ps, qs, s1, r, nd, fr⟩ := sv
  exact eo.rt _ hd v H' ⟨B, qs, s1.st, r, nd, fun q hq => ⟨(fr q hq).1, (fr q hq).2.2.1⟩⟩
/-! ## read -/
def witK (d : D) : Option (List D) → D
  | some os => .wit d os
  | none => d
@[simp] theorem witK_some (d : D) (os : List D) : witK d (some os) = .wit d os := rfl
@[simp] theorem witK_none (d : D) : witK d none = d := rfl
@[simp] theorem witW_K (env : Env) (js : List Nat) (d : D) : witW env js d = witK d (objsAt env js) := by unfold witW witK; cases objsAt env js <;> rfl
@[simp] theorem gRetW_eq (js : List Nat) (f : Env → R D) (env : Env) (Q : Ou → Prop) : gRetW js f env Q = gEv (f env) env Q fun d => Q (.rt (witK d (objsAt env js))) := by unfold gRetW; simp only [witW_K]
@[simp] theorem outW_nx (no : Nat) (os : List D) (r : R D) (e : Env) : OutW no os r (.nx e) = ∃ os', objsAt e (List.range no) = some os' ∧ r = .ok (.wit .non os') := rfl
@[simp] theorem outW_rt (no : Nat) (os : List D) (r : R D) (d : D) : OutW no os r (.rt d) = (r = .ok d) := rfl
@[simp] theorem outW_rz (no : Nat) (os : List D) (r : R D) (c : String) (e : Env) : OutW no os r (.rz c e) = (r = .er c ∧ objsAt e (List.range no) = some os) := rfl
@[simp] theorem outW_bk (no : Nat) (os : List D) (r : R D) (e : Env) : OutW no os r (.bk e) = False := rfl
@[simp] theorem outW_ct (no : Nat) (os : List D) (r : R D) (e : Env) : OutW no os r (.ct e) = False := rfl
@[simp] theorem range1 : List.range 1 = [0] := rfl
@[simp] theorem range2 : List.range 2 = [0, 1] := rfl
theorem hnW {fs : Env → R (List D)} {k j n : Nat} (h : ∀ env ds, fs env = .ok ds → ds.length = k) (e : k + j = n := by rfl) : ∀ env ds, fs env = .ok ds → ds.length + j = n := fun env ds z => by rw [h env ds z]; exact e
/-- a method -/
structure Mx (K : PySem.W.Frag) (m qual : Str) (st : Stmt) (C f : Addr) (fd : FuncData) (ps : List Str) : Prop where
  F : Fun K m qual st f fd
  me : Meth K C m f
  b : Binds K fd ps []
/-- __init__ -/
structure Ix (K : PySem.W.Frag) (m qual : Str) (st : Stmt) (C f : Addr) (fd : FuncData) (ps : List Str) : Prop where
  F : Fun K m qual st f fd
  mkr : Mk K C f
  b : Binds K fd ps []
end BC

namespace BL
open PySem PySem.Spec PyProof.Rows L2 BC
def topS (i : Nat) : Stmt := PySem.Challenge.pw_braidcomb_k82_refused_changes_nothing.main.body.getD i (.Pass ⟨0, 0, 0, 0⟩)
def t_is1_NoMove : Cat := fun c => if c = "NoMove" then some true else if c = "NoWord" then some false else none
def t_is1_NoWord : Cat := fun c => if c = "NoMove" then some false else if c = "NoWord" then some true else none
def t_is1_ValueError : Cat := fun c => if c = "NoMove" then some true else if c = "NoWord" then some true else none
def t_is_BadPicture_BadText_NoForm_NoRow_NoString_TooMany_Unlike : Cat := fun c => if c = "NoMove" then some false else if c = "NoWord" then some false else none
def t_ct_BraidError : Cat := fun c => if c = "NoMove" then some true else if c = "NoWord" then some true else none
structure Tb (K : PySem.W.Frag) (mg : Str → Option Value) (cl : String → Addr) : Prop where
  z_ValueError : mg "ValueError" = none
  z_abs : mg "abs" = none
  z_bool : mg "bool" = none
  z_enumerate : mg "enumerate" = none
  z_int : mg "int" = none
  z_isinstance : mg "isinstance" = none
  z_len : mg "len" = none
  z_list : mg "list" = none
  z_max : mg "max" = none
  z_range : mg "range" = none
  z_str : mg "str" = none
  z_tuple : mg "tuple" = none
  c_MOST_STRINGS : ∃ t, mg "MOST_STRINGS" = some (.int 7 t)
  gc_BadPicture : mg "BadPicture" = some (.ref (cl "BadPicture"))
  gc_BadText : mg "BadText" = some (.ref (cl "BadText"))
  gc_BraidError : mg "BraidError" = some (.ref (cl "BraidError"))
  gc_Loom : mg "Loom" = some (.ref (cl "Loom"))
  gc_NoForm : mg "NoForm" = some (.ref (cl "NoForm"))
  gc_NoMove : mg "NoMove" = some (.ref (cl "NoMove"))
  gc_NoRow : mg "NoRow" = some (.ref (cl "NoRow"))
  gc_NoString : mg "NoString" = some (.ref (cl "NoString"))
  gc_NoWord : mg "NoWord" = some (.ref (cl "NoWord"))
  gc_TooMany : mg "TooMany" = some (.ref (cl "TooMany"))
  gc_Unlike : mg "Unlike" = some (.ref (cl "Unlike"))
  e_NoMove : ExF K (cl "NoMove")
  e_NoWord : ExF K (cl "NoWord")
  o_Loom : Cls K (cl "Loom")
  n_Loom_hung : NoAttr K (cl "Loom") "hung"
  n_Loom_past : NoAttr K (cl "Loom") "past"
  n_Loom_strings : NoAttr K (cl "Loom") "strings"
  is1_NoMove : IsF1 K cl (.ref (cl "NoMove")) t_is1_NoMove
  is1_NoWord : IsF1 K cl (.ref (cl "NoWord")) t_is1_NoWord
  is1_ValueError : IsF1 K cl (.type "ValueError") t_is1_ValueError
  is_BadPicture_BadText_NoForm_NoRow_NoString_TooMany_Unlike : IsF K cl [.ref (cl "BadPicture"), .ref (cl "BadText"), .ref (cl "NoForm"), .ref (cl "NoRow"), .ref (cl "NoString"), .ref (cl "TooMany"), .ref (cl "Unlike")] t_is_BadPicture_BadText_NoForm_NoRow_NoString_TooMany_Unlike
  ct_BraidError : CatOk K cl (.ref (cl "BraidError")) t_ct_BraidError
structure Fx (K : PySem.W.Frag) (mg : Str → Option Value) (x : Str) (st : Stmt) (f : Addr) (fd : FuncData) (ps : List Str) : Prop where
  F : Fun K x x st f fd
  g : mg x = some (.ref f)
  b : Binds K fd ps []
/-! ## Draw -/
/-! ## what the laws draw, in plain Lean -/
def mixZ (cell k factor : Int) : Int := (cell % 1000003 * 7 + k * k + 1) * factor % 2147483647 / 16
theorem mixZ_nonneg (cell k factor : Int) : 0 ≤ mixZ cell k factor := Int.ediv_nonneg (Int.emod_nonneg _ (by decide)) (by decide)
theorem mixZ_lt (cell k factor : Int) : mixZ cell k factor < 134217728 := by
  unfold mixZ
  have := Int.emod_lt_of_pos ((cell % 1000003 * 7 + k * k + 1) * factor) (show (0 : Int) < 2147483647 by decide)
  omega
def strZ (seed least most : Int) : Int := if least = 1 ∧ seed % 13 = 5 then 1 else max 2 least + seed / 13 % (most - max 2 least + 1)
theorem strZ_bounds {seed least most : Int} (h1 : 1 ≤ least) (h2 : 2 ≤ most) (h3 : least ≤ most) : 1 ≤ strZ seed least most ∧ strZ seed least most ≤ most := by
  unfold strZ
  split
  · omega
  · have h4 : 0 < most - max 2 least + 1 := by omega
    have h5 := Int.emod_nonneg (seed / 13) (show most - max 2 least + 1 ≠ 0 by omega)
    have h6 := Int.emod_lt_of_pos (seed / 13) h4
    omega
def crZ (number n : Int) : Int := if number / 8 % 2 = 1 then -(1 + number % (n - 1)) else 1 + number % (n - 1)
/-- a crossing of n strings -/
def Cr (n k : Int) : Prop := k ≠ 0 ∧ -n < k ∧ k < n
theorem crZ_cr {number n : Int} (h : 2 ≤ n) : Cr n (crZ number n) := by
  have h5 := Int.emod_nonneg number (show n - 1 ≠ 0 by omega)
  have h6 := Int.emod_lt_of_pos number (show 0 < n - 1 by omega)
  unfold crZ Cr
  split <;> omega
/-- a word of n strings -/
def Wd (n : Int) (w : List Int) : Prop := ∀ k ∈ w, Cr n k
theorem Wd.nil {n : Int} : Wd n [] := fun _ h => by cases h
theorem Wd.cons {n k : Int} {w : List Int} (h : Cr n k) (hw : Wd n w) : Wd n (k :: w) := fun x hx => by
  rcases List.mem_cons.mp hx with e | e
  · rw [e]; exact h
  · exact hw x e
theorem Wd.app {n : Int} {v w : List Int} (h : Wd n v) (hw : Wd n w) : Wd n (v ++ w) := fun x hx => (List.mem_append.mp hx).elim (h x) (hw x)
theorem Wd.take {n : Int} {w : List Int} (h : Wd n w) (m : Nat) : Wd n (w.take m) := fun x hx => h x (List.mem_of_mem_take hx)
theorem Wd.drop {n : Int} {w : List Int} (h : Wd n w) (m : Nat) : Wd n (w.drop m) := fun x hx => h x (List.mem_of_mem_drop hx)
def nextZ (k n : Int) : Int := if (k + 1).natAbs < n ∧ k + 1 ≠ 0 then k + 1 else k - 1
def pieceZ (number n : Int) : List Int :=
  let k := crZ number n
  if number / 16 % 4 > 0 ∨ n < 3 then [k] else
    let o := nextZ k n
    if number / 64 % 4 = 0 then [k, o, k] else if number / 64 % 4 = 1 then [k, o] else if number / 64 % 4 = 2 then [k, k] else [k, -o, k]
theorem pieceZ_len (number n : Int) : (pieceZ number n).length ≤ 3 := by
  unfold pieceZ
  simp only
  split
  · simp
  · split
    · simp
    · split
      · simp
      · split <;> simp
theorem nextZ_cr {k n : Int} (hk : Cr n k) (hn : 3 ≤ n) : Cr n (nextZ k n) := by
  unfold nextZ Cr at *
  split <;> omega
theorem Cr.neg {n k : Int} (h : Cr n k) : Cr n (-k) := by unfold Cr at *; omega
theorem pieceZ_wd {number n : Int} (h : 2 ≤ n) : Wd n (pieceZ number n) := by
  have h1 := crZ_cr (number := number) h
  unfold pieceZ
  simp only
  split
  · exact .cons h1 .nil
  · rename_i hn
    have h2 := nextZ_cr h1 (show 3 ≤ n by omega)
    split
    · exact .cons h1 (.cons h2 (.cons h1 .nil))
    · split
      · exact .cons h1 (.cons h2 .nil)
      · split
        · exact .cons h1 (.cons h1 .nil)
        · exact .cons h1 (.cons h2.neg (.cons h1 .nil))
def drawnAll (n : Int) : List (Int × Nat) → List Int
  | [] => []
  | (c, i) :: cs => (if n > 1 then pieceZ (mixZ c i 48271) n else []) ++ drawnAll n cs
theorem drawnAll_nil (n : Int) : drawnAll n [] = [] := rfl
theorem drawnAll_cons (n c : Int) (i : Nat) (cs : List (Int × Nat)) : drawnAll n ((c, i) :: cs) = (if n > 1 then pieceZ (mixZ c i 48271) n else []) ++ drawnAll n cs := rfl
theorem drawnAll_len (n : Int) : ∀ cs : List (Int × Nat), (drawnAll n cs).length ≤ 3 * cs.length
  | [] => by simp [drawnAll]
  | (c, i) :: cs => by
    have := drawnAll_len n cs
    unfold drawnAll
    rw [List.length_append, List.length_cons]
    have h1 : (if n > 1 then pieceZ (mixZ c i 48271) n else []).length ≤ 3 := by
      split
      · exact pieceZ_len _ _
      · simp
    omega
theorem drawnAll_wd {n : Int} : ∀ cs : List (Int × Nat), Wd n (drawnAll n cs)
  | [] => .nil
  | (c, i) :: cs => by
    unfold drawnAll
    refine .app ?_ (drawnAll_wd cs)
    split
    · exact pieceZ_wd (by omega)
    · exact .nil
def drawnZ (cells : List Int) (n : Int) (most : Nat) : List Int := (drawnAll n (cells.zipIdx 0)).take most
theorem drawnZ_len (cells : List Int) (n : Int) (most : Nat) : (drawnZ cells n most).length ≤ most := by unfold drawnZ; rw [List.length_take]; omega
theorem drawnZ_wd (cells : List Int) (n : Int) (most : Nat) : Wd n (drawnZ cells n most) := (drawnAll_wd _).take most
theorem Wd.one {w : List Int} (h : Wd 1 w) : w = [] := by
  cases w with
  | nil => rfl
  | cons k w => have := h k (by simp); unfold Cr at this; omega
theorem drawnAll_one : ∀ cs : List (Int × Nat), drawnAll 1 cs = []
  | [] => rfl
  | (c, i) :: cs => by unfold drawnAll; rw [drawnAll_one cs]; simp
/-- the kinds in which cells come -/
def kc (b : Bool) : Kd := if b then .sc else .fz
@[simp] theorem kc_bor (b : Bool) : (kc b).bor = kc b := by cases b <;> rfl
@[simp] theorem kc_frz (b : Bool) : (kc b).frz = kc b := by cases b <;> rfl
@[simp] theorem sto_kc (b : Bool) (xs : List Int) : (D.lst (kc b) (encL .int xs)).sto = true := by cases b <;> simp [kc]
@[simp] theorem src_kc (b : Bool) (xs : List Int) : srcL (.lst (kc b) (encL .int xs)) = some (false, encL .int xs) := by cases b <;> simp [kc]
theorem kc_inj {a b : Bool} : kc a = kc b ↔ a = b := by cases a <;> cases b <;> simp [kc]
def kw (b : Bool) : Kd := if b then .fz else .ow
@[simp] theorem kw_frz (b : Bool) : (kw b).frz = .fz := by cases b <;> rfl

/-! ## Words -/
--needs Draw
/-- the lists that are words -/
def WordB (n : Int) (w : List Int) : Bool := decide (1 ≤ n ∧ n ≤ 7) && w.all fun k => decide (k ≠ 0 ∧ (k.natAbs : Int) < n)
theorem WordB_iff {n : Int} {w : List Int} : WordB n w = true ↔ 1 ≤ n ∧ n ≤ 7 ∧ Wd n w := by
  unfold WordB Wd Cr
  simp
  constructor
  · rintro ⟨⟨a, b⟩, c⟩
    exact ⟨a, b, fun k hk => by have := c k hk; omega⟩
  · rintro ⟨a, b, c⟩
    exact ⟨⟨a, b⟩, fun k hk => by have := c k hk; omega⟩

/-! ## Loom -/
--needs Words
theorem mk_hW {α : Type} {enc : α → List D} {pre : α → Prop} {out : α → R D} {g : G} {N : List Str} {n no : Nat} (h : ∀ a, pre a → g (env0 N (enc a)) (OutW no ((enc a).take no) (out a))) : ∀ ds, ds.length = n → D.stos ds = true → isOs (ds.take no) = true → mk enc pre out ds ≠ .no → g (env0 N ds) (OutW no (ds.take no) (mk enc pre out ds)) := by
  intro ds _ _ _ hn
  unfold mk at hn ⊢
  by_cases hx : ∃ b, pre b ∧ enc b = ds
  · rw [dif_pos hx]
    have := h _ hx.choose_spec.1
    rw [hx.choose_spec.2] at this
    exact this
  · rw [dif_neg hx] at hn
    exact absurd rfl hn
/-! a loom: n strings, the word w, the words past -/
def lmN : List Str := ["strings", "hung", "past"]
def lm (k : Kd) (C a : Addr) (n : Int) (w : List Int) (past : List (List Int)) : D := .obj k a (some C) lmN [.int n, iL k w, .lst k (encL (iL k) past)]
section
variable {k : Kd} {C a : Addr} {n : Int} {w : List Int} {past : List (List Int)}
theorem lm_inj {k' : Kd} {C' a' : Addr} {n' : Int} {w' : List Int} {past' : List (List Int)} (h : lm k C a n w past = lm k' C' a' n' w' past') : a = a' ∧ n = n' ∧ w = w' ∧ past = past' := by
  unfold lm at h
  injection h with h1 h2 h3 h4 h5
  subst h1
  simp at h5
  exact ⟨h2, h5.1, h5.2.1, h5.2.2⟩
@[simp] theorem lm_bor : (lm k C a n w past).bor = lm k.bor C a n w past := by simp [lm]
@[simp] theorem lm_frz : (lm k C a n w past).frz = lm k.frz C a n w past := by simp [lm]
@[simp] theorem lm_sto_ow : (lm .ow C a n w past).sto = true := by simp [lm]
@[simp] theorem lm_sto_fz : (lm .fz C a n w past).sto = true := by simp [lm]
@[simp] theorem lm_sto_bo : (lm .bo C a n w past).sto = false := by simp [lm]
@[simp] theorem lm_oad : (lm .ow C a n w past).oad = some a := by simp [lm]
@[simp] theorem lm_ownd : (lm .ow C a n w past).ownd = true := by simp [lm]
@[simp] theorem lm_non : (lm k C a n w past).isNon = false := by simp [lm]
@[simp] theorem lm_objsK (o : Option (List D)) : objsK o (some (some (lm .ow C a n w past))) = o.map fun os => lm .ow C a n w past :: os := by simp [lm]
theorem lm_ok {m : Str} (h : lmN.contains m = false) : okO C m (lm k C a n w past) = true := by
  unfold lm
  rw [okO_eq, h]
  rfl
@[simp] theorem lm_ok_hang : okO C "hang" (lm k C a n w past) = true := lm_ok (by decide +kernel)
@[simp] theorem lm_ok_drop : okO C "drop" (lm k C a n w past) = true := lm_ok (by decide +kernel)
@[simp] theorem lm_ok_go : okO C "go" (lm k C a n w past) = true := lm_ok (by decide +kernel)
@[simp] theorem lm_ok_undo : okO C "undo" (lm k C a n w past) = true := lm_ok (by decide +kernel)
@[simp] theorem lm_ok_now : okO C "now" (lm k C a n w past) = true := lm_ok (by decide +kernel)
@[simp] theorem lm_ok_form : okO C "form_now" (lm k C a n w past) = true := lm_ok (by decide +kernel)
@[simp] theorem lm_ok_rings : okO C "rings_now" (lm k C a n w past) = true := lm_ok (by decide +kernel)
theorem nsh : (("strings" : Str) = "hung") = False := by simp only [eq_iff_iff, iff_false]; decide +kernel
theorem nsp : (("strings" : Str) = "past") = False := by simp only [eq_iff_iff, iff_false]; decide +kernel
theorem nhp : (("hung" : Str) = "past") = False := by simp only [eq_iff_iff, iff_false]; decide +kernel
theorem nph : (("past" : Str) = "hung") = False := by simp only [eq_iff_iff, iff_false]; decide +kernel
@[simp] theorem lm_fld_s : xFldO C "strings" (some (some (lm k C a n w past))) = .ok (.int n) := by
  unfold lm
  rw [xFldO_eq]
  rfl
@[simp] theorem lm_fld_h : xFldO C "hung" (some (some (lm k C a n w past))) = .ok (iL k.bor w) := by
  unfold lm
  rw [xFldO_eq]
  have : (lmN.zip (D.bors [.int n, iL k w, .lst k (encL (iL k) past)])).lookup ("hung" : Str) = some (iL k.bor w) := by
    simp only [lmN, dbors_cons, dbors_nil, dbor_int, dbor_lst, bors_int, List.zip_cons_cons, List.lookup_cons, show (("hung" : Str) == "strings") = false by decide +kernel, beq_self_eq_true]
  rw [this]
  rfl
@[simp] theorem lm_fld_p : xFldO C "past" (some (some (lm k C a n w past))) = .ok (iLL k.bor k.bor past) := by
  unfold lm
  rw [xFldO_eq]
  have : (lmN.zip (D.bors [.int n, iL k w, .lst k (encL (iL k) past)])).lookup ("past" : Str) = some (iLL k.bor k.bor past) := by
    simp only [lmN, dbors_cons, dbors_nil, dbor_int, dbor_lst, bors_int, bors_iL, List.zip_cons_cons, List.lookup_cons, show (("past" : Str) == "strings") = false by decide +kernel, show (("past" : Str) == "hung") = false by decide +kernel, beq_self_eq_true]
  rw [this]
  rfl
/-- as the fields are put -/
theorem lm_put_h (d : D) (l : List D) : putX "hung" d lmN [.int n, iL .ow w, .lst .ow l] = [.int n, d, .lst .ow l] := by simp [lmN, putX, nsh]
theorem lm_put_p (d h : D) (l : List D) : putX "past" d lmN [.int n, h, .lst .ow l] = [.int n, h, d] := by simp [lmN, putX, nsp, nhp]
theorem lm_putN_h : putN "hung" lmN = lmN := by simp [lmN, putN, nsh]
theorem lm_get_h : getF "hung" lmN [.int n, iL .ow w, .lst .ow (encL (iL .ow) past)] = some (iL .ow w) := by simp [lmN, getF, nsh]
theorem lm_get_p : getF "past" lmN [.int n, iL .ow w, .lst .ow (encL (iL .ow) past)] = some (.lst .ow (encL (iL .ow) past)) := by simp [lmN, getF, nsp, nhp]
@[simp] theorem lm_pop {j : Nat} {env : BC.Env} {Q : Ou → Prop} {v : List Int} : fPopK C j "hung" "past" env Q (some (some (lm .ow C a n w (past ++ [v])))) = Q (.nx (env.set j (some (lm .ow C a n v past)))) := by
  unfold lm
  rw [fPopK_eq, lm_get_p, show encL (iL .ow) (past ++ [v]) = encL (iL .ow) past ++ [iL .ow v] from (encL_snoc (f := iL .ow) past v).symm, popK_snoc, lm_put_p, lm_put_h, lm_putN_h]
  have : lmN.length < 1000 := by decide
  simp [this]
theorem lm_mv {j : Nat} {env : BC.Env} {Q : Ou → Prop} {e : BC.Env → R D} (he : env[j]? = some (some (lm .ow C a n w past))) (h : past.length < 16777216) {v : List Int} (hv : e (env.set j (some (lm .ow C a n w (past ++ [w])))) = .ok (iL .ow v)) : gMvSet C j "hung" "past" e env Q = Q (.nx (env.set j (some (lm .ow C a n v (past ++ [w]))))) := by
  rw [gMvSet_eq, he]
  unfold lm at hv ⊢
  rw [aMvK_eq, lm_get_p, lm_get_h, aMvK2_eq, lm_put_p, encL_length]
  have e1 : encL (iL .ow) past ++ [D.lst .ow (encL .int w)] = encL (iL .ow) (past ++ [w]) := encL_snoc past w
  rw [e1]
  simp only [hv]
  have : lmN.length < 1000 := by decide
  simp only [this, h, rOk_ok, dsto_ow, stos_int, true_and, lm_putN_h, lm_put_h, ne_eq, nhp, not_false_eq_true]
theorem lm_mvV {j i : Nat} {env : BC.Env} {Q : Ou → Prop} (he : env[j]? = some (some (lm .ow C a n w past))) (h : past.length < 16777216) {v : List Int} (hv : env[i]? = some (some (iL .ow v))) : gMvSetV C j i "hung" "past" env Q = Q (.nx ((env.set i none).set j (some (lm .ow C a n v (past ++ [w]))))) := by
  rw [gMvSetV_eq, he]
  unfold lm
  rw [aMvK_eq, lm_get_p, lm_get_h, aMvK2_eq, lm_put_p, encL_length]
  have e1 : encL (iL .ow) past ++ [D.lst .ow (encL .int w)] = encL (iL .ow) (past ++ [w]) := encL_snoc past w
  rw [e1, hv, mvVK_some]
  have : lmN.length < 1000 := by decide
  simp only [this, h, true_and, lm_putN_h, lm_put_h, ne_eq, nhp, not_false_eq_true]
end

/-! ## Moves -/
--needs Words
/-! ## exchanges -/
inductive Mv
  | out (p : Int)
  | far (p : Int)
  | near (p : Int)
  | ins (p k : Int)
  deriving DecidableEq
namespace Mv
def kind : Mv → Str
  | out _ => "out"
  | far _ => "far"
  | near _ => "near"
  | ins _ _ => "in"
def p : Mv → Int
  | out p => p
  | far p => p
  | near p => p
  | ins p _ => p
def isIn : Mv → Bool
  | ins _ _ => true
  | _ => false
end Mv
theorem cl_out : PyData.canLay0 (.str "out") = true := by decide +kernel
theorem cl_far : PyData.canLay0 (.str "far") = true := by decide +kernel
theorem cl_near : PyData.canLay0 (.str "near") = true := by decide +kernel
theorem cl_in : PyData.canLay0 (.str "in") = true := by decide +kernel
theorem s_of : decide (("out" : Str) = "far") = false := by decide +kernel
theorem s_on : decide (("out" : Str) = "near") = false := by decide +kernel
theorem s_oi : decide (("out" : Str) = "in") = false := by decide +kernel
theorem s_fo : decide (("far" : Str) = "out") = false := by decide +kernel
theorem s_fn : decide (("far" : Str) = "near") = false := by decide +kernel
theorem s_fi : decide (("far" : Str) = "in") = false := by decide +kernel
theorem s_no : decide (("near" : Str) = "out") = false := by decide +kernel
theorem s_nf : decide (("near" : Str) = "far") = false := by decide +kernel
theorem s_ni : decide (("near" : Str) = "in") = false := by decide +kernel
theorem s_io : decide (("in" : Str) = "out") = false := by decide +kernel
theorem s_if : decide (("in" : Str) = "far") = false := by decide +kernel
theorem s_in : decide (("in" : Str) = "near") = false := by decide +kernel
def eMv : Mv → D
  | .out p => .tup [.str "out", .int p]
  | .far p => .tup [.str "far", .int p]
  | .near p => .tup [.str "near", .int p]
  | .ins p k => .tup [.str "in", .int p, .int k]
def eO {α : Type} (f : α → D) : Option α → D
  | none => .non
  | some a => f a
@[simp] theorem eO_none {α : Type} (f : α → D) : eO f none = .non := rfl
@[simp] theorem eO_some {α : Type} (f : α → D) (a : α) : eO f (some a) = f a := rfl
@[simp] theorem bor_eMv (m : Mv) : (eMv m).bor = eMv m := by cases m <;> simp [eMv]
@[simp] theorem frz_eMv (m : Mv) : (eMv m).frz = eMv m := by cases m <;> simp [eMv]
@[simp] theorem unf_eMv (m : Mv) : (eMv m).unf = eMv m := by cases m <;> simp [eMv]
@[simp] theorem sto_eMv (m : Mv) : (eMv m).sto = true := by cases m <;> simp [eMv]
@[simp] theorem nsc_eMv (m : Mv) : (eMv m).nsc = true := by cases m <;> simp [eMv]
@[simp] theorem eMv_0 (m : Mv) : ixD (eMv m) (.int 0) = some (.str m.kind) := by cases m <;> simp [eMv, Mv.kind]
@[simp] theorem eMv_1 (m : Mv) : ixD (eMv m) (.int 1) = some (.int m.p) := by cases m <;> simp [eMv, Mv.p]
@[simp] theorem eMv_2 (p k : Int) : ixD (eMv (.ins p k)) (.int 2) = some (.int k) := by simp [eMv]
@[simp] theorem eMv_non (m : Mv) : (eMv m).isNon = false := by cases m <;> rfl
@[simp] theorem eMv_tuple (m : Mv) : isiD .tuple (eMv m) = some (.bl true) := by cases m <;> rfl
theorem eMv_len (m : Mv) : lenD [eMv m] = some (.int (if m.isIn = true then 3 else 2)) := by cases m <;> rfl
theorem eMv_inj {a b : Mv} (h : eMv a = eMv b) : a = b := by
  cases a <;> cases b <;> simp [eMv] at h <;> first | (subst h; rfl) | (obtain ⟨rfl, rfl⟩ := h; rfl) | (exact absurd h.1 (of_decide_eq_false (by decide +kernel)))
@[simp] theorem eMv_cmp (m : Mv) : (eMv m).cmpOk = true := by
  have hs : ∀ (s : Str) (i : Int), PyData.canLay0 (.str s) = true → CD 1 (.tup [.str s, .int i]) := fun s i h => .tup (.cons (.str _ h) (.cons (.int _) .nil))
  have hs3 : ∀ (s : Str) (i j : Int), PyData.canLay0 (.str s) = true → CD 1 (.tup [.str s, .int i, .int j]) := fun s i j h => .tup (.cons (.str _ h) (.cons (.int _) (.cons (.int _) .nil)))
  cases m
  · exact (hs _ _ cl_out).ok (by decide)
  · exact (hs _ _ cl_far).ok (by decide)
  · exact (hs _ _ cl_near).ok (by decide)
  · exact (hs3 _ _ _ cl_in).ok (by decide)
theorem eMv_eqv (a b : Mv) : (eMv a).eqv (eMv b) = decide (a = b) := by
  cases a <;> cases b <;> simp only [eMv, eqv_tup, eqvs_cons, eqvs_nil, eqv_str, eqv_int, s_of, s_on, s_oi, s_fo, s_fn, s_fi, s_no, s_nf, s_ni, s_io, s_if, s_in, Bool.false_and] <;> simp
@[simp] theorem eMv_eq (a b : Mv) : eqD (eMv a) (eMv b) = some (.bl (decide (a = b))) := by rw [eqD_of (eMv_cmp a) (eMv_cmp b), eMv_eqv]
@[simp] theorem eMv_ne (a b : Mv) : neD (eMv a) (eMv b) = some (.bl (!decide (a = b))) := by rw [neD_of (eMv_cmp a) (eMv_cmp b), eMv_eqv]
@[simp] theorem eMv_eqn (b : Mv) : eqD .non (eMv b) = some (.bl false) := by rw [eqD_of cmp_non (eMv_cmp b)]; cases b <;> rfl
@[simp] theorem eqD_str (i j : Str) (hi : PyData.canLay0 (.str i) = true) (hj : PyData.canLay0 (.str j) = true) : eqD (.str i) (.str j) = some (.bl (decide (i = j))) := by
  rw [eqD_of ((CD.str (n := 0) i hi).ok (by decide)) ((CD.str (n := 0) j hj).ok (by decide)), eqv_str]
@[simp] theorem neD_str (i j : Str) (hi : PyData.canLay0 (.str i) = true) (hj : PyData.canLay0 (.str j) = true) : neD (.str i) (.str j) = some (.bl (!decide (i = j))) := by
  rw [neD_of ((CD.str (n := 0) i hi).ok (by decide)) ((CD.str (n := 0) j hj).ok (by decide)), eqv_str]
theorem kind_cmp : ∀ m : Mv, PyData.canLay0 (.str m.kind) = true
  | .out _ => cl_out
  | .far _ => cl_far
  | .near _ => cl_near
  | .ins _ _ => cl_in
@[simp] theorem kind_in (m : Mv) : eqD (.str m.kind) (.str "in") = some (.bl m.isIn) := by
  rw [eqD_str _ _ (kind_cmp m) cl_in]
  cases m
  · exact congrArg (fun b => some (D.bl b)) s_oi
  · exact congrArg (fun b => some (D.bl b)) s_fi
  · exact congrArg (fun b => some (D.bl b)) s_ni
  · exact congrArg (fun b => some (D.bl b)) (decide_eq_true rfl)
@[simp] theorem kind_out (m : Mv) : eqD (.str m.kind) (.str "out") = some (.bl (match m with | .out _ => true | _ => false)) := by
  rw [eqD_str _ _ (kind_cmp m) cl_out]
  cases m
  · exact congrArg (fun b => some (D.bl b)) (decide_eq_true rfl)
  · exact congrArg (fun b => some (D.bl b)) s_fo
  · exact congrArg (fun b => some (D.bl b)) s_no
  · exact congrArg (fun b => some (D.bl b)) s_io
@[simp] theorem kind_far (m : Mv) : eqD (.str m.kind) (.str "far") = some (.bl (match m with | .far _ => true | _ => false)) := by
  rw [eqD_str _ _ (kind_cmp m) cl_far]
  cases m
  · exact congrArg (fun b => some (D.bl b)) s_of
  · exact congrArg (fun b => some (D.bl b)) (decide_eq_true rfl)
  · exact congrArg (fun b => some (D.bl b)) s_nf
  · exact congrArg (fun b => some (D.bl b)) s_if
@[simp] theorem kind_nnear (m : Mv) : neD (.str m.kind) (.str "near") = some (.bl (!(match m with | .near _ => true | _ => false))) := by
  rw [neD_str _ _ (kind_cmp m) cl_near]
  cases m
  · exact congrArg (fun b => some (D.bl (!b))) s_on
  · exact congrArg (fun b => some (D.bl (!b))) s_fn
  · exact congrArg (fun b => some (D.bl (!b))) (decide_eq_true rfl)
  · exact congrArg (fun b => some (D.bl (!b))) s_in
/-- two crossings that are not neighbours -/
def FarQ (a b : Int) : Prop := 1 < (((a.natAbs : Int) - b.natAbs).natAbs : Int)
instance (a b : Int) : Decidable (FarQ a b) := inferInstanceAs (Decidable (_ < _))
/-- k, b, k of neighbours of one sign -/
def NearQ (a b c : Int) : Prop := a = c ∧ 0 < a * b ∧ ((a - b).natAbs : Int) = 1
instance (a b c : Int) : Decidable (NearQ a b c) := inferInstanceAs (Decidable (_ ∧ _))
def outQ (w : List Int) (p : Nat) : Bool := match w.drop p with | a :: b :: _ => decide (a = -b) | _ => false
def farQ (w : List Int) (p : Nat) : Bool := match w.drop p with | a :: b :: _ => decide (FarQ a b) | _ => false
def nearQ (w : List Int) (p : Nat) : Bool := match w.drop p with | a :: b :: c :: _ => decide (NearQ a b c) | _ => false
/-- the exchange at a place -/
def atZ (w : List Int) (p : Nat) : Option Mv := if outQ w p = true then some (.out p) else if farQ w p = true then some (.far p) else if nearQ w p = true then some (.near p) else none
theorem far_not_out {w : List Int} {p : Nat} (h : farQ w p = true) : outQ w p = false := by
  unfold farQ at h
  unfold outQ
  split at h
  · have h1 := of_decide_eq_true h
    unfold FarQ at h1
    exact decide_eq_false (by omega)
  · cases h
theorem mul_pos_or {a b : Int} (h : 0 < a * b) : (0 < a ∧ 0 < b) ∨ (a < 0 ∧ b < 0) := by
  have z1 : ¬ (0 ≤ a ∧ b ≤ 0) := fun z => by
    have := Int.mul_le_mul_of_nonneg_left z.2 z.1
    omega
  have z2 : ¬ (a ≤ 0 ∧ 0 ≤ b) := fun z => by
    have := Int.mul_le_mul_of_nonneg_right z.1 z.2
    omega
  omega
theorem near_not {w : List Int} {p : Nat} (h : nearQ w p = true) : outQ w p = false ∧ farQ w p = false := by
  unfold nearQ at h
  unfold outQ farQ
  split at h
  · rename_i a b c r e
    obtain ⟨rfl, h1, h2⟩ := of_decide_eq_true h
    rw [e]
    have h3 : (0 < a ∧ 0 < b) ∨ (a < 0 ∧ b < 0) := mul_pos_or h1
    refine ⟨decide_eq_false (by omega), decide_eq_false ?_⟩
    unfold FarQ
    omega
  · cases h
/-- whether an exchange can be done -/
def canZ (n : Int) (w : List Int) : Mv → Bool
  | .out p => decide (0 ≤ p) && outQ w p.toNat
  | .far p => decide (0 ≤ p) && farQ w p.toNat
  | .near p => decide (0 ≤ p) && nearQ w p.toNat
  | .ins p k => decide (0 ≤ p ∧ p ≤ w.length) && decide (0 < (k.natAbs : Int) ∧ (k.natAbs : Int) < n)
theorem outQ_lt {w : List Int} {p : Nat} (h : outQ w p = true) : p + 2 ≤ w.length := by
  unfold outQ at h
  split at h
  · rename_i e; have := congrArg List.length e; simp at this; omega
  · cases h
theorem farQ_lt {w : List Int} {p : Nat} (h : farQ w p = true) : p + 2 ≤ w.length := by
  unfold farQ at h
  split at h
  · rename_i e; have := congrArg List.length e; simp at this; omega
  · cases h
theorem nearQ_lt {w : List Int} {p : Nat} (h : nearQ w p = true) : p + 3 ≤ w.length := by
  unfold nearQ at h
  split at h
  · rename_i e; have := congrArg List.length e; simp at this; omega
  · cases h
theorem atZ_eq {n : Int} {w : List Int} {m : Mv} (h0 : 0 ≤ m.p) (hi : m.isIn = false) : decide (atZ w m.p.toNat = some m) = canZ n w m := by
  have hp : ((m.p.toNat : Nat) : Int) = m.p := by omega
  unfold atZ
  rw [hp]
  clear hp
  cases m with
  | out p =>
    replace h0 : 0 ≤ p := h0
    show decide ((if outQ w p.toNat = true then _ else _) = _) = (decide (0 ≤ p) && outQ w p.toNat)
    by_cases h : outQ w p.toNat = true
    · simp [Mv.p, h, h0]
    · by_cases h2 : farQ w p.toNat = true
      · simp [Mv.p, h, h2]
      · by_cases h3 : nearQ w p.toNat = true <;> simp [Mv.p, h, h2, h3]
  | far p =>
    replace h0 : 0 ≤ p := h0
    show decide ((if outQ w p.toNat = true then _ else _) = _) = (decide (0 ≤ p) && farQ w p.toNat)
    by_cases h2 : farQ w p.toNat = true
    · simp [Mv.p, far_not_out h2, h2, h0]
    · by_cases h : outQ w p.toNat = true
      · simp [Mv.p, h, h2]
      · by_cases h3 : nearQ w p.toNat = true <;> simp [Mv.p, h, h2, h3]
  | near p =>
    replace h0 : 0 ≤ p := h0
    show decide ((if outQ w p.toNat = true then _ else _) = _) = (decide (0 ≤ p) && nearQ w p.toNat)
    by_cases h3 : nearQ w p.toNat = true
    · simp [Mv.p, near_not h3, h3, h0]
    · by_cases h : outQ w p.toNat = true
      · simp [Mv.p, h, h3]
      · by_cases h2 : farQ w p.toNat = true <;> simp [Mv.p, h, h2, h3]
  | ins p k => cases hi
/-- the word behind an exchange -/
def doneZ (w : List Int) : Mv → List Int
  | .out p => w.take p.toNat ++ w.drop (p.toNat + 2)
  | .ins p k => w.take p.toNat ++ [k, -k] ++ w.drop p.toNat
  | .far p => w.take p.toNat ++ [w.getD (p.toNat + 1) 0, w.getD p.toNat 0] ++ w.drop (p.toNat + 2)
  | .near p => w.take p.toNat ++ [w.getD (p.toNat + 1) 0, w.getD p.toNat 0, w.getD (p.toNat + 1) 0] ++ w.drop (p.toNat + 3)
theorem Wd.getD {n : Int} {w : List Int} (hw : Wd n w) {i : Nat} (h : i < w.length) : Cr n (w.getD i 0) := by
  rw [List.getD_eq_getElem?_getD, List.getElem?_eq_getElem h, Option.getD_some]
  exact hw _ (List.getElem_mem h)
theorem canZ_p {n : Int} {w : List Int} {m : Mv} (h : canZ n w m = true) : 0 ≤ m.p ∧ m.p ≤ w.length := by
  cases m <;> simp [canZ, Mv.p] at h ⊢
  · have := outQ_lt h.2; omega
  · have := farQ_lt h.2; omega
  · have := nearQ_lt h.2; omega
  · omega
theorem doneZ_wd {n : Int} {w : List Int} {m : Mv} (hw : Wd n w) (h : canZ n w m = true) : Wd n (doneZ w m) := by
  cases m with
  | out p => exact (hw.take _).app (hw.drop _)
  | far p =>
    simp [canZ] at h
    have := farQ_lt h.2
    exact ((hw.take _).app (.cons (hw.getD (by omega)) (.cons (hw.getD (by omega)) .nil))).app (hw.drop _)
  | near p =>
    simp [canZ] at h
    have := nearQ_lt h.2
    exact ((hw.take _).app (.cons (hw.getD (by omega)) (.cons (hw.getD (by omega)) (.cons (hw.getD (by omega)) .nil)))).app (hw.drop _)
  | ins p k =>
    simp [canZ] at h
    exact ((hw.take _).app (.cons (by unfold Cr; omega) (.cons (by unfold Cr; omega) .nil))).app (hw.drop _)
theorem doneZ_len {n : Int} {w : List Int} {m : Mv} (h : canZ n w m = true) : (doneZ w m).length ≤ w.length + (if m.isIn = true then 2 else 0) := by
  cases m with
  | out p => simp [doneZ, Mv.isIn]; omega
  | far p => simp [canZ] at h; have := farQ_lt h.2; simp [doneZ, Mv.isIn]; omega
  | near p => simp [canZ] at h; have := nearQ_lt h.2; simp [doneZ, Mv.isIn]; omega
  | ins p k => simp [doneZ, Mv.isIn]; omega
/-- the exchange that a law draws -/
def deedZ (w : List Int) (n number room : Int) : Option Mv :=
  let p := (number % (w.length + 1)).toNat
  if outQ w p = true ∧ 0 < number / 128 % 3 then some (.out p) else
  if farQ w p = true ∧ 0 < number / 128 % 5 then some (.far p) else
  if nearQ w p = true then some (.near p) else
  if 1 < n ∧ (w.length : Int) + 2 ≤ room then some (.ins p (crZ (number / 1024) n)) else none
theorem deedZ_can {w : List Int} {n number room : Int} {m : Mv} (h : deedZ w n number room = some m) : canZ n w m = true ∧ (m.isIn = true → (w.length : Int) + 2 ≤ room) := by
  unfold deedZ at h
  simp only at h
  have hp := Int.emod_nonneg number (show (w.length : Int) + 1 ≠ 0 by omega)
  have hp2 := Int.emod_lt_of_pos number (show (0 : Int) < (w.length : Int) + 1 by omega)
  generalize hq : (number % ((w.length : Int) + 1)).toNat = p at h
  split at h
  · rename_i h1; cases h; simp [canZ, h1.1, Mv.isIn]
  · split at h
    · rename_i h1; cases h; simp [canZ, h1.1, Mv.isIn]
    · split at h
      · rename_i h1; cases h; simp [canZ, h1, Mv.isIn]
      · split at h
        · rename_i h1
          cases h
          have hc := crZ_cr (number := number / 1024) (show 2 ≤ n by omega)
          unfold Cr at hc
          refine ⟨?_, fun _ => h1.2⟩
          simp [canZ]
          omega
        · cases h
/-- small entries -/
def Sm (w : List Int) : Prop := ∀ k ∈ w, -1000 < k ∧ k < 1000
theorem Wd.sm {n : Int} {w : List Int} (h : Wd n w) (hn : n ≤ 1000) : Sm w := fun k hk => by
  have := h k hk
  unfold Cr at this
  omega
theorem Sm.drop {w : List Int} (h : Sm w) {p : Nat} {a : Int} {r : List Int} (e : w.drop p = a :: r) : -18446744073709551616 < a ∧ a < 18446744073709551616 := by
  have := h a (List.mem_of_mem_drop (i := p) (by rw [e]; simp))
  omega
/-- the numbers behind the kind -/
def Mv.nums : Mv → List Int
  | .out p => [p]
  | .far p => [p]
  | .near p => [p]
  | .ins p k => [p, k]
theorem eMv_tail (a : Mv) : slD (eMv a) (some 1) none = some (.tup (encL .int a.nums)) := by
  cases a <;> simp [eMv, cutL_from, encL_cons, encL_nil, Mv.nums]

/-! ## LoomD -/
--needs Loom Moves
/-! deeds of a loom -/
@[simp] theorem cl_hang : PyData.canLay0 (.str (Str.ofString "hang")) = true := by decide +kernel
@[simp] theorem cl_drop : PyData.canLay0 (.str (Str.ofString "drop")) = true := by decide +kernel
@[simp] theorem cl_go : PyData.canLay0 (.str (Str.ofString "go")) = true := by decide +kernel
@[simp] theorem cl_loom : PyData.canLay0 (.str (Str.ofString "loom")) = true := by decide +kernel
@[simp] theorem cl_e : PyData.canLay0 (.str (Str.ofString "")) = true := by decide +kernel
@[simp] theorem cl_word : PyData.canLay0 (.str (Str.ofString "word")) = true := by decide +kernel
@[simp] theorem cl_move : PyData.canLay0 (.str (Str.ofString "move")) = true := by decide +kernel
@[simp] theorem cl_none : PyData.canLay0 (.str (Str.ofString "none")) = true := by decide +kernel
@[simp] theorem n_hang_drop : (Str.ofString "hang" = Str.ofString "drop") = False := by simp only [eq_iff_iff, iff_false]; decide +kernel
@[simp] theorem n_hang_go : (Str.ofString "hang" = Str.ofString "go") = False := by simp only [eq_iff_iff, iff_false]; decide +kernel
@[simp] theorem n_hang_loom : (Str.ofString "hang" = Str.ofString "loom") = False := by simp only [eq_iff_iff, iff_false]; decide +kernel
@[simp] theorem n_drop_hang : (Str.ofString "drop" = Str.ofString "hang") = False := by simp only [eq_iff_iff, iff_false]; decide +kernel
@[simp] theorem n_drop_go : (Str.ofString "drop" = Str.ofString "go") = False := by simp only [eq_iff_iff, iff_false]; decide +kernel
@[simp] theorem n_drop_loom : (Str.ofString "drop" = Str.ofString "loom") = False := by simp only [eq_iff_iff, iff_false]; decide +kernel
@[simp] theorem n_go_hang : (Str.ofString "go" = Str.ofString "hang") = False := by simp only [eq_iff_iff, iff_false]; decide +kernel
@[simp] theorem n_go_drop : (Str.ofString "go" = Str.ofString "drop") = False := by simp only [eq_iff_iff, iff_false]; decide +kernel
@[simp] theorem n_go_loom : (Str.ofString "go" = Str.ofString "loom") = False := by simp only [eq_iff_iff, iff_false]; decide +kernel
@[simp] theorem n_loom_hang : (Str.ofString "loom" = Str.ofString "hang") = False := by simp only [eq_iff_iff, iff_false]; decide +kernel
@[simp] theorem n_loom_drop : (Str.ofString "loom" = Str.ofString "drop") = False := by simp only [eq_iff_iff, iff_false]; decide +kernel
@[simp] theorem n_loom_go : (Str.ofString "loom" = Str.ofString "go") = False := by simp only [eq_iff_iff, iff_false]; decide +kernel
@[simp] theorem n_e_word : (Str.ofString "" = Str.ofString "word") = False := by simp only [eq_iff_iff, iff_false]; decide +kernel
@[simp] theorem n_e_move : (Str.ofString "" = Str.ofString "move") = False := by simp only [eq_iff_iff, iff_false]; decide +kernel
@[simp] theorem n_e_none : (Str.ofString "" = Str.ofString "none") = False := by simp only [eq_iff_iff, iff_false]; decide +kernel
@[simp] theorem n_word_e : (Str.ofString "word" = Str.ofString "") = False := by simp only [eq_iff_iff, iff_false]; decide +kernel
@[simp] theorem n_word_move : (Str.ofString "word" = Str.ofString "move") = False := by simp only [eq_iff_iff, iff_false]; decide +kernel
@[simp] theorem n_word_none : (Str.ofString "word" = Str.ofString "none") = False := by simp only [eq_iff_iff, iff_false]; decide +kernel
@[simp] theorem n_move_e : (Str.ofString "move" = Str.ofString "") = False := by simp only [eq_iff_iff, iff_false]; decide +kernel
@[simp] theorem n_move_word : (Str.ofString "move" = Str.ofString "word") = False := by simp only [eq_iff_iff, iff_false]; decide +kernel
@[simp] theorem n_move_none : (Str.ofString "move" = Str.ofString "none") = False := by simp only [eq_iff_iff, iff_false]; decide +kernel
@[simp] theorem n_none_e : (Str.ofString "none" = Str.ofString "") = False := by simp only [eq_iff_iff, iff_false]; decide +kernel
@[simp] theorem n_none_word : (Str.ofString "none" = Str.ofString "word") = False := by simp only [eq_iff_iff, iff_false]; decide +kernel
@[simp] theorem n_none_move : (Str.ofString "none" = Str.ofString "move") = False := by simp only [eq_iff_iff, iff_false]; decide +kernel
inductive Dd
  | hang (v : List Int) | drop (m : Int) | go (m : Mv)
def Dd.kd : Dd → Str
  | .hang _ => "hang"
  | .drop _ => "drop"
  | .go _ => "go"
def Dd.ptK (k : Kd) : Dd → D
  | .hang v => iL k v
  | .drop m => .int m
  | .go m => eMv m
def Dd.pt (d : Dd) : D := d.ptK .fz
def eDd (k : Kd) (d : Dd) : D := .tup [.str d.kd, d.ptK k]
@[simp] theorem eMv_nsc (m : Mv) : (eMv m).nsc = true := by cases m <;> simp [eMv]
@[simp] theorem ptK_bor (k : Kd) (d : Dd) : (d.ptK k).bor = d.ptK k.bor := by cases d <;> simp [Dd.ptK]
@[simp] theorem ptK_frz (k : Kd) (d : Dd) : (d.ptK k).frz = d.ptK k.frz := by cases d <;> simp [Dd.ptK]
@[simp] theorem ptK_unf (k : Kd) (d : Dd) : (d.ptK k).unf = d.ptK k.unf := by cases d <;> simp [Dd.ptK]
@[simp] theorem ptK_sto_ow (d : Dd) : (d.ptK .ow).sto = true := by cases d <;> simp [Dd.ptK]
@[simp] theorem ptK_sto_fz (d : Dd) : (d.ptK .fz).sto = true := by cases d <;> simp [Dd.ptK]
@[simp] theorem ptK_nsc_ow (d : Dd) : (d.ptK .ow).nsc = true := by cases d <;> simp [Dd.ptK]
@[simp] theorem eDd_bor (k : Kd) (d : Dd) : (eDd k d).bor = eDd k.bor d := by simp [eDd]
@[simp] theorem eDd_frz (k : Kd) (d : Dd) : (eDd k d).frz = eDd k.frz d := by simp [eDd]
@[simp] theorem eDd_unf (k : Kd) (d : Dd) : (eDd k d).unf = eDd k.unf d := by simp [eDd]
@[simp] theorem eDd_sto_ow (d : Dd) : (eDd .ow d).sto = true := by simp [eDd]
@[simp] theorem eDd_sto_fz (d : Dd) : (eDd .fz d).sto = true := by simp [eDd]
@[simp] theorem eDd_nsc_ow (d : Dd) : (eDd .ow d).nsc = true := by simp [eDd]
@[simp] theorem eDd_0 (k : Kd) (d : Dd) : ixD (eDd k d) (.int 0) = some (.str d.kd) := rfl
@[simp] theorem eDd_1 (k : Kd) (d : Dd) : ixD (eDd k d) (.int 1) = some (d.ptK k) := rfl
def Dd.ok (n : Int) (w : List Int) : Dd → Bool
  | .hang v => WordB n v
  | .drop m => decide (0 ≤ m ∧ m ≤ w.length)
  | .go m => canZ n w m
def Dd.er : Dd → Str
  | .hang _ => "word"
  | _ => "move"
def Dd.done (w : List Int) : Dd → List Int
  | .hang v => w ++ v
  | .drop m => w.take (w.length - m.toNat)
  | .go m => doneZ w m
def Dd.sm : Dd → Prop
  | .hang v => v.length ≤ 100000
  | _ => True
theorem dd_inj {c d : Dd} (h1 : c.kd = d.kd) (h2 : c.pt = d.pt) : c = d := by
  have a1 : ¬ (("hang" : Str) = "drop") := by simp
  have a2 : ¬ (("hang" : Str) = "go") := by simp
  have a3 : ¬ (("drop" : Str) = "go") := by simp
  cases c <;> cases d <;> simp only [Dd.kd, Dd.pt, Dd.ptK] at h1 h2
  · simp at h2; rw [h2]
  · exact absurd h1 a1
  · exact absurd h1 a2
  · exact absurd h1.symm a1
  · simp at h2; rw [h2]
  · exact absurd h1 a3
  · exact absurd h1.symm a2
  · exact absurd h1.symm a3
  · rw [eMv_inj h2]
theorem eDd_inj {k k' : Kd} {c d : Dd} (h : eDd k c = eDd k' d) (hk : k = k') : c = d := by
  subst hk
  unfold eDd at h
  simp only [D.tup.injEq, List.cons.injEq, D.str.injEq, and_true] at h
  refine dd_inj h.1 ?_
  have := congrArg D.frz h.2
  rw [ptK_frz, ptK_frz] at this
  cases c <;> cases d <;> simp only [Dd.pt, Dd.ptK] at this ⊢ <;> first | (simp at this; simp [this]) | exact this | (exact absurd h.1 (by simp [Dd.kd]))
theorem atI_pick {α : Type} {f : α → D} {l : List α} {i : Int} (x : α) (h0 : 0 ≤ i) (h1 : i < l.length) : L2.atI (encL f l) i = some (f (l.getD i.toNat x)) := by
  obtain ⟨j, rfl⟩ := Int.eq_ofNat_of_zero_le h0
  have hj : j < l.length := by omega
  rw [encL_atI, atI_natc]
  simp [List.getD_eq_getElem?_getD, hj]
@[simp] theorem kd_cl (d : Dd) : PyData.canLay0 (.str d.kd) = true := by cases d <;> simp [Dd.kd]
@[simp] theorem er_cl (d : Dd) : PyData.canLay0 (.str d.er) = true := by cases d <;> simp [Dd.er]
theorem er_ne (d : Dd) : (d.er = Str.ofString "") = False := by cases d <;> simp [Dd.er]
theorem dd_wd {n : Int} {w : List Int} {d : Dd} (hw : Wd n w) (h : d.ok n w = true) : Wd n (d.done w) := by
  cases d with
  | hang v => exact hw.app (WordB_iff.mp h).2.2
  | drop m => exact hw.take _
  | go m => exact doneZ_wd hw h
def Dd.isDrop : Dd → Bool
  | .drop _ => true
  | _ => false
@[simp] theorem kd_drop (d : Dd) : (d.kd = Str.ofString "drop") = (d.isDrop = true) := by cases d <;> simp [Dd.kd, Dd.isDrop]
theorem dd_ok7 {n : Int} {w : List Int} {d : Dd} (h : d.ok n w = true) (hn : n ≤ 7) : d.ok 7 w = true := by
  cases d with
  | hang v =>
    obtain ⟨_, _, h3⟩ := WordB_iff.mp h
    exact WordB_iff.mpr ⟨by decide, by decide, fun k hk => by have := h3 k hk; unfold Cr at *; omega⟩
  | drop m => exact h
  | go m =>
    show canZ 7 w m = true
    replace h : canZ n w m = true := h
    cases m <;> simp [canZ] at h ⊢ <;> first | exact h | omega

/-! ## Eq -/
/-! ## data of any shape -/
mutual
def okE : Nat → D → Bool
  | _, .non => true
  | _, .int _ => true
  | _, .str s => PyData.canLay0 (.str s)
  | n + 1, .lst .fz xs => decide (xs.length ≤ 1000000) && okEs n xs
  | n + 1, .tup xs => decide (xs.length ≤ 1000000) && okEs n xs
  | _, _ => false
def okEs : Nat → List D → Bool
  | _, [] => true
  | n, x :: xs => okE n x && okEs n xs
end
theorem okE_int (n : Nat) (i : Int) : okE n (.int i) = true := by cases n <;> rfl
theorem okE_non (n : Nat) : okE n .non = true := by cases n <;> rfl
theorem okE_str (n : Nat) (s : Str) : okE n (.str s) = PyData.canLay0 (.str s) := by cases n <;> rfl
theorem okE_lst (n : Nat) (xs : List D) : okE (n + 1) (.lst .fz xs) = (decide (xs.length ≤ 1000000) && okEs n xs) := rfl
theorem okE_tup (n : Nat) (xs : List D) : okE (n + 1) (.tup xs) = (decide (xs.length ≤ 1000000) && okEs n xs) := rfl
theorem okEs_get : ∀ {n : Nat} {xs : List D} {i : Nat} {x : D}, okEs n xs = true → xs[i]? = some x → okE n x = true
  | n, [], i, x, _, h => by simp at h
  | n, a :: xs, 0, x, h, e => by
    simp only [okEs, Bool.and_eq_true] at h
    simp at e
    subst e
    exact h.1
  | n, a :: xs, i + 1, x, h, e => by
    simp only [okEs, Bool.and_eq_true] at h
    exact okEs_get h.2 (by simpa using e)
theorem okEs_enc {α : Type} {f : α → D} {n : Nat} : ∀ xs : List α, (∀ a ∈ xs, okE n (f a) = true) → okEs n (encL f xs) = true
  | [], _ => rfl
  | a :: as, h => by
    rw [encL_cons]
    simp only [okEs, Bool.and_eq_true]
    exact ⟨h a (by simp), okEs_enc as fun b hb => h b (by simp [hb])⟩
theorem okE_iL {n : Nat} {xs : List Int} (h : xs.length ≤ 1000000) : okE (n + 1) (iL .fz xs) = true := by
  rw [okE_lst, okEs_enc xs fun _ _ => okE_int _ _]
  simpa using h
theorem okE_iLL {n : Nat} {xs : List (List Int)} (h : xs.length ≤ 1000000) (h2 : ∀ x ∈ xs, x.length ≤ 1000000) : okE (n + 2) (iLL .fz .fz xs) = true := by
  rw [okE_lst, okEs_enc xs fun x hx => okE_iL (h2 x hx)]
  simpa using h
def numB : D → Option Bool
  | .int _ => some true
  | .bl _ => some false
  | .non => some false
  | .str _ => some false
  | .lst _ _ => some false
  | .tup _ => some false
  | _ => none
open Classical in
noncomputable def eqE (a b : D) : Bool := decide (a = b)
open Classical in
theorem eqE_iff {a b : D} : eqE a b = true ↔ a = b := by unfold eqE; simp
theorem eqE_self (a : D) : eqE a a = true := eqE_iff.mpr rfl
theorem eqE_ne {a b : D} (h : a ≠ b) : eqE a b = false := by
  cases e : eqE a b with
  | false => rfl
  | true => exact absurd (eqE_iff.mp e) h
theorem eqE_of {a b : D} {p : Prop} [Decidable p] (h : a = b ↔ p) : eqE a b = decide p := by
  by_cases hp : p
  · rw [decide_eq_true hp]; exact eqE_iff.mpr (h.mpr hp)
  · rw [decide_eq_false hp]; exact eqE_ne fun z => hp (h.mp z)
def isIntD : D → Bool
  | .int _ => true
  | _ => false
theorem okE_num {n : Nat} {x : D} (h : okE n x = true) : numB x = some (isIntD x) := by
  cases x with
  | bl b => cases n <;> cases h
  | exc c C => cases n <;> cases h
  | dic c C => cases n <;> cases h
  | loc a => cases n <;> cases h
  | obj w a C ns fs => cases n <;> cases h
  | wit d o => cases n <;> cases h
  | _ => rfl
mutual
theorem okE_props : ∀ (n : Nat) (x : D), okE n x = true → x.bor = x ∧ x.frz = x ∧ x.sto = true
  | n, .non, _ => ⟨by simp, by simp, rfl⟩
  | n, .int _, _ => ⟨by simp, by simp, rfl⟩
  | n, .str _, _ => ⟨by simp, by simp, rfl⟩
  | n + 1, .lst .fz xs, h => by
    rw [okE_lst, Bool.and_eq_true] at h
    obtain ⟨h1, h2, h3⟩ := okEs_props n xs h.2
    exact ⟨by simp [h1], by simp [h2], by simp [h3]⟩
  | n + 1, .tup xs, h => by
    rw [okE_tup, Bool.and_eq_true] at h
    obtain ⟨h1, h2, h3⟩ := okEs_props n xs h.2
    exact ⟨by simp [h1], by simp [h2], by simp [h3]⟩
  | 0, .lst k xs, h => by cases k <;> cases h
  | 0, .tup xs, h => by cases h
  | n + 1, .lst .ow xs, h => by cases h
  | n + 1, .lst .bo xs, h => by cases h
  | n + 1, .lst .sc xs, h => by cases h
  | n, .bl _, h => by cases n <;> cases h
  | n, .exc _ _, h => by cases n <;> cases h
theorem okEs_props : ∀ (n : Nat) (xs : List D), okEs n xs = true → D.bors xs = xs ∧ D.frzs xs = xs ∧ D.stos xs = true
  | n, [], _ => ⟨by simp, by simp, rfl⟩
  | n, x :: xs, h => by
    simp only [okEs, Bool.and_eq_true] at h
    obtain ⟨a1, a2, a3⟩ := okE_props n x h.1
    obtain ⟨b1, b2, b3⟩ := okEs_props n xs h.2
    exact ⟨by simp [a1, b1], by simp [a2, b2], by simp [a3, b3]⟩
end

/-! ## Exc -/
theorem isiXD_exc (cl : String → Addr) (tab : Cat) (c : String) : isiXD cl tab (.exc c (cl c)) = (tab c).map .bl := if_pos rfl
theorem isiXD_non (cl : String → Addr) (tab : Cat) : isiXD cl tab .non = some (.bl false) := rfl
theorem tryAsK_nx (cl : String → Addr) (cat : Cat) (i : Nat) (h : G) (Q : Ou → Prop) (e : BC.Env) : tryAsK cl cat i h Q (.nx e) = Q (.nx e) := rfl
theorem tryAsK_rt (cl : String → Addr) (cat : Cat) (i : Nat) (h : G) (Q : Ou → Prop) (e : D) : tryAsK cl cat i h Q (.rt e) = Q (.rt e) := rfl
theorem tryAsK_rz {cl : String → Addr} {cat : Cat} {i : Nat} {h : G} {Q : Ou → Prop} {c : String} {e : BC.Env} (hc : cat c = some true) : tryAsK cl cat i h Q (.rz c e) = h (e.set i (some (.exc c (cl c)))) (gGone i Q) := by
  unfold tryAsK
  simp only [hc]
theorem tryK_nx (cat : Cat) (h : G) (Q : Ou → Prop) (e : BC.Env) : tryK cat h Q (.nx e) = Q (.nx e) := rfl
theorem tryK_rt (cat : Cat) (h : G) (Q : Ou → Prop) (e : D) : tryK cat h Q (.rt e) = Q (.rt e) := rfl
theorem tryK_rz {cat : Cat} {h : G} {Q : Ou → Prop} {c : String} {e : BC.Env} (hc : cat c = some true) : tryK cat h Q (.rz c e) = h e (noRz Q) := by
  unfold tryK
  simp only [hc]
theorem gGone_nx (i : Nat) (Q : Ou → Prop) (e : BC.Env) : gGone i Q (.nx e) = Q (.nx (e.set i none)) := rfl
theorem gGone_rt (i : Nat) (Q : Ou → Prop) (e : D) : gGone i Q (.rt e) = Q (.rt e) := rfl

/-! ### checked: 0 n, 1 word, 2 k -/
abbrev s_checked : Stmt := topS 14
abbrev n_checked : List Str := ["n", "word", "k"]
theorem sc_checked : FnScope n_checked ["n", "word"] (defScope s_checked) := ⟨rfl, rfl, rfl, by decide +kernel, rfl, by decide +kernel, by decide +kernel⟩
@[irreducible] noncomputable def g_checked : G := (gSeq (gIf (xTNot (xB (xChain leD leD (xC (.int 1)) (xVar 0) (xC (.int 7))))) (gRaise "NoWord") gNext)
  (gSeq (gFor (xSrc (xVar 1)) (tgN 2) (gIf (xTOr (xB (x2 eqD (xVar 2) (xC (.int 0)))) (xB (x2 geD (xA absD (xCons (xVar 2) xNil)) (xVar 0)))) (gRaise "NoWord") gNext))
  (gRet (xC (.bl true)))))
--needs Words
noncomputable def m_checked : List D → R D := mk (fun a : Int × List Int => [.int a.1, iL .fz a.2]) (fun _ => True) (fun a => if WordB a.1 a.2 = true then .ok (.bl true) else .er "NoWord")
theorem m_checked_eq (n : Int) (w : List Int) : m_checked [.int n, iL .fz w] = if WordB n w = true then .ok (.bl true) else .er "NoWord" :=
  mk_eq (enc := fun a : Int × List Int => [.int a.1, iL .fz a.2]) (fun a b e => by simp at e; exact Prod.ext e.1 e.2) (n, w) trivial
theorem m_checked_no {n : Int} {w : List Int} (h : WordB n w = false) : m_checked [.int n, iL .fz w] = .er "NoWord" := by rw [m_checked_eq, h]; rfl
theorem m_checked_ok {n : Int} {w : List Int} (h : WordB n w = true) : m_checked [.int n, iL .fz w] = .ok (.bl true) := by rw [m_checked_eq, h]; rfl
theorem h_checked : ∀ ds, ds.length = 2 → D.stos ds = true → m_checked ds ≠ .no → g_checked (env0 n_checked ds) (Out (m_checked ds)) := mk_h fun ⟨n, w⟩ _ => by
  show g_checked [some (.int n), some (iL .fz w), none] (Out (if WordB n w = true then .ok (.bl true) else .er "NoWord"))
  by_cases h1 : 1 ≤ n
  · by_cases h2 : n ≤ 7
    · have hW : WordB n w = w.all fun k => decide (k ≠ 0 ∧ (k.natAbs : Int) < n) := by simp [WordB, h1, h2]
      simp -implicitDefEqProofs [g_checked, h1, h2]
      rw [hW]
      obtain ⟨b, hb⟩ : ∃ b, b = w.all fun k => decide (k ≠ 0 ∧ (k.natAbs : Int) < n) := ⟨_, rfl⟩
      rw [← hb]
      refine for_inv (f := D.int) (fun rest env => ∃ x, env = [some (.int n), some (iL .fz w), x] ∧ b = rest.all fun k => decide (k ≠ 0 ∧ (k.natAbs : Int) < n)) (fun _ => rfl) w ⟨none, rfl, hb⟩ ?_ ?_
      · rintro k rest _ ⟨x, rfl, e⟩ ih
        by_cases hk : k = 0
        · have e' : b = false := by rw [e]; simp [hk]
          subst e'
          simp -implicitDefEqProofs [hk]
        · by_cases hl : n ≤ (k.natAbs : Int)
          · have e' : b = false := by
              rw [e, List.all_cons, show decide (k ≠ 0 ∧ (k.natAbs : Int) < n) = false by simp; omega]
              rfl
            subst e'
            simp -implicitDefEqProofs [hk, hl]
          · simp -implicitDefEqProofs [hk, hl]
            refine ih _ ⟨_, rfl, ?_⟩
            rw [e, List.all_cons, show decide (k ≠ 0 ∧ (k.natAbs : Int) < n) = true by simp; omega]
            rfl
      · rintro _ ⟨x, rfl, e⟩
        rw [e]
        simp -implicitDefEqProofs []
    · have hW : WordB n w = false := by simp [WordB, h2]
      simp -implicitDefEqProofs [g_checked, h1, h2, hW]
  · have hW : WordB n w = false := by simp [WordB, h1]
    simp -implicitDefEqProofs [g_checked, h1, hW]

theorem ok_checked {P : Program} {w : World} {K : PySem.W.Frag} {mg : Str → Option Value} {base : Heap} {cl : String → Addr} {f : Addr} {fd : FuncData} (T : Tb K mg cl) (X : Fx K mg "checked" s_checked f fd ["n", "word"]) :
    FnOk P w K mg base (L2.CX P w) 1 f fd ["n", "word"] (Ctr K cl 2 m_checked) :=
  okD X.F sc_checked rfl (by decide) h_checked fun cdv A outer s H E hr => by
    unfold g_checked
    exact ((sss_cons (ss_if (st_not (st_chain op_le o2_cmp op_le o2_cmp se_int (se_var 0) (se_globI rfl T.c_MOST_STRINGS))) (sss_one (ss_raise T.e_NoWord T.gc_NoWord rfl (takesD (takes_of rfl rfl rfl rfl)) rfl)) sss_nil)
  (sss_cons (ss_for (passes_of rfl) rfl (si_list (se_var 1)) (pg_name (i := 2) sc_checked.nd rfl (by first | exact Or.inl rfl | exact Or.inr rfl)) ts_name (sss_one (ss_if (PW.pt (sw_or (st_cmp (op_eqD hr.units) o2_eq (se_var 2) se_int) (sw_or1 (st_cmp op_ge o2_cmp (se_blt call_abs oa_abs rfl T.z_abs (by decide +kernel) (sa_cons (se_var 2) sa_nil)) (se_var 0))))) (sss_one (ss_raise T.e_NoWord T.gc_NoWord rfl (takesD (takes_of rfl rfl rfl rfl)) rfl)) sss_nil)))
  (sss_one (ss_ret se_bl)))))
/-! ### Loom.__init__: 0 self, 1 n -/
abbrev s_Loom___init__ : Stmt := inClass (topS 20) 0
abbrev n_Loom___init__ : List Str := ["self", "n"]
theorem sc_Loom___init__ : FnScope n_Loom___init__ ["self", "n"] (defScope s_Loom___init__) := ⟨rfl, rfl, rfl, by decide +kernel, rfl, by decide +kernel, by decide +kernel⟩
@[irreducible] noncomputable def g_Loom___init__ (cl : String → Addr) : G := (gSeq (gDrop (xCall m_checked (xCons (xVar 1) (xCons (xLst xNil) xNil))))
  (gSeq (gSetF (cl "Loom") 0 "strings" (xVar 1))
  (gSeq (gSetF (cl "Loom") 0 "hung" (xLst xNil))
  (gSetF (cl "Loom") 0 "past" (xLst xNil)))))
--cl
--obj 1
--needs Loom
noncomputable def m_Loom___init__ (cl : String → Addr) : List D → R D := mk (fun a : Addr × Int => [.obj .ow a.1 (some (cl "Loom")) [] [], .int a.2]) (fun _ => True) (fun a => if WordB a.2 [] = true then .ok (.wit .non [lm .ow (cl "Loom") a.1 a.2 [] []]) else .er "NoWord")
theorem m_Loom___init___eq (cl : String → Addr) (a : Addr) (n : Int) : m_Loom___init__ cl [.obj .ow a (some (cl "Loom")) [] [], .int n] = if WordB n [] = true then .ok (.wit .non [lm .ow (cl "Loom") a n [] []]) else .er "NoWord" :=
  mk_eq (enc := fun a : Addr × Int => [.obj .ow a.1 (some (cl "Loom")) [] [], .int a.2]) (fun a b e => by simp at e; exact Prod.ext e.1 e.2) (a, n) trivial
theorem h_Loom___init__ (cl : String → Addr) : ∀ ds, ds.length = 2 → D.stos ds = true → isOs (ds.take 1) = true → m_Loom___init__ cl ds ≠ .no → g_Loom___init__ cl (env0 n_Loom___init__ ds) (OutW 1 (ds.take 1) (m_Loom___init__ cl ds)) := mk_hW fun ⟨a, n⟩ _ => by
  show g_Loom___init__ cl [some (.obj .ow a (some (cl "Loom")) [] []), some (.int n)] (OutW 1 [.obj .ow a (some (cl "Loom")) [] []] (if WordB n [] = true then .ok (.wit .non [lm .ow (cl "Loom") a n [] []]) else .er "NoWord"))
  have e1 := m_checked_eq n []
  rw [show iL .fz [] = D.lst .fz [] from rfl] at e1
  cases hw : WordB n [] with
  | false =>
    rw [hw] at e1
    simp -implicitDefEqProofs [g_Loom___init__, e1]
  | true =>
    rw [hw] at e1
    simp -implicitDefEqProofs [g_Loom___init__, e1, putN, putX, nsh, nsp, nhp]
    rfl

theorem ok_Loom___init__ {P : Program} {w : World} {K : PySem.W.Frag} {mg : Str → Option Value} {base : Heap} {cl : String → Addr} {f : Addr} {fd : FuncData} (T : Tb K mg cl) (X : Ix K "__init__" "Loom.__init__" s_Loom___init__ (cl "Loom") f fd ["self", "n"]) {f_checked : Addr} {fd_checked : FuncData} (X_checked : Fx K mg "checked" s_checked f_checked fd_checked ["n", "word"]) (G_checked : FnOk P w K mg base (L2.CX P w) 1 f_checked fd_checked ["n", "word"] (Ctr K cl 2 m_checked)) :
    FnOk P w K mg base (L2.CX P w) 2 f fd ["self", "n"] (CtrW K cl 2 1 (m_Loom___init__ cl)) :=
  okDW 1 X.F sc_Loom___init__ rfl (by decide) (h_Loom___init__ cl) fun cdv A outer s H E hr => by
    unfold g_Loom___init__
    exact ((sss_cons (ss_drop (se_call G_checked hr (by decide) rfl X_checked.g X_checked.F.kp X_checked.b (takesD (takes_of rfl rfl rfl rfl)) (sa_cons (se_var 1) (sa_cons (se_lst sa_nil) sa_nil)) (xa1 (xa1 xa0))))
  (sss_cons (ss_setF (cl "Loom") 0 (pv 0) T.o_Loom T.n_Loom_strings (se_var 1))
  (sss_cons (ss_setF (cl "Loom") 0 (pv 0) T.o_Loom T.n_Loom_hung (se_lst sa_nil))
  (sss_one (ss_setF (cl "Loom") 0 (pv 0) T.o_Loom T.n_Loom_past (se_lst sa_nil)))))))
/-! ### Loom.now: 0 self -/
abbrev s_Loom_now : Stmt := inClass (topS 20) 5
abbrev n_Loom_now : List Str := ["self"]
theorem sc_Loom_now : FnScope n_Loom_now ["self"] (defScope s_Loom_now) := ⟨rfl, rfl, rfl, by decide +kernel, rfl, by decide +kernel, by decide +kernel⟩
@[irreducible] noncomputable def g_Loom_now (cl : String → Addr) : G := (gRet (xA listD (xCons (xFld (cl "Loom") 0 "hung") xNil)))
--cl
--needs Loom
noncomputable def m_Loom_now (cl : String → Addr) : List D → R D := mk (fun a : (Addr × Int × List Int) × List (List Int) => [lm .fz (cl "Loom") a.1.1 a.1.2.1 a.1.2.2 a.2]) (fun a => True) (fun a => .ok (iL .ow a.1.2.2))
theorem m_Loom_now_eq (cl : String → Addr) (a : Addr) (n : Int) (w : List Int) (past : List (List Int)) : m_Loom_now cl [lm .fz (cl "Loom") a n w past] = .ok (iL .ow w) :=
  mk_eq (enc := fun a : (Addr × Int × List Int) × List (List Int) => [lm .fz (cl "Loom") a.1.1 a.1.2.1 a.1.2.2 a.2]) (fun a b e => by
    simp at e
    obtain ⟨q1, q2, q3, q4⟩ := lm_inj e
    exact Prod.ext (Prod.ext q1 (Prod.ext q2 q3)) q4) ((a, n, w), past) trivial
theorem h_Loom_now (cl : String → Addr) : ∀ ds, ds.length = 1 → D.stos ds = true → m_Loom_now cl ds ≠ .no → g_Loom_now cl (env0 n_Loom_now ds) (Out (m_Loom_now cl ds)) := mk_h fun ⟨⟨a, n, w⟩, past⟩ _ => by
  show g_Loom_now cl [some (lm .fz (cl "Loom") a n w past)] (Out (.ok (iL .ow w)))
  simp -implicitDefEqProofs [g_Loom_now]

theorem ok_Loom_now {P : Program} {w : World} {K : PySem.W.Frag} {mg : Str → Option Value} {base : Heap} {cl : String → Addr} {f : Addr} {fd : FuncData} (T : Tb K mg cl) (X : Mx K "now" "Loom.now" s_Loom_now (cl "Loom") f fd ["self"]) :
    FnOk P w K mg base (L2.CX P w) 1 f fd ["self"] (Ctr K cl 1 (m_Loom_now cl)) :=
  okD X.F sc_Loom_now rfl (by decide) (h_Loom_now cl) fun cdv A outer s H E hr => by
    unfold g_Loom_now
    exact ((sss_one (ss_ret (se_bty call_list_of oa_list rfl T.z_list (by decide +kernel) (sa_cons (se_fld (cl "Loom") 0 (pv 0) T.o_Loom T.n_Loom_hung) sa_nil)))))
/-! ### Loom.undo: 0 self -/
abbrev s_Loom_undo : Stmt := inClass (topS 20) 4
abbrev n_Loom_undo : List Str := ["self"]
theorem sc_Loom_undo : FnScope n_Loom_undo ["self"] (defScope s_Loom_undo) := ⟨rfl, rfl, rfl, by decide +kernel, rfl, by decide +kernel, by decide +kernel⟩
@[irreducible] noncomputable def g_Loom_undo (cl : String → Addr) : G := (gSeq (gIf (xB (x2 eqD (xFld (cl "Loom") 0 "past") (xLst xNil))) (gRetW [0] (xC (.bl false))) gNext)
  (gSeq (gFPop (cl "Loom") 0 "hung" "past")
  (gRetW [0] (xC (.bl true)))))
--cl
--obj 1
--needs Loom
noncomputable def m_Loom_undo (cl : String → Addr) : List D → R D := mk (fun a : (Addr × Int × List Int) × List (List Int) => [lm .ow (cl "Loom") a.1.1 a.1.2.1 a.1.2.2 a.2]) (fun a => True) (fun a => match a.2.getLast? with
  | none => .ok (.wit (.bl false) [lm .ow (cl "Loom") a.1.1 a.1.2.1 a.1.2.2 a.2])
  | some v => .ok (.wit (.bl true) [lm .ow (cl "Loom") a.1.1 a.1.2.1 v a.2.dropLast]))
theorem m_Loom_undo_inj (cl : String → Addr) : ∀ a b : (Addr × Int × List Int) × List (List Int), [lm .ow (cl "Loom") a.1.1 a.1.2.1 a.1.2.2 a.2] = [lm .ow (cl "Loom") b.1.1 b.1.2.1 b.1.2.2 b.2] → a = b := fun a b e => by
    simp at e
    obtain ⟨q1, q2, q3, q4⟩ := lm_inj e
    exact Prod.ext (Prod.ext q1 (Prod.ext q2 q3)) q4
theorem m_Loom_undo_nil (cl : String → Addr) (a : Addr) (n : Int) (w : List Int) : m_Loom_undo cl [lm .ow (cl "Loom") a n w []] = .ok (.wit (.bl false) [lm .ow (cl "Loom") a n w []]) :=
  mk_eq (enc := fun a : (Addr × Int × List Int) × List (List Int) => [lm .ow (cl "Loom") a.1.1 a.1.2.1 a.1.2.2 a.2]) (m_Loom_undo_inj cl) ((a, n, w), []) trivial
theorem m_Loom_undo_snoc (cl : String → Addr) (a : Addr) (n : Int) (w v : List Int) (past : List (List Int)) : m_Loom_undo cl [lm .ow (cl "Loom") a n w (past ++ [v])] = .ok (.wit (.bl true) [lm .ow (cl "Loom") a n v past]) := by
  refine (mk_eq (enc := fun a : (Addr × Int × List Int) × List (List Int) => [lm .ow (cl "Loom") a.1.1 a.1.2.1 a.1.2.2 a.2]) (m_Loom_undo_inj cl) ((a, n, w), past ++ [v]) trivial).trans ?_
  simp
theorem h_Loom_undo (cl : String → Addr) : ∀ ds, ds.length = 1 → D.stos ds = true → isOs (ds.take 1) = true → m_Loom_undo cl ds ≠ .no → g_Loom_undo cl (env0 n_Loom_undo ds) (OutW 1 (ds.take 1) (m_Loom_undo cl ds)) := mk_hW fun ⟨⟨a, n, w⟩, past⟩ _ => by
  show g_Loom_undo cl [some (lm .ow (cl "Loom") a n w past)] (OutW 1 [lm .ow (cl "Loom") a n w past] (match past.getLast? with
  | none => .ok (.wit (.bl false) [lm .ow (cl "Loom") a n w past])
  | some v => .ok (.wit (.bl true) [lm .ow (cl "Loom") a n v past.dropLast])))
  rcases List.eq_nil_or_concat past with rfl | ⟨l, v, rfl⟩
  · simp -implicitDefEqProofs [g_Loom_undo]
  · have hne : ¬ l ++ [v] = [] := by simp
    simp -implicitDefEqProofs [g_Loom_undo, hne]

theorem ok_Loom_undo {P : Program} {w : World} {K : PySem.W.Frag} {mg : Str → Option Value} {base : Heap} {cl : String → Addr} {f : Addr} {fd : FuncData} (T : Tb K mg cl) (X : Mx K "undo" "Loom.undo" s_Loom_undo (cl "Loom") f fd ["self"]) :
    FnOk P w K mg base (L2.CX P w) 1 f fd ["self"] (CtrW K cl 1 1 (m_Loom_undo cl)) :=
  okDW 1 X.F sc_Loom_undo rfl (by decide) (h_Loom_undo cl) fun cdv A outer s H E hr => by
    unfold g_Loom_undo
    exact ((sss_cons (ss_if (st_cmp (op_eqD hr.units) o2_eq (se_fld (cl "Loom") 0 (pv 0) T.o_Loom T.n_Loom_past) (se_lst sa_nil)) (sss_one (ss_retW [0] se_bl)) sss_nil)
  (sss_cons (ss_fPop (cl "Loom") 0 (pv 0) (pv 0) T.o_Loom T.n_Loom_hung T.n_Loom_past)
  (sss_one (ss_retW [0] se_bl)))))
/-! ### _law_done: 0 _law_word, 1 _law_deed, 2 _law_p -/
abbrev s_law_done : Stmt := topS 28
abbrev n_law_done : List Str := ["_law_word", "_law_deed", "_law_p"]
theorem sc_law_done : FnScope n_law_done ["_law_word", "_law_deed"] (defScope s_law_done) := ⟨rfl, rfl, rfl, by decide +kernel, rfl, by decide +kernel, by decide +kernel⟩
@[irreducible] noncomputable def g_law_done : G := (gSeq (gAsg 2 (x2 ixD (xVar 1) (xC (.int 1))))
  (gSeq (gIf (xB (x2 eqD (x2 ixD (xVar 1) (xC (.int 0))) (xC (.str "out")))) (gRet (x2 addD (xSl (xVar 0) xP0 (xP1 (xVar 2))) (xSl (xVar 0) (xP1 (x2 addD (xVar 2) (xC (.int 2)))) xP0))) gNext)
  (gSeq (gIf (xB (x2 eqD (x2 ixD (xVar 1) (xC (.int 0))) (xC (.str "in")))) (gRet (x2 addD (x2 addD (xSl (xVar 0) xP0 (xP1 (xVar 2))) (xLst (xCons (x2 ixD (xVar 1) (xC (.int 2))) (xCons (x1 negD (x2 ixD (xVar 1) (xC (.int 2)))) xNil)))) (xSl (xVar 0) (xP1 (xVar 2)) xP0))) gNext)
  (gSeq (gIf (xB (x2 eqD (x2 ixD (xVar 1) (xC (.int 0))) (xC (.str "far")))) (gRet (x2 addD (x2 addD (xSl (xVar 0) xP0 (xP1 (xVar 2))) (xLst (xCons (x2 ixD (xVar 0) (x2 addD (xVar 2) (xC (.int 1)))) (xCons (x2 ixD (xVar 0) (xVar 2)) xNil)))) (xSl (xVar 0) (xP1 (x2 addD (xVar 2) (xC (.int 2)))) xP0))) gNext)
  (gRet (x2 addD (x2 addD (xSl (xVar 0) xP0 (xP1 (xVar 2))) (xLst (xCons (x2 ixD (xVar 0) (x2 addD (xVar 2) (xC (.int 1)))) (xCons (x2 ixD (xVar 0) (xVar 2)) (xCons (x2 ixD (xVar 0) (x2 addD (xVar 2) (xC (.int 1)))) xNil))))) (xSl (xVar 0) (xP1 (x2 addD (xVar 2) (xC (.int 3)))) xP0)))))))
--needs Moves
noncomputable def m_law_done : List D → R D := mk (fun a : List Int × Mv => [iL .fz a.1, eMv a.2]) (fun a => a.1.length ≤ 16000000 ∧ canZ 1000 a.1 a.2 = true) (fun a => .ok (iL .ow (doneZ a.1 a.2)))
theorem canZ_up {n : Int} {w : List Int} {m : Mv} (h : canZ n w m = true) (hn : n ≤ 1000) : canZ 1000 w m = true := by
  cases m <;> simp [canZ] at h ⊢ <;> first | exact h | omega
theorem m_law_done_eq {n : Int} {w : List Int} {m : Mv} (h1 : w.length ≤ 16000000) (h2 : canZ n w m = true) (h3 : n ≤ 1000) : m_law_done [iL .fz w, eMv m] = .ok (iL .ow (doneZ w m)) :=
  mk_eq (enc := fun a : List Int × Mv => [iL .fz a.1, eMv a.2]) (fun a b e => by
    simp at e
    exact Prod.ext e.1 (eMv_inj e.2)) (w, m) ⟨h1, canZ_up h2 h3⟩
theorem h_law_done : ∀ ds, ds.length = 2 → D.stos ds = true → m_law_done ds ≠ .no → g_law_done (env0 n_law_done ds) (Out (m_law_done ds)) := mk_h fun ⟨w, m⟩ ⟨h2, hc⟩ => by
    show g_law_done [some (iL .fz w), some (eMv m), none] (Out (.ok (iL .ow (doneZ w m))))
    replace h2 : w.length ≤ 16000000 := h2
    replace hc : canZ 1000 w m = true := hc
    have hp := canZ_p hc
    cases m with
    | out p =>
      obtain ⟨q, rfl⟩ := Int.eq_ofNat_of_zero_le (show 0 ≤ p from hp.1)
      replace hp : q ≤ w.length := by have := hp.2; simpa [Mv.p] using this
      simp -implicitDefEqProofs [g_law_done, Mv.p, Mv.isIn, doneZ]
      omega
    | far p =>
      obtain ⟨q, rfl⟩ := Int.eq_ofNat_of_zero_le (show 0 ≤ p from hp.1)
      have hl : q + 2 ≤ w.length := by simp [canZ] at hc; exact farQ_lt hc
      obtain ⟨x, hx⟩ : ∃ x, w[q]? = some x := ⟨_, List.getElem?_eq_getElem (by omega)⟩
      obtain ⟨y, hy⟩ : ∃ y, w[q + 1]? = some y := ⟨_, List.getElem?_eq_getElem (by omega)⟩
      simp -implicitDefEqProofs [g_law_done, Mv.p, Mv.isIn, doneZ, atI_natc, atI_add1, hx, hy]
      omega
    | near p =>
      obtain ⟨q, rfl⟩ := Int.eq_ofNat_of_zero_le (show 0 ≤ p from hp.1)
      have hl : q + 3 ≤ w.length := by simp [canZ] at hc; exact nearQ_lt hc
      obtain ⟨x, hx⟩ : ∃ x, w[q]? = some x := ⟨_, List.getElem?_eq_getElem (by omega)⟩
      obtain ⟨y, hy⟩ : ∃ y, w[q + 1]? = some y := ⟨_, List.getElem?_eq_getElem (by omega)⟩
      simp -implicitDefEqProofs [g_law_done, Mv.p, Mv.isIn, doneZ, atI_natc, atI_add1, hx, hy]
      omega
    | ins p k =>
      obtain ⟨q, rfl⟩ := Int.eq_ofNat_of_zero_le (show 0 ≤ p from hp.1)
      replace hp : q ≤ w.length := by have := hp.2; simpa [Mv.p] using this
      simp -implicitDefEqProofs [g_law_done, Mv.p, Mv.isIn, doneZ]
      omega

theorem ok_law_done {P : Program} {w : World} {K : PySem.W.Frag} {mg : Str → Option Value} {base : Heap} {cl : String → Addr} {f : Addr} {fd : FuncData} (T : Tb K mg cl) (X : Fx K mg "_law_done" s_law_done f fd ["_law_word", "_law_deed"]) :
    FnOk P w K mg base (L2.CX P w) 1 f fd ["_law_word", "_law_deed"] (Ctr K cl 2 m_law_done) :=
  okD X.F sc_law_done rfl (by decide) h_law_done fun cdv A outer s H E hr => by
    unfold g_law_done
    exact ((sss_cons (ss_set 2 sc_law_done.nd (se_ix (se_var 1) se_int))
  (sss_cons (ss_if (st_cmp (op_eqD hr.units) o2_eq (se_ix (se_var 1) se_int) se_str) (sss_one (ss_ret (se_add (se_slice (se_var 0) so_none (so_some (se_var 2))) (se_slice (se_var 0) (so_some (se_add (se_var 2) se_int)) so_none)))) sss_nil)
  (sss_cons (ss_if (st_cmp (op_eqD hr.units) o2_eq (se_ix (se_var 1) se_int) se_str) (sss_one (ss_ret (se_add (se_add (se_slice (se_var 0) so_none (so_some (se_var 2))) (se_lst (sa_cons (se_ix (se_var 1) se_int) (sa_cons (se_neg (se_ix (se_var 1) se_int)) sa_nil)))) (se_slice (se_var 0) (so_some (se_var 2)) so_none)))) sss_nil)
  (sss_cons (ss_if (st_cmp (op_eqD hr.units) o2_eq (se_ix (se_var 1) se_int) se_str) (sss_one (ss_ret (se_add (se_add (se_slice (se_var 0) so_none (so_some (se_var 2))) (se_lst (sa_cons (se_ix (se_var 0) (se_add (se_var 2) se_int)) (sa_cons (se_ix (se_var 0) (se_var 2)) sa_nil)))) (se_slice (se_var 0) (so_some (se_add (se_var 2) se_int)) so_none)))) sss_nil)
  (sss_one (ss_ret (se_add (se_add (se_slice (se_var 0) so_none (so_some (se_var 2))) (se_lst (sa_cons (se_ix (se_var 0) (se_add (se_var 2) se_int)) (sa_cons (se_ix (se_var 0) (se_var 2)) (sa_cons (se_ix (se_var 0) (se_add (se_var 2) se_int)) sa_nil))))) (se_slice (se_var 0) (so_some (se_add (se_var 2) se_int)) so_none)))))))))
/-! ### _law_behind: 0 _law_word, 1 _law_deed -/
abbrev s_law_behind : Stmt := topS 35
abbrev n_law_behind : List Str := ["_law_word", "_law_deed"]
theorem sc_law_behind : FnScope n_law_behind ["_law_word", "_law_deed"] (defScope s_law_behind) := ⟨rfl, rfl, rfl, by decide +kernel, rfl, by decide +kernel, by decide +kernel⟩
@[irreducible] noncomputable def g_law_behind : G := (gSeq (gIf (xB (x2 eqD (x2 ixD (xVar 1) (xC (.int 0))) (xC (.str "hang")))) (gRet (x2 addD (xVar 0) (x2 ixD (xVar 1) (xC (.int 1))))) gNext)
  (gSeq (gIf (xB (x2 eqD (x2 ixD (xVar 1) (xC (.int 0))) (xC (.str "drop")))) (gRet (xSl (xVar 0) xP0 (xP1 (x2 subD (xA lenD (xCons (xVar 0) xNil)) (x2 ixD (xVar 1) (xC (.int 1))))))) gNext)
  (gRet (xCall m_law_done (xCons (xVar 0) (xCons (x2 ixD (xVar 1) (xC (.int 1))) xNil))))))
--needs LoomD
noncomputable def m_law_behind : List D → R D := mk (fun a : List Int × Dd => [iL .fz a.1, eDd .fz a.2]) (fun a => a.1.length ≤ 16000000 ∧ a.2.sm ∧ a.2.ok 7 a.1 = true) (fun a => .ok (iL .ow (a.2.done a.1)))
theorem m_law_behind_eq {w : List Int} {d : Dd} (h1 : w.length ≤ 16000000) (h2 : d.sm) (h3 : d.ok 7 w = true) : m_law_behind [iL .fz w, eDd .fz d] = .ok (iL .ow (d.done w)) :=
  mk_eq (enc := fun a : List Int × Dd => [iL .fz a.1, eDd .fz a.2]) (fun a b e => by
    simp only [List.cons.injEq, D.lst.injEq, enc_int_inj, true_and, and_true] at e
    exact Prod.ext e.1 (eDd_inj e.2 rfl)) (w, d) ⟨h1, h2, h3⟩
theorem h_law_behind : ∀ ds, ds.length = 2 → D.stos ds = true → m_law_behind ds ≠ .no → g_law_behind (env0 n_law_behind ds) (Out (m_law_behind ds)) := mk_h fun ⟨w, d⟩ ⟨h1, h2, h3⟩ => by
  show g_law_behind [some (iL .fz w), some (eDd .fz d)] (Out (.ok (iL .ow (d.done w))))
  replace h1 : w.length ≤ 16000000 := h1
  cases d with
  | hang v =>
    replace h2 : v.length ≤ 100000 := h2
    simp -implicitDefEqProofs [g_law_behind, Dd.kd, Dd.ptK, Dd.done]
    omega
  | drop m =>
    replace h3 : decide (0 ≤ m ∧ m ≤ (w.length : Int)) = true := h3
    rw [decide_eq_true_eq] at h3
    obtain ⟨k, rfl⟩ := Int.eq_ofNat_of_zero_le h3.1
    have e2 : ((w.length : Int) - (k : Int)) = ((w.length - k : Nat) : Int) := by omega
    simp -implicitDefEqProofs [g_law_behind, Dd.kd, Dd.ptK, Dd.done, e2]
  | go m =>
    have e1 := m_law_done_eq (n := 7) (m := m) h1 h3 (by decide)
    simp -implicitDefEqProofs [g_law_behind, Dd.kd, Dd.ptK, Dd.done, e1]

theorem ok_law_behind {P : Program} {w : World} {K : PySem.W.Frag} {mg : Str → Option Value} {base : Heap} {cl : String → Addr} {f : Addr} {fd : FuncData} (T : Tb K mg cl) (X : Fx K mg "_law_behind" s_law_behind f fd ["_law_word", "_law_deed"]) {f_law_done : Addr} {fd_law_done : FuncData} (X_law_done : Fx K mg "_law_done" s_law_done f_law_done fd_law_done ["_law_word", "_law_deed"]) (G_law_done : FnOk P w K mg base (L2.CX P w) 1 f_law_done fd_law_done ["_law_word", "_law_deed"] (Ctr K cl 2 m_law_done)) :
    FnOk P w K mg base (L2.CX P w) 2 f fd ["_law_word", "_law_deed"] (Ctr K cl 2 m_law_behind) :=
  okD X.F sc_law_behind rfl (by decide) h_law_behind fun cdv A outer s H E hr => by
    unfold g_law_behind
    exact ((sss_cons (ss_if (st_cmp (op_eqD hr.units) o2_eq (se_ix (se_var 1) se_int) se_str) (sss_one (ss_ret (se_add (se_var 0) (se_ix (se_var 1) se_int)))) sss_nil)
  (sss_cons (ss_if (st_cmp (op_eqD hr.units) o2_eq (se_ix (se_var 1) se_int) se_str) (sss_one (ss_ret (se_slice (se_var 0) so_none (so_some (se_sub (se_blt call_len oa_len rfl T.z_len (by decide +kernel) (sa_cons (se_var 0) sa_nil)) (se_ix (se_var 1) se_int)))))) sss_nil)
  (sss_one (ss_ret (se_call G_law_done hr (by decide) rfl X_law_done.g X_law_done.F.kp X_law_done.b (takesD (takes_of rfl rfl rfl rfl)) (sa_cons (se_var 0) (sa_cons (se_ix (se_var 1) se_int) sa_nil)) (xa1 (xa1 xa0))))))))
/-! ### _law_cell_at: 0 _law_script, 1 _law_k -/
abbrev s_law_cell_at : Stmt := topS 23
abbrev n_law_cell_at : List Str := ["_law_script", "_law_k"]
theorem sc_law_cell_at : FnScope n_law_cell_at ["_law_script", "_law_k"] (defScope s_law_cell_at) := ⟨rfl, rfl, rfl, by decide +kernel, rfl, by decide +kernel, by decide +kernel⟩
@[irreducible] noncomputable def g_law_cell_at : G := (gSeq (gIf (xB (x2 ltD (xVar 1) (xA lenD (xCons (xVar 0) xNil)))) (gRet (x2 ixD (xVar 0) (xVar 1))) gNext)
  (gRet (xC (.int 0))))
def cellZ (ns : List Int) (k : Nat) : Int := ns[k]?.getD 0
noncomputable def m_law_cell_at : List D → R D := mk (fun a : Bool × List Int × Nat => [iL (kc a.1) a.2.1, .int (a.2.2 : Nat)]) (fun a => a.2.1.length ≤ 1000000) (fun a => .ok (.int (cellZ a.2.1 a.2.2)))
theorem m_law_cell_at_eq {b : Bool} {w : List Int} {k : Nat} (h : w.length ≤ 1000000) : m_law_cell_at [iL (kc b) w, .int (k : Nat)] = .ok (.int (cellZ w k)) :=
  mk_eq (enc := fun a : Bool × List Int × Nat => [iL (kc a.1) a.2.1, .int (a.2.2 : Nat)]) (fun a b e => by
    simp -implicitDefEqProofs [kc_inj] at e
    exact Prod.ext e.1.1 (Prod.ext e.1.2 (by omega))) (b, w, k) h
theorem h_law_cell_at : ∀ ds, ds.length = 2 → D.stos ds = true → m_law_cell_at ds ≠ .no → g_law_cell_at (env0 n_law_cell_at ds) (Out (m_law_cell_at ds)) := mk_h fun ⟨b, w, k⟩ h1 => by
  show g_law_cell_at [some (iL (kc b) w), some (.int (k : Nat))] (Out (.ok (.int (cellZ w k))))
  by_cases hk : k < w.length
  · obtain ⟨x, hx⟩ : ∃ x, w[k]? = some x := ⟨_, List.getElem?_eq_getElem hk⟩
    have hk' : (k : Int) < w.length := by omega
    simp -implicitDefEqProofs only [g_law_cell_at, gSeq_eq, gIf_eq, xB_eq, x2_eq, xVar_eq, xA_eq, xCons_eq, xNil_eq, List.getElem?_cons_zero, List.getElem?_cons_succ, rVar_some, R.bind_ok, dbor_int, dbor_lst, bors_int, lenD_lst, R.of_some, encL_length, gRet_eq, ixD_lst, encL_atI, atI_natc, hx, Option.map_some, gEv_ok, bB_bl]
    simp -implicitDefEqProofs [hk', cellZ, hx]
  · have hx : w[k]? = none := List.getElem?_eq_none (by omega)
    simp -implicitDefEqProofs [g_law_cell_at, hk, hx, cellZ]

theorem ok_law_cell_at {P : Program} {w : World} {K : PySem.W.Frag} {mg : Str → Option Value} {base : Heap} {cl : String → Addr} {f : Addr} {fd : FuncData} (T : Tb K mg cl) (X : Fx K mg "_law_cell_at" s_law_cell_at f fd ["_law_script", "_law_k"]) :
    FnOk P w K mg base (L2.CX P w) 1 f fd ["_law_script", "_law_k"] (Ctr K cl 2 m_law_cell_at) :=
  okD X.F sc_law_cell_at rfl (by decide) h_law_cell_at fun cdv A outer s H E hr => by
    unfold g_law_cell_at
    exact ((sss_cons (ss_if (st_cmp op_lt o2_cmp (se_var 1) (se_blt call_len oa_len rfl T.z_len (by decide +kernel) (sa_cons (se_var 0) sa_nil))) (sss_one (ss_ret (se_ix (se_var 0) (se_var 1)))) sss_nil)
  (sss_one (ss_ret se_int))))
/-! ### _law_mix: 0 _law_cell, 1 _law_k, 2 _law_factor -/
abbrev s_law_mix : Stmt := topS 22
abbrev n_law_mix : List Str := ["_law_cell", "_law_k", "_law_factor"]
theorem sc_law_mix : FnScope n_law_mix ["_law_cell", "_law_k", "_law_factor"] (defScope s_law_mix) := ⟨rfl, rfl, rfl, by decide +kernel, rfl, by decide +kernel, by decide +kernel⟩
@[irreducible] noncomputable def g_law_mix : G := (gRet (x2 divD (x2 modD (x2 mulD (x2 addD (x2 addD (x2 mulD (x2 modD (xVar 0) (xC (.int 1000003))) (xC (.int 7))) (x2 mulD (xVar 1) (xVar 1))) (xC (.int 1))) (xVar 2)) (xC (.int 2147483647))) (xC (.int 16))))
--needs Draw
noncomputable def m_law_mix : List D → R D := mk (fun a : Int × Int × Int => [.int a.1, .int a.2.1, .int a.2.2]) (fun a => 0 ≤ a.2.1 ∧ a.2.1 ≤ 1000000 ∧ 0 ≤ a.2.2 ∧ a.2.2 ≤ 1000000) (fun a => .ok (.int (mixZ a.1 a.2.1 a.2.2)))
theorem m_law_mix_eq {c k f : Int} (h1 : 0 ≤ k) (h2 : k ≤ 1000000) (h3 : 0 ≤ f) (h4 : f ≤ 1000000) : m_law_mix [.int c, .int k, .int f] = .ok (.int (mixZ c k f)) :=
  mk_eq (enc := fun a : Int × Int × Int => [.int a.1, .int a.2.1, .int a.2.2]) (fun a b e => by simp at e; exact Prod.ext e.1 (Prod.ext e.2.1 e.2.2)) (c, k, f) ⟨h1, h2, h3, h4⟩
theorem h_law_mix : ∀ ds, ds.length = 3 → D.stos ds = true → m_law_mix ds ≠ .no → g_law_mix (env0 n_law_mix ds) (Out (m_law_mix ds)) := mk_h fun ⟨c, k, f⟩ ⟨h1, h2, h3, h4⟩ => by
  show g_law_mix [some (.int c), some (.int k), some (.int f)] _
  simp at h1 h2 h3 h4
  simp -implicitDefEqProofs [g_law_mix, mixZ]
  omega

theorem ok_law_mix {P : Program} {w : World} {K : PySem.W.Frag} {mg : Str → Option Value} {base : Heap} {cl : String → Addr} {f : Addr} {fd : FuncData} (T : Tb K mg cl) (X : Fx K mg "_law_mix" s_law_mix f fd ["_law_cell", "_law_k", "_law_factor"]) :
    FnOk P w K mg base (L2.CX P w) 1 f fd ["_law_cell", "_law_k", "_law_factor"] (Ctr K cl 3 m_law_mix) :=
  okD X.F sc_law_mix rfl (by decide) h_law_mix fun cdv A outer s H E hr => by
    unfold g_law_mix
    exact ((sss_one (ss_ret (se_div (se_mod (se_mul (se_add (se_add (se_mul (se_mod (se_var 0) se_int) se_int) (se_mul (se_var 1) (se_var 1))) se_int) (se_var 2)) se_int) se_int))))
/-! ### _law_crossing: 0 _law_number_here, 1 _law_n, 2 _law_k -/
abbrev s_law_crossing : Stmt := topS 25
abbrev n_law_crossing : List Str := ["_law_number_here", "_law_n", "_law_k"]
theorem sc_law_crossing : FnScope n_law_crossing ["_law_number_here", "_law_n"] (defScope s_law_crossing) := ⟨rfl, rfl, rfl, by decide +kernel, rfl, by decide +kernel, by decide +kernel⟩
@[irreducible] noncomputable def g_law_crossing : G := (gSeq (gAsg 2 (x2 addD (xC (.int 1)) (x2 modD (xVar 0) (x2 subD (xVar 1) (xC (.int 1))))))
  (gSeq (gIf (xB (x2 eqD (x2 modD (x2 divD (xVar 0) (xC (.int 8))) (xC (.int 2))) (xC (.int 1)))) (gRet (x1 negD (xVar 2))) gNext)
  (gRetV 2)))
--needs Draw
noncomputable def m_law_crossing : List D → R D := mk (fun a : Int × Int => [.int a.1, .int a.2]) (fun a => 2 ≤ a.2) (fun a => .ok (.int (crZ a.1 a.2)))
theorem m_law_crossing_eq {c n : Int} (h1 : 2 ≤ n) : m_law_crossing [.int c, .int n] = .ok (.int (crZ c n)) :=
  mk_eq (enc := fun a : Int × Int => [.int a.1, .int a.2]) (fun a b e => by simp at e; exact Prod.ext e.1 e.2) (c, n) h1
theorem h_law_crossing : ∀ ds, ds.length = 2 → D.stos ds = true → m_law_crossing ds ≠ .no → g_law_crossing (env0 n_law_crossing ds) (Out (m_law_crossing ds)) := mk_h fun ⟨c, n⟩ h1 => by
  show g_law_crossing [some (.int c), some (.int n), none] _
  simp at h1
  by_cases e1 : c / 8 % 2 = 1
  · simp -implicitDefEqProofs [g_law_crossing, crZ, e1]
    omega
  · simp -implicitDefEqProofs [g_law_crossing, crZ, e1]
    omega

theorem ok_law_crossing {P : Program} {w : World} {K : PySem.W.Frag} {mg : Str → Option Value} {base : Heap} {cl : String → Addr} {f : Addr} {fd : FuncData} (T : Tb K mg cl) (X : Fx K mg "_law_crossing" s_law_crossing f fd ["_law_number_here", "_law_n"]) :
    FnOk P w K mg base (L2.CX P w) 1 f fd ["_law_number_here", "_law_n"] (Ctr K cl 2 m_law_crossing) :=
  okD X.F sc_law_crossing rfl (by decide) h_law_crossing fun cdv A outer s H E hr => by
    unfold g_law_crossing
    exact ((sss_cons (ss_set 2 sc_law_crossing.nd (se_add se_int (se_mod (se_var 0) (se_sub (se_var 1) se_int))))
  (sss_cons (ss_if (st_cmp (op_eqD hr.units) o2_eq (se_mod (se_div (se_var 0) se_int) se_int) se_int) (sss_one (ss_ret (se_neg (se_var 2)))) sss_nil)
  (sss_one (ss_retV 2 (pv 2))))))
/-! ### _law_piece: 0 _law_number_here, 1 _law_n, 2 _law_k, 3 _law_other -/
abbrev s_law_piece : Stmt := topS 26
abbrev n_law_piece : List Str := ["_law_number_here", "_law_n", "_law_k", "_law_other"]
theorem sc_law_piece : FnScope n_law_piece ["_law_number_here", "_law_n"] (defScope s_law_piece) := ⟨rfl, rfl, rfl, by decide +kernel, rfl, by decide +kernel, by decide +kernel⟩
@[irreducible] noncomputable def g_law_piece : G := (gSeq (gAsg 2 (xCall m_law_crossing (xCons (xVar 0) (xCons (xVar 1) xNil))))
  (gSeq (gIf (xTOr (xB (x2 gtD (x2 modD (x2 divD (xVar 0) (xC (.int 16))) (xC (.int 4))) (xC (.int 0)))) (xB (x2 ltD (xVar 1) (xC (.int 3))))) (gRet (xLst (xCons (xVar 2) xNil))) gNext)
  (gSeq (gAsg 3 (xIf (xTAnd (xB (x2 ltD (xA absD (xCons (x2 addD (xVar 2) (xC (.int 1))) xNil)) (xVar 1))) (xB (x2 neD (x2 addD (xVar 2) (xC (.int 1))) (xC (.int 0))))) (x2 addD (xVar 2) (xC (.int 1))) (x2 subD (xVar 2) (xC (.int 1)))))
  (gRet (x2 ixD (xLst (xCons (xLst (xCons (xVar 2) (xCons (xVar 3) (xCons (xVar 2) xNil)))) (xCons (xLst (xCons (xVar 2) (xCons (xVar 3) xNil))) (xCons (xLst (xCons (xVar 2) (xCons (xVar 2) xNil))) (xCons (xLst (xCons (xVar 2) (xCons (x1 negD (xVar 3)) (xCons (xVar 2) xNil)))) xNil))))) (x2 modD (x2 divD (xVar 0) (xC (.int 64))) (xC (.int 4))))))))
--needs Draw
noncomputable def m_law_piece : List D → R D := mk (fun a : Int × Int => [.int a.1, .int a.2]) (fun a => 2 ≤ a.2 ∧ 0 ≤ a.1) (fun a => .ok (iL .ow (pieceZ a.1 a.2)))
theorem m_law_piece_eq {c n : Int} (h1 : 2 ≤ n) (h2 : 0 ≤ c) : m_law_piece [.int c, .int n] = .ok (iL .ow (pieceZ c n)) :=
  mk_eq (enc := fun a : Int × Int => [.int a.1, .int a.2]) (fun a b e => by simp at e; exact Prod.ext e.1 e.2) (c, n) ⟨h1, h2⟩
theorem h_law_piece : ∀ ds, ds.length = 2 → D.stos ds = true → m_law_piece ds ≠ .no → g_law_piece (env0 n_law_piece ds) (Out (m_law_piece ds)) := mk_h fun ⟨c, n⟩ ⟨h1, h2⟩ => by
  show g_law_piece [some (.int c), some (.int n), none, none] _
  simp at h1 h2
  have hc := crZ_cr (number := c) h1
  by_cases hA : c / 16 % 4 > 0
  · simp -implicitDefEqProofs [g_law_piece, m_law_crossing_eq h1, hA, pieceZ, encL_cons, encL_nil]
  · by_cases hB : n < 3
    · simp -implicitDefEqProofs [g_law_piece, m_law_crossing_eq h1, hA, hB, pieceZ, encL_cons, encL_nil]
    · have hi : c / 64 % 4 = 0 ∨ c / 64 % 4 = 1 ∨ c / 64 % 4 = 2 ∨ c / 64 % 4 = 3 := by omega
      by_cases hC : ((crZ c n + 1).natAbs : Int) < n
      · by_cases hD : crZ c n + 1 = 0
        · rcases hi with e | e | e | e <;> simp -implicitDefEqProofs [g_law_piece, m_law_crossing_eq h1, hA, hB, hC, hD, e, pieceZ, nextZ, encL_cons, encL_nil, atI_int]
        · rcases hi with e | e | e | e <;> simp -implicitDefEqProofs [g_law_piece, m_law_crossing_eq h1, hA, hB, hC, hD, e, pieceZ, nextZ, encL_cons, encL_nil, atI_int]
      · rcases hi with e | e | e | e <;> simp -implicitDefEqProofs [g_law_piece, m_law_crossing_eq h1, hA, hB, hC, e, pieceZ, nextZ, encL_cons, encL_nil, atI_int]

theorem ok_law_piece {P : Program} {w : World} {K : PySem.W.Frag} {mg : Str → Option Value} {base : Heap} {cl : String → Addr} {f : Addr} {fd : FuncData} (T : Tb K mg cl) (X : Fx K mg "_law_piece" s_law_piece f fd ["_law_number_here", "_law_n"]) {f_law_crossing : Addr} {fd_law_crossing : FuncData} (X_law_crossing : Fx K mg "_law_crossing" s_law_crossing f_law_crossing fd_law_crossing ["_law_number_here", "_law_n"]) (G_law_crossing : FnOk P w K mg base (L2.CX P w) 1 f_law_crossing fd_law_crossing ["_law_number_here", "_law_n"] (Ctr K cl 2 m_law_crossing)) :
    FnOk P w K mg base (L2.CX P w) 2 f fd ["_law_number_here", "_law_n"] (Ctr K cl 2 m_law_piece) :=
  okD X.F sc_law_piece rfl (by decide) h_law_piece fun cdv A outer s H E hr => by
    unfold g_law_piece
    exact ((sss_cons (ss_set 2 sc_law_piece.nd (se_call G_law_crossing hr (by decide) rfl X_law_crossing.g X_law_crossing.F.kp X_law_crossing.b (takesD (takes_of rfl rfl rfl rfl)) (sa_cons (se_var 0) (sa_cons (se_var 1) sa_nil)) (xa1 (xa1 xa0))))
  (sss_cons (ss_if (PW.pt (sw_or (st_cmp op_gt o2_cmp (se_mod (se_div (se_var 0) se_int) se_int) se_int) (sw_or1 (st_cmp op_lt o2_cmp (se_var 1) se_int)))) (sss_one (ss_ret (se_lst (sa_cons (se_var 2) sa_nil)))) sss_nil)
  (sss_cons (ss_set 3 sc_law_piece.nd (se_ifExp (PW.pt (sw_and (st_cmp op_lt o2_cmp (se_blt call_abs oa_abs rfl T.z_abs (by decide +kernel) (sa_cons (se_add (se_var 2) se_int) sa_nil)) (se_var 1)) (sw_and1 (st_cmp (op_neD hr.units) o2_ne (se_add (se_var 2) se_int) se_int)))) (se_add (se_var 2) se_int) (se_sub (se_var 2) se_int)))
  (sss_one (ss_ret (se_ix (se_lst (sa_cons (se_lst (sa_cons (se_var 2) (sa_cons (se_var 3) (sa_cons (se_var 2) sa_nil)))) (sa_cons (se_lst (sa_cons (se_var 2) (sa_cons (se_var 3) sa_nil))) (sa_cons (se_lst (sa_cons (se_var 2) (sa_cons (se_var 2) sa_nil))) (sa_cons (se_lst (sa_cons (se_var 2) (sa_cons (se_neg (se_var 3)) (sa_cons (se_var 2) sa_nil)))) sa_nil))))) (se_mod (se_div (se_var 0) se_int) se_int))))))))
/-! ### _law_drawn: 0 _law_cells, 1 _law_n, 2 _law_most, 3 _law_word, 4 _law_k, 5 _law_cell -/
abbrev s_law_drawn : Stmt := topS 27
abbrev n_law_drawn : List Str := ["_law_cells", "_law_n", "_law_most", "_law_word", "_law_k", "_law_cell"]
theorem sc_law_drawn : FnScope n_law_drawn ["_law_cells", "_law_n", "_law_most"] (defScope s_law_drawn) := ⟨rfl, rfl, rfl, by decide +kernel, rfl, by decide +kernel, by decide +kernel⟩
@[irreducible] noncomputable def g_law_drawn : G := (gSeq (gAsg 3 (xLst xNil))
  (gSeq (gFor (xSrcEnum (xVar 0)) (tgT [4, 5]) (gIf (xB (x2 gtD (xVar 1) (xC (.int 1)))) (gAsg 3 (x2 addD (xVar 3) (xCall m_law_piece (xCons (xCall m_law_mix (xCons (xVar 5) (xCons (xVar 4) (xCons (xC (.int 48271)) xNil)))) (xCons (xVar 1) xNil))))) gNext))
  (gRet (xSl (xVar 3) xP0 (xP1 (xVar 2))))))
--needs Draw
theorem drawnAll_app (n : Int) (a b : List (Int × Nat)) : drawnAll n (a ++ b) = drawnAll n a ++ drawnAll n b := by
  induction a with
  | nil => rfl
  | cons x a ih => obtain ⟨c, i⟩ := x; show _ ++ drawnAll n (a ++ b) = (_ ++ _) ++ _; rw [ih, List.append_assoc]
noncomputable def m_law_drawn : List D → R D := mk (fun a : Bool × List Int × Int × Nat => [iL (kc a.1) a.2.1, .int a.2.2.1, .int (a.2.2.2 : Nat)]) (fun a => a.2.1.length ≤ 1000 ∧ 1 ≤ a.2.2.1) (fun a => .ok (iL .ow (drawnZ a.2.1 a.2.2.1 a.2.2.2)))
theorem m_law_drawn_eq {b : Bool} {cs : List Int} {n : Int} {most : Nat} (h1 : cs.length ≤ 1000) (h2 : 1 ≤ n) : m_law_drawn [iL (kc b) cs, .int n, .int (most : Nat)] = .ok (iL .ow (drawnZ cs n most)) :=
  mk_eq (enc := fun a : Bool × List Int × Int × Nat => [iL (kc a.1) a.2.1, .int a.2.2.1, .int (a.2.2.2 : Nat)]) (fun a b e => by
    simp -implicitDefEqProofs [kc_inj] at e
    exact Prod.ext e.1.1 (Prod.ext e.1.2 (Prod.ext e.2.1 (by omega)))) (b, cs, n, most) ⟨h1, h2⟩
theorem h_law_drawn : ∀ ds, ds.length = 3 → D.stos ds = true → m_law_drawn ds ≠ .no → g_law_drawn (env0 n_law_drawn ds) (Out (m_law_drawn ds)) := mk_h fun ⟨b, cs, n, most⟩ ⟨h1, h2⟩ => by
  show g_law_drawn [some (iL (kc b) cs), some (.int n), some (.int (most : Nat)), none, none, none] _
  simp at h1 h2
  simp -implicitDefEqProofs [g_law_drawn]
  refine for_inv' (f := eZ .int) (cs.zipIdx 0) (fun rest env => ∃ w x y, env = [some (iL (kc b) cs), some (.int n), some (.int (most : Nat)), some (iL .ow w), x, y] ∧ rest.length ≤ cs.length ∧ w.length + 3 * rest.length ≤ 3 * cs.length ∧ w ++ drawnAll n rest = drawnAll n (cs.zipIdx 0)) (fun _ _ => rfl) ⟨[], none, none, rfl, by simp, by simp, rfl⟩ ?_ ?_
  · rintro ⟨c, i⟩ rest _ hmem ⟨w, x, y, rfl, hl, hl2, e⟩ ih
    have hi : i < cs.length := by
      have := List.snd_lt_of_mem_zipIdx hmem
      simpa using this
    rw [List.length_cons] at hl hl2
    simp -implicitDefEqProofs [eZ]
    by_cases hn : 1 < n
    · have hm := m_law_mix_eq (c := c) (k := (i : Int)) (f := 48271) (by omega) (by omega) (by decide) (by decide)
      have hp := m_law_piece_eq (c := mixZ c i 48271) (n := n) (by omega) (mixZ_nonneg _ _ _)
      have hpl := pieceZ_len (mixZ c i 48271) n
      simp -implicitDefEqProofs [hn, hm, hp]
      refine ⟨by omega, ih _ ⟨w ++ pieceZ (mixZ c i 48271) n, some (.int i), some (.int c), rfl, by omega, by simp; omega, ?_⟩⟩
      rw [← e, drawnAll_cons]
      simp -implicitDefEqProofs [hn]
    · simp -implicitDefEqProofs [hn]
      refine ih _ ⟨w, some (.int i), some (.int c), rfl, by omega, by omega, ?_⟩
      rw [← e, drawnAll_cons]
      simp -implicitDefEqProofs [hn]
  · rintro _ ⟨w, x, y, rfl, hl, hl2, e⟩
    simp -implicitDefEqProofs [drawnAll_nil] at e
    simp -implicitDefEqProofs [cutL_to, drawnZ, e]

theorem ok_law_drawn {P : Program} {w : World} {K : PySem.W.Frag} {mg : Str → Option Value} {base : Heap} {cl : String → Addr} {f : Addr} {fd : FuncData} (T : Tb K mg cl) (X : Fx K mg "_law_drawn" s_law_drawn f fd ["_law_cells", "_law_n", "_law_most"]) {f_law_mix : Addr} {fd_law_mix : FuncData} (X_law_mix : Fx K mg "_law_mix" s_law_mix f_law_mix fd_law_mix ["_law_cell", "_law_k", "_law_factor"]) (G_law_mix : FnOk P w K mg base (L2.CX P w) 1 f_law_mix fd_law_mix ["_law_cell", "_law_k", "_law_factor"] (Ctr K cl 3 m_law_mix)) {f_law_piece : Addr} {fd_law_piece : FuncData} (X_law_piece : Fx K mg "_law_piece" s_law_piece f_law_piece fd_law_piece ["_law_number_here", "_law_n"]) (G_law_piece : FnOk P w K mg base (L2.CX P w) 2 f_law_piece fd_law_piece ["_law_number_here", "_law_n"] (Ctr K cl 2 m_law_piece)) :
    FnOk P w K mg base (L2.CX P w) 3 f fd ["_law_cells", "_law_n", "_law_most"] (Ctr K cl 3 m_law_drawn) :=
  okD X.F sc_law_drawn rfl (by decide) h_law_drawn fun cdv A outer s H E hr => by
    unfold g_law_drawn
    exact ((sss_cons (ss_set 3 sc_law_drawn.nd (se_lst sa_nil))
  (sss_cons (ss_for (passes_of rfl) rfl (si_enum rfl T.z_enumerate (se_var 0)) (pg_tup rfl (pgs_cons (pg_name (i := 4) sc_law_drawn.nd rfl (by first | exact Or.inl rfl | exact Or.inr rfl)) (pgs_cons (pg_name (i := 5) sc_law_drawn.nd rfl (by first | exact Or.inl rfl | exact Or.inr rfl)) pgs_nil))) (ts_tup (js := [4, 5]) rfl) (sss_one (ss_if (st_cmp op_gt o2_cmp (se_var 1) se_int) (sss_one (ss_set 3 sc_law_drawn.nd (se_add (se_var 3) (se_call G_law_piece hr (by decide) rfl X_law_piece.g X_law_piece.F.kp X_law_piece.b (takesD (takes_of rfl rfl rfl rfl)) (sa_cons (se_call G_law_mix hr (by decide) rfl X_law_mix.g X_law_mix.F.kp X_law_mix.b (takesD (takes_of rfl rfl rfl rfl)) (sa_cons (se_var 5) (sa_cons (se_var 4) (sa_cons se_int sa_nil))) (xa1 (xa1 (xa1 xa0)))) (sa_cons (se_var 1) sa_nil)) (xa1 (xa1 xa0)))))) sss_nil)))
  (sss_one (ss_ret (se_slice (se_var 3) so_none (so_some (se_var 2))))))))
/-! ### _law_deed_by: 0 _law_n, 1 _law_word, 2 _law_number_here, 3 _law_far, 4 _law_kind, 5 _law_more, 6 _law_p, 7 _law_bad, 8 _law_spots -/
abbrev s_law_deed_by : Stmt := topS 33
abbrev n_law_deed_by : List Str := ["_law_n", "_law_word", "_law_number_here", "_law_far", "_law_kind", "_law_more", "_law_p", "_law_bad", "_law_spots"]
theorem sc_law_deed_by : FnScope n_law_deed_by ["_law_n", "_law_word", "_law_number_here", "_law_far"] (defScope s_law_deed_by) := ⟨rfl, rfl, rfl, by decide +kernel, rfl, by decide +kernel, by decide +kernel⟩
@[irreducible] noncomputable def g_law_deed_by : G := (gSeq (gAsg 4 (x2 modD (xVar 2) (xC (.int 3))))
  (gSeq (gAsg 2 (x2 divD (xVar 2) (xC (.int 3))))
  (gSeq (gIf (xB (x2 eqD (xVar 4) (xC (.int 0)))) (gSeq (gAsg 5 (xCall m_law_drawn (xCons (xLst (xCons (xVar 2) (xCons (x2 divD (xVar 2) (xC (.int 7))) xNil))) (xCons (xVar 0) (xCons (xC (.int 3)) xNil)))))
  (gSeq (gAsg 6 (x2 modD (x2 divD (xVar 2) (xC (.int 3))) (x2 addD (xA lenD (xCons (xVar 5) xNil)) (xC (.int 1)))))
  (gSeq (gAsg 7 (x2 ixD (xLst (xCons (xLst xNil) (xCons (xLst xNil) (xCons (xLst (xCons (xC (.int 0)) xNil)) (xCons (xLst (xCons (xVar 0) xNil)) (xCons (xLst (xCons (x1 negD (xVar 0)) xNil)) (xCons (xLst (xCons (x2 addD (xVar 0) (xVar 3)) xNil)) (xCons (xLst (xCons (x2 subD (x1 negD (xVar 0)) (xVar 3)) xNil)) xNil)))))))) (x2 modD (x2 divD (xVar 2) (xC (.int 16))) (xC (.int 7)))))
  (gRet (xTup (xCons (xC (.str "hang")) (xCons (x2 addD (x2 addD (xSl (xVar 5) xP0 (xP1 (xVar 6))) (xVar 7)) (xSl (xVar 5) (xP1 (xVar 6)) xP0)) xNil))))))) gNext)
  (gSeq (gIf (xB (x2 eqD (xVar 4) (xC (.int 1)))) (gSeq (gAsg 8 (xLst (xCons (xC (.int 0)) (xCons (xA lenD (xCons (xVar 1) xNil)) (xCons (x2 addD (xA lenD (xCons (xVar 1) xNil)) (xC (.int 1))) (xCons (x1 negD (xC (.int 1))) (xCons (x2 addD (x2 addD (xA lenD (xCons (xVar 1) xNil)) (xC (.int 1))) (xVar 3)) (xCons (x2 subD (x1 negD (xC (.int 1))) (xVar 3)) (xCons (xC (.int 1)) xNil)))))))))
  (gRet (xTup (xCons (xC (.str "drop")) (xCons (x2 ixD (xVar 8) (x2 modD (xVar 2) (xC (.int 7)))) xNil))))) gNext)
  (gSeq (gAsg 6 (x2 ixD (xLst (xCons (xC (.int 0)) (xCons (x2 modD (x2 divD (xVar 2) (xC (.int 21))) (x2 addD (xA lenD (xCons (xVar 1) xNil)) (xC (.int 1)))) (xCons (xA lenD (xCons (xVar 1) xNil)) (xCons (x1 negD (xC (.int 1))) (xCons (x2 addD (xA lenD (xCons (xVar 1) xNil)) (xC (.int 1))) (xCons (xVar 3) (xCons (x1 negD (xVar 3)) xNil)))))))) (x2 modD (xVar 2) (xC (.int 7)))))
  (gSeq (gIf (xB (x2 eqD (x2 modD (x2 divD (xVar 2) (xC (.int 7))) (xC (.int 3))) (xC (.int 0)))) (gRet (xTup (xCons (xC (.str "go")) (xCons (xTup (xCons (xC (.str "in")) (xCons (xVar 6) (xCons (x2 ixD (xLst (xCons (xC (.int 1)) (xCons (x1 negD (xC (.int 1))) (xCons (x2 subD (xVar 0) (xC (.int 1))) (xCons (x2 subD (xC (.int 1)) (xVar 0)) (xCons (xC (.int 0)) (xCons (xVar 0) (xCons (x1 negD (xVar 0)) (xCons (x2 addD (xVar 0) (xVar 3)) (xCons (x2 subD (x1 negD (xVar 0)) (xVar 3)) xNil)))))))))) (x2 modD (x2 divD (xVar 2) (xC (.int 147))) (xC (.int 9)))) xNil)))) xNil)))) gNext)
  (gRet (xTup (xCons (xC (.str "go")) (xCons (xTup (xCons (x2 ixD (xLst (xCons (xC (.str "out")) (xCons (xC (.str "far")) (xCons (xC (.str "near")) xNil)))) (x2 modD (x2 divD (xVar 2) (xC (.int 147))) (xC (.int 3)))) (xCons (xVar 6) xNil))) xNil))))))))))
--needs LoomD Draw
def dbyZ (n : Int) (w : List Int) (c far : Int) : Dd :=
  if c % 3 = 0 then
    .hang ((drawnZ [c / 3, c / 3 / 7] n 3).take (c / 3 / 3 % ((drawnZ [c / 3, c / 3 / 7] n 3).length + 1)).toNat ++ ([[], [], [0], [n], [-n], [n + far], [-n - far]] : List (List Int)).getD (c / 3 / 16 % 7).toNat [] ++ (drawnZ [c / 3, c / 3 / 7] n 3).drop (c / 3 / 3 % ((drawnZ [c / 3, c / 3 / 7] n 3).length + 1)).toNat)
  else if c % 3 = 1 then .drop (([0, (w.length : Int), w.length + 1, -1, w.length + 1 + far, -1 - far, 1] : List Int).getD (c / 3 % 7).toNat 0)
  else if c / 3 / 7 % 3 = 0 then .go (.ins (([0, c / 3 / 21 % (w.length + 1), w.length, -1, w.length + 1, far, -far] : List Int).getD (c / 3 % 7).toNat 0) (([1, -1, n - 1, 1 - n, 0, n, -n, n + far, -n - far] : List Int).getD (c / 3 / 147 % 9).toNat 0))
  else .go (if c / 3 / 147 % 3 = 0 then .out (([0, c / 3 / 21 % (w.length + 1), w.length, -1, w.length + 1, far, -far] : List Int).getD (c / 3 % 7).toNat 0) else if c / 3 / 147 % 3 = 1 then .far (([0, c / 3 / 21 % (w.length + 1), w.length, -1, w.length + 1, far, -far] : List Int).getD (c / 3 % 7).toNat 0) else .near (([0, c / 3 / 21 % (w.length + 1), w.length, -1, w.length + 1, far, -far] : List Int).getD (c / 3 % 7).toNat 0))
theorem dbyZ_sm (n : Int) (w : List Int) (c far : Int) : (dbyZ n w c far).sm := by
  unfold dbyZ
  split
  · show List.length _ ≤ 100000
    have h : (drawnZ [c / 3, c / 3 / 7] n 3).length ≤ 3 := by unfold drawnZ; simp; omega
    have h2 : ∀ j, (([[], [], [0], [n], [-n], [n + far], [-n - far]] : List (List Int)).getD j []).length ≤ 1 := fun j => by
      match j with
      | 0 | 1 | 2 | 3 | 4 | 5 | 6 => simp
      | j + 7 => simp
    have h3 := h2 (c / 3 / 16 % 7).toNat
    simp only [List.length_append, List.length_take, List.length_drop]
    omega
  · split
    · trivial
    · split <;> trivial
noncomputable def m_law_deed_by : List D → R D := mk (fun a : Int × List Int × Int × Int => [.int a.1, iL .fz a.2.1, .int a.2.2.1, .int a.2.2.2]) (fun a => 1 ≤ a.1 ∧ 0 ≤ a.2.2.1 ∧ a.2.1.length ≤ 1000000) (fun a => .ok (eDd .ow (dbyZ a.1 a.2.1 a.2.2.1 a.2.2.2)))
theorem m_law_deed_by_eq {n : Int} {w : List Int} {c far : Int} (h1 : 1 ≤ n) (h2 : 0 ≤ c) (h3 : w.length ≤ 1000000) : m_law_deed_by [.int n, iL .fz w, .int c, .int far] = .ok (eDd .ow (dbyZ n w c far)) :=
  mk_eq (enc := fun a : Int × List Int × Int × Int => [.int a.1, iL .fz a.2.1, .int a.2.2.1, .int a.2.2.2]) (fun a b e => by
    simp at e
    exact Prod.ext e.1 (Prod.ext e.2.1 (Prod.ext e.2.2.1 e.2.2.2))) (n, w, c, far) ⟨h1, h2, h3⟩
theorem h_law_deed_by : ∀ ds, ds.length = 4 → D.stos ds = true → m_law_deed_by ds ≠ .no → g_law_deed_by (env0 n_law_deed_by ds) (Out (m_law_deed_by ds)) := mk_h fun ⟨n, w, c, far⟩ ⟨h1, h2, h3⟩ => by
  show g_law_deed_by [some (.int n), some (iL .fz w), some (.int c), some (.int far), none, none, none, none, none] (Out (.ok (eDd .ow (dbyZ n w c far))))
  replace h1 : 1 ≤ n := h1
  replace h2 : 0 ≤ c := h2
  have b1 := Int.emod_nonneg (c / 3) (show (7 : Int) ≠ 0 by decide)
  have b2 := Int.emod_lt_of_pos (c / 3) (show (0 : Int) < 7 by decide)
  by_cases k0 : c % 3 = 0
  · have e1 : m_law_drawn [D.lst .fz [.int (c / 3), .int (c / 3 / 7)], .int n, .int 3] = .ok (iL .ow (drawnZ [c / 3, c / 3 / 7] n 3)) := m_law_drawn_eq (b := false) (cs := [c / 3, c / 3 / 7]) (n := n) (most := 3) (by simp) h1
    have b3 := Int.emod_nonneg (c / 3 / 16) (show (7 : Int) ≠ 0 by decide)
    have b4 := Int.emod_lt_of_pos (c / 3 / 16) (show (0 : Int) < 7 by decide)
    have e2 : L2.atI [D.lst .ow [], D.lst .ow [], D.lst .ow [.int 0], D.lst .ow [.int n], D.lst .ow [.int (-n)], D.lst .ow [.int (n + far)], D.lst .ow [.int (-n - far)]] (c / 3 / 16 % 7) = some (iL .ow (([[], [], [0], [n], [-n], [n + far], [-n - far]] : List (List Int)).getD (c / 3 / 16 % 7).toNat [])) := atI_pick (f := iL .ow) (l := [[], [], [0], [n], [-n], [n + far], [-n - far]]) [] b3 b4
    obtain ⟨more, hm⟩ : ∃ l, l = drawnZ [c / 3, c / 3 / 7] n 3 := ⟨_, rfl⟩
    obtain ⟨bad, hb⟩ : ∃ l, l = (([[], [], [0], [n], [-n], [n + far], [-n - far]] : List (List Int)).getD (c / 3 / 16 % 7).toNat []) := ⟨_, rfl⟩
    obtain ⟨q, hq⟩ : ∃ q : Nat, (q : Int) = c / 3 / 3 % ((more.length : Int) + 1) := ⟨(c / 3 / 3 % ((more.length : Int) + 1)).toNat, by have := Int.emod_nonneg (c / 3 / 3) (show ((more.length : Int) + 1) ≠ 0 by omega); omega⟩
    have hq2 : q ≤ more.length := by have := Int.emod_lt_of_pos (c / 3 / 3) (show (0 : Int) < (more.length : Int) + 1 by omega); omega
    have hl : more.length ≤ 3 := by rw [hm]; unfold drawnZ; simp; omega
    have hl2 : bad.length ≤ 100 := by
      have h2 : ∀ j, (([[], [], [0], [n], [-n], [n + far], [-n - far]] : List (List Int)).getD j []).length ≤ 100 := fun j => by
        match j with
        | 0 | 1 | 2 | 3 | 4 | 5 | 6 => simp
        | j + 7 => simp
      rw [hb]
      exact h2 _
    rw [← hm] at e1
    rw [← hb] at e2
    have e5 : dbyZ n w c far = .hang (more.take q ++ bad ++ more.drop q) := by
      unfold dbyZ
      rw [if_pos k0, ← hm, ← hb, ← hq]
      rfl
    rw [e5]
    simp -implicitDefEqProofs [g_law_deed_by, k0, e1, e2, ← hq, eDd, Dd.kd, Dd.ptK]
    omega
  · by_cases k1 : c % 3 = 1
    · have e2 : L2.atI [D.int 0, .int (w.length : Int), .int ((w.length : Int) + 1), .int (-1), .int ((w.length : Int) + 1 + far), .int (-1 - far), .int 1] (c / 3 % 7) = some (.int (([0, (w.length : Int), w.length + 1, -1, w.length + 1 + far, -1 - far, 1] : List Int).getD (c / 3 % 7).toNat 0)) := atI_pick (f := D.int) (l := [0, (w.length : Int), w.length + 1, -1, w.length + 1 + far, -1 - far, 1]) 0 b1 b2
      simp -implicitDefEqProofs [g_law_deed_by, k0, k1, e2, dbyZ, eDd, Dd.kd, Dd.ptK]
    · have e2 : L2.atI [D.int 0, .int (c / 3 / 21 % ((w.length : Int) + 1)), .int (w.length : Int), .int (-1), .int ((w.length : Int) + 1), .int far, .int (-far)] (c / 3 % 7) = some (.int (([0, c / 3 / 21 % (w.length + 1), w.length, -1, w.length + 1, far, -far] : List Int).getD (c / 3 % 7).toNat 0)) := atI_pick (f := D.int) (l := [0, c / 3 / 21 % (w.length + 1), w.length, -1, w.length + 1, far, -far]) 0 b1 b2
      by_cases k2 : c / 3 / 7 % 3 = 0
      · have b3 := Int.emod_nonneg (c / 3 / 147) (show (9 : Int) ≠ 0 by decide)
        have b4 := Int.emod_lt_of_pos (c / 3 / 147) (show (0 : Int) < 9 by decide)
        have e3 : L2.atI [D.int 1, .int (-1), .int (n - 1), .int (1 - n), .int 0, .int n, .int (-n), .int (n + far), .int (-n - far)] (c / 3 / 147 % 9) = some (.int (([1, -1, n - 1, 1 - n, 0, n, -n, n + far, -n - far] : List Int).getD (c / 3 / 147 % 9).toNat 0)) := atI_pick (f := D.int) (l := [1, -1, n - 1, 1 - n, 0, n, -n, n + far, -n - far]) 0 b3 b4
        simp -implicitDefEqProofs [g_law_deed_by, k0, k1, k2, e2, e3, dbyZ, eDd, Dd.kd, Dd.ptK, eMv]
      · have b3 := Int.emod_nonneg (c / 3 / 147) (show (3 : Int) ≠ 0 by decide)
        have b4 := Int.emod_lt_of_pos (c / 3 / 147) (show (0 : Int) < 3 by decide)
        have e4 : c / 3 / 147 % 3 = 0 ∨ c / 3 / 147 % 3 = 1 ∨ c / 3 / 147 % 3 = 2 := by omega
        have q0 : L2.atI [D.str "out", .str "far", .str "near"] 0 = some (.str "out") := rfl
        have q1 : L2.atI [D.str "out", .str "far", .str "near"] 1 = some (.str "far") := rfl
        have q2 : L2.atI [D.str "out", .str "far", .str "near"] 2 = some (.str "near") := rfl
        rcases e4 with e4 | e4 | e4
        · simp -implicitDefEqProofs [g_law_deed_by, k0, k1, k2, e2, e4, q0, dbyZ, eDd, Dd.kd, Dd.ptK, eMv]
        · simp -implicitDefEqProofs [g_law_deed_by, k0, k1, k2, e2, e4, q1, dbyZ, eDd, Dd.kd, Dd.ptK, eMv]
        · simp -implicitDefEqProofs [g_law_deed_by, k0, k1, k2, e2, e4, q2, dbyZ, eDd, Dd.kd, Dd.ptK, eMv]

theorem ok_law_deed_by {P : Program} {w : World} {K : PySem.W.Frag} {mg : Str → Option Value} {base : Heap} {cl : String → Addr} {f : Addr} {fd : FuncData} (T : Tb K mg cl) (X : Fx K mg "_law_deed_by" s_law_deed_by f fd ["_law_n", "_law_word", "_law_number_here", "_law_far"]) {f_law_drawn : Addr} {fd_law_drawn : FuncData} (X_law_drawn : Fx K mg "_law_drawn" s_law_drawn f_law_drawn fd_law_drawn ["_law_cells", "_law_n", "_law_most"]) (G_law_drawn : FnOk P w K mg base (L2.CX P w) 3 f_law_drawn fd_law_drawn ["_law_cells", "_law_n", "_law_most"] (Ctr K cl 3 m_law_drawn)) :
    FnOk P w K mg base (L2.CX P w) 4 f fd ["_law_n", "_law_word", "_law_number_here", "_law_far"] (Ctr K cl 4 m_law_deed_by) :=
  okD X.F sc_law_deed_by rfl (by decide) h_law_deed_by fun cdv A outer s H E hr => by
    unfold g_law_deed_by
    exact ((sss_cons (ss_set 4 sc_law_deed_by.nd (se_mod (se_var 2) se_int))
  (sss_cons (ss_set 2 sc_law_deed_by.nd (se_div (se_var 2) se_int))
  (sss_cons (ss_if (st_cmp (op_eqD hr.units) o2_eq (se_var 4) se_int) (sss_cons (ss_set 5 sc_law_deed_by.nd (se_call G_law_drawn hr (by decide) rfl X_law_drawn.g X_law_drawn.F.kp X_law_drawn.b (takesD (takes_of rfl rfl rfl rfl)) (sa_cons (se_lst (sa_cons (se_var 2) (sa_cons (se_div (se_var 2) se_int) sa_nil))) (sa_cons (se_var 0) (sa_cons se_int sa_nil))) (xa1 (xa1 (xa1 xa0)))))
  (sss_cons (ss_set 6 sc_law_deed_by.nd (se_mod (se_div (se_var 2) se_int) (se_add (se_blt call_len oa_len rfl T.z_len (by decide +kernel) (sa_cons (se_var 5) sa_nil)) se_int)))
  (sss_cons (ss_set 7 sc_law_deed_by.nd (se_ix (se_lst (sa_cons (se_lst sa_nil) (sa_cons (se_lst sa_nil) (sa_cons (se_lst (sa_cons se_int sa_nil)) (sa_cons (se_lst (sa_cons (se_var 0) sa_nil)) (sa_cons (se_lst (sa_cons (se_neg (se_var 0)) sa_nil)) (sa_cons (se_lst (sa_cons (se_add (se_var 0) (se_var 3)) sa_nil)) (sa_cons (se_lst (sa_cons (se_sub (se_neg (se_var 0)) (se_var 3)) sa_nil)) sa_nil)))))))) (se_mod (se_div (se_var 2) se_int) se_int)))
  (sss_one (ss_ret (se_tup (sa_cons se_str (sa_cons (se_add (se_add (se_slice (se_var 5) so_none (so_some (se_var 6))) (se_var 7)) (se_slice (se_var 5) (so_some (se_var 6)) so_none)) sa_nil)))))))) sss_nil)
  (sss_cons (ss_if (st_cmp (op_eqD hr.units) o2_eq (se_var 4) se_int) (sss_cons (ss_set 8 sc_law_deed_by.nd (se_lst (sa_cons se_int (sa_cons (se_blt call_len oa_len rfl T.z_len (by decide +kernel) (sa_cons (se_var 1) sa_nil)) (sa_cons (se_add (se_blt call_len oa_len rfl T.z_len (by decide +kernel) (sa_cons (se_var 1) sa_nil)) se_int) (sa_cons (se_neg se_int) (sa_cons (se_add (se_add (se_blt call_len oa_len rfl T.z_len (by decide +kernel) (sa_cons (se_var 1) sa_nil)) se_int) (se_var 3)) (sa_cons (se_sub (se_neg se_int) (se_var 3)) (sa_cons se_int sa_nil)))))))))
  (sss_one (ss_ret (se_tup (sa_cons se_str (sa_cons (se_ix (se_var 8) (se_mod (se_var 2) se_int)) sa_nil)))))) sss_nil)
  (sss_cons (ss_set 6 sc_law_deed_by.nd (se_ix (se_lst (sa_cons se_int (sa_cons (se_mod (se_div (se_var 2) se_int) (se_add (se_blt call_len oa_len rfl T.z_len (by decide +kernel) (sa_cons (se_var 1) sa_nil)) se_int)) (sa_cons (se_blt call_len oa_len rfl T.z_len (by decide +kernel) (sa_cons (se_var 1) sa_nil)) (sa_cons (se_neg se_int) (sa_cons (se_add (se_blt call_len oa_len rfl T.z_len (by decide +kernel) (sa_cons (se_var 1) sa_nil)) se_int) (sa_cons (se_var 3) (sa_cons (se_neg (se_var 3)) sa_nil)))))))) (se_mod (se_var 2) se_int)))
  (sss_cons (ss_if (st_cmp (op_eqD hr.units) o2_eq (se_mod (se_div (se_var 2) se_int) se_int) se_int) (sss_one (ss_ret (se_tup (sa_cons se_str (sa_cons (se_tup (sa_cons se_str (sa_cons (se_var 6) (sa_cons (se_ix (se_lst (sa_cons se_int (sa_cons (se_neg se_int) (sa_cons (se_sub (se_var 0) se_int) (sa_cons (se_sub se_int (se_var 0)) (sa_cons se_int (sa_cons (se_var 0) (sa_cons (se_neg (se_var 0)) (sa_cons (se_add (se_var 0) (se_var 3)) (sa_cons (se_sub (se_neg (se_var 0)) (se_var 3)) sa_nil)))))))))) (se_mod (se_div (se_var 2) se_int) se_int)) sa_nil)))) sa_nil))))) sss_nil)
  (sss_one (ss_ret (se_tup (sa_cons se_str (sa_cons (se_tup (sa_cons (se_ix (se_lst (sa_cons se_str (sa_cons se_str (sa_cons se_str sa_nil)))) (se_mod (se_div (se_var 2) se_int) se_int)) (sa_cons (se_var 6) sa_nil))) sa_nil))))))))))))
/-! ### _law_can: 0 _law_word, 1 _law_n, 2 _law_deed, 3 _law_x, 4 _law_p, 5 _law_here -/
abbrev s_law_can : Stmt := topS 29
abbrev n_law_can : List Str := ["_law_word", "_law_n", "_law_deed", "_law_x", "_law_p", "_law_here"]
theorem sc_law_can : FnScope n_law_can ["_law_word", "_law_n", "_law_deed"] (defScope s_law_can) := ⟨rfl, rfl, rfl, by decide +kernel, rfl, by decide +kernel, by decide +kernel⟩
@[irreducible] noncomputable def g_law_can : G := (gSeq (gIf (xTOr (xTNot (xB (x1 (isiD .tuple) (xVar 2)))) (xTOr (xB (x2 ltD (xA lenD (xCons (xVar 2) xNil)) (xC (.int 2)))) (xTNot (xB (x1 (isiD .str) (x2 ixD (xVar 2) (xC (.int 0)))))))) (gRet (xC (.bl false))) gNext)
  (gSeq (gFor (xSrcT (xSl (xVar 2) (xP1 (xC (.int 1))) xP0)) (tgN 3) (gIf (xTOr (xTNot (xB (x1 (isiD .int) (xVar 3)))) (xB (x1 (isiD .bool) (xVar 3)))) (gRet (xC (.bl false))) gNext))
  (gSeq (gAsg 4 (x2 ixD (xVar 2) (xC (.int 1))))
  (gSeq (gIf (xTOr (xB (x2 ltD (xVar 4) (xC (.int 0)))) (xB (x2 gtD (xVar 4) (xA lenD (xCons (xVar 0) xNil))))) (gRet (xC (.bl false))) gNext)
  (gSeq (gAsg 5 (xSl (xVar 0) (xP1 (xVar 4)) (xP1 (x2 addD (xVar 4) (xC (.int 3))))))
  (gSeq (gIf (xB (x2 eqD (x2 ixD (xVar 2) (xC (.int 0))) (xC (.str "in")))) (gRet (xAnd (x2 eqD (xA lenD (xCons (xVar 2) xNil)) (xC (.int 3))) (xChain ltD ltD (xC (.int 0)) (xA absD (xCons (x2 ixD (xVar 2) (xC (.int 2))) xNil)) (xVar 1)))) gNext)
  (gSeq (gIf (xTOr (xB (x2 neD (xA lenD (xCons (xVar 2) xNil)) (xC (.int 2)))) (xB (x2 ltD (xA lenD (xCons (xVar 5) xNil)) (xC (.int 2))))) (gRet (xC (.bl false))) gNext)
  (gSeq (gIf (xB (x2 eqD (x2 ixD (xVar 2) (xC (.int 0))) (xC (.str "out")))) (gRet (x2 eqD (x2 ixD (xVar 5) (xC (.int 0))) (x1 negD (x2 ixD (xVar 5) (xC (.int 1)))))) gNext)
  (gSeq (gIf (xB (x2 eqD (x2 ixD (xVar 2) (xC (.int 0))) (xC (.str "far")))) (gRet (x2 gtD (xA absD (xCons (x2 subD (xA absD (xCons (x2 ixD (xVar 5) (xC (.int 0))) xNil)) (xA absD (xCons (x2 ixD (xVar 5) (xC (.int 1))) xNil))) xNil)) (xC (.int 1)))) gNext)
  (gSeq (gIf (xTOr (xB (x2 neD (x2 ixD (xVar 2) (xC (.int 0))) (xC (.str "near")))) (xB (x2 ltD (xA lenD (xCons (xVar 5) xNil)) (xC (.int 3))))) (gRet (xC (.bl false))) gNext)
  (gRet (xAnd (x2 eqD (x2 ixD (xVar 5) (xC (.int 0))) (x2 ixD (xVar 5) (xC (.int 2)))) (xAnd (x2 gtD (x2 mulD (x2 ixD (xVar 5) (xC (.int 0))) (x2 ixD (xVar 5) (xC (.int 1)))) (xC (.int 0))) (x2 eqD (xA absD (xCons (x2 subD (x2 ixD (xVar 5) (xC (.int 0))) (x2 ixD (xVar 5) (xC (.int 1)))) xNil)) (xC (.int 1))))))))))))))))
--needs Moves
--tups 3
noncomputable def m_law_can : List D → R D := mk (fun a : List Int × Int × Mv => [iL .fz a.1, .int a.2.1, eMv a.2.2]) (fun a => Sm a.1) (fun a => .ok (.bl (canZ a.2.1 a.1 a.2.2)))
theorem m_law_can_eq {w : List Int} {n : Int} {m : Mv} (h1 : Sm w) : m_law_can [iL .fz w, .int n, eMv m] = .ok (.bl (canZ n w m)) :=
  mk_eq (enc := fun a : List Int × Int × Mv => [iL .fz a.1, .int a.2.1, eMv a.2.2]) (fun a b e => by
    simp at e
    exact Prod.ext e.1 (Prod.ext e.2.1 (eMv_inj e.2.2))) (w, n, m) h1
theorem h_law_can : ∀ ds, ds.length = 3 → D.stos ds = true → m_law_can ds ≠ .no → g_law_can (env0 n_law_can ds) (Out (m_law_can ds)) := mk_h fun ⟨w, n, m⟩ h1 => by
  show g_law_can [some (iL .fz w), some (.int n), some (eMv m), none, none, none] (Out (.ok (.bl (canZ n w m))))
  replace h1 : Sm w := h1
  have h2 : ¬ ((if m.isIn = true then 3 else 2 : Int) < 2) := by split <;> omega
  have hlen := eMv_len m
  simp -implicitDefEqProofs [g_law_can, hlen, h2, eMv_tail]
  refine lp_inv (f := D.int) (fun _ env => ∃ x, env = [some (iL .fz w), some (.int n), some (eMv m), x, none, none]) (fun _ => rfl) _ ⟨none, rfl⟩ ?_ ?_
  · rintro k rest _ K ⟨x, rfl⟩ ih
    simp -implicitDefEqProofs []
    exact ih _ ⟨_, rfl⟩
  · rintro _ ⟨x, rfl⟩
    have hf : (m.p < 0 ∨ (w.length : Int) < m.p) → canZ n w m = false := fun hh => by
      cases h : canZ n w m with
      | false => rfl
      | true => have := canZ_p h; omega
    by_cases hp : m.p < 0
    · simp -implicitDefEqProofs [hp, hf]
    · by_cases hq : (w.length : Int) < m.p
      · simp -implicitDefEqProofs [hp, hq, hf]
      · obtain ⟨q, hqq⟩ := Int.eq_ofNat_of_zero_le (show 0 ≤ m.p by omega)
        rw [hqq] at hp hq
        cases m with
        | ins p k =>
          obtain rfl : p = (q : Nat) := hqq
          have hq' : q ≤ w.length := by omega
          by_cases hk : k = 0
          · subst hk
            simp -implicitDefEqProofs [Mv.p, hlen, Mv.isIn, hq, hq', canZ]
            try rw [if_neg hp]
            try exact decide_eq_decide.mpr Iff.rfl
            try (intro hneg; omega)
            try omega
          · simp -implicitDefEqProofs [Mv.p, hlen, Mv.isIn, hq, hq', canZ, hk]
            try rw [if_neg hp]
            try exact decide_eq_decide.mpr Iff.rfl
            try (intro hneg; omega)
            try omega
        | out p =>
          obtain rfl : p = (q : Nat) := hqq
          have hc : (cutL w (some (q : Int)) (some ((q : Int) + 3))) = (w.drop q).take 3 := by simp
          rcases hd : w.drop q with _ | ⟨a, _ | ⟨b, r⟩⟩
          · rw [hd] at hc
            simp -implicitDefEqProofs [Mv.p, hlen, Mv.isIn, hq, canZ, hc, outQ, hd]
            try rw [if_neg hp]
            try exact decide_eq_decide.mpr Iff.rfl
            try (intro hneg; omega)
            try omega
          · rw [hd] at hc
            simp -implicitDefEqProofs [Mv.p, hlen, Mv.isIn, hq, canZ, hc, outQ, hd]
            try rw [if_neg hp]
            try exact decide_eq_decide.mpr Iff.rfl
            try (intro hneg; omega)
            try omega
          · rcases r with _ | ⟨c, r⟩
            · rw [hd] at hc
              simp -implicitDefEqProofs [Mv.p, hlen, Mv.isIn, hq, canZ, hc, outQ, hd]
              try rw [if_neg hp]
              try exact decide_eq_decide.mpr Iff.rfl
              try (intro hneg; omega)
              try omega
            · rw [hd] at hc
              simp -implicitDefEqProofs [Mv.p, hlen, Mv.isIn, hq, canZ, hc, outQ, hd]
              try rw [if_neg hp]
              try exact decide_eq_decide.mpr Iff.rfl
              try (intro hneg; omega)
              try omega
        | far p =>
          obtain rfl : p = (q : Nat) := hqq
          have hc : (cutL w (some (q : Int)) (some ((q : Int) + 3))) = (w.drop q).take 3 := by simp
          rcases hd : w.drop q with _ | ⟨a, _ | ⟨b, r⟩⟩
          · rw [hd] at hc
            simp -implicitDefEqProofs [Mv.p, hlen, Mv.isIn, hq, canZ, hc, farQ, hd]
            try rw [if_neg hp]
            try exact decide_eq_decide.mpr Iff.rfl
            try (intro hneg; omega)
            try omega
          · rw [hd] at hc
            simp -implicitDefEqProofs [Mv.p, hlen, Mv.isIn, hq, canZ, hc, farQ, hd]
            try rw [if_neg hp]
            try exact decide_eq_decide.mpr Iff.rfl
            try (intro hneg; omega)
            try omega
          · rcases r with _ | ⟨c, r⟩
            · rw [hd] at hc
              simp -implicitDefEqProofs [Mv.p, hlen, Mv.isIn, hq, canZ, hc, farQ, hd, FarQ]
              try rw [if_neg hp]
              try exact decide_eq_decide.mpr Iff.rfl
              try (intro hneg; omega)
              try omega
            · rw [hd] at hc
              simp -implicitDefEqProofs [Mv.p, hlen, Mv.isIn, hq, canZ, hc, farQ, hd, FarQ]
              try rw [if_neg hp]
              try exact decide_eq_decide.mpr Iff.rfl
              try (intro hneg; omega)
              try omega
        | near p =>
          obtain rfl : p = (q : Nat) := hqq
          have hc : (cutL w (some (q : Int)) (some ((q : Int) + 3))) = (w.drop q).take 3 := by simp
          rcases hd : w.drop q with _ | ⟨a, _ | ⟨b, _ | ⟨c, r⟩⟩⟩
          · rw [hd] at hc
            simp -implicitDefEqProofs [Mv.p, hlen, Mv.isIn, hq, canZ, hc, nearQ, hd]
            try rw [if_neg hp]
            try exact decide_eq_decide.mpr Iff.rfl
            try (intro hneg; omega)
            try omega
          · rw [hd] at hc
            simp -implicitDefEqProofs [Mv.p, hlen, Mv.isIn, hq, canZ, hc, nearQ, hd]
            try rw [if_neg hp]
            try exact decide_eq_decide.mpr Iff.rfl
            try (intro hneg; omega)
            try omega
          · rw [hd] at hc
            simp -implicitDefEqProofs [Mv.p, hlen, Mv.isIn, hq, canZ, hc, nearQ, hd]
            try rw [if_neg hp]
            try exact decide_eq_decide.mpr Iff.rfl
            try (intro hneg; omega)
            try omega
          · have ha := h1.drop hd
            rw [hd] at hc
            by_cases e1 : a = c
            · subst e1
              by_cases e2 : 0 < a * b
              · simp -implicitDefEqProofs [Mv.p, hlen, Mv.isIn, hq, canZ, hc, nearQ, hd, NearQ, e2, ha]
                try rw [if_neg hp]
                try exact decide_eq_decide.mpr Iff.rfl
                try (intro hneg; omega)
                try omega
              · simp -implicitDefEqProofs [Mv.p, hlen, Mv.isIn, hq, canZ, hc, nearQ, hd, NearQ, e2, ha]
                try rw [if_neg hp]
                try exact decide_eq_decide.mpr Iff.rfl
                try (intro hneg; omega)
                try omega
            · simp -implicitDefEqProofs [Mv.p, hlen, Mv.isIn, hq, canZ, hc, nearQ, hd, NearQ, e1]
              try rw [if_neg hp]
              try exact decide_eq_decide.mpr Iff.rfl
              try (intro hneg; omega)
              try omega

theorem ok_law_can {P : Program} {w : World} {K : PySem.W.Frag} {mg : Str → Option Value} {base : Heap} {cl : String → Addr} {f : Addr} {fd : FuncData} (T : Tb K mg cl) (X : Fx K mg "_law_can" s_law_can f fd ["_law_word", "_law_n", "_law_deed"]) :
    FnOk P w K mg base (L2.CX P w) 1 f fd ["_law_word", "_law_n", "_law_deed"] (Ctr K cl 3 m_law_can) :=
  okD X.F sc_law_can rfl (by decide) h_law_can fun cdv A outer s H E hr => by
    unfold g_law_can
    exact ((sss_cons (ss_if (PW.pt (sw_or (st_not (st_val (se_isi .tuple rfl rfl T.z_isinstance rfl rfl T.z_tuple (by decide +kernel) (by decide +kernel) (se_var 2)))) (sw_or (st_cmp op_lt o2_cmp (se_blt call_len oa_len rfl T.z_len (by decide +kernel) (sa_cons (se_var 2) sa_nil)) se_int) (sw_or1 (st_not (st_val (se_isi .str rfl rfl T.z_isinstance rfl rfl T.z_str (by decide +kernel) (by decide +kernel) (se_ix (se_var 2) se_int)))))))) (sss_one (ss_ret se_bl)) sss_nil)
  (sss_cons (ss_for (passes_of rfl) rfl (si_tup (se_slice (se_var 2) (so_some se_int) so_none)) (pg_name (i := 3) sc_law_can.nd rfl (by first | exact Or.inl rfl | exact Or.inr rfl)) ts_name (sss_one (ss_if (PW.pt (sw_or (st_not (st_val (se_isi .int rfl rfl T.z_isinstance rfl rfl T.z_int (by decide +kernel) (by decide +kernel) (se_var 3)))) (sw_or1 (st_val (se_isi .bool rfl rfl T.z_isinstance rfl rfl T.z_bool (by decide +kernel) (by decide +kernel) (se_var 3)))))) (sss_one (ss_ret se_bl)) sss_nil)))
  (sss_cons (ss_set 4 sc_law_can.nd (se_ix (se_var 2) se_int))
  (sss_cons (ss_if (PW.pt (sw_or (st_cmp op_lt o2_cmp (se_var 4) se_int) (sw_or1 (st_cmp op_gt o2_cmp (se_var 4) (se_blt call_len oa_len rfl T.z_len (by decide +kernel) (sa_cons (se_var 0) sa_nil)))))) (sss_one (ss_ret se_bl)) sss_nil)
  (sss_cons (ss_set 5 sc_law_can.nd (se_slice (se_var 0) (so_some (se_var 4)) (so_some (se_add (se_var 4) se_int))))
  (sss_cons (ss_if (st_cmp (op_eqD hr.units) o2_eq (se_ix (se_var 2) se_int) se_str) (sss_one (ss_ret (se_and (se_cmp (op_eqD hr.units) o2_eq (se_blt call_len oa_len rfl T.z_len (by decide +kernel) (sa_cons (se_var 2) sa_nil)) se_int) (se_one (se_chain op_lt o2_cmp op_lt o2_cmp se_int (se_blt call_abs oa_abs rfl T.z_abs (by decide +kernel) (sa_cons (se_ix (se_var 2) se_int) sa_nil)) (se_var 1)))))) sss_nil)
  (sss_cons (ss_if (PW.pt (sw_or (st_cmp (op_neD hr.units) o2_ne (se_blt call_len oa_len rfl T.z_len (by decide +kernel) (sa_cons (se_var 2) sa_nil)) se_int) (sw_or1 (st_cmp op_lt o2_cmp (se_blt call_len oa_len rfl T.z_len (by decide +kernel) (sa_cons (se_var 5) sa_nil)) se_int)))) (sss_one (ss_ret se_bl)) sss_nil)
  (sss_cons (ss_if (st_cmp (op_eqD hr.units) o2_eq (se_ix (se_var 2) se_int) se_str) (sss_one (ss_ret (se_cmp (op_eqD hr.units) o2_eq (se_ix (se_var 5) se_int) (se_neg (se_ix (se_var 5) se_int))))) sss_nil)
  (sss_cons (ss_if (st_cmp (op_eqD hr.units) o2_eq (se_ix (se_var 2) se_int) se_str) (sss_one (ss_ret (se_cmp op_gt o2_cmp (se_blt call_abs oa_abs rfl T.z_abs (by decide +kernel) (sa_cons (se_sub (se_blt call_abs oa_abs rfl T.z_abs (by decide +kernel) (sa_cons (se_ix (se_var 5) se_int) sa_nil)) (se_blt call_abs oa_abs rfl T.z_abs (by decide +kernel) (sa_cons (se_ix (se_var 5) se_int) sa_nil))) sa_nil)) se_int))) sss_nil)
  (sss_cons (ss_if (PW.pt (sw_or (st_cmp (op_neD hr.units) o2_ne (se_ix (se_var 2) se_int) se_str) (sw_or1 (st_cmp op_lt o2_cmp (se_blt call_len oa_len rfl T.z_len (by decide +kernel) (sa_cons (se_var 5) sa_nil)) se_int)))) (sss_one (ss_ret se_bl)) sss_nil)
  (sss_one (ss_ret (se_and (se_cmp (op_eqD hr.units) o2_eq (se_ix (se_var 5) se_int) (se_ix (se_var 5) se_int)) (se_and (se_cmp op_gt o2_cmp (se_mul (se_ix (se_var 5) se_int) (se_ix (se_var 5) se_int)) se_int) (se_one (se_cmp (op_eqD hr.units) o2_eq (se_blt call_abs oa_abs rfl T.z_abs (by decide +kernel) (sa_cons (se_sub (se_ix (se_var 5) se_int) (se_ix (se_var 5) se_int)) sa_nil)) se_int)))))))))))))))))
/-! ### _law_due: 0 _law_n, 1 _law_word, 2 _law_deed, 3 _law_k -/
abbrev s_law_due : Stmt := topS 34
abbrev n_law_due : List Str := ["_law_n", "_law_word", "_law_deed", "_law_k"]
theorem sc_law_due : FnScope n_law_due ["_law_n", "_law_word", "_law_deed"] (defScope s_law_due) := ⟨rfl, rfl, rfl, by decide +kernel, rfl, by decide +kernel, by decide +kernel⟩
@[irreducible] noncomputable def g_law_due : G := (gSeq (gIf (xB (x2 eqD (x2 ixD (xVar 2) (xC (.int 0))) (xC (.str "hang")))) (gRet (xIf (xB (x2 eqD (xLc (xSrc (x2 ixD (xVar 2) (xC (.int 1)))) (tgN 3) (xTOr (xB (x2 eqD (xVar 3) (xC (.int 0)))) (xB (x2 geD (xA absD (xCons (xVar 3) xNil)) (xVar 0)))) (xVar 3) [3]) (xLst xNil))) (xC (.str "")) (xC (.str "word")))) gNext)
  (gSeq (gIf (xB (x2 eqD (x2 ixD (xVar 2) (xC (.int 0))) (xC (.str "drop")))) (gRet (xIf (xB (xChain leD leD (xC (.int 0)) (x2 ixD (xVar 2) (xC (.int 1))) (xA lenD (xCons (xVar 1) xNil)))) (xC (.str "")) (xC (.str "move")))) gNext)
  (gRet (xIf (xB (xCall m_law_can (xCons (xVar 1) (xCons (xVar 0) (xCons (x2 ixD (xVar 2) (xC (.int 1))) xNil))))) (xC (.str "")) (xC (.str "move"))))))
--needs LoomD
noncomputable def m_law_due : List D → R D := mk (fun a : Int × List Int × Dd => [.int a.1, iL .fz a.2.1, eDd .fz a.2.2]) (fun a => 1 ≤ a.1 ∧ a.1 ≤ 7 ∧ Sm a.2.1 ∧ a.2.2.sm) (fun a => .ok (.str (if a.2.2.ok a.1 a.2.1 = true then "" else a.2.2.er)))
theorem m_law_due_eq {n : Int} {w : List Int} {d : Dd} (h1 : 1 ≤ n) (h2 : n ≤ 7) (h3 : Sm w) (h4 : d.sm) : m_law_due [.int n, iL .fz w, eDd .fz d] = .ok (.str (if d.ok n w = true then "" else d.er)) :=
  mk_eq (enc := fun a : Int × List Int × Dd => [.int a.1, iL .fz a.2.1, eDd .fz a.2.2]) (fun a b e => by
    simp only [List.cons.injEq, D.int.injEq, D.lst.injEq, enc_int_inj, true_and, and_true] at e
    exact Prod.ext e.1 (Prod.ext e.2.1 (eDd_inj e.2.2 rfl))) (n, w, d) ⟨h1, h2, h3, h4⟩
theorem h_law_due : ∀ ds, ds.length = 3 → D.stos ds = true → m_law_due ds ≠ .no → g_law_due (env0 n_law_due ds) (Out (m_law_due ds)) := mk_h fun ⟨n, w, d⟩ ⟨h1, h2, h3, h4⟩ => by
  show g_law_due [some (.int n), some (iL .fz w), some (eDd .fz d), none] (Out (.ok (.str (if d.ok n w = true then "" else d.er))))
  replace h1 : 1 ≤ n := h1
  replace h2 : n ≤ 7 := h2
  cases d with
  | hang v =>
    replace h4 : v.length ≤ 100000 := h4
    have e3 := lcR_enc (f := xVar 3) (c := xTOr (xB (x2 eqD (xVar 3) (xC (.int 0)))) (xB (x2 geD (xA absD (xCons (xVar 3) xNil)) (xVar 0)))) (tg := tgN 3) (vs := [3]) (env := [some (.int n), some (iL .fz w), some (eDd .fz (.hang v)), none]) (fa := D.int) (fb := D.int) v (fun k => decide (k = 0 ∨ n ≤ (k.natAbs : Int))) (fun k => k) (by omega) fun k _ => ⟨[some (.int n), some (iL .fz w), some (eDd .fz (.hang v)), some (.int k)], rfl, by
      by_cases c : k = 0 <;> simp -implicitDefEqProofs [c], fun _ => ⟨by simp -implicitDefEqProofs [], rfl⟩⟩
    have e4 : ((v.filter fun k => decide (k = 0 ∨ n ≤ (k.natAbs : Int))).map fun k => k) = v.filter fun k => decide (k = 0 ∨ n ≤ (k.natAbs : Int)) := List.map_id' _
    rw [e4] at e3
    have e5 : (v.filter fun k => decide (k = 0 ∨ n ≤ (k.natAbs : Int))) = [] ↔ WordB n v = true := by
      rw [List.filter_eq_nil_iff]
      simp [WordB, h1, h2]
    cases hb : WordB n v with
    | true =>
      have e6 := e5.mpr hb
      have e7 : ∀ a ∈ v, ¬ a = 0 ∧ (a.natAbs : Int) < n := by simpa [WordB, h1, h2] using hb
      simp -implicitDefEqProofs [g_law_due, Dd.kd, Dd.ptK, Dd.ok, Dd.er, e3, e6, hb]
      exact e7
    | false =>
      have e6 : ¬ (v.filter fun k => decide (k = 0 ∨ n ≤ (k.natAbs : Int))) = [] := fun z => by rw [e5.mp z] at hb; cases hb
      obtain ⟨x, hx⟩ := List.exists_mem_of_ne_nil _ e6
      rw [List.mem_filter, decide_eq_true_eq] at hx
      simp -implicitDefEqProofs [g_law_due, Dd.kd, Dd.ptK, Dd.ok, Dd.er, e3, e6, hb]
      exact ⟨x, hx.1, fun z => hx.2.elim (fun y => absurd y z) id⟩
  | drop m =>
    simp -implicitDefEqProofs [g_law_due, Dd.kd, Dd.ptK, Dd.ok, Dd.er]
    by_cases c1 : 0 ≤ m <;> by_cases c2 : m ≤ (w.length : Int) <;> simp [c1, c2] <;> omega
  | go m =>
    have e1 := m_law_can_eq (n := n) (m := m) h3
    cases hb : canZ n w m with
    | true =>
      have e2 : m_law_can [iL .fz w, .int n, eMv m] = .ok (.bl true) := by rw [← hb]; exact e1
      simp -implicitDefEqProofs [g_law_due, Dd.kd, Dd.ptK, Dd.ok, Dd.er, e2, hb]
    | false =>
      have e2 : m_law_can [iL .fz w, .int n, eMv m] = .ok (.bl false) := by rw [← hb]; exact e1
      simp -implicitDefEqProofs [g_law_due, Dd.kd, Dd.ptK, Dd.ok, Dd.er, e2, hb]

theorem ok_law_due {P : Program} {w : World} {K : PySem.W.Frag} {mg : Str → Option Value} {base : Heap} {cl : String → Addr} {f : Addr} {fd : FuncData} (T : Tb K mg cl) (X : Fx K mg "_law_due" s_law_due f fd ["_law_n", "_law_word", "_law_deed"]) {f_law_can : Addr} {fd_law_can : FuncData} (X_law_can : Fx K mg "_law_can" s_law_can f_law_can fd_law_can ["_law_word", "_law_n", "_law_deed"]) (G_law_can : FnOk P w K mg base (L2.CX P w) 1 f_law_can fd_law_can ["_law_word", "_law_n", "_law_deed"] (Ctr K cl 3 m_law_can)) :
    FnOk P w K mg base (L2.CX P w) 2 f fd ["_law_n", "_law_word", "_law_deed"] (Ctr K cl 3 m_law_due) :=
  okD X.F sc_law_due rfl (by decide) h_law_due fun cdv A outer s H E hr => by
    unfold g_law_due
    exact ((sss_cons (ss_if (st_cmp (op_eqD hr.units) o2_eq (se_ix (se_var 2) se_int) se_str) (sss_one (ss_ret (se_ifExp (st_cmp (op_eqD hr.units) o2_eq (se_lc [("_law_k", 3)] rfl sc_law_due.nd (si_list (se_ix (se_var 2) se_int)) (blkOk_by (N := n_law_due) (sc := (defScope s_law_due)) (by decide +kernel)) (fun _ _ _ _ _ => (pg_name (i := 3) sc_law_due.nd rfl (by first | exact Or.inl rfl | exact Or.inr rfl))) (fun _ _ _ _ _ => (spt_one (PW.pt (sw_or (st_cmp (op_eqD hr.units) o2_eq (se_var 3) se_int) (sw_or1 (st_cmp op_ge o2_cmp (se_blt call_abs oa_abs rfl T.z_abs (by decide +kernel) (sa_cons (se_var 3) sa_nil)) (se_var 0))))))) (fun _ _ _ _ _ => (se_var 3)) (te_name (j := 3) (by decide))) (se_lst sa_nil)) se_str se_str))) sss_nil)
  (sss_cons (ss_if (st_cmp (op_eqD hr.units) o2_eq (se_ix (se_var 2) se_int) se_str) (sss_one (ss_ret (se_ifExp (st_chain op_le o2_cmp op_le o2_cmp se_int (se_ix (se_var 2) se_int) (se_blt call_len oa_len rfl T.z_len (by decide +kernel) (sa_cons (se_var 1) sa_nil))) se_str se_str))) sss_nil)
  (sss_one (ss_ret (se_ifExp (st_val (se_call G_law_can hr (by decide) rfl X_law_can.g X_law_can.F.kp X_law_can.b (takesD (takes_of rfl rfl rfl rfl)) (sa_cons (se_var 1) (sa_cons (se_var 0) (sa_cons (se_ix (se_var 2) se_int) sa_nil))) (xa1 (xa1 (xa1 xa0))))) se_str se_str))))))
/-! ### _law_number: 0 _law_x -/
abbrev s_law_number : Stmt := topS 30
abbrev n_law_number : List Str := ["_law_x"]
theorem sc_law_number : FnScope n_law_number ["_law_x"] (defScope s_law_number) := ⟨rfl, rfl, rfl, by decide +kernel, rfl, by decide +kernel, by decide +kernel⟩
@[irreducible] noncomputable def g_law_number : G := (gRet (xAnd (x1 (isiD .int) (xVar 0)) (xNot (x1 (isiD .bool) (xVar 0)))))
--needs Eq
noncomputable def m_law_number : List D → R D
  | [x] => match numB x with | some b => .ok (.bl b) | none => .no
  | _ => .no
theorem m_law_number_eq {x : D} {b : Bool} (h : numB x = some b) : m_law_number [x] = .ok (.bl b) := by
  show (match numB x with | some b => R.ok (D.bl b) | none => R.no) = _
  rw [h]
theorem h_law_number : ∀ ds, ds.length = 1 → D.stos ds = true → m_law_number ds ≠ .no → g_law_number (env0 n_law_number ds) (Out (m_law_number ds)) := fun ds hl _ hn => by
  obtain ⟨x, rfl⟩ : ∃ x, ds = [x] := by
    match ds, hl with
    | [x], _ => exact ⟨x, rfl⟩
  show g_law_number [some x] (Out (m_law_number [x]))
  cases x with
  | exc c C => exact absurd rfl hn
  | dic k ks => exact absurd rfl hn
  | loc a => exact absurd rfl hn
  | obj w a C ns fs => exact absurd rfl hn
  | wit d o => exact absurd rfl hn
  | _ => rw [m_law_number_eq rfl]; simp -implicitDefEqProofs [g_law_number]

theorem ok_law_number {P : Program} {w : World} {K : PySem.W.Frag} {mg : Str → Option Value} {base : Heap} {cl : String → Addr} {f : Addr} {fd : FuncData} (T : Tb K mg cl) (X : Fx K mg "_law_number" s_law_number f fd ["_law_x"]) :
    FnOk P w K mg base (L2.CX P w) 1 f fd ["_law_x"] (Ctr K cl 1 m_law_number) :=
  okD X.F sc_law_number rfl (by decide) h_law_number fun cdv A outer s H E hr => by
    unfold g_law_number
    exact ((sss_one (ss_ret (se_and (se_isi .int rfl rfl T.z_isinstance rfl rfl T.z_int (by decide +kernel) (by decide +kernel) (se_var 0)) (se_one (se_not (se_isi .bool rfl rfl T.z_isinstance rfl rfl T.z_bool (by decide +kernel) (by decide +kernel) (se_var 0))))))))
/-! ### _law_equal: 0 _law_found, 1 _law_due_here, 2 _law_k -/
abbrev s_law_equal : Stmt := topS 31
abbrev n_law_equal : List Str := ["_law_found", "_law_due_here", "_law_k"]
theorem sc_law_equal : FnScope n_law_equal ["_law_found", "_law_due_here"] (defScope s_law_equal) := ⟨rfl, rfl, rfl, by decide +kernel, rfl, by decide +kernel, by decide +kernel⟩
@[irreducible] noncomputable def g_law_equal (mr : List D → R D) : G := (gSeq (gIf (xB (x2 isD (xVar 1) (xC .non))) (gRet (x2 isD (xVar 0) (xC .non))) gNext)
  (gSeq (gIf (xB (x1 (isiD .int) (xVar 1))) (gRet (xAnd (xCall m_law_number (xCons (xVar 0) xNil)) (x2 eqD (xVar 0) (xVar 1)))) gNext)
  (gSeq (gIf (xB (x1 (isiD .str) (xVar 1))) (gRet (xAnd (x1 (isiD .str) (xVar 0)) (x2 eqD (xVar 0) (xVar 1)))) gNext)
  (gSeq (gIf (xTAnd (xB (x1 (isiD .tuple) (xVar 1))) (xTNot (xB (x1 (isiD .tuple) (xVar 0))))) (gRet (xC (.bl false))) gNext)
  (gSeq (gIf (xTAnd (xB (x1 (isiD .list) (xVar 1))) (xTNot (xB (x1 (isiD .list) (xVar 0))))) (gRet (xC (.bl false))) gNext)
  (gSeq (gIf (xB (x2 neD (xA lenD (xCons (xVar 0) xNil)) (xA lenD (xCons (xVar 1) xNil)))) (gRet (xC (.bl false))) gNext)
  (gSeq (gFor (xRng1 (xA lenD (xCons (xVar 1) xNil))) (tgN 2) (gIf (xTNot (xB (xCall mr (xCons (x2 ixD (xVar 0) (xVar 2)) (xCons (x2 ixD (xVar 1) (xVar 2)) xNil))))) (gRet (xC (.bl false))) gNext))
  (gRet (xC (.bl true))))))))))
--rec 5
--needs Eq
noncomputable def m_law_equal : Nat → List D → R D
  | 0, _ => .no
  | d + 1, [x, y] => if okE d x = true ∧ okE d y = true then .ok (.bl (eqE x y)) else .no
  | _, _ => .no
theorem m_law_equal_eq {d : Nat} {x y : D} (hx : okE d x = true) (hy : okE d y = true) : m_law_equal (d + 1) [x, y] = .ok (.bl (eqE x y)) := if_pos ⟨hx, hy⟩
/-- the walk over two lists or tuples of one length -/
theorem eq_walk {d : Nat} {X Y : D} {xs ys : List D} (hX : ∀ i, ixD X (.int i) = L2.atI xs i) (hY : ∀ i, ixD Y (.int i) = L2.atI ys i) (lY : lenD [Y] = some (.int ys.length)) (bX : X.bor = X) (bY : Y.bor = Y) (ox : okEs d xs = true) (oy : okEs d ys = true) (hl : xs.length = ys.length) (hn : (ys.length : Int) ≤ 1000000) (hne : X = Y ↔ xs = ys) :
    True ∧ gSeq (gFor (xRng1 (xA lenD (xCons (xVar 1) xNil))) (tgN 2) (gIf (xTNot (xB (xCall (m_law_equal (d + 1)) (xCons (x2 ixD (xVar 0) (xVar 2)) (xCons (x2 ixD (xVar 1) (xVar 2)) xNil))))) (gRet (xC (.bl false))) gNext)) (gRet (xC (.bl true))) [some X, some Y, none] (Out (.ok (.bl (eqE X Y)))) := by
  refine ⟨trivial, ?_⟩
  simp -implicitDefEqProofs [lY, bX, bY, show (ys.length : Int) < 4611686018427387904 by omega, show (-4611686018427387904 : Int) ≤ ys.length by omega]
  refine lp_rng0 (fun i env => ∃ z, env = [some X, some Y, z] ∧ ∀ j, j < i → xs[j]? = ys[j]?) ⟨none, rfl, fun j h => absurd h (Nat.not_lt_zero _)⟩ ?_ ?_
  · rintro i _ K hi ⟨z, rfl, hj⟩ ih
    obtain ⟨a, ha⟩ : ∃ a, xs[i]? = some a := ⟨_, List.getElem?_eq_getElem (by omega)⟩
    obtain ⟨b, hb⟩ : ∃ b, ys[i]? = some b := ⟨_, List.getElem?_eq_getElem (by omega)⟩
    have oa := okEs_get ox ha
    have ob := okEs_get oy hb
    obtain ⟨a1, a2, a3⟩ := okE_props d a oa
    obtain ⟨b1, b2, b3⟩ := okE_props d b ob
    have e := m_law_equal_eq oa ob
    cases hab : eqE a b with
    | true =>
      rw [hab] at e
      have hab' := eqE_iff.mp hab
      simp -implicitDefEqProofs [bX, bY, hX, hY, atI_natc, ha, hb, a1, a2, a3, b1, b2, b3, e]
      refine ih _ ⟨_, rfl, fun j hj' => ?_⟩
      by_cases q : j = i
      · subst q; rw [ha, hb, hab']
      · exact hj j (by omega)
    | false =>
      rw [hab] at e
      have hXY : eqE X Y = false := eqE_ne fun q => by
        rw [hne.mp q, hb] at ha
        injection ha with ha
        rw [ha, eqE_self] at hab
        cases hab
      simp -implicitDefEqProofs [bX, bY, hX, hY, atI_natc, ha, hb, a1, a2, a3, b1, b2, b3, e, hXY]
  · rintro _ ⟨z, rfl, hj⟩
    have : X = Y := hne.mpr (List.ext_getElem? fun j => by
      by_cases q : j < ys.length
      · exact hj j q
      · rw [List.getElem?_eq_none (by omega), List.getElem?_eq_none (by omega)])
    simp -implicitDefEqProofs [this, eqE_self]
theorem h_law_equal : ∀ d ds, ds.length = 2 → D.stos ds = true → m_law_equal (d + 1) ds ≠ .no → g_law_equal (m_law_equal d) (env0 n_law_equal ds) (Out (m_law_equal (d + 1) ds)) := fun d ds hl _ hn => by
  obtain ⟨x, y, rfl⟩ : ∃ x y, ds = [x, y] := by
    match ds, hl with
    | [x, y], _ => exact ⟨x, y, rfl⟩
  by_cases h : okE d x = true ∧ okE d y = true
  · obtain ⟨hx, hy⟩ := h
    rw [m_law_equal_eq hx hy]
    have hxx := hx
    show g_law_equal (m_law_equal d) [some x, some y, none] _
    have hnum := m_law_number_eq (okE_num hx)
    obtain ⟨x1, x2, x3⟩ := okE_props d x hx
    obtain ⟨y1, y2, y3⟩ := okE_props d y hy
    cases y with
    | bl b => cases d <;> cases hy
    | exc c C => cases d <;> cases hy
    | dic _ _ => cases d <;> cases hy
    | loc _ => cases d <;> cases hy
    | obj _ _ _ _ _ => cases d <;> cases hy
    | wit _ _ => cases d <;> cases hy
    | non =>
      cases x with
      | non => simp -implicitDefEqProofs [g_law_equal, eqE_self]
      | bl b => cases d <;> cases hx
      | exc c C => cases d <;> cases hx
      | dic _ _ => cases d <;> cases hx
      | loc _ => cases d <;> cases hx
      | obj _ _ _ _ _ => cases d <;> cases hx
      | wit _ _ => cases d <;> cases hx
      | _ => simp -implicitDefEqProofs [g_law_equal, x1, eqE]
    | int i =>
      cases x with
      | bl b => cases d <;> cases hx
      | exc c C => cases d <;> cases hx
      | dic _ _ => cases d <;> cases hx
      | loc _ => cases d <;> cases hx
      | obj _ _ _ _ _ => cases d <;> cases hx
      | wit _ _ => cases d <;> cases hx
      | int j => simp -implicitDefEqProofs [g_law_equal, hnum, isIntD, eqE_of (a := .int j) (b := .int i) (p := j = i) (by simp)]
      | _ => simp -implicitDefEqProofs [g_law_equal, x1, x2, x3, hnum, isIntD, eqE]
    | str s =>
      cases x with
      | bl b => cases d <;> cases hx
      | exc c C => cases d <;> cases hx
      | dic _ _ => cases d <;> cases hx
      | loc _ => cases d <;> cases hx
      | obj _ _ _ _ _ => cases d <;> cases hx
      | wit _ _ => cases d <;> cases hx
      | str t =>
        rw [okE_str] at hx hy
        simp -implicitDefEqProofs [g_law_equal, eqD_of ((CD.str (n := 0) t hx).ok (by decide)) ((CD.str (n := 0) s hy).ok (by decide)), eqE_of (a := .str t) (b := .str s) (p := t = s) (by simp)]
      | _ => simp -implicitDefEqProofs [g_law_equal, x1, eqE]
    | tup ys =>
      cases x with
      | bl b => cases d <;> cases hx
      | exc c C => cases d <;> cases hx
      | dic _ _ => cases d <;> cases hx
      | loc _ => cases d <;> cases hx
      | obj _ _ _ _ _ => cases d <;> cases hx
      | wit _ _ => cases d <;> cases hx
      | tup xs =>
        cases d with
        | zero => cases hx
        | succ d =>
          rw [okE_tup, Bool.and_eq_true] at hx hy
          have hw := eq_walk (d := d) (X := .tup xs) (Y := .tup ys) (xs := xs) (ys := ys) (ixD_tup xs) (ixD_tup ys) (lenD_tup ys) x1 y1 hx.2 hy.2
          by_cases hl : xs.length = ys.length
          · obtain ⟨-, hw⟩ := hw hl (by have := of_decide_eq_true hy.1; omega) (by simp)
            unfold g_law_equal
            simp only [dbor_tup, D.tup.injEq] at x1 y1
            simp -implicitDefEqProofs [-gFor_eq, x1, y1, hl] at hw ⊢
            assumption
          · have : ¬ (xs.length : Int) = ys.length := by omega
            have hne : D.tup xs ≠ D.tup ys := fun z => hl (by injection z with z; rw [z])
            simp only [dbor_tup, D.tup.injEq] at x1 y1
            simp -implicitDefEqProofs [g_law_equal, x1, y1, this, eqE_ne hne]
      | _ => simp -implicitDefEqProofs [g_law_equal, eqE]
    | lst k ys =>
      cases x with
      | bl b => cases d <;> cases hx
      | exc c C => cases d <;> cases hx
      | dic _ _ => cases d <;> cases hx
      | loc _ => cases d <;> cases hx
      | obj _ _ _ _ _ => cases d <;> cases hx
      | wit _ _ => cases d <;> cases hx
      | lst k' xs =>
        cases d with
        | zero => cases k' <;> cases hx
        | succ d =>
          cases k with
          | fz =>
            cases k' with
            | fz =>
              rw [okE_lst, Bool.and_eq_true] at hx hy
              have hw := eq_walk (d := d) (X := .lst .fz xs) (Y := .lst .fz ys) (xs := xs) (ys := ys) (ixD_lst .fz xs) (ixD_lst .fz ys) (lenD_lst .fz ys) x1 y1 hx.2 hy.2
              by_cases hl : xs.length = ys.length
              · obtain ⟨-, hw⟩ := hw hl (by have := of_decide_eq_true hy.1; omega) (by simp)
                unfold g_law_equal
                simp only [dbor_lst, bor_fz, D.lst.injEq, true_and] at x1 y1
                simp -implicitDefEqProofs [-gFor_eq, x1, y1, hl] at hw ⊢
                assumption
              · have : ¬ (xs.length : Int) = ys.length := by omega
                have hne : D.lst .fz xs ≠ D.lst .fz ys := fun z => hl (by injection z with _ z; rw [z])
                simp only [dbor_lst, bor_fz, D.lst.injEq, true_and] at x1 y1
                simp -implicitDefEqProofs [g_law_equal, x1, y1, this, eqE_ne hne]
            | _ => cases hx
          | _ => cases hy
      | _ => simp -implicitDefEqProofs [g_law_equal, eqE]
  · exact absurd (if_neg h) hn

theorem ok_law_equal {P : Program} {w : World} {K : PySem.W.Frag} {mg : Str → Option Value} {base : Heap} {cl : String → Addr} {f : Addr} {fd : FuncData} (T : Tb K mg cl) (X_law_equal : Fx K mg "_law_equal" s_law_equal f fd ["_law_found", "_law_due_here"]) {f_law_number : Addr} {fd_law_number : FuncData} (X_law_number : Fx K mg "_law_number" s_law_number f_law_number fd_law_number ["_law_x"]) (G_law_number : FnOk P w K mg base (L2.CX P w) 1 f_law_number fd_law_number ["_law_x"] (Ctr K cl 1 m_law_number)) {d : Nat} (G_law_equal : FnOk P w K mg base (L2.CX P w) (1 + d) f fd ["_law_found", "_law_due_here"] (Ctr K cl 2 (m_law_equal d))) :
    FnOk P w K mg base (L2.CX P w) (1 + d + 1) f fd ["_law_found", "_law_due_here"] (Ctr K cl 2 (m_law_equal (d + 1))) :=
  okD X_law_equal.F sc_law_equal rfl (by decide) (h_law_equal d) fun cdv A outer s H E hr => by
    unfold g_law_equal
    exact ((sss_cons (ss_if (st_cmp op_isD o2_is (se_var 1) se_non) (sss_one (ss_ret (se_cmp op_isD o2_is (se_var 0) se_non))) sss_nil)
  (sss_cons (ss_if (st_val (se_isi .int rfl rfl T.z_isinstance rfl rfl T.z_int (by decide +kernel) (by decide +kernel) (se_var 1))) (sss_one (ss_ret (se_and (se_call G_law_number hr (by omega) rfl X_law_number.g X_law_number.F.kp X_law_number.b (takesD (takes_of rfl rfl rfl rfl)) (sa_cons (se_var 0) sa_nil) (xa1 xa0)) (se_one (se_cmp (op_eqD hr.units) o2_eq (se_var 0) (se_var 1)))))) sss_nil)
  (sss_cons (ss_if (st_val (se_isi .str rfl rfl T.z_isinstance rfl rfl T.z_str (by decide +kernel) (by decide +kernel) (se_var 1))) (sss_one (ss_ret (se_and (se_isi .str rfl rfl T.z_isinstance rfl rfl T.z_str (by decide +kernel) (by decide +kernel) (se_var 0)) (se_one (se_cmp (op_eqD hr.units) o2_eq (se_var 0) (se_var 1)))))) sss_nil)
  (sss_cons (ss_if (PW.pt (sw_and (st_val (se_isi .tuple rfl rfl T.z_isinstance rfl rfl T.z_tuple (by decide +kernel) (by decide +kernel) (se_var 1))) (sw_and1 (st_not (st_val (se_isi .tuple rfl rfl T.z_isinstance rfl rfl T.z_tuple (by decide +kernel) (by decide +kernel) (se_var 0))))))) (sss_one (ss_ret se_bl)) sss_nil)
  (sss_cons (ss_if (PW.pt (sw_and (st_val (se_isi .list rfl rfl T.z_isinstance rfl rfl T.z_list (by decide +kernel) (by decide +kernel) (se_var 1))) (sw_and1 (st_not (st_val (se_isi .list rfl rfl T.z_isinstance rfl rfl T.z_list (by decide +kernel) (by decide +kernel) (se_var 0))))))) (sss_one (ss_ret se_bl)) sss_nil)
  (sss_cons (ss_if (st_cmp (op_neD hr.units) o2_ne (se_blt call_len oa_len rfl T.z_len (by decide +kernel) (sa_cons (se_var 0) sa_nil)) (se_blt call_len oa_len rfl T.z_len (by decide +kernel) (sa_cons (se_var 1) sa_nil))) (sss_one (ss_ret se_bl)) sss_nil)
  (sss_cons (ss_for (passes_of rfl) rfl (si_rng1 rfl T.z_range (se_blt call_len oa_len rfl T.z_len (by decide +kernel) (sa_cons (se_var 1) sa_nil))) (pg_name (i := 2) sc_law_equal.nd rfl (by first | exact Or.inl rfl | exact Or.inr rfl)) ts_name (sss_one (ss_if (st_not (st_val (se_call G_law_equal hr (by omega) rfl X_law_equal.g X_law_equal.F.kp X_law_equal.b (takesD (takes_of rfl rfl rfl rfl)) (sa_cons (se_ix (se_var 0) (se_var 2)) (sa_cons (se_ix (se_var 1) (se_var 2)) sa_nil)) (xa1 (xa1 xa0))))) (sss_one (ss_ret se_bl)) sss_nil)))
  (sss_one (ss_ret se_bl))))))))))
/-! ### Loom.hang: 0 self, 1 word -/
abbrev s_Loom_hang : Stmt := inClass (topS 20) 1
abbrev n_Loom_hang : List Str := ["self", "word"]
theorem sc_Loom_hang : FnScope n_Loom_hang ["self", "word"] (defScope s_Loom_hang) := ⟨rfl, rfl, rfl, by decide +kernel, rfl, by decide +kernel, by decide +kernel⟩
@[irreducible] noncomputable def g_Loom_hang (cl : String → Addr) : G := (gSeq (gDrop (xCall m_checked (xCons (xFld (cl "Loom") 0 "strings") (xCons (xVar 1) xNil))))
  (gSeq (gMvSet (cl "Loom") 0 "hung" "past" (x2 addD (xFld (cl "Loom") 0 "hung") (xVar 1)))
  gNext))
--cl
--obj 1
--needs Loom
noncomputable def m_Loom_hang (cl : String → Addr) : List D → R D := mk (fun a : (Addr × Int × List Int) × List (List Int) × List Int => [lm .ow (cl "Loom") a.1.1 a.1.2.1 a.1.2.2 a.2.1, iL .fz a.2.2]) (fun a => a.2.1.length ≤ 10000 ∧ a.1.2.2.length + a.2.2.length ≤ 16777216) (fun a => if WordB a.1.2.1 a.2.2 = true then .ok (.wit .non [lm .ow (cl "Loom") a.1.1 a.1.2.1 (a.1.2.2 ++ a.2.2) (a.2.1 ++ [a.1.2.2])]) else .er "NoWord")
theorem m_Loom_hang_eq (cl : String → Addr) {a : Addr} {n : Int} {w v : List Int} {past : List (List Int)} (h1 : past.length ≤ 10000) (h2 : w.length + v.length ≤ 16777216) : m_Loom_hang cl [lm .ow (cl "Loom") a n w past, iL .fz v] = if WordB n v = true then .ok (.wit .non [lm .ow (cl "Loom") a n (w ++ v) (past ++ [w])]) else .er "NoWord" :=
  mk_eq (enc := fun a : (Addr × Int × List Int) × List (List Int) × List Int => [lm .ow (cl "Loom") a.1.1 a.1.2.1 a.1.2.2 a.2.1, iL .fz a.2.2]) (fun a b e => by
    simp at e
    obtain ⟨q1, q2, q3, q4⟩ := lm_inj e.1
    exact Prod.ext (Prod.ext q1 (Prod.ext q2 q3)) (Prod.ext q4 e.2)) ((a, n, w), past, v) ⟨h1, h2⟩
theorem h_Loom_hang (cl : String → Addr) : ∀ ds, ds.length = 2 → D.stos ds = true → isOs (ds.take 1) = true → m_Loom_hang cl ds ≠ .no → g_Loom_hang cl (env0 n_Loom_hang ds) (OutW 1 (ds.take 1) (m_Loom_hang cl ds)) := mk_hW fun ⟨⟨a, n, w⟩, past, v⟩ ⟨h1, h2⟩ => by
  show g_Loom_hang cl [some (lm .ow (cl "Loom") a n w past), some (iL .fz v)] (OutW 1 [lm .ow (cl "Loom") a n w past] (if WordB n v = true then .ok (.wit .non [lm .ow (cl "Loom") a n (w ++ v) (past ++ [w])]) else .er "NoWord"))
  replace h1 : past.length ≤ 10000 := h1
  replace h2 : w.length + v.length ≤ 16777216 := h2
  have e1 := m_checked_eq n v
  cases hw : WordB n v with
  | false =>
    rw [hw] at e1
    simp -implicitDefEqProofs [g_Loom_hang, e1]
  | true =>
    rw [hw] at e1
    simp -implicitDefEqProofs [g_Loom_hang, e1]
    rw [lm_mv (a := a) (n := n) (w := w) (past := past) (v := w ++ v) rfl (by omega) (by simp -implicitDefEqProofs []; simp [h2])]
    simp -implicitDefEqProofs []

theorem ok_Loom_hang {P : Program} {w : World} {K : PySem.W.Frag} {mg : Str → Option Value} {base : Heap} {cl : String → Addr} {f : Addr} {fd : FuncData} (T : Tb K mg cl) (X : Mx K "hang" "Loom.hang" s_Loom_hang (cl "Loom") f fd ["self", "word"]) {f_checked : Addr} {fd_checked : FuncData} (X_checked : Fx K mg "checked" s_checked f_checked fd_checked ["n", "word"]) (G_checked : FnOk P w K mg base (L2.CX P w) 1 f_checked fd_checked ["n", "word"] (Ctr K cl 2 m_checked)) :
    FnOk P w K mg base (L2.CX P w) 2 f fd ["self", "word"] (CtrW K cl 2 1 (m_Loom_hang cl)) :=
  okDW 1 X.F sc_Loom_hang rfl (by decide) (h_Loom_hang cl) fun cdv A outer s H E hr => by
    unfold g_Loom_hang
    exact ((sss_cons (ss_drop (se_call G_checked hr (by decide) rfl X_checked.g X_checked.F.kp X_checked.b (takesD (takes_of rfl rfl rfl rfl)) (sa_cons (se_fld (cl "Loom") 0 (pv 0) T.o_Loom T.n_Loom_strings) (sa_cons (se_var 1) sa_nil)) (xa1 (xa1 xa0))))
  (sss_mvSet (cl "Loom") 0 (pv 0) (pv 0) (pv 0) T.o_Loom T.n_Loom_hung T.n_Loom_past (se_add (se_fld (cl "Loom") 0 (pv 0) T.o_Loom T.n_Loom_hung) (se_var 1))
  sss_nil)))
/-! ### Loom.drop: 0 self, 1 many -/
abbrev s_Loom_drop : Stmt := inClass (topS 20) 2
abbrev n_Loom_drop : List Str := ["self", "many"]
theorem sc_Loom_drop : FnScope n_Loom_drop ["self", "many"] (defScope s_Loom_drop) := ⟨rfl, rfl, rfl, by decide +kernel, rfl, by decide +kernel, by decide +kernel⟩
@[irreducible] noncomputable def g_Loom_drop (cl : String → Addr) : G := (gSeq (gIf (xTNot (xB (xChain leD leD (xC (.int 0)) (xVar 1) (xA lenD (xCons (xFld (cl "Loom") 0 "hung") xNil))))) (gRaise "NoMove") gNext)
  (gSeq (gMvSet (cl "Loom") 0 "hung" "past" (xSl (xFld (cl "Loom") 0 "hung") xP0 (xP1 (x2 subD (xA lenD (xCons (xFld (cl "Loom") 0 "hung") xNil)) (xVar 1)))))
  gNext))
--cl
--obj 1
--needs Loom
noncomputable def m_Loom_drop (cl : String → Addr) : List D → R D := mk (fun a : (Addr × Int × List Int) × List (List Int) × Int => [lm .ow (cl "Loom") a.1.1 a.1.2.1 a.1.2.2 a.2.1, .int a.2.2]) (fun a => a.2.1.length ≤ 10000) (fun a => if 0 ≤ a.2.2 ∧ a.2.2 ≤ a.1.2.2.length then .ok (.wit .non [lm .ow (cl "Loom") a.1.1 a.1.2.1 (a.1.2.2.take (a.1.2.2.length - a.2.2.toNat)) (a.2.1 ++ [a.1.2.2])]) else .er "NoMove")
theorem m_Loom_drop_eq (cl : String → Addr) {a : Addr} {n : Int} {w : List Int} {past : List (List Int)} (h1 : past.length ≤ 10000) (m : Int) : m_Loom_drop cl [lm .ow (cl "Loom") a n w past, .int m] = if 0 ≤ m ∧ m ≤ w.length then .ok (.wit .non [lm .ow (cl "Loom") a n (w.take (w.length - m.toNat)) (past ++ [w])]) else .er "NoMove" :=
  mk_eq (enc := fun a : (Addr × Int × List Int) × List (List Int) × Int => [lm .ow (cl "Loom") a.1.1 a.1.2.1 a.1.2.2 a.2.1, .int a.2.2]) (fun a b e => by
    simp at e
    obtain ⟨q1, q2, q3, q4⟩ := lm_inj e.1
    exact Prod.ext (Prod.ext q1 (Prod.ext q2 q3)) (Prod.ext q4 e.2)) ((a, n, w), past, m) h1
theorem h_Loom_drop (cl : String → Addr) : ∀ ds, ds.length = 2 → D.stos ds = true → isOs (ds.take 1) = true → m_Loom_drop cl ds ≠ .no → g_Loom_drop cl (env0 n_Loom_drop ds) (OutW 1 (ds.take 1) (m_Loom_drop cl ds)) := mk_hW fun ⟨⟨a, n, w⟩, past, m⟩ h1 => by
  show g_Loom_drop cl [some (lm .ow (cl "Loom") a n w past), some (.int m)] (OutW 1 [lm .ow (cl "Loom") a n w past] (if 0 ≤ m ∧ m ≤ w.length then .ok (.wit .non [lm .ow (cl "Loom") a n (w.take (w.length - m.toNat)) (past ++ [w])]) else .er "NoMove"))
  replace h1 : past.length ≤ 10000 := h1
  by_cases c1 : 0 ≤ m
  · by_cases c2 : m ≤ (w.length : Int)
    · rw [if_pos ⟨c1, c2⟩]
      obtain ⟨k, rfl⟩ := Int.eq_ofNat_of_zero_le c1
      have hk : k ≤ w.length := by omega
      have e2 : ((w.length : Int) - (k : Int)) = ((w.length - k : Nat) : Int) := by omega
      simp -implicitDefEqProofs [g_Loom_drop, c1, c2]
      rw [lm_mv (a := a) (n := n) (w := w) (past := past) (v := w.take (w.length - k)) rfl (by omega) (by simp -implicitDefEqProofs [e2])]
      simp -implicitDefEqProofs []
    · rw [if_neg (fun z => c2 z.2)]
      simp -implicitDefEqProofs [g_Loom_drop, c1, c2]
  · rw [if_neg (fun z => c1 z.1)]
    simp -implicitDefEqProofs [g_Loom_drop, c1]

theorem ok_Loom_drop {P : Program} {w : World} {K : PySem.W.Frag} {mg : Str → Option Value} {base : Heap} {cl : String → Addr} {f : Addr} {fd : FuncData} (T : Tb K mg cl) (X : Mx K "drop" "Loom.drop" s_Loom_drop (cl "Loom") f fd ["self", "many"]) :
    FnOk P w K mg base (L2.CX P w) 1 f fd ["self", "many"] (CtrW K cl 2 1 (m_Loom_drop cl)) :=
  okDW 1 X.F sc_Loom_drop rfl (by decide) (h_Loom_drop cl) fun cdv A outer s H E hr => by
    unfold g_Loom_drop
    exact ((sss_cons (ss_if (st_not (st_chain op_le o2_cmp op_le o2_cmp se_int (se_var 1) (se_blt call_len oa_len rfl T.z_len (by decide +kernel) (sa_cons (se_fld (cl "Loom") 0 (pv 0) T.o_Loom T.n_Loom_hung) sa_nil)))) (sss_one (ss_raise T.e_NoMove T.gc_NoMove rfl (takesD (takes_of rfl rfl rfl rfl)) rfl)) sss_nil)
  (sss_mvSet (cl "Loom") 0 (pv 0) (pv 0) (pv 0) T.o_Loom T.n_Loom_hung T.n_Loom_past (se_slice (se_fld (cl "Loom") 0 (pv 0) T.o_Loom T.n_Loom_hung) so_none (so_some (se_sub (se_blt call_len oa_len rfl T.z_len (by decide +kernel) (sa_cons (se_fld (cl "Loom") 0 (pv 0) T.o_Loom T.n_Loom_hung) sa_nil)) (se_var 1))))
  sss_nil)))
/-! ### move_at: 0 word, 1 p, 2 here -/
abbrev s_move_at : Stmt := topS 16
abbrev n_move_at : List Str := ["word", "p", "here"]
theorem sc_move_at : FnScope n_move_at ["word", "p"] (defScope s_move_at) := ⟨rfl, rfl, rfl, by decide +kernel, rfl, by decide +kernel, by decide +kernel⟩
@[irreducible] noncomputable def g_move_at : G := (gSeq (gAsg 2 (xSl (xVar 0) (xP1 (xVar 1)) (xP1 (x2 addD (xVar 1) (xC (.int 3))))))
  (gSeq (gIf (xB (x2 ltD (xA lenD (xCons (xVar 2) xNil)) (xC (.int 2)))) (gRet (xC .non)) gNext)
  (gSeq (gIf (xB (x2 eqD (x2 ixD (xVar 2) (xC (.int 0))) (x1 negD (x2 ixD (xVar 2) (xC (.int 1)))))) (gRet (xTup (xCons (xC (.str "out")) (xCons (xVar 1) xNil)))) gNext)
  (gSeq (gIf (xB (x2 gtD (xA absD (xCons (x2 subD (xA absD (xCons (x2 ixD (xVar 2) (xC (.int 0))) xNil)) (xA absD (xCons (x2 ixD (xVar 2) (xC (.int 1))) xNil))) xNil)) (xC (.int 1)))) (gRet (xTup (xCons (xC (.str "far")) (xCons (xVar 1) xNil)))) gNext)
  (gSeq (gIf (xTAnd (xB (x2 eqD (xA lenD (xCons (xVar 2) xNil)) (xC (.int 3)))) (xTAnd (xB (x2 eqD (x2 ixD (xVar 2) (xC (.int 0))) (x2 ixD (xVar 2) (xC (.int 2))))) (xTAnd (xB (x2 gtD (x2 mulD (x2 ixD (xVar 2) (xC (.int 0))) (x2 ixD (xVar 2) (xC (.int 1)))) (xC (.int 0)))) (xB (x2 eqD (xA absD (xCons (x2 subD (x2 ixD (xVar 2) (xC (.int 0))) (x2 ixD (xVar 2) (xC (.int 1)))) xNil)) (xC (.int 1))))))) (gRet (xTup (xCons (xC (.str "near")) (xCons (xVar 1) xNil)))) gNext)
  (gRet (xC .non)))))))
--needs Moves
noncomputable def m_move_at : List D → R D := mk (fun a : List Int × Nat => [iL .fz a.1, .int (a.2 : Nat)]) (fun a => Sm a.1) (fun a => .ok (eO eMv (atZ a.1 a.2)))
theorem m_move_at_eq {w : List Int} {p : Nat} (h1 : Sm w) : m_move_at [iL .fz w, .int (p : Nat)] = .ok (eO eMv (atZ w p)) :=
  mk_eq (enc := fun a : List Int × Nat => [iL .fz a.1, .int (a.2 : Nat)]) (fun a b e => by simp at e; exact Prod.ext e.1 (by omega)) (w, p) h1
theorem h_move_at : ∀ ds, ds.length = 2 → D.stos ds = true → m_move_at ds ≠ .no → g_move_at (env0 n_move_at ds) (Out (m_move_at ds)) := mk_h fun ⟨w, p⟩ h1 => by
  show g_move_at [some (iL .fz w), some (.int (p : Nat)), none] (Out (.ok (eO eMv (atZ w p))))
  replace h1 : Sm w := h1
  have hc : (cutL w (some (p : Int)) (some ((p : Int) + 3))) = (w.drop p).take 3 := by simp
  rcases hd : w.drop p with _ | ⟨a, _ | ⟨b, r⟩⟩
  · rw [hd] at hc
    simp -implicitDefEqProofs [g_move_at, hc, atZ, outQ, farQ, nearQ, hd]
  · rw [hd] at hc
    simp -implicitDefEqProofs [g_move_at, hc, atZ, outQ, farQ, nearQ, hd]
  · have ha := h1.drop hd
    by_cases e1 : a = -b
    · rcases r with _ | ⟨c, r⟩ <;> rw [hd] at hc <;> simp -implicitDefEqProofs [g_move_at, hc, atZ, outQ, farQ, nearQ, hd, e1, eMv] <;> omega
    · by_cases e2 : 1 < (((a.natAbs : Int) - b.natAbs).natAbs : Int)
      · have e2' : FarQ a b := e2
        rcases r with _ | ⟨c, r⟩ <;> rw [hd] at hc <;> simp -implicitDefEqProofs [g_move_at, hc, atZ, outQ, farQ, nearQ, hd, e1, e2, e2', eMv] <;> omega
      · have e2' : ¬ FarQ a b := e2
        rcases r with _ | ⟨c, r⟩
        · rw [hd] at hc
          simp -implicitDefEqProofs [g_move_at, hc, atZ, outQ, farQ, nearQ, hd, e1, e2, e2', eMv]
        · rw [hd] at hc
          by_cases e3 : a = c
          · subst e3
            by_cases e4 : 0 < a * b
            · by_cases e5 : ((a - b).natAbs : Int) = 1
              · simp -implicitDefEqProofs [g_move_at, hc, atZ, outQ, farQ, nearQ, hd, e1, e2, e2', eMv, NearQ, e4, e5, ha]
                try omega
              · simp -implicitDefEqProofs [g_move_at, hc, atZ, outQ, farQ, nearQ, hd, e1, e2, e2', eMv, NearQ, e4, e5, ha]
                try omega
            · simp -implicitDefEqProofs [g_move_at, hc, atZ, outQ, farQ, nearQ, hd, e1, e2, e2', eMv, NearQ, e4, ha]
          · simp -implicitDefEqProofs [g_move_at, hc, atZ, outQ, farQ, nearQ, hd, e1, e2, e2', eMv, NearQ, e3, ha]

theorem ok_move_at {P : Program} {w : World} {K : PySem.W.Frag} {mg : Str → Option Value} {base : Heap} {cl : String → Addr} {f : Addr} {fd : FuncData} (T : Tb K mg cl) (X : Fx K mg "move_at" s_move_at f fd ["word", "p"]) :
    FnOk P w K mg base (L2.CX P w) 1 f fd ["word", "p"] (Ctr K cl 2 m_move_at) :=
  okD X.F sc_move_at rfl (by decide) h_move_at fun cdv A outer s H E hr => by
    unfold g_move_at
    exact ((sss_cons (ss_set 2 sc_move_at.nd (se_slice (se_var 0) (so_some (se_var 1)) (so_some (se_add (se_var 1) se_int))))
  (sss_cons (ss_if (st_cmp op_lt o2_cmp (se_blt call_len oa_len rfl T.z_len (by decide +kernel) (sa_cons (se_var 2) sa_nil)) se_int) (sss_one (ss_ret se_non)) sss_nil)
  (sss_cons (ss_if (st_cmp (op_eqD hr.units) o2_eq (se_ix (se_var 2) se_int) (se_neg (se_ix (se_var 2) se_int))) (sss_one (ss_ret (se_tup (sa_cons se_str (sa_cons (se_var 1) sa_nil))))) sss_nil)
  (sss_cons (ss_if (st_cmp op_gt o2_cmp (se_blt call_abs oa_abs rfl T.z_abs (by decide +kernel) (sa_cons (se_sub (se_blt call_abs oa_abs rfl T.z_abs (by decide +kernel) (sa_cons (se_ix (se_var 2) se_int) sa_nil)) (se_blt call_abs oa_abs rfl T.z_abs (by decide +kernel) (sa_cons (se_ix (se_var 2) se_int) sa_nil))) sa_nil)) se_int) (sss_one (ss_ret (se_tup (sa_cons se_str (sa_cons (se_var 1) sa_nil))))) sss_nil)
  (sss_cons (ss_if (PW.pt (sw_and (st_cmp (op_eqD hr.units) o2_eq (se_blt call_len oa_len rfl T.z_len (by decide +kernel) (sa_cons (se_var 2) sa_nil)) se_int) (sw_and (st_cmp (op_eqD hr.units) o2_eq (se_ix (se_var 2) se_int) (se_ix (se_var 2) se_int)) (sw_and (st_cmp op_gt o2_cmp (se_mul (se_ix (se_var 2) se_int) (se_ix (se_var 2) se_int)) se_int) (sw_and1 (st_cmp (op_eqD hr.units) o2_eq (se_blt call_abs oa_abs rfl T.z_abs (by decide +kernel) (sa_cons (se_sub (se_ix (se_var 2) se_int) (se_ix (se_var 2) se_int)) sa_nil)) se_int)))))) (sss_one (ss_ret (se_tup (sa_cons se_str (sa_cons (se_var 1) sa_nil))))) sss_nil)
  (sss_one (ss_ret se_non))))))))
/-! ### can_move: 0 n, 1 word, 2 move, 3 p -/
abbrev s_can_move : Stmt := topS 17
abbrev n_can_move : List Str := ["n", "word", "move", "p"]
theorem sc_can_move : FnScope n_can_move ["n", "word", "move"] (defScope s_can_move) := ⟨rfl, rfl, rfl, by decide +kernel, rfl, by decide +kernel, by decide +kernel⟩
@[irreducible] noncomputable def g_can_move : G := (gSeq (gAsg 3 (x2 ixD (xVar 2) (xC (.int 1))))
  (gSeq (gIf (xTOr (xB (x2 ltD (xVar 3) (xC (.int 0)))) (xB (x2 gtD (xVar 3) (xA lenD (xCons (xVar 1) xNil))))) (gRet (xC (.bl false))) gNext)
  (gSeq (gIf (xB (x2 eqD (x2 ixD (xVar 2) (xC (.int 0))) (xC (.str "in")))) (gRet (xChain ltD ltD (xC (.int 0)) (xA absD (xCons (x2 ixD (xVar 2) (xC (.int 2))) xNil)) (xVar 0))) gNext)
  (gRet (x2 eqD (xCall m_move_at (xCons (xVar 1) (xCons (xVar 3) xNil))) (xVar 2))))))
--needs Moves
noncomputable def m_can_move : List D → R D := mk (fun a : Int × List Int × Mv => [.int a.1, iL .fz a.2.1, eMv a.2.2]) (fun a => Sm a.2.1) (fun a => .ok (.bl (canZ a.1 a.2.1 a.2.2)))
theorem m_can_move_eq {n : Int} {w : List Int} {m : Mv} (h1 : Sm w) : m_can_move [.int n, iL .fz w, eMv m] = .ok (.bl (canZ n w m)) :=
  mk_eq (enc := fun a : Int × List Int × Mv => [.int a.1, iL .fz a.2.1, eMv a.2.2]) (fun a b e => by
    simp at e
    exact Prod.ext e.1 (Prod.ext e.2.1 (eMv_inj e.2.2))) (n, w, m) h1
theorem h_can_move : ∀ ds, ds.length = 3 → D.stos ds = true → m_can_move ds ≠ .no → g_can_move (env0 n_can_move ds) (Out (m_can_move ds)) := mk_h fun ⟨n, w, m⟩ h1 => by
  show g_can_move [some (.int n), some (iL .fz w), some (eMv m), none] (Out (.ok (.bl (canZ n w m))))
  replace h1 : Sm w := h1
  by_cases hp : m.p < 0
  · have hf : canZ n w m = false := by
      cases h : canZ n w m with
      | false => rfl
      | true => have := canZ_p h; omega
    simp -implicitDefEqProofs [g_can_move, hp, hf]
  · by_cases hq : (w.length : Int) < m.p
    · have hf : canZ n w m = false := by
        cases h : canZ n w m with
        | false => rfl
        | true => have := canZ_p h; omega
      simp -implicitDefEqProofs [g_can_move, hp, hq, hf]
    · cases hi : m.isIn with
      | true =>
        cases m with
        | ins p k =>
          have hp' : 0 ≤ p := by have : (Mv.ins p k).p = p := rfl; omega
          have hq' : p ≤ w.length := by have : (Mv.ins p k).p = p := rfl; omega
          have h1 : (Mv.ins p k).p = p := rfl
          have h2 : (Mv.ins p k).isIn = true := rfl
          rw [h1] at hp hq
          clear hi
          by_cases hk : k = 0
          · subst hk
            simp -implicitDefEqProofs [g_can_move, h1, h2, hp, hq, canZ, hp', hq']
          · simp -implicitDefEqProofs [g_can_move, h1, h2, hp, hq, canZ, hp', hq', hk]
        | _ => cases hi
      | false =>
        obtain ⟨q, hqq⟩ := Int.eq_ofNat_of_zero_le (show 0 ≤ m.p by omega)
        have e1 := m_move_at_eq (w := w) (p := q) h1
        have e2 := atZ_eq (n := n) (w := w) (m := m) (by omega) hi
        rw [show m.p.toNat = q by omega] at e2
        rw [hqq] at hp hq
        cases h : atZ w q with
        | none => rw [h] at e1 e2; simp -implicitDefEqProofs [g_can_move, hqq, hp, hq, hi, e1, ← e2]
        | some m' => rw [h] at e1 e2; simp -implicitDefEqProofs [g_can_move, hqq, hp, hq, hi, e1, ← e2]

theorem ok_can_move {P : Program} {w : World} {K : PySem.W.Frag} {mg : Str → Option Value} {base : Heap} {cl : String → Addr} {f : Addr} {fd : FuncData} (T : Tb K mg cl) (X : Fx K mg "can_move" s_can_move f fd ["n", "word", "move"]) {f_move_at : Addr} {fd_move_at : FuncData} (X_move_at : Fx K mg "move_at" s_move_at f_move_at fd_move_at ["word", "p"]) (G_move_at : FnOk P w K mg base (L2.CX P w) 1 f_move_at fd_move_at ["word", "p"] (Ctr K cl 2 m_move_at)) :
    FnOk P w K mg base (L2.CX P w) 2 f fd ["n", "word", "move"] (Ctr K cl 3 m_can_move) :=
  okD X.F sc_can_move rfl (by decide) h_can_move fun cdv A outer s H E hr => by
    unfold g_can_move
    exact ((sss_cons (ss_set 3 sc_can_move.nd (se_ix (se_var 2) se_int))
  (sss_cons (ss_if (PW.pt (sw_or (st_cmp op_lt o2_cmp (se_var 3) se_int) (sw_or1 (st_cmp op_gt o2_cmp (se_var 3) (se_blt call_len oa_len rfl T.z_len (by decide +kernel) (sa_cons (se_var 1) sa_nil)))))) (sss_one (ss_ret se_bl)) sss_nil)
  (sss_cons (ss_if (st_cmp (op_eqD hr.units) o2_eq (se_ix (se_var 2) se_int) se_str) (sss_one (ss_ret (se_chain op_lt o2_cmp op_lt o2_cmp se_int (se_blt call_abs oa_abs rfl T.z_abs (by decide +kernel) (sa_cons (se_ix (se_var 2) se_int) sa_nil)) (se_var 0)))) sss_nil)
  (sss_one (ss_ret (se_cmp (op_eqD hr.units) o2_eq (se_call G_move_at hr (by decide) rfl X_move_at.g X_move_at.F.kp X_move_at.b (takesD (takes_of rfl rfl rfl rfl)) (sa_cons (se_var 1) (sa_cons (se_var 3) sa_nil)) (xa1 (xa1 xa0))) (se_var 2))))))))
/-! ### moved: 0 n, 1 word, 2 move, 3 p -/
abbrev s_moved : Stmt := topS 18
abbrev n_moved : List Str := ["n", "word", "move", "p"]
theorem sc_moved : FnScope n_moved ["n", "word", "move"] (defScope s_moved) := ⟨rfl, rfl, rfl, by decide +kernel, rfl, by decide +kernel, by decide +kernel⟩
@[irreducible] noncomputable def g_moved : G := (gSeq (gIf (xTNot (xB (xCall m_can_move (xCons (xVar 0) (xCons (xVar 1) (xCons (xVar 2) xNil)))))) (gRaise "NoMove") gNext)
  (gSeq (gAsg 3 (x2 ixD (xVar 2) (xC (.int 1))))
  (gSeq (gIf (xB (x2 eqD (x2 ixD (xVar 2) (xC (.int 0))) (xC (.str "in")))) (gRet (x2 addD (x2 addD (xSl (xVar 1) xP0 (xP1 (xVar 3))) (xLst (xCons (x2 ixD (xVar 2) (xC (.int 2))) (xCons (x1 negD (x2 ixD (xVar 2) (xC (.int 2)))) xNil)))) (xSl (xVar 1) (xP1 (xVar 3)) xP0))) gNext)
  (gSeq (gIf (xB (x2 eqD (x2 ixD (xVar 2) (xC (.int 0))) (xC (.str "out")))) (gRet (x2 addD (xSl (xVar 1) xP0 (xP1 (xVar 3))) (xSl (xVar 1) (xP1 (x2 addD (xVar 3) (xC (.int 2)))) xP0))) gNext)
  (gSeq (gIf (xB (x2 eqD (x2 ixD (xVar 2) (xC (.int 0))) (xC (.str "far")))) (gRet (x2 addD (x2 addD (xSl (xVar 1) xP0 (xP1 (xVar 3))) (xLst (xCons (x2 ixD (xVar 1) (x2 addD (xVar 3) (xC (.int 1)))) (xCons (x2 ixD (xVar 1) (xVar 3)) xNil)))) (xSl (xVar 1) (xP1 (x2 addD (xVar 3) (xC (.int 2)))) xP0))) gNext)
  (gRet (x2 addD (x2 addD (xSl (xVar 1) xP0 (xP1 (xVar 3))) (xLst (xCons (x2 ixD (xVar 1) (x2 addD (xVar 3) (xC (.int 1)))) (xCons (x2 ixD (xVar 1) (xVar 3)) (xCons (x2 ixD (xVar 1) (x2 addD (xVar 3) (xC (.int 1)))) xNil))))) (xSl (xVar 1) (xP1 (x2 addD (xVar 3) (xC (.int 3)))) xP0))))))))
--needs Moves
noncomputable def m_moved : List D → R D := mk (fun a : Int × List Int × Mv => [.int a.1, iL .fz a.2.1, eMv a.2.2]) (fun a => Sm a.2.1 ∧ a.2.1.length ≤ 16000000) (fun a => if canZ a.1 a.2.1 a.2.2 = true then .ok (iL .ow (doneZ a.2.1 a.2.2)) else .er "NoMove")
theorem m_moved_eq {n : Int} {w : List Int} {m : Mv} (h1 : Sm w) (h2 : w.length ≤ 16000000) : m_moved [.int n, iL .fz w, eMv m] = if canZ n w m = true then .ok (iL .ow (doneZ w m)) else .er "NoMove" :=
  mk_eq (enc := fun a : Int × List Int × Mv => [.int a.1, iL .fz a.2.1, eMv a.2.2]) (fun a b e => by
    simp at e
    exact Prod.ext e.1 (Prod.ext e.2.1 (eMv_inj e.2.2))) (n, w, m) ⟨h1, h2⟩
theorem h_moved : ∀ ds, ds.length = 3 → D.stos ds = true → m_moved ds ≠ .no → g_moved (env0 n_moved ds) (Out (m_moved ds)) := mk_h fun ⟨n, w, m⟩ ⟨h1, h2⟩ => by
  show g_moved [some (.int n), some (iL .fz w), some (eMv m), none] (Out (if canZ n w m = true then .ok (iL .ow (doneZ w m)) else .er "NoMove"))
  replace h1 : Sm w := h1
  replace h2 : w.length ≤ 16000000 := h2
  have e1 := m_can_move_eq (n := n) (w := w) (m := m) h1
  cases hc : canZ n w m with
  | false => rw [hc] at e1; simp -implicitDefEqProofs [g_moved, e1]
  | true =>
    rw [hc] at e1
    have hp := canZ_p hc
    cases m with
    | out p =>
      obtain ⟨q, rfl⟩ := Int.eq_ofNat_of_zero_le (show 0 ≤ p from hp.1)
      replace hp : q ≤ w.length := by have := hp.2; simpa [Mv.p] using this
      simp -implicitDefEqProofs [g_moved, e1, Mv.p, Mv.isIn, doneZ]
      omega
    | far p =>
      obtain ⟨q, rfl⟩ := Int.eq_ofNat_of_zero_le (show 0 ≤ p from hp.1)
      have hl : q + 2 ≤ w.length := by simp [canZ] at hc; exact farQ_lt hc
      obtain ⟨x, hx⟩ : ∃ x, w[q]? = some x := ⟨_, List.getElem?_eq_getElem (by omega)⟩
      obtain ⟨y, hy⟩ : ∃ y, w[q + 1]? = some y := ⟨_, List.getElem?_eq_getElem (by omega)⟩
      simp -implicitDefEqProofs [g_moved, e1, Mv.p, Mv.isIn, doneZ, atI_natc, atI_add1, hx, hy]
      omega
    | near p =>
      obtain ⟨q, rfl⟩ := Int.eq_ofNat_of_zero_le (show 0 ≤ p from hp.1)
      have hl : q + 3 ≤ w.length := by simp [canZ] at hc; exact nearQ_lt hc
      obtain ⟨x, hx⟩ : ∃ x, w[q]? = some x := ⟨_, List.getElem?_eq_getElem (by omega)⟩
      obtain ⟨y, hy⟩ : ∃ y, w[q + 1]? = some y := ⟨_, List.getElem?_eq_getElem (by omega)⟩
      simp -implicitDefEqProofs [g_moved, e1, Mv.p, Mv.isIn, doneZ, atI_natc, atI_add1, hx, hy]
      omega
    | ins p k =>
      obtain ⟨q, rfl⟩ := Int.eq_ofNat_of_zero_le (show 0 ≤ p from hp.1)
      replace hp : q ≤ w.length := by have := hp.2; simpa [Mv.p] using this
      simp -implicitDefEqProofs [g_moved, e1, Mv.p, Mv.isIn, doneZ]
      omega

theorem ok_moved {P : Program} {w : World} {K : PySem.W.Frag} {mg : Str → Option Value} {base : Heap} {cl : String → Addr} {f : Addr} {fd : FuncData} (T : Tb K mg cl) (X : Fx K mg "moved" s_moved f fd ["n", "word", "move"]) {f_can_move : Addr} {fd_can_move : FuncData} (X_can_move : Fx K mg "can_move" s_can_move f_can_move fd_can_move ["n", "word", "move"]) (G_can_move : FnOk P w K mg base (L2.CX P w) 2 f_can_move fd_can_move ["n", "word", "move"] (Ctr K cl 3 m_can_move)) :
    FnOk P w K mg base (L2.CX P w) 3 f fd ["n", "word", "move"] (Ctr K cl 3 m_moved) :=
  okD X.F sc_moved rfl (by decide) h_moved fun cdv A outer s H E hr => by
    unfold g_moved
    exact ((sss_cons (ss_if (st_not (st_val (se_call G_can_move hr (by decide) rfl X_can_move.g X_can_move.F.kp X_can_move.b (takesD (takes_of rfl rfl rfl rfl)) (sa_cons (se_var 0) (sa_cons (se_var 1) (sa_cons (se_var 2) sa_nil))) (xa1 (xa1 (xa1 xa0)))))) (sss_one (ss_raise T.e_NoMove T.gc_NoMove rfl (takesD (takes_of rfl rfl rfl rfl)) rfl)) sss_nil)
  (sss_cons (ss_set 3 sc_moved.nd (se_ix (se_var 2) se_int))
  (sss_cons (ss_if (st_cmp (op_eqD hr.units) o2_eq (se_ix (se_var 2) se_int) se_str) (sss_one (ss_ret (se_add (se_add (se_slice (se_var 1) so_none (so_some (se_var 3))) (se_lst (sa_cons (se_ix (se_var 2) se_int) (sa_cons (se_neg (se_ix (se_var 2) se_int)) sa_nil)))) (se_slice (se_var 1) (so_some (se_var 3)) so_none)))) sss_nil)
  (sss_cons (ss_if (st_cmp (op_eqD hr.units) o2_eq (se_ix (se_var 2) se_int) se_str) (sss_one (ss_ret (se_add (se_slice (se_var 1) so_none (so_some (se_var 3))) (se_slice (se_var 1) (so_some (se_add (se_var 3) se_int)) so_none)))) sss_nil)
  (sss_cons (ss_if (st_cmp (op_eqD hr.units) o2_eq (se_ix (se_var 2) se_int) se_str) (sss_one (ss_ret (se_add (se_add (se_slice (se_var 1) so_none (so_some (se_var 3))) (se_lst (sa_cons (se_ix (se_var 1) (se_add (se_var 3) se_int)) (sa_cons (se_ix (se_var 1) (se_var 3)) sa_nil)))) (se_slice (se_var 1) (so_some (se_add (se_var 3) se_int)) so_none)))) sss_nil)
  (sss_one (ss_ret (se_add (se_add (se_slice (se_var 1) so_none (so_some (se_var 3))) (se_lst (sa_cons (se_ix (se_var 1) (se_add (se_var 3) se_int)) (sa_cons (se_ix (se_var 1) (se_var 3)) (sa_cons (se_ix (se_var 1) (se_add (se_var 3) se_int)) sa_nil))))) (se_slice (se_var 1) (so_some (se_add (se_var 3) se_int)) so_none))))))))))
/-! ### Loom.go: 0 self, 1 move, 2 made -/
abbrev s_Loom_go : Stmt := inClass (topS 20) 3
abbrev n_Loom_go : List Str := ["self", "move", "made"]
theorem sc_Loom_go : FnScope n_Loom_go ["self", "move"] (defScope s_Loom_go) := ⟨rfl, rfl, rfl, by decide +kernel, rfl, by decide +kernel, by decide +kernel⟩
@[irreducible] noncomputable def g_Loom_go (cl : String → Addr) : G := (gSeq (gAsg 2 (xCall m_moved (xCons (xFld (cl "Loom") 0 "strings") (xCons (xFld (cl "Loom") 0 "hung") (xCons (xVar 1) xNil)))))
  (gSeq (gMvSetV (cl "Loom") 0 2 "hung" "past")
  gNext))
--cl
--obj 1
--needs Loom Moves
noncomputable def m_Loom_go (cl : String → Addr) : List D → R D := mk (fun a : (Addr × Int × List Int) × List (List Int) × Mv => [lm .ow (cl "Loom") a.1.1 a.1.2.1 a.1.2.2 a.2.1, eMv a.2.2]) (fun a => a.2.1.length ≤ 10000 ∧ Sm a.1.2.2 ∧ a.1.2.2.length ≤ 16000000) (fun a => if canZ a.1.2.1 a.1.2.2 a.2.2 = true then .ok (.wit .non [lm .ow (cl "Loom") a.1.1 a.1.2.1 (doneZ a.1.2.2 a.2.2) (a.2.1 ++ [a.1.2.2])]) else .er "NoMove")
theorem m_Loom_go_eq (cl : String → Addr) {a : Addr} {n : Int} {w : List Int} {past : List (List Int)} (h1 : past.length ≤ 10000) (h2 : Sm w) (h3 : w.length ≤ 16000000) (m : Mv) : m_Loom_go cl [lm .ow (cl "Loom") a n w past, eMv m] = if canZ n w m = true then .ok (.wit .non [lm .ow (cl "Loom") a n (doneZ w m) (past ++ [w])]) else .er "NoMove" :=
  mk_eq (enc := fun a : (Addr × Int × List Int) × List (List Int) × Mv => [lm .ow (cl "Loom") a.1.1 a.1.2.1 a.1.2.2 a.2.1, eMv a.2.2]) (fun a b e => by
    simp at e
    obtain ⟨q1, q2, q3, q4⟩ := lm_inj e.1
    exact Prod.ext (Prod.ext q1 (Prod.ext q2 q3)) (Prod.ext q4 (eMv_inj e.2))) ((a, n, w), past, m) ⟨h1, h2, h3⟩
theorem h_Loom_go (cl : String → Addr) : ∀ ds, ds.length = 2 → D.stos ds = true → isOs (ds.take 1) = true → m_Loom_go cl ds ≠ .no → g_Loom_go cl (env0 n_Loom_go ds) (OutW 1 (ds.take 1) (m_Loom_go cl ds)) := mk_hW fun ⟨⟨a, n, w⟩, past, m⟩ ⟨h1, h2, h3⟩ => by
  show g_Loom_go cl [some (lm .ow (cl "Loom") a n w past), some (eMv m), none] (OutW 1 [lm .ow (cl "Loom") a n w past] (if canZ n w m = true then .ok (.wit .non [lm .ow (cl "Loom") a n (doneZ w m) (past ++ [w])]) else .er "NoMove"))
  replace h1 : past.length ≤ 10000 := h1
  have e1 := m_moved_eq (n := n) (m := m) h2 h3
  cases hc : canZ n w m with
  | false =>
    rw [hc] at e1
    simp -implicitDefEqProofs [g_Loom_go, e1]
  | true =>
    rw [hc] at e1
    simp -implicitDefEqProofs [g_Loom_go, e1]
    rw [lm_mvV (a := a) (n := n) (w := w) (past := past) (v := doneZ w m) rfl (by omega) rfl]
    simp -implicitDefEqProofs []

theorem ok_Loom_go {P : Program} {w : World} {K : PySem.W.Frag} {mg : Str → Option Value} {base : Heap} {cl : String → Addr} {f : Addr} {fd : FuncData} (T : Tb K mg cl) (X : Mx K "go" "Loom.go" s_Loom_go (cl "Loom") f fd ["self", "move"]) {f_moved : Addr} {fd_moved : FuncData} (X_moved : Fx K mg "moved" s_moved f_moved fd_moved ["n", "word", "move"]) (G_moved : FnOk P w K mg base (L2.CX P w) 3 f_moved fd_moved ["n", "word", "move"] (Ctr K cl 3 m_moved)) :
    FnOk P w K mg base (L2.CX P w) 4 f fd ["self", "move"] (CtrW K cl 2 1 (m_Loom_go cl)) :=
  okDW 1 X.F sc_Loom_go rfl (by decide) (h_Loom_go cl) fun cdv A outer s H E hr => by
    unfold g_Loom_go
    exact ((sss_cons (ss_set 2 sc_Loom_go.nd (se_call G_moved hr (by decide) rfl X_moved.g X_moved.F.kp X_moved.b (takesD (takes_of rfl rfl rfl rfl)) (sa_cons (se_fld (cl "Loom") 0 (pv 0) T.o_Loom T.n_Loom_strings) (sa_cons (se_fld (cl "Loom") 0 (pv 0) T.o_Loom T.n_Loom_hung) (sa_cons (se_var 1) sa_nil))) (xa1 (xa1 (xa1 xa0)))))
  (sss_mvSetV (cl "Loom") 0 2 (by decide) (pv 0) (pv 0) (pv 0) T.o_Loom T.n_Loom_hung T.n_Loom_past (pv 2)
  sss_nil)))
/-! ### _law_refused: 0 _law_loom, 1 _law_kind, 2 _law_part, 3 _law_caught, 4 e -/
abbrev s_law_refused : Stmt := topS 32
abbrev n_law_refused : List Str := ["_law_loom", "_law_kind", "_law_part", "_law_caught", "e"]
theorem sc_law_refused : FnScope n_law_refused ["_law_loom", "_law_kind", "_law_part"] (defScope s_law_refused) := ⟨rfl, rfl, rfl, by decide +kernel, rfl, by decide +kernel, by decide +kernel⟩
@[irreducible] noncomputable def g_law_refused (cl : String → Addr) : G := (gSeq (gAsg 3 (xC .non))
  (gSeq (gTryAs cl t_ct_BraidError 4 (gIf (xB (x2 eqD (xVar 1) (xC (.str "hang")))) (gDropE (eMeth (cl "Loom") "hang" 0 (m_Loom_hang cl) (xCons (xVar 2) xNil))) (gIf (xB (x2 eqD (xVar 1) (xC (.str "drop")))) (gDropE (eMeth (cl "Loom") "drop" 0 (m_Loom_drop cl) (xCons (xVar 2) xNil))) (gIf (xB (x2 eqD (xVar 1) (xC (.str "go")))) (gDropE (eMeth (cl "Loom") "go" 0 (m_Loom_go cl) (xCons (xVar 2) xNil))) (gDropE (eMake (cl "Loom") (m_Loom___init__ cl) (xCons (xVar 2) xNil)))))) (gAsg 3 (xVar 4)))
  (gSeq (gIf (xB (x2 isD (xVar 3) (xC .non))) (gRetW [0] (xC (.str ""))) gNext)
  (gSeq (gIf (xB (x1 (isiXD cl t_is_BadPicture_BadText_NoForm_NoRow_NoString_TooMany_Unlike) (xVar 3))) (gRetW [0] (xC (.str "none"))) gNext)
  (gSeq (gIf (xTAnd (xB (x1 (isiXD cl t_is1_NoWord) (xVar 3))) (xTAnd (xTNot (xB (x1 (isiXD cl t_is1_NoMove) (xVar 3)))) (xB (x1 (isiXD cl t_is1_ValueError) (xVar 3))))) (gRetW [0] (xC (.str "word"))) gNext)
  (gSeq (gIf (xTAnd (xB (x1 (isiXD cl t_is1_NoMove) (xVar 3))) (xTAnd (xTNot (xB (x1 (isiXD cl t_is1_NoWord) (xVar 3)))) (xB (x1 (isiXD cl t_is1_ValueError) (xVar 3))))) (gRetW [0] (xC (.str "move"))) gNext)
  (gRetW [0] (xC (.str "none")))))))))
--cl
--obj 1
--needs LoomD Exc
noncomputable def m_law_refused (cl : String → Addr) : List D → R D := mk (fun a : (Addr × Int × List Int) × List (List Int) × Dd => [lm .ow (cl "Loom") a.1.1 a.1.2.1 a.1.2.2 a.2.1, .str a.2.2.kd, a.2.2.pt]) (fun a => a.2.1.length ≤ 10000 ∧ Sm a.1.2.2 ∧ a.1.2.2.length ≤ 16000000 ∧ a.2.2.sm) (fun a => if a.2.2.ok a.1.2.1 a.1.2.2 = true then .ok (.wit (.str "") [lm .ow (cl "Loom") a.1.1 a.1.2.1 (a.2.2.done a.1.2.2) (a.2.1 ++ [a.1.2.2])]) else .ok (.wit (.str a.2.2.er) [lm .ow (cl "Loom") a.1.1 a.1.2.1 a.1.2.2 a.2.1]))
theorem m_law_refused_eq (cl : String → Addr) {a : Addr} {n : Int} {w : List Int} {past : List (List Int)} (d : Dd) (h1 : past.length ≤ 10000) (h2 : Sm w) (h3 : w.length ≤ 16000000) (h4 : d.sm) : m_law_refused cl [lm .ow (cl "Loom") a n w past, .str d.kd, d.pt] = if d.ok n w = true then .ok (.wit (.str "") [lm .ow (cl "Loom") a n (d.done w) (past ++ [w])]) else .ok (.wit (.str d.er) [lm .ow (cl "Loom") a n w past]) :=
  mk_eq (enc := fun a : (Addr × Int × List Int) × List (List Int) × Dd => [lm .ow (cl "Loom") a.1.1 a.1.2.1 a.1.2.2 a.2.1, .str a.2.2.kd, a.2.2.pt]) (fun a b e => by
    simp only [List.cons.injEq, D.str.injEq, and_true] at e
    obtain ⟨q1, q2, q3, q4⟩ := lm_inj e.1
    exact Prod.ext (Prod.ext q1 (Prod.ext q2 q3)) (Prod.ext q4 (dd_inj e.2.1 e.2.2))) ((a, n, w), past, d) ⟨h1, h2, h3, h4⟩
noncomputable def mp_law_refused (cl : String → Addr) : List D → R D := mk (fun m : Int => [.non, .str "loom", .int m]) (fun m => WordB m [] = false) (fun m => .ok (.str "word"))
theorem mp_law_refused_eq (cl : String → Addr) {m : Int} (h : WordB m [] = false) : mp_law_refused cl [.non, .str "loom", .int m] = .ok (.str "word") :=
  mk_eq (enc := fun m : Int => [.non, .str "loom", .int m]) (fun a b e => by simpa using e) m h
theorem h_law_refused (cl : String → Addr) : ∀ ds, ds.length = 3 → D.stos ds = true → isOs (ds.take 1) = true → m_law_refused cl ds ≠ .no → g_law_refused cl (env0 n_law_refused ds) (OutW 1 (ds.take 1) (m_law_refused cl ds)) := mk_hW fun ⟨⟨a, n, w⟩, past, d⟩ ⟨h1, h2, h3, h4⟩ => by
  show g_law_refused cl [some (lm .ow (cl "Loom") a n w past), some (.str d.kd), some d.pt, none, none] (OutW 1 [lm .ow (cl "Loom") a n w past] (if d.ok n w = true then .ok (.wit (.str "") [lm .ow (cl "Loom") a n (d.done w) (past ++ [w])]) else .ok (.wit (.str d.er) [lm .ow (cl "Loom") a n w past])))
  replace h1 : past.length ≤ 10000 := h1
  replace h2 : Sm w := h2
  replace h3 : w.length ≤ 16000000 := h3
  cases d with
  | hang v =>
    replace h4 : v.length ≤ 100000 := h4
    have e1 := m_Loom_hang_eq cl (a := a) (n := n) (w := w) (v := v) h1 (by omega)
    cases hb : WordB n v with
    | true =>
      rw [hb] at e1
      simp -implicitDefEqProofs [g_law_refused, gTryAs_eq, Dd.kd, Dd.pt, Dd.ptK, Dd.ok, Dd.done, hb, e1, tryAsK_nx]
    | false =>
      rw [hb] at e1
      simp -implicitDefEqProofs [g_law_refused, gTryAs_eq, Dd.kd, Dd.pt, Dd.ptK, Dd.ok, Dd.er, hb, e1, tryAsK_rz (cat := t_ct_BraidError) (c := "NoWord") rfl, gGone_nx, isiXD_exc, t_is1_NoMove, t_is1_NoWord, t_is1_ValueError, t_is_BadPicture_BadText_NoForm_NoRow_NoString_TooMany_Unlike]
  | drop m =>
    have e1 := m_Loom_drop_eq cl (a := a) (n := n) (w := w) h1 m
    by_cases hb : 0 ≤ m ∧ m ≤ w.length
    · rw [if_pos hb] at e1
      simp -implicitDefEqProofs [g_law_refused, gTryAs_eq, Dd.kd, Dd.pt, Dd.ptK, Dd.ok, Dd.done, hb, e1, tryAsK_nx]
    · rw [if_neg hb] at e1
      have hb' : ¬ (0 ≤ m ∧ m ≤ w.length) := hb
      rw [if_neg (by simpa [Dd.ok] using hb')]
      simp -implicitDefEqProofs [g_law_refused, gTryAs_eq, Dd.kd, Dd.pt, Dd.ptK, Dd.er, e1, tryAsK_rz (cat := t_ct_BraidError) (c := "NoMove") rfl, gGone_nx, isiXD_exc, t_is1_NoMove, t_is1_NoWord, t_is1_ValueError, t_is_BadPicture_BadText_NoForm_NoRow_NoString_TooMany_Unlike]
  | go m =>
    have e1 := m_Loom_go_eq cl (a := a) (n := n) (w := w) h1 h2 h3 m
    cases hb : canZ n w m with
    | true =>
      rw [hb] at e1
      simp -implicitDefEqProofs [g_law_refused, gTryAs_eq, Dd.kd, Dd.pt, Dd.ptK, Dd.ok, Dd.done, hb, e1, tryAsK_nx]
    | false =>
      rw [hb] at e1
      simp -implicitDefEqProofs [g_law_refused, gTryAs_eq, Dd.kd, Dd.pt, Dd.ptK, Dd.ok, Dd.er, hb, e1, tryAsK_rz (cat := t_ct_BraidError) (c := "NoMove") rfl, gGone_nx, isiXD_exc, t_is1_NoMove, t_is1_NoWord, t_is1_ValueError, t_is_BadPicture_BadText_NoForm_NoRow_NoString_TooMany_Unlike]
theorem hp_law_refused (cl : String → Addr) : ∀ ds, ds.length = 3 → D.stos ds = true → mp_law_refused cl ds ≠ .no → g_law_refused cl (env0 n_law_refused ds) (Out (mp_law_refused cl ds)) := mk_h fun m h => by
  show g_law_refused cl [some .non, some (.str "loom"), some (.int m), none, none] (Out (.ok (.str "word")))
  have e1 : ∀ a, m_Loom___init__ cl [.obj .ow a (some (cl "Loom")) [] [], .int m] = .er "NoWord" := fun a => by rw [m_Loom___init___eq, h]; rfl
  simp -implicitDefEqProofs [g_law_refused, gTryAs_eq, e1, tryAsK_rz (cat := t_ct_BraidError) (c := "NoWord") rfl, gGone_nx, isiXD_exc, t_is1_NoMove, t_is1_NoWord, t_is1_ValueError, t_is_BadPicture_BadText_NoForm_NoRow_NoString_TooMany_Unlike]

theorem ok_law_refused {P : Program} {w : World} {K : PySem.W.Frag} {mg : Str → Option Value} {base : Heap} {cl : String → Addr} {f : Addr} {fd : FuncData} (T : Tb K mg cl) (X : Fx K mg "_law_refused" s_law_refused f fd ["_law_loom", "_law_kind", "_law_part"]) {f_Loom___init__ : Addr} {fd_Loom___init__ : FuncData} (X_Loom___init__ : Ix K "__init__" "Loom.__init__" s_Loom___init__ (cl "Loom") f_Loom___init__ fd_Loom___init__ ["self", "n"]) (G_Loom___init__ : FnOk P w K mg base (L2.CX P w) 2 f_Loom___init__ fd_Loom___init__ ["self", "n"] (CtrW K cl 2 1 (m_Loom___init__ cl))) {f_Loom_drop : Addr} {fd_Loom_drop : FuncData} (X_Loom_drop : Mx K "drop" "Loom.drop" s_Loom_drop (cl "Loom") f_Loom_drop fd_Loom_drop ["self", "many"]) (G_Loom_drop : FnOk P w K mg base (L2.CX P w) 1 f_Loom_drop fd_Loom_drop ["self", "many"] (CtrW K cl 2 1 (m_Loom_drop cl))) {f_Loom_go : Addr} {fd_Loom_go : FuncData} (X_Loom_go : Mx K "go" "Loom.go" s_Loom_go (cl "Loom") f_Loom_go fd_Loom_go ["self", "move"]) (G_Loom_go : FnOk P w K mg base (L2.CX P w) 4 f_Loom_go fd_Loom_go ["self", "move"] (CtrW K cl 2 1 (m_Loom_go cl))) {f_Loom_hang : Addr} {fd_Loom_hang : FuncData} (X_Loom_hang : Mx K "hang" "Loom.hang" s_Loom_hang (cl "Loom") f_Loom_hang fd_Loom_hang ["self", "word"]) (G_Loom_hang : FnOk P w K mg base (L2.CX P w) 2 f_Loom_hang fd_Loom_hang ["self", "word"] (CtrW K cl 2 1 (m_Loom_hang cl))) :
    FnOk P w K mg base (L2.CX P w) 5 f fd ["_law_loom", "_law_kind", "_law_part"] (CtrW K cl 3 1 (m_law_refused cl)) :=
  okDW 1 X.F sc_law_refused rfl (by decide) (h_law_refused cl) fun cdv A outer s H E hr => by
    unfold g_law_refused
    exact ((sss_cons (ss_set 3 sc_law_refused.nd se_non)
  (sss_cons (ss_tryAs 4 rfl rfl rfl sc_law_refused.nd ⟨rfl, by decide, .inl T.gc_BraidError⟩ T.ct_BraidError (takesD (takes_of rfl rfl rfl rfl)) (fun _ _ _ tk1 pz1 => (sss_one (ss_if (st_cmp (op_eqD hr.units) o2_eq (se_var 1) se_str) (sss_one (ss_dropE (se_methW 0 T.o_Loom X_Loom_hang.me G_Loom_hang hr (by decide) X_Loom_hang.b tk1 (pv 0) (sa_cons (se_var 2) sa_nil) (hnW (xa1 xa0))))) (sss_one (ss_if (st_cmp (op_eqD hr.units) o2_eq (se_var 1) se_str) (sss_one (ss_dropE (se_methW 0 T.o_Loom X_Loom_drop.me G_Loom_drop hr (by decide) X_Loom_drop.b tk1 (pv 0) (sa_cons (se_var 2) sa_nil) (hnW (xa1 xa0))))) (sss_one (ss_if (st_cmp (op_eqD hr.units) o2_eq (se_var 1) se_str) (sss_one (ss_dropE (se_methW 0 T.o_Loom X_Loom_go.me G_Loom_go hr (by decide) X_Loom_go.b tk1 (pv 0) (sa_cons (se_var 2) sa_nil) (hnW (xa1 xa0))))) (sss_one (ss_dropE (se_make X_Loom___init__.mkr G_Loom___init__ hr (by decide) rfl T.gc_Loom X_Loom___init__.b tk1 (sa_cons (se_var 2) sa_nil) (hnW (xa1 xa0)))))))))))) (fun _ _ => (sss_one (ss_set 3 sc_law_refused.nd (se_var 4)))))
  (sss_cons (ss_if (st_cmp op_isD o2_is (se_var 3) se_non) (sss_one (ss_retW [0] se_str)) sss_nil)
  (sss_cons (ss_if (st_val (se_isXT rfl rfl T.z_isinstance rfl T.is_BadPicture_BadText_NoForm_NoRow_NoString_TooMany_Unlike (se_var 3) (.cons (ce_own rfl T.gc_BadPicture) (.own _) rfl (.cons (ce_own rfl T.gc_BadText) (.own _) rfl (.cons (ce_own rfl T.gc_NoForm) (.own _) rfl (.cons (ce_own rfl T.gc_NoRow) (.own _) rfl (.cons (ce_own rfl T.gc_NoString) (.own _) rfl (.cons (ce_own rfl T.gc_TooMany) (.own _) rfl (.cons (ce_own rfl T.gc_Unlike) (.own _) rfl .nil))))))) (by decide))) (sss_one (ss_retW [0] se_str)) sss_nil)
  (sss_cons (ss_if (PW.pt (sw_and (st_val (se_isX rfl rfl T.z_isinstance rfl T.is1_NoWord (se_var 3) (ce_own rfl T.gc_NoWord) (.own _))) (sw_and (st_not (st_val (se_isX rfl rfl T.z_isinstance rfl T.is1_NoMove (se_var 3) (ce_own rfl T.gc_NoMove) (.own _)))) (sw_and1 (st_val (se_isX rfl rfl T.z_isinstance rfl T.is1_ValueError (se_var 3) (ce_ty rfl T.z_ValueError (by decide +kernel)) (.ty _))))))) (sss_one (ss_retW [0] se_str)) sss_nil)
  (sss_cons (ss_if (PW.pt (sw_and (st_val (se_isX rfl rfl T.z_isinstance rfl T.is1_NoMove (se_var 3) (ce_own rfl T.gc_NoMove) (.own _))) (sw_and (st_not (st_val (se_isX rfl rfl T.z_isinstance rfl T.is1_NoWord (se_var 3) (ce_own rfl T.gc_NoWord) (.own _)))) (sw_and1 (st_val (se_isX rfl rfl T.z_isinstance rfl T.is1_ValueError (se_var 3) (ce_ty rfl T.z_ValueError (by decide +kernel)) (.ty _))))))) (sss_one (ss_retW [0] se_str)) sss_nil)
  (sss_one (ss_retW [0] se_str)))))))))
theorem okp_law_refused {P : Program} {w : World} {K : PySem.W.Frag} {mg : Str → Option Value} {base : Heap} {cl : String → Addr} {f : Addr} {fd : FuncData} (T : Tb K mg cl) (X : Fx K mg "_law_refused" s_law_refused f fd ["_law_loom", "_law_kind", "_law_part"]) {f_Loom___init__ : Addr} {fd_Loom___init__ : FuncData} (X_Loom___init__ : Ix K "__init__" "Loom.__init__" s_Loom___init__ (cl "Loom") f_Loom___init__ fd_Loom___init__ ["self", "n"]) (G_Loom___init__ : FnOk P w K mg base (L2.CX P w) 2 f_Loom___init__ fd_Loom___init__ ["self", "n"] (CtrW K cl 2 1 (m_Loom___init__ cl))) {f_Loom_drop : Addr} {fd_Loom_drop : FuncData} (X_Loom_drop : Mx K "drop" "Loom.drop" s_Loom_drop (cl "Loom") f_Loom_drop fd_Loom_drop ["self", "many"]) (G_Loom_drop : FnOk P w K mg base (L2.CX P w) 1 f_Loom_drop fd_Loom_drop ["self", "many"] (CtrW K cl 2 1 (m_Loom_drop cl))) {f_Loom_go : Addr} {fd_Loom_go : FuncData} (X_Loom_go : Mx K "go" "Loom.go" s_Loom_go (cl "Loom") f_Loom_go fd_Loom_go ["self", "move"]) (G_Loom_go : FnOk P w K mg base (L2.CX P w) 4 f_Loom_go fd_Loom_go ["self", "move"] (CtrW K cl 2 1 (m_Loom_go cl))) {f_Loom_hang : Addr} {fd_Loom_hang : FuncData} (X_Loom_hang : Mx K "hang" "Loom.hang" s_Loom_hang (cl "Loom") f_Loom_hang fd_Loom_hang ["self", "word"]) (G_Loom_hang : FnOk P w K mg base (L2.CX P w) 2 f_Loom_hang fd_Loom_hang ["self", "word"] (CtrW K cl 2 1 (m_Loom_hang cl))) :
    FnOk P w K mg base (L2.CX P w) 5 f fd ["_law_loom", "_law_kind", "_law_part"] (Ctr K cl 3 (mp_law_refused cl)) :=
  okD X.F sc_law_refused rfl (by decide) (hp_law_refused cl) fun cdv A outer s H E hr => by
    unfold g_law_refused
    exact ((sss_cons (ss_set 3 sc_law_refused.nd se_non)
  (sss_cons (ss_tryAs 4 rfl rfl rfl sc_law_refused.nd ⟨rfl, by decide, .inl T.gc_BraidError⟩ T.ct_BraidError (takesD (takes_of rfl rfl rfl rfl)) (fun _ _ _ tk1 pz1 => (sss_one (ss_if (st_cmp (op_eqD hr.units) o2_eq (se_var 1) se_str) (sss_one (ss_dropE (se_methW 0 T.o_Loom X_Loom_hang.me G_Loom_hang hr (by decide) X_Loom_hang.b tk1 (pv 0) (sa_cons (se_var 2) sa_nil) (hnW (xa1 xa0))))) (sss_one (ss_if (st_cmp (op_eqD hr.units) o2_eq (se_var 1) se_str) (sss_one (ss_dropE (se_methW 0 T.o_Loom X_Loom_drop.me G_Loom_drop hr (by decide) X_Loom_drop.b tk1 (pv 0) (sa_cons (se_var 2) sa_nil) (hnW (xa1 xa0))))) (sss_one (ss_if (st_cmp (op_eqD hr.units) o2_eq (se_var 1) se_str) (sss_one (ss_dropE (se_methW 0 T.o_Loom X_Loom_go.me G_Loom_go hr (by decide) X_Loom_go.b tk1 (pv 0) (sa_cons (se_var 2) sa_nil) (hnW (xa1 xa0))))) (sss_one (ss_dropE (se_make X_Loom___init__.mkr G_Loom___init__ hr (by decide) rfl T.gc_Loom X_Loom___init__.b tk1 (sa_cons (se_var 2) sa_nil) (hnW (xa1 xa0)))))))))))) (fun _ _ => (sss_one (ss_set 3 sc_law_refused.nd (se_var 4)))))
  (sss_cons (ss_if (st_cmp op_isD o2_is (se_var 3) se_non) (sss_one (ss_retW [0] se_str)) sss_nil)
  (sss_cons (ss_if (st_val (se_isXT rfl rfl T.z_isinstance rfl T.is_BadPicture_BadText_NoForm_NoRow_NoString_TooMany_Unlike (se_var 3) (.cons (ce_own rfl T.gc_BadPicture) (.own _) rfl (.cons (ce_own rfl T.gc_BadText) (.own _) rfl (.cons (ce_own rfl T.gc_NoForm) (.own _) rfl (.cons (ce_own rfl T.gc_NoRow) (.own _) rfl (.cons (ce_own rfl T.gc_NoString) (.own _) rfl (.cons (ce_own rfl T.gc_TooMany) (.own _) rfl (.cons (ce_own rfl T.gc_Unlike) (.own _) rfl .nil))))))) (by decide))) (sss_one (ss_retW [0] se_str)) sss_nil)
  (sss_cons (ss_if (PW.pt (sw_and (st_val (se_isX rfl rfl T.z_isinstance rfl T.is1_NoWord (se_var 3) (ce_own rfl T.gc_NoWord) (.own _))) (sw_and (st_not (st_val (se_isX rfl rfl T.z_isinstance rfl T.is1_NoMove (se_var 3) (ce_own rfl T.gc_NoMove) (.own _)))) (sw_and1 (st_val (se_isX rfl rfl T.z_isinstance rfl T.is1_ValueError (se_var 3) (ce_ty rfl T.z_ValueError (by decide +kernel)) (.ty _))))))) (sss_one (ss_retW [0] se_str)) sss_nil)
  (sss_cons (ss_if (PW.pt (sw_and (st_val (se_isX rfl rfl T.z_isinstance rfl T.is1_NoMove (se_var 3) (ce_own rfl T.gc_NoMove) (.own _))) (sw_and (st_not (st_val (se_isX rfl rfl T.z_isinstance rfl T.is1_NoWord (se_var 3) (ce_own rfl T.gc_NoWord) (.own _)))) (sw_and1 (st_val (se_isX rfl rfl T.z_isinstance rfl T.is1_ValueError (se_var 3) (ce_ty rfl T.z_ValueError (by decide +kernel)) (.ty _))))))) (sss_one (ss_retW [0] se_str)) sss_nil)
  (sss_one (ss_retW [0] se_str)))))))))
/-! ### _law_made_good: 0 _law_loom, 1 _law_word, 2 _law_many -/
abbrev s_law_made_good : Stmt := topS 36
abbrev n_law_made_good : List Str := ["_law_loom", "_law_word", "_law_many"]
theorem sc_law_made_good : FnScope n_law_made_good ["_law_loom", "_law_word"] (defScope s_law_made_good) := ⟨rfl, rfl, rfl, by decide +kernel, rfl, by decide +kernel, by decide +kernel⟩
@[irreducible] noncomputable def g_law_made_good (cl : String → Addr) : G := (gSeq (gAsg 2 (x2 addD (xA lenD (xCons (xVar 1) xNil)) (xC (.int 1))))
  (gSeq (gIfE (gtV (eBin neD (eCall [0] (m_law_refused cl) (xCons (xC (.str "drop")) (xCons (xVar 2) xNil))) (xC (.str "move")))) (gRetW [0] (xC (.bl false))) gNext)
  (gSeq (gDropE (eMeth (cl "Loom") "hang" 0 (m_Loom_hang cl) (xCons (xLst (xCons (xC (.int 1)) xNil)) xNil)))
  (gSeq (gIfE (gtOr (gtV (eBin neD (eCall [0] (m_law_refused cl) (xCons (xC (.str "drop")) (xCons (xVar 2) xNil))) (xC (.str "")))) (gtP (xB (x2 neD (xMeth (cl "Loom") "now" (m_Loom_now cl) (xVar 0) xNil) (xLst xNil))))) (gRetW [0] (xC (.bl false))) gNext)
  (gRetE [0] (eAnd (eBin isD (eMeth (cl "Loom") "undo" 0 (m_Loom_undo cl) xNil) (xC (.bl true))) (eAnd (eBin isD (eMeth (cl "Loom") "undo" 0 (m_Loom_undo cl) xNil) (xC (.bl true))) (geP (x2 eqD (xMeth (cl "Loom") "now" (m_Loom_now cl) (xVar 0) xNil) (xVar 1))))))))))
--cl
--obj 1
--needs LoomD
noncomputable def m_law_made_good (cl : String → Addr) : List D → R D := mk (fun a : (Addr × Int × List Int) × List (List Int) => [lm .ow (cl "Loom") a.1.1 a.1.2.1 a.1.2.2 a.2, iL .fz a.1.2.2]) (fun a => a.2.length ≤ 9000 ∧ Sm a.1.2.2 ∧ a.1.2.2.length ≤ 1000 ∧ 2 ≤ a.1.2.1 ∧ a.1.2.1 ≤ 7) (fun a => .ok (.wit (.bl true) [lm .ow (cl "Loom") a.1.1 a.1.2.1 a.1.2.2 a.2]))
theorem m_law_made_good_eq (cl : String → Addr) {a : Addr} {n : Int} {w : List Int} {past : List (List Int)} (h1 : past.length ≤ 9000) (h2 : Sm w) (h3 : w.length ≤ 1000) (h4 : 2 ≤ n) (h5 : n ≤ 7) : m_law_made_good cl [lm .ow (cl "Loom") a n w past, iL .fz w] = .ok (.wit (.bl true) [lm .ow (cl "Loom") a n w past]) :=
  mk_eq (enc := fun a : (Addr × Int × List Int) × List (List Int) => [lm .ow (cl "Loom") a.1.1 a.1.2.1 a.1.2.2 a.2, iL .fz a.1.2.2]) (fun a b e => by
    simp only [List.cons.injEq] at e
    obtain ⟨q1, q2, q3, q4⟩ := lm_inj e.1
    exact Prod.ext (Prod.ext q1 (Prod.ext q2 q3)) q4) ((a, n, w), past) ⟨h1, h2, h3, h4, h5⟩
theorem h_law_made_good (cl : String → Addr) : ∀ ds, ds.length = 2 → D.stos ds = true → isOs (ds.take 1) = true → m_law_made_good cl ds ≠ .no → g_law_made_good cl (env0 n_law_made_good ds) (OutW 1 (ds.take 1) (m_law_made_good cl ds)) := mk_hW fun ⟨⟨a, n, w⟩, past⟩ ⟨h1, h2, h3, h4, h5⟩ => by
  show g_law_made_good cl [some (lm .ow (cl "Loom") a n w past), some (iL .fz w), none] (OutW 1 [lm .ow (cl "Loom") a n w past] (.ok (.wit (.bl true) [lm .ow (cl "Loom") a n w past])))
  replace h1 : past.length ≤ 9000 := h1
  replace h2 : Sm w := h2
  replace h3 : w.length ≤ 1000 := h3
  replace h4 : 2 ≤ n := h4
  replace h5 : n ≤ 7 := h5
  have e1 := m_law_refused_eq cl (a := a) (n := n) (w := w) (past := past) (.drop (w.length + 1)) (by omega) h2 (by omega) trivial
  rw [if_neg (by simp [Dd.ok]; omega)] at e1
  replace e1 : m_law_refused cl [lm .ow (cl "Loom") a n w past, .str "drop", .int (w.length + 1)] = .ok (.wit (.str "move") [lm .ow (cl "Loom") a n w past]) := e1
  have e2 := m_Loom_hang_eq cl (a := a) (n := n) (w := w) (v := [1]) (past := past) (by omega) (by simp; omega)
  have hw : WordB n [1] = true := by simp [WordB]; omega
  rw [hw] at e2
  replace e2 : m_Loom_hang cl [lm .ow (cl "Loom") a n w past, .lst .fz [.int 1]] = .ok (.wit .non [lm .ow (cl "Loom") a n (w ++ [1]) (past ++ [w])]) := e2
  have s2 : Sm (w ++ [1]) := fun k hk => by
    rcases List.mem_append.mp hk with z | z
    · exact h2 k z
    · simp at z; subst z; decide
  have e3 := m_law_refused_eq cl (a := a) (n := n) (w := w ++ [1]) (past := past ++ [w]) (.drop (w.length + 1)) (by simp; omega) s2 (by simp; omega) trivial
  rw [if_pos (by simp [Dd.ok]; omega)] at e3
  have t0 : Dd.done (w ++ [1]) (.drop (w.length + 1)) = [] := by
    show List.take _ _ = _
    have hz : (w ++ [(1 : Int)]).length - (((w.length : Int) + 1)).toNat = 0 := by simp
    rw [hz]
    rfl
  rw [t0] at e3
  replace e3 : m_law_refused cl [lm .ow (cl "Loom") a n (w ++ [1]) (past ++ [w]), .str "drop", .int (w.length + 1)] = .ok (.wit (.str "") [lm .ow (cl "Loom") a n [] (past ++ [w] ++ [w ++ [1]])]) := e3
  have e4 := m_Loom_now_eq cl a n [] (past ++ [w] ++ [w ++ [1]])
  have e5 := m_Loom_undo_snoc cl a n [] (w ++ [1]) (past ++ [w])
  have e6 := m_Loom_undo_snoc cl a n (w ++ [1]) w past
  have e7 := m_Loom_now_eq cl a n w past
  simp -implicitDefEqProofs [g_law_made_good, e1, e2, e3, e4, e5, e6, e7, -List.append_assoc]

theorem ok_law_made_good {P : Program} {w : World} {K : PySem.W.Frag} {mg : Str → Option Value} {base : Heap} {cl : String → Addr} {f : Addr} {fd : FuncData} (T : Tb K mg cl) (X : Fx K mg "_law_made_good" s_law_made_good f fd ["_law_loom", "_law_word"]) {f_Loom_hang : Addr} {fd_Loom_hang : FuncData} (X_Loom_hang : Mx K "hang" "Loom.hang" s_Loom_hang (cl "Loom") f_Loom_hang fd_Loom_hang ["self", "word"]) (G_Loom_hang : FnOk P w K mg base (L2.CX P w) 2 f_Loom_hang fd_Loom_hang ["self", "word"] (CtrW K cl 2 1 (m_Loom_hang cl))) {f_Loom_now : Addr} {fd_Loom_now : FuncData} (X_Loom_now : Mx K "now" "Loom.now" s_Loom_now (cl "Loom") f_Loom_now fd_Loom_now ["self"]) (G_Loom_now : FnOk P w K mg base (L2.CX P w) 1 f_Loom_now fd_Loom_now ["self"] (Ctr K cl 1 (m_Loom_now cl))) {f_Loom_undo : Addr} {fd_Loom_undo : FuncData} (X_Loom_undo : Mx K "undo" "Loom.undo" s_Loom_undo (cl "Loom") f_Loom_undo fd_Loom_undo ["self"]) (G_Loom_undo : FnOk P w K mg base (L2.CX P w) 1 f_Loom_undo fd_Loom_undo ["self"] (CtrW K cl 1 1 (m_Loom_undo cl))) {f_law_refused : Addr} {fd_law_refused : FuncData} (X_law_refused : Fx K mg "_law_refused" s_law_refused f_law_refused fd_law_refused ["_law_loom", "_law_kind", "_law_part"]) (G_law_refused : FnOk P w K mg base (L2.CX P w) 5 f_law_refused fd_law_refused ["_law_loom", "_law_kind", "_law_part"] (CtrW K cl 3 1 (m_law_refused cl))) (Gp_law_refused : FnOk P w K mg base (L2.CX P w) 5 f_law_refused fd_law_refused ["_law_loom", "_law_kind", "_law_part"] (Ctr K cl 3 (mp_law_refused cl))) :
    FnOk P w K mg base (L2.CX P w) 6 f fd ["_law_loom", "_law_word"] (CtrW K cl 2 1 (m_law_made_good cl)) :=
  okDW 1 X.F sc_law_made_good rfl (by decide) (h_law_made_good cl) fun cdv A outer s H E hr => by
    unfold g_law_made_good
    exact ((sss_cons (ss_set 2 sc_law_made_good.nd (se_add (se_blt call_len oa_len rfl T.z_len (by decide +kernel) (sa_cons (se_var 1) sa_nil)) se_int))
  (sss_cons (ss_ifE (st_cmpE (op_neD hr.units) o2_ne (se_callW [0] G_law_refused hr (by decide) rfl X_law_refused.g X_law_refused.F.kp X_law_refused.b (takesD (takes_of rfl rfl rfl rfl)) (pa_cons (pv 0) (sa_cons se_str (sa_cons (se_var 2) sa_nil))) (hnW (xa1 (xa1 xa0)))) se_str) (sss_one (ss_retW [0] se_bl)) sss_nil)
  (sss_cons (ss_dropE (se_methW 0 T.o_Loom X_Loom_hang.me G_Loom_hang hr (by decide) X_Loom_hang.b (takesD (takes_of rfl rfl rfl rfl)) (pv 0) (sa_cons (se_lst (sa_cons se_int sa_nil)) sa_nil) (hnW (xa1 xa0))))
  (sss_cons (ss_ifE (PW.pt (sw_orE (st_cmpE (op_neD hr.units) o2_ne (se_callW [0] G_law_refused hr (by decide) rfl X_law_refused.g X_law_refused.F.kp X_law_refused.b (takesD (takes_of rfl rfl rfl rfl)) (pa_cons (pv 0) (sa_cons se_str (sa_cons (se_var 2) sa_nil))) (hnW (xa1 (xa1 xa0)))) se_str) (sw_or1E (st_pureE (st_cmp (op_neD hr.units) o2_ne (se_meth0 T.o_Loom X_Loom_now.me G_Loom_now hr (by decide) X_Loom_now.b (takesD (takes_of rfl rfl rfl rfl)) (se_var 0)) (se_lst sa_nil)))))) (sss_one (ss_retW [0] se_bl)) sss_nil)
  (sss_one (ss_retE [0] (se_andE (se_cmpE op_isD o2_is (se_methW0 0 T.o_Loom X_Loom_undo.me G_Loom_undo hr (by decide) X_Loom_undo.b (takesD (takes_of rfl rfl rfl rfl)) (pv 0)) se_bl) (se_andE (se_cmpE op_isD o2_is (se_methW0 0 T.o_Loom X_Loom_undo.me G_Loom_undo hr (by decide) X_Loom_undo.b (takesD (takes_of rfl rfl rfl rfl)) (pv 0)) se_bl) (se_oneE (se_pureE (se_cmp (op_eqD hr.units) o2_eq (se_meth0 T.o_Loom X_Loom_now.me G_Loom_now hr (by decide) X_Loom_now.b (takesD (takes_of rfl rfl rfl rfl)) (se_var 0)) (se_var 1)))))))))))))
/-! ### _law_strings: 0 _law_seed, 1 _law_least, 2 _law_most -/
abbrev s_law_strings : Stmt := topS 24
abbrev n_law_strings : List Str := ["_law_seed", "_law_least", "_law_most"]
theorem sc_law_strings : FnScope n_law_strings ["_law_seed", "_law_least", "_law_most"] (defScope s_law_strings) := ⟨rfl, rfl, rfl, by decide +kernel, rfl, by decide +kernel, by decide +kernel⟩
@[irreducible] noncomputable def g_law_strings : G := (gSeq (gIf (xTAnd (xB (x2 eqD (xVar 1) (xC (.int 1)))) (xB (x2 eqD (x2 modD (xVar 0) (xC (.int 13))) (xC (.int 5))))) (gRet (xC (.int 1))) gNext)
  (gSeq (gAsg 1 (xA max2D (xCons (xC (.int 2)) (xCons (xVar 1) xNil))))
  (gRet (x2 addD (xVar 1) (x2 modD (x2 divD (xVar 0) (xC (.int 13))) (x2 addD (x2 subD (xVar 2) (xVar 1)) (xC (.int 1))))))))
--needs Draw
noncomputable def m_law_strings : List D → R D := mk (fun a : Int × Int × Int => [.int a.1, .int a.2.1, .int a.2.2]) (fun a => 1 ≤ a.2.1 ∧ 2 ≤ a.2.2 ∧ a.2.1 ≤ a.2.2 ∧ a.2.2 ≤ 100) (fun a => .ok (.int (strZ a.1 a.2.1 a.2.2)))
theorem m_law_strings_eq {c k f : Int} (h1 : 1 ≤ k) (h2 : 2 ≤ f) (h3 : k ≤ f) (h4 : f ≤ 100) : m_law_strings [.int c, .int k, .int f] = .ok (.int (strZ c k f)) :=
  mk_eq (enc := fun a : Int × Int × Int => [.int a.1, .int a.2.1, .int a.2.2]) (fun a b e => by simp at e; exact Prod.ext e.1 (Prod.ext e.2.1 e.2.2)) (c, k, f) ⟨h1, h2, h3, h4⟩
theorem h_law_strings : ∀ ds, ds.length = 3 → D.stos ds = true → m_law_strings ds ≠ .no → g_law_strings (env0 n_law_strings ds) (Out (m_law_strings ds)) := mk_h fun ⟨c, k, f⟩ ⟨h1, h2, h3, h4⟩ => by
  show g_law_strings [some (.int c), some (.int k), some (.int f)] _
  simp at h1 h2 h3 h4
  by_cases e1 : k = 1
  · by_cases e2 : c % 13 = 5
    · simp -implicitDefEqProofs [g_law_strings, strZ, e1, e2]
    · simp -implicitDefEqProofs [g_law_strings, strZ, e1, e2]
      omega
  · simp -implicitDefEqProofs [g_law_strings, strZ, e1]
    omega

theorem ok_law_strings {P : Program} {w : World} {K : PySem.W.Frag} {mg : Str → Option Value} {base : Heap} {cl : String → Addr} {f : Addr} {fd : FuncData} (T : Tb K mg cl) (X : Fx K mg "_law_strings" s_law_strings f fd ["_law_seed", "_law_least", "_law_most"]) :
    FnOk P w K mg base (L2.CX P w) 1 f fd ["_law_seed", "_law_least", "_law_most"] (Ctr K cl 3 m_law_strings) :=
  okD X.F sc_law_strings rfl (by decide) h_law_strings fun cdv A outer s H E hr => by
    unfold g_law_strings
    exact ((sss_cons (ss_if (PW.pt (sw_and (st_cmp (op_eqD hr.units) o2_eq (se_var 1) se_int) (sw_and1 (st_cmp (op_eqD hr.units) o2_eq (se_mod (se_var 0) se_int) se_int)))) (sss_one (ss_ret se_int)) sss_nil)
  (sss_cons (ss_set 1 sc_law_strings.nd (se_blt (call_max2 rfl) oa_max2 rfl T.z_max (by decide +kernel) (sa_cons se_int (sa_cons (se_var 1) sa_nil))))
  (sss_one (ss_ret (se_add (se_var 1) (se_mod (se_div (se_var 0) se_int) (se_add (se_sub (se_var 2) (se_var 1)) se_int))))))))
/-! ### law: 0 _law_script, 1 _law_seed, 2 _law_n, 3 _law_far, 4 _law_many, 5 _law_loom, 6 _law_past, 7 _law_k, 8 _law_cell, 9 _law_word, 10 _law_deed, 11 _law_due_here, 12 _law_at -/
abbrev s_law : Stmt := topS 37
abbrev n_law : List Str := ["_law_script", "_law_seed", "_law_n", "_law_far", "_law_many", "_law_loom", "_law_past", "_law_k", "_law_cell", "_law_word", "_law_deed", "_law_due_here", "_law_at"]
theorem sc_law : FnScope n_law ["_law_script"] (defScope s_law) := ⟨rfl, rfl, rfl, by decide +kernel, rfl, by decide +kernel, by decide +kernel⟩
@[irreducible] noncomputable def g_law (cl : String → Addr) : G := (gSeq (gAsg 1 (x2 modD (xCall m_law_cell_at (xCons (xVar 0) (xCons (xC (.int 0)) xNil))) (xC (.int 1000000007))))
  (gSeq (gAsg 2 (xCall m_law_strings (xCons (xVar 1) (xCons (xC (.int 1)) (xCons (xC (.int 7)) xNil)))))
  (gSeq (gAsg 3 (x2 addD (xC (.int 1)) (x2 modD (xCall m_law_cell_at (xCons (xVar 0) (xCons (xC (.int 1)) xNil))) (x2 powD (xC (.int 10)) (xC (.int 60))))))
  (gSeq (gFor (xSrcT (xTup (xCons (xC (.int 0)) (xCons (xC (.int 8)) (xCons (x1 negD (xC (.int 1))) (xCons (x2 addD (xC (.int 8)) (xVar 3)) (xCons (x1 negD (xVar 3)) xNil))))))) (tgN 4) (gIf (xB (x2 neD (xCall (mp_law_refused cl) (xCons (xC .non) (xCons (xC (.str "loom")) (xCons (xVar 4) xNil)))) (xC (.str "word")))) (gRet (xC (.bl false))) gNext))
  (gSeq (gAsgE 5 (eMake (cl "Loom") (m_Loom___init__ cl) (xCons (xVar 2) xNil)))
  (gSeq (gAsg 6 (xLst (xCons (xLst xNil) xNil)))
  (gFrzI 6 (gSeq (gFor (xSrcEnum (xSl (xVar 0) (xP1 (xC (.int 1))) (xP1 (xC (.int 40))))) (tgT [7, 8]) (gSeq (gAsg 9 (x2 ixD (xVar 6) (x1 negD (xC (.int 1)))))
  (gSeq (gAsg 10 (xCall m_law_deed_by (xCons (xVar 2) (xCons (xVar 9) (xCons (xCall m_law_mix (xCons (xVar 8) (xCons (xVar 7) (xCons (xC (.int 69621)) xNil)))) (xCons (xVar 3) xNil))))))
  (gFrz 10 (gSeq (gAsg 11 (xCall m_law_due (xCons (xVar 2) (xCons (xVar 9) (xCons (xVar 10) xNil)))))
  (gSeq (gIfE (gtAnd (gtP (xB (x2 neD (xVar 11) (xC (.str ""))))) (gtV (eBin neD (eCall [5] (m_law_refused cl) (xCons (x2 ixD (xVar 10) (xC (.int 0))) (xCons (x2 ixD (xVar 10) (xC (.int 1))) xNil))) (xVar 11)))) (gRet (xC (.bl false))) gNext)
  (gSeq (gIf (xTOr (xB (x2 neD (xVar 11) (xC (.str "")))) (xTOr (xB (x2 ltD (xA lenD (xCons (xVar 9) xNil)) (xC (.int 16)))) (xB (x2 eqD (x2 ixD (xVar 10) (xC (.int 0))) (xC (.str "drop")))))) (gSeq (gIfE (gtV (eBin neD (eCall [5] (m_law_refused cl) (xCons (x2 ixD (xVar 10) (xC (.int 0))) (xCons (x2 ixD (xVar 10) (xC (.int 1))) xNil))) (xVar 11))) (gRet (xC (.bl false))) gNext)
  (gIf (xB (x2 eqD (xVar 11) (xC (.str "")))) (gApp 6 [] (xCall m_law_behind (xCons (xVar 9) (xCons (xVar 10) xNil)))) gNext)) gNext)
  (gFrzI 6 (gIfE (gtOr (gtP (xTNot (xB (xCall (m_law_equal 5) (xCons (xMeth (cl "Loom") "now" (m_Loom_now cl) (xVar 5) xNil) (xCons (x2 ixD (xVar 6) (x1 negD (xC (.int 1)))) xNil)))))) (gtAnd (gtP (xB (x2 gtD (xVar 2) (xC (.int 1))))) (gtNot (gtV (eCall [5] (m_law_made_good cl) (xCons (x2 ixD (xVar 6) (x1 negD (xC (.int 1)))) xNil)))))) (gRet (xC (.bl false))) gNext)))))))))
  (gSeq (gFor (xRng3 (x2 subD (xA lenD (xCons (xVar 6) xNil)) (xC (.int 1))) (xC (.int 0))) (tgN 12) (gIfE (gtOr (gtP (xTNot (xB (xCall (m_law_equal 5) (xCons (xMeth (cl "Loom") "now" (m_Loom_now cl) (xVar 5) xNil) (xCons (x2 ixD (xVar 6) (xVar 12)) xNil)))))) (gtV (eBin notisD (eMeth (cl "Loom") "undo" 5 (m_Loom_undo cl) xNil) (xC (.bl true))))) (gRet (xC (.bl false))) gNext))
  (gRetE0 (eAnd (geP (x2 eqD (xMeth (cl "Loom") "now" (m_Loom_now cl) (xVar 5) xNil) (xLst xNil))) (eBin isD (eMeth (cl "Loom") "undo" 5 (m_Loom_undo cl) xNil) (xC (.bl false))))))))))))))
--frzi 9 _law_past
--frz 12 _law_deed
--frzi 20 _law_past
--needs LoomD
noncomputable def m_law : List D → R D := mk (fun a : List Int => [iL .sc a]) (fun a => a.length ≤ 63) (fun _ => .ok (.bl true))
theorem law_true (ns : List Int) (h : ns.length ≤ 63) : m_law [.lst .sc (ns.map .int)] = .ok (.bl true) := mk_eq (enc := fun ws : List Int => [iL .sc ws]) (fun a b e => by simpa using e) ns h
theorem dby_len {n : Int} {w : List Int} {c far : Int} (h : (dbyZ n w c far).ok n w = true) (hl : w.length ≤ 20) (hd : w.length < 16 ∨ (dbyZ n w c far).isDrop = true) : ((dbyZ n w c far).done w).length ≤ 20 := by
  have hz : ∀ v, dbyZ n w c far = .hang v → v.length ≤ 4 := fun v e => by
    unfold dbyZ at e
    split at e
    · cases e
      have h1 : (drawnZ [c / 3, c / 3 / 7] n 3).length ≤ 3 := by unfold drawnZ; simp; omega
      have h2 : ∀ j, (([[], [], [0], [n], [-n], [n + far], [-n - far]] : List (List Int)).getD j []).length ≤ 1 := fun j => by
        match j with
        | 0 | 1 | 2 | 3 | 4 | 5 | 6 => simp
        | j + 7 => simp
      have h3 := h2 (c / 3 / 16 % 7).toNat
      simp only [List.length_append, List.length_take, List.length_drop]
      omega
    · split at e
      · cases e
      · split at e <;> cases e
  generalize dbyZ n w c far = d at *
  cases d with
  | hang v =>
    have := hz v rfl
    show (w ++ v).length ≤ 20
    have h2 : w.length < 16 := by simpa [Dd.isDrop] using hd
    simp
    omega
  | drop m =>
    show (w.take _).length ≤ 20
    simp
    omega
  | go m =>
    have h2 : w.length < 16 := by simpa [Dd.isDrop] using hd
    have := doneZ_len h
    show (doneZ w m).length ≤ 20
    split at this <;> omega
theorem h_law (cl : String → Addr) : ∀ ds, ds.length = 1 → D.stos ds = true → m_law ds ≠ .no → g_law cl (env0 n_law ds) (Out (m_law ds)) := mk_h fun ns h1 => by
  show g_law cl [some (iL .sc ns), none, none, none, none, none, none, none, none, none, none, none, none] (Out (.ok (.bl true)))
  replace h1 : ns.length ≤ 63 := h1
  have e0 : m_law_cell_at [iL .sc ns, .int 0] = .ok (.int (cellZ ns 0)) := m_law_cell_at_eq (b := true) (k := 0) (by omega)
  have e1 : m_law_cell_at [iL .sc ns, .int 1] = .ok (.int (cellZ ns 1)) := m_law_cell_at_eq (b := true) (k := 1) (by omega)
  have hn := strZ_bounds (seed := cellZ ns 0 % 1000000007) (least := 1) (most := 7) (by decide) (by decide) (by decide)
  have e2 := m_law_strings_eq (c := cellZ ns 0 % 1000000007) (k := 1) (f := 7) (by decide) (by decide) (by decide) (by decide)
  generalize strZ (cellZ ns 0 % 1000000007) 1 7 = n at hn e2
  obtain ⟨hn1, hn7⟩ := hn
  have hfar : 1 ≤ 1 + cellZ ns 1 % 10 ^ 60 := by have := Int.emod_nonneg (cellZ ns 1) (show (10 ^ 60 : Int) ≠ 0 by decide); omega
  simp only [show (10 ^ 60 : Int) = 1000000000000000000000000000000000000000000000000000000000000 by decide] at hfar
  simp -implicitDefEqProofs [g_law, e0, e1, e2]
  generalize cellZ ns 0 % 1000000007 = seed
  generalize 1 + cellZ ns 1 % 1000000000000000000000000000000000000000000000000000000000000 = far at hfar
  have p1 : ∀ m : Int, (m < 1 ∨ 7 < m) → mp_law_refused cl [.non, .str "loom", .int m] = .ok (.str "word") := fun m hm => mp_law_refused_eq cl (by
    cases h : WordB m [] with
    | false => rfl
    | true => obtain ⟨q1, q2, _⟩ := WordB_iff.mp h; omega)
  refine for_inv (f := D.int) (fun rest env => (∀ m ∈ rest, m < 1 ∨ 7 < m) ∧ ∃ x, env = [some (iL .sc ns), some (.int seed), some (.int n), some (.int far), x, none, none, none, none, none, none, none, none]) (fun _ => rfl) [0, 8, -1, 8 + far, -far] ⟨fun m hm => by simp at hm; omega, none, rfl⟩ ?_ ?_
  · rintro m rest _ ⟨hm, x, rfl⟩ ih
    have p2 := p1 m (hm m (by simp))
    simp -implicitDefEqProofs [p2]
    exact ih _ ⟨fun k hk => hm k (by simp [hk]), _, rfl⟩
  rintro _ ⟨-, x, rfl⟩
  have i1 : ∀ a, m_Loom___init__ cl [.obj .ow a (some (cl "Loom")) [] [], .int n] = .ok (.wit .non [lm .ow (cl "Loom") a n [] []]) := fun a => by
    rw [m_Loom___init___eq, if_pos (WordB_iff.mpr ⟨hn1, hn7, .nil⟩)]
  simp -implicitDefEqProofs [i1]
  intro a
  have sm : ∀ {v : List Int}, Wd n v → Sm v := fun hv => hv.sm (by omega)
  have eqq : ∀ {v : List Int}, v.length ≤ 20 → m_law_equal 5 [iL .fz v, iL .fz v] = .ok (.bl true) := fun {v} hv => by
    have := m_law_equal_eq (d := 4) (x := iL .fz v) (y := iL .fz v) (okE_iL (by omega)) (okE_iL (by omega))
    rwa [eqE_self] at this
  refine lp_inv' (f := eZ D.int) (cutL ns (some 1) (some 40)).zipIdx (fun rest env => ∃ (w : List Int) (past : List (List Int)) (x4 x7 x8 x9 x10 x11 : Option D), env = [some (iL .sc ns), some (.int seed), some (.int n), some (.int far), x4, some (lm .ow (cl "Loom") a n w past), some (.lst .ow (encL (iL .fz) (past ++ [w]))), x7, x8, x9, x10, x11, none] ∧ past.length + rest.length ≤ 100 ∧ Wd n w ∧ (∀ v ∈ past ++ [w], v.length ≤ 20) ∧ ∃ t, past ++ [w] = [] :: t) (fun p _ => by simp [eZ]) ⟨[], [], x, none, none, none, none, none, rfl, ?_, .nil, by simp, [], rfl⟩ ?_ ?_
  · rw [cutL_mid (by decide) (by decide)]
    simp
    omega
  · rintro ⟨c, i⟩ rest _ K hm ⟨w, past, x4, x7, x8, x9, x10, x11, rfl, hp, hw, hl, tt, htt⟩ ih
    refine ⟨_, rfl, ?_⟩
    have hi : i ≤ 63 := by
      have := List.mem_zipIdx hm
      have h2 : (cutL ns (some 1) (some 40)).length ≤ 63 := by rw [cutL_mid (by decide) (by decide)]; simp; omega
      omega
    have hlw : w.length ≤ 20 := hl w (by simp)
    simp only [List.length_cons] at hp
    have e3 := m_law_mix_eq (c := c) (k := (i : Nat)) (f := 69621) (by omega) (by omega) (by decide) (by decide)
    have hm0 := mixZ_nonneg c (i : Nat) 69621
    generalize mixZ c (i : Nat) 69621 = m at e3 hm0
    have e4 := m_law_deed_by_eq (n := n) (w := w) (c := m) (far := far) hn1 hm0 (by omega)
    have hsm := dbyZ_sm n w m far
    have hdl := dby_len (n := n) (w := w) (c := m) (far := far)
    generalize dbyZ n w m far = d at e4 hsm hdl
    have e5 := m_law_due_eq (n := n) (w := w) (d := d) hn1 hn7 (sm hw) hsm
    have e6 := m_law_refused_eq cl (a := a) (n := n) (w := w) (past := past) d (by omega) (sm hw) (by omega) hsm
    rw [show d.pt = d.ptK .fz from rfl] at e6
    have e8 := m_Loom_now_eq cl a n w past
    have e9 := eqq hlw
    have e10 : 2 ≤ n → m_law_made_good cl [lm .ow (cl "Loom") a n w past, iL .fz w] = .ok (.wit (.bl true) [lm .ow (cl "Loom") a n w past]) := fun h => m_law_made_good_eq cl (by omega) (sm hw) (by omega) h hn7
    by_cases hok : d.ok n w = true
    · rw [if_pos hok] at e5 e6
      have e7 := m_law_behind_eq (w := w) (d := d) (by omega) hsm (dd_ok7 hok hn7)
      by_cases hc : w.length < 16 ∨ d.isDrop = true
      · have hw' := dd_wd hw hok
        have hl' := hdl hok hlw hc
        have hL : ∀ v ∈ past ++ [w] ++ [d.done w], v.length ≤ 20 := fun v hv => by
          rcases List.mem_append.mp hv with z | z
          · exact hl v z
          · simp at z; subst z; exact hl'
        generalize d.done w = w' at e6 e7 hw' hl' hL
        have f8 := m_Loom_now_eq cl a n w' (past ++ [w])
        have hfz : D.frzs (encL (iL .fz) (past ++ [w]) ++ [iL .ow w']) = encL (iL .fz) (past ++ [w] ++ [w']) := by
          have : ∀ l : List (List Int), D.frzs (encL (iL .fz) l ++ [iL .ow w']) = encL (iL .fz) (l ++ [w']) := fun l => by
            induction l with
            | nil =>
              show D.frzs [D.lst .ow (encL .int w')] = [D.lst .fz (encL .int w')]
              rw [dfrzs_cons, dfrzs_nil, dfrz_lst, frzs_int, frz_ow]
            | cons x l ih =>
              rw [encL_cons, List.cons_append, dfrzs_cons, ih]
              show (D.lst .fz (encL .int x)).frz :: _ = _
              rw [dfrz_lst, frzs_int]
              rfl
          exact this _
        have f9 := eqq hl'
        have hin : ∀ (x4 x7 x8 x9 x10 x11 : Option D), K [some (iL .sc ns), some (.int seed), some (.int n), some (.int far), x4, some (lm .ow (cl "Loom") a n w' (past ++ [w])), some (.lst .ow (encL (iL .fz) (past ++ [w] ++ [w']))), x7, x8, x9, x10, x11, none] := fun x4 x7 x8 x9 x10 x11 => ih _ ⟨w', past ++ [w], x4, x7, x8, x9, x10, x11, rfl, by simp; omega, hw', hL, tt ++ [w'], by rw [htt]; rfl⟩
        have hd : (w.length < 16) = True ∨ (w.length < 16) = False ∧ (d.isDrop = true) = True := by
          by_cases h : w.length < 16
          · exact .inl (eq_true h)
          · exact .inr ⟨eq_false h, eq_true (hc.resolve_left h)⟩
        by_cases h2 : 1 < n
        · have f10 := m_law_made_good_eq cl (a := a) (n := n) (w := w') (past := past ++ [w]) (by simp; omega) (sm hw') (by omega) h2 hn7
          rcases hd with hd | ⟨hd, hd2⟩
          · have hd3 : ((w.length : Int) < 16) = True := by simp only [eq_iff_iff, iff_true]; have := of_eq_true hd; omega
            simp -implicitDefEqProofs [e3, e4, e5, e6, e7, f8, f9, f10, er_ne, h2, hd3, hfz, -List.append_assoc]
            exact ⟨by omega, hin _ _ _ _ _ _⟩
          · have hd3 : ((w.length : Int) < 16) = False := by simp only [eq_iff_iff, iff_false]; have := of_eq_false hd; omega
            simp -implicitDefEqProofs [e3, e4, e5, e6, e7, f8, f9, f10, er_ne, h2, hd3, hd2, hfz, -List.append_assoc]
            exact ⟨by omega, hin _ _ _ _ _ _⟩
        · rcases hd with hd | ⟨hd, hd2⟩
          · have hd3 : ((w.length : Int) < 16) = True := by simp only [eq_iff_iff, iff_true]; have := of_eq_true hd; omega
            simp -implicitDefEqProofs [e3, e4, e5, e6, e7, f8, f9, er_ne, h2, hd3, hfz, -List.append_assoc]
            exact ⟨by omega, hin _ _ _ _ _ _⟩
          · have hd3 : ((w.length : Int) < 16) = False := by simp only [eq_iff_iff, iff_false]; have := of_eq_false hd; omega
            simp -implicitDefEqProofs [e3, e4, e5, e6, e7, f8, f9, er_ne, h2, hd3, hd2, hfz, -List.append_assoc]
            exact ⟨by omega, hin _ _ _ _ _ _⟩
      · simp only [not_or] at hc
        have hd3 : ((w.length : Int) < 16) = False := by simp only [eq_iff_iff, iff_false]; omega
        have hd2 := eq_false hc.2
        by_cases h2 : 1 < n
        · have e10 := e10 h2
          simp -implicitDefEqProofs [e3, e4, e5, e8, e9, e10, h2, hd3, hd2]
          exact ih _ ⟨w, past, _, _, _, _, _, _, rfl, by omega, hw, hl, tt, htt⟩
        · simp -implicitDefEqProofs [e3, e4, e5, e8, e9, h2, hd3, hd2]
          exact ih _ ⟨w, past, _, _, _, _, _, _, rfl, by omega, hw, hl, tt, htt⟩
    · rw [if_neg hok] at e5 e6
      by_cases h2 : 1 < n
      · have e10 := e10 h2
        simp -implicitDefEqProofs [e3, e4, e5, e6, e8, e9, e10, er_ne, h2]
        exact ih _ ⟨w, past, _, _, _, _, _, _, rfl, by omega, hw, hl, tt, htt⟩
      · simp -implicitDefEqProofs [e3, e4, e5, e6, e8, e9, er_ne, h2]
        exact ih _ ⟨w, past, _, _, _, _, _, _, rfl, by omega, hw, hl, tt, htt⟩
  · rintro _ ⟨w, past, x4, x7, x8, x9, x10, x11, rfl, hp, hw, hl, tt, htt⟩
    simp -implicitDefEqProofs []
    refine ⟨by omega, ?_⟩
    refine lp_rng (fun i env => ∃ (v : List Int) (l : List (List Int)) (x12 : Option D), env = [some (iL .sc ns), some (.int seed), some (.int n), some (.int far), x4, some (lm .ow (cl "Loom") a n v l), some (.lst .ow (encL (iL .fz) (past ++ [w]))), x7, x8, x9, x10, x11, x12] ∧ l.length + i = past.length ∧ ∃ r, past ++ [w] = l ++ v :: r) ⟨w, past, none, rfl, rfl, [], rfl⟩ ?_ ?_
    · rintro i _ K hi ⟨v, l, x12, rfl, hli, r, hr⟩ ih
      have hv : v.length ≤ 20 := hl v (by rw [hr]; simp)
      rcases List.eq_nil_or_concat l with rfl | ⟨l, u, rfl⟩
      · simp at hli
        omega
      · rw [List.concat_eq_append] at hli hr ⊢
        have g1 := m_Loom_now_eq cl a n v (l ++ [u])
        have g2 := m_Loom_undo_snoc cl a n v u l
        have g3 := eqq hv
        have g4 : L2.atI (past ++ [w]) ((past.length : Int) + -(i : Int)) = some v := by
          have : ((past.length : Int) + -(i : Int)) = (((l ++ [u]).length : Nat) : Int) := by omega
          rw [this, atI_natc, hr]
          simp
        refine ⟨_, rfl, ?_⟩
        simp -implicitDefEqProofs [g1, g2, g3, g4, -List.append_assoc]
        refine ih _ ⟨u, l, _, rfl, by simp at hli; omega, v :: r, by rw [hr]; simp⟩
    · rintro _ ⟨v, l, x12, rfl, hli, r, hr⟩
      have hl0 : l = [] := by cases l with | nil => rfl | cons a l => simp only [List.length_cons] at hli; omega
      subst hl0
      have hv : v = [] := by
        rw [htt] at hr
        exact (List.cons.inj hr).1.symm
      subst hv
      have g1 := m_Loom_now_eq cl a n [] []
      have g2 := m_Loom_undo_nil cl a n []
      simp -implicitDefEqProofs [g1, g2]

theorem ok_law {P : Program} {w : World} {K : PySem.W.Frag} {mg : Str → Option Value} {base : Heap} {cl : String → Addr} {f : Addr} {fd : FuncData} (T : Tb K mg cl) (X : Fx K mg "law" s_law f fd ["_law_script"]) {f_Loom___init__ : Addr} {fd_Loom___init__ : FuncData} (X_Loom___init__ : Ix K "__init__" "Loom.__init__" s_Loom___init__ (cl "Loom") f_Loom___init__ fd_Loom___init__ ["self", "n"]) (G_Loom___init__ : FnOk P w K mg base (L2.CX P w) 2 f_Loom___init__ fd_Loom___init__ ["self", "n"] (CtrW K cl 2 1 (m_Loom___init__ cl))) {f_Loom_now : Addr} {fd_Loom_now : FuncData} (X_Loom_now : Mx K "now" "Loom.now" s_Loom_now (cl "Loom") f_Loom_now fd_Loom_now ["self"]) (G_Loom_now : FnOk P w K mg base (L2.CX P w) 1 f_Loom_now fd_Loom_now ["self"] (Ctr K cl 1 (m_Loom_now cl))) {f_Loom_undo : Addr} {fd_Loom_undo : FuncData} (X_Loom_undo : Mx K "undo" "Loom.undo" s_Loom_undo (cl "Loom") f_Loom_undo fd_Loom_undo ["self"]) (G_Loom_undo : FnOk P w K mg base (L2.CX P w) 1 f_Loom_undo fd_Loom_undo ["self"] (CtrW K cl 1 1 (m_Loom_undo cl))) {f_law_behind : Addr} {fd_law_behind : FuncData} (X_law_behind : Fx K mg "_law_behind" s_law_behind f_law_behind fd_law_behind ["_law_word", "_law_deed"]) (G_law_behind : FnOk P w K mg base (L2.CX P w) 2 f_law_behind fd_law_behind ["_law_word", "_law_deed"] (Ctr K cl 2 m_law_behind)) {f_law_cell_at : Addr} {fd_law_cell_at : FuncData} (X_law_cell_at : Fx K mg "_law_cell_at" s_law_cell_at f_law_cell_at fd_law_cell_at ["_law_script", "_law_k"]) (G_law_cell_at : FnOk P w K mg base (L2.CX P w) 1 f_law_cell_at fd_law_cell_at ["_law_script", "_law_k"] (Ctr K cl 2 m_law_cell_at)) {f_law_deed_by : Addr} {fd_law_deed_by : FuncData} (X_law_deed_by : Fx K mg "_law_deed_by" s_law_deed_by f_law_deed_by fd_law_deed_by ["_law_n", "_law_word", "_law_number_here", "_law_far"]) (G_law_deed_by : FnOk P w K mg base (L2.CX P w) 4 f_law_deed_by fd_law_deed_by ["_law_n", "_law_word", "_law_number_here", "_law_far"] (Ctr K cl 4 m_law_deed_by)) {f_law_due : Addr} {fd_law_due : FuncData} (X_law_due : Fx K mg "_law_due" s_law_due f_law_due fd_law_due ["_law_n", "_law_word", "_law_deed"]) (G_law_due : FnOk P w K mg base (L2.CX P w) 2 f_law_due fd_law_due ["_law_n", "_law_word", "_law_deed"] (Ctr K cl 3 m_law_due)) {f_law_equal : Addr} {fd_law_equal : FuncData} (X_law_equal : Fx K mg "_law_equal" s_law_equal f_law_equal fd_law_equal ["_law_found", "_law_due_here"]) (G_law_equal : FnOk P w K mg base (L2.CX P w) 7 f_law_equal fd_law_equal ["_law_found", "_law_due_here"] (Ctr K cl 2 (m_law_equal 5))) {f_law_made_good : Addr} {fd_law_made_good : FuncData} (X_law_made_good : Fx K mg "_law_made_good" s_law_made_good f_law_made_good fd_law_made_good ["_law_loom", "_law_word"]) (G_law_made_good : FnOk P w K mg base (L2.CX P w) 6 f_law_made_good fd_law_made_good ["_law_loom", "_law_word"] (CtrW K cl 2 1 (m_law_made_good cl))) {f_law_mix : Addr} {fd_law_mix : FuncData} (X_law_mix : Fx K mg "_law_mix" s_law_mix f_law_mix fd_law_mix ["_law_cell", "_law_k", "_law_factor"]) (G_law_mix : FnOk P w K mg base (L2.CX P w) 1 f_law_mix fd_law_mix ["_law_cell", "_law_k", "_law_factor"] (Ctr K cl 3 m_law_mix)) {f_law_refused : Addr} {fd_law_refused : FuncData} (X_law_refused : Fx K mg "_law_refused" s_law_refused f_law_refused fd_law_refused ["_law_loom", "_law_kind", "_law_part"]) (G_law_refused : FnOk P w K mg base (L2.CX P w) 5 f_law_refused fd_law_refused ["_law_loom", "_law_kind", "_law_part"] (CtrW K cl 3 1 (m_law_refused cl))) (Gp_law_refused : FnOk P w K mg base (L2.CX P w) 5 f_law_refused fd_law_refused ["_law_loom", "_law_kind", "_law_part"] (Ctr K cl 3 (mp_law_refused cl))) {f_law_strings : Addr} {fd_law_strings : FuncData} (X_law_strings : Fx K mg "_law_strings" s_law_strings f_law_strings fd_law_strings ["_law_seed", "_law_least", "_law_most"]) (G_law_strings : FnOk P w K mg base (L2.CX P w) 1 f_law_strings fd_law_strings ["_law_seed", "_law_least", "_law_most"] (Ctr K cl 3 m_law_strings)) :
    FnOk P w K mg base (L2.CX P w) 8 f fd ["_law_script"] (Ctr K cl 1 m_law) :=
  okD X.F sc_law rfl (by decide) (h_law cl) fun cdv A outer s H E hr => by
    unfold g_law
    exact ((sss_cons (ss_set 1 sc_law.nd (se_mod (se_call G_law_cell_at hr (by decide) rfl X_law_cell_at.g X_law_cell_at.F.kp X_law_cell_at.b (takesD (takes_of rfl rfl rfl rfl)) (sa_cons (se_var 0) (sa_cons se_int sa_nil)) (xa1 (xa1 xa0))) se_int))
  (sss_cons (ss_set 2 sc_law.nd (se_call G_law_strings hr (by decide) rfl X_law_strings.g X_law_strings.F.kp X_law_strings.b (takesD (takes_of rfl rfl rfl rfl)) (sa_cons (se_var 1) (sa_cons se_int (sa_cons se_int sa_nil))) (xa1 (xa1 (xa1 xa0)))))
  (sss_cons (ss_set 3 sc_law.nd (se_add se_int (se_mod (se_call G_law_cell_at hr (by decide) rfl X_law_cell_at.g X_law_cell_at.F.kp X_law_cell_at.b (takesD (takes_of rfl rfl rfl rfl)) (sa_cons (se_var 0) (sa_cons se_int sa_nil)) (xa1 (xa1 xa0))) (se_pow se_int se_int))))
  (sss_cons (ss_for (passes_of rfl) rfl (si_tup (se_tup (sa_cons se_int (sa_cons se_int (sa_cons (se_neg se_int) (sa_cons (se_add se_int (se_var 3)) (sa_cons (se_neg (se_var 3)) sa_nil))))))) (pg_name (i := 4) sc_law.nd rfl (by first | exact Or.inl rfl | exact Or.inr rfl)) ts_name (sss_one (ss_if (st_cmp (op_neD hr.units) o2_ne (se_call Gp_law_refused hr (by decide) rfl X_law_refused.g X_law_refused.F.kp X_law_refused.b (takesD (takes_of rfl rfl rfl rfl)) (sa_cons se_non (sa_cons se_str (sa_cons (se_var 4) sa_nil))) (xa1 (xa1 (xa1 xa0)))) se_str) (sss_one (ss_ret se_bl)) sss_nil)))
  (sss_cons (ss_setE 5 sc_law.nd (se_make X_Loom___init__.mkr G_Loom___init__ hr (by decide) rfl T.gc_Loom X_Loom___init__.b (takesD (takes_of rfl rfl rfl rfl)) (sa_cons (se_var 2) sa_nil) (hnW (xa1 xa0))))
  (sss_cons (ss_set 6 sc_law.nd (se_lst (sa_cons (se_lst sa_nil) sa_nil)))
  (sss_frzI 6 (sss_cons (ss_for (passes_of rfl) rfl (si_enum rfl T.z_enumerate (se_slice (se_var 0) (so_some se_int) (so_some se_int))) (pg_tup rfl (pgs_cons (pg_name (i := 7) sc_law.nd rfl (by first | exact Or.inl rfl | exact Or.inr rfl)) (pgs_cons (pg_name (i := 8) sc_law.nd rfl (by first | exact Or.inl rfl | exact Or.inr rfl)) pgs_nil))) (ts_tup (js := [7, 8]) rfl) (sss_cons (ss_set 9 sc_law.nd (se_ix (se_var 6) (se_neg se_int)))
  (sss_cons (ss_set 10 sc_law.nd (se_call G_law_deed_by hr (by decide) rfl X_law_deed_by.g X_law_deed_by.F.kp X_law_deed_by.b (takesD (takes_of rfl rfl rfl rfl)) (sa_cons (se_var 2) (sa_cons (se_var 9) (sa_cons (se_call G_law_mix hr (by decide) rfl X_law_mix.g X_law_mix.F.kp X_law_mix.b (takesD (takes_of rfl rfl rfl rfl)) (sa_cons (se_var 8) (sa_cons (se_var 7) (sa_cons se_int sa_nil))) (xa1 (xa1 (xa1 xa0)))) (sa_cons (se_var 3) sa_nil)))) (xa1 (xa1 (xa1 (xa1 xa0))))))
  (sss_frz 10 (sss_cons (ss_set 11 sc_law.nd (se_call G_law_due hr (by decide) rfl X_law_due.g X_law_due.F.kp X_law_due.b (takesD (takes_of rfl rfl rfl rfl)) (sa_cons (se_var 2) (sa_cons (se_var 9) (sa_cons (se_var 10) sa_nil))) (xa1 (xa1 (xa1 xa0)))))
  (sss_cons (ss_ifE (PW.pt (sw_andE (st_pureE (st_cmp (op_neD hr.units) o2_ne (se_var 11) se_str)) (sw_and1E (st_cmpE (op_neD hr.units) o2_ne (se_callW [5] G_law_refused hr (by decide) rfl X_law_refused.g X_law_refused.F.kp X_law_refused.b (takesD (takes_of rfl rfl rfl rfl)) (pa_cons (pv 5) (sa_cons (se_ix (se_var 10) se_int) (sa_cons (se_ix (se_var 10) se_int) sa_nil))) (hnW (xa1 (xa1 xa0)))) (se_var 11))))) (sss_one (ss_ret se_bl)) sss_nil)
  (sss_cons (ss_if (PW.pt (sw_or (st_cmp (op_neD hr.units) o2_ne (se_var 11) se_str) (sw_or (st_cmp op_lt o2_cmp (se_blt call_len oa_len rfl T.z_len (by decide +kernel) (sa_cons (se_var 9) sa_nil)) se_int) (sw_or1 (st_cmp (op_eqD hr.units) o2_eq (se_ix (se_var 10) se_int) se_str))))) (sss_cons (ss_ifE (st_cmpE (op_neD hr.units) o2_ne (se_callW [5] G_law_refused hr (by decide) rfl X_law_refused.g X_law_refused.F.kp X_law_refused.b (takesD (takes_of rfl rfl rfl rfl)) (pa_cons (pv 5) (sa_cons (se_ix (se_var 10) se_int) (sa_cons (se_ix (se_var 10) se_int) sa_nil))) (hnW (xa1 (xa1 xa0)))) (se_var 11)) (sss_one (ss_ret se_bl)) sss_nil)
  (sss_one (ss_if (st_cmp (op_eqD hr.units) o2_eq (se_var 11) se_str) (sss_one (ss_app (sp_var 6) (se_call G_law_behind hr (by decide) rfl X_law_behind.g X_law_behind.F.kp X_law_behind.b (takesD (takes_of rfl rfl rfl rfl)) (sa_cons (se_var 9) (sa_cons (se_var 10) sa_nil)) (xa1 (xa1 xa0))))) sss_nil))) sss_nil)
  (sss_frzI 6 (sss_one (ss_ifE (PW.pt (sw_orE (st_pureE (st_not (st_val (se_call G_law_equal hr (by decide) rfl X_law_equal.g X_law_equal.F.kp X_law_equal.b (takesD (takes_of rfl rfl rfl rfl)) (sa_cons (se_meth0 T.o_Loom X_Loom_now.me G_Loom_now hr (by decide) X_Loom_now.b (takesD (takes_of rfl rfl rfl rfl)) (se_var 5)) (sa_cons (se_ix (se_var 6) (se_neg se_int)) sa_nil)) (xa1 (xa1 xa0)))))) (sw_or1E (PW.pt (sw_andE (st_pureE (st_cmp op_gt o2_cmp (se_var 2) se_int)) (sw_and1E (st_notE (st_valE (se_callW [5] G_law_made_good hr (by decide) rfl X_law_made_good.g X_law_made_good.F.kp X_law_made_good.b (takesD (takes_of rfl rfl rfl rfl)) (pa_cons (pv 5) (sa_cons (se_ix (se_var 6) (se_neg se_int)) sa_nil)) (hnW (xa1 xa0))))))))))) (sss_one (ss_ret se_bl)) sss_nil))))))))))
  (sss_cons (ss_for (passes_of rfl) rfl (si_rng3 rfl T.z_range (se_sub (se_blt call_len oa_len rfl T.z_len (by decide +kernel) (sa_cons (se_var 6) sa_nil)) se_int) se_int (hi := fun _ h => pi_range3 rfl T.z_range h)) (pg_name (i := 12) sc_law.nd rfl (by first | exact Or.inl rfl | exact Or.inr rfl)) ts_name (sss_one (ss_ifE (PW.pt (sw_orE (st_pureE (st_not (st_val (se_call G_law_equal hr (by decide) rfl X_law_equal.g X_law_equal.F.kp X_law_equal.b (takesD (takes_of rfl rfl rfl rfl)) (sa_cons (se_meth0 T.o_Loom X_Loom_now.me G_Loom_now hr (by decide) X_Loom_now.b (takesD (takes_of rfl rfl rfl rfl)) (se_var 5)) (sa_cons (se_ix (se_var 6) (se_var 12)) sa_nil)) (xa1 (xa1 xa0)))))) (sw_or1E (st_cmpE op_notisD o2_notis (se_methW0 5 T.o_Loom X_Loom_undo.me G_Loom_undo hr (by decide) X_Loom_undo.b (takesD (takes_of rfl rfl rfl rfl)) (pv 5)) se_bl)))) (sss_one (ss_ret se_bl)) sss_nil)))
  (sss_one (ss_retE0 (se_andE (se_pureE (se_cmp (op_eqD hr.units) o2_eq (se_meth0 T.o_Loom X_Loom_now.me G_Loom_now hr (by decide) X_Loom_now.b (takesD (takes_of rfl rfl rfl rfl)) (se_var 5)) (se_lst sa_nil))) (se_oneE (se_cmpE op_isD o2_is (se_methW0 5 T.o_Loom X_Loom_undo.me G_Loom_undo hr (by decide) X_Loom_undo.b (takesD (takes_of rfl rfl rfl rfl)) (pv 5)) se_bl)))))))))))))))
theorem mk_is1_NoMove {K : PySem.W.Frag} {cl : String → Addr} {u_NoMove : Value} (E_NoMove : ExcC K (cl "NoMove")) (E_NoWord : ExcC K (cl "NoWord")) (i_NoMove_NoMove : PySem.W.kitOne K (.ref (cl "NoMove")) u_NoMove = some true) (i_NoWord_NoMove : PySem.W.kitOne K (.ref (cl "NoWord")) u_NoMove = some false) (n_NoMove : PySem.W.kitOne K (.type "NoneType") u_NoMove = some false) : IsF1 K cl (u_NoMove) t_is1_NoMove where
  exc := fun c b hb => by
    unfold t_is1_NoMove at hb
    split at hb
    · rename_i e; subst e; cases hb; exact ⟨E_NoMove, i_NoMove_NoMove⟩
    split at hb
    · rename_i e; subst e; cases hb; exact ⟨E_NoWord, i_NoWord_NoMove⟩
    cases hb
  non := n_NoMove
theorem mk_is1_NoWord {K : PySem.W.Frag} {cl : String → Addr} {u_NoWord : Value} (E_NoMove : ExcC K (cl "NoMove")) (E_NoWord : ExcC K (cl "NoWord")) (i_NoMove_NoWord : PySem.W.kitOne K (.ref (cl "NoMove")) u_NoWord = some false) (i_NoWord_NoWord : PySem.W.kitOne K (.ref (cl "NoWord")) u_NoWord = some true) (n_NoWord : PySem.W.kitOne K (.type "NoneType") u_NoWord = some false) : IsF1 K cl (u_NoWord) t_is1_NoWord where
  exc := fun c b hb => by
    unfold t_is1_NoWord at hb
    split at hb
    · rename_i e; subst e; cases hb; exact ⟨E_NoMove, i_NoMove_NoWord⟩
    split at hb
    · rename_i e; subst e; cases hb; exact ⟨E_NoWord, i_NoWord_NoWord⟩
    cases hb
  non := n_NoWord
theorem mk_is1_ValueError {K : PySem.W.Frag} {cl : String → Addr} {u_ValueError : Value} (E_NoMove : ExcC K (cl "NoMove")) (E_NoWord : ExcC K (cl "NoWord")) (i_NoMove_ValueError : PySem.W.kitOne K (.ref (cl "NoMove")) u_ValueError = some true) (i_NoWord_ValueError : PySem.W.kitOne K (.ref (cl "NoWord")) u_ValueError = some true) (n_ValueError : PySem.W.kitOne K (.type "NoneType") u_ValueError = some false) : IsF1 K cl (u_ValueError) t_is1_ValueError where
  exc := fun c b hb => by
    unfold t_is1_ValueError at hb
    split at hb
    · rename_i e; subst e; cases hb; exact ⟨E_NoMove, i_NoMove_ValueError⟩
    split at hb
    · rename_i e; subst e; cases hb; exact ⟨E_NoWord, i_NoWord_ValueError⟩
    cases hb
  non := n_ValueError
theorem mk_is_BadPicture_BadText_NoForm_NoRow_NoString_TooMany_Unlike {K : PySem.W.Frag} {cl : String → Addr} {u_BadPicture u_BadText u_NoForm u_NoRow u_NoString u_TooMany u_Unlike : Value} (E_NoMove : ExcC K (cl "NoMove")) (E_NoWord : ExcC K (cl "NoWord")) (i_NoMove_BadPicture : PySem.W.kitOne K (.ref (cl "NoMove")) u_BadPicture = some false) (i_NoMove_BadText : PySem.W.kitOne K (.ref (cl "NoMove")) u_BadText = some false) (i_NoMove_NoForm : PySem.W.kitOne K (.ref (cl "NoMove")) u_NoForm = some false) (i_NoMove_NoRow : PySem.W.kitOne K (.ref (cl "NoMove")) u_NoRow = some false) (i_NoMove_NoString : PySem.W.kitOne K (.ref (cl "NoMove")) u_NoString = some false) (i_NoMove_TooMany : PySem.W.kitOne K (.ref (cl "NoMove")) u_TooMany = some false) (i_NoMove_Unlike : PySem.W.kitOne K (.ref (cl "NoMove")) u_Unlike = some false) (i_NoWord_BadPicture : PySem.W.kitOne K (.ref (cl "NoWord")) u_BadPicture = some false) (i_NoWord_BadText : PySem.W.kitOne K (.ref (cl "NoWord")) u_BadText = some false) (i_NoWord_NoForm : PySem.W.kitOne K (.ref (cl "NoWord")) u_NoForm = some false) (i_NoWord_NoRow : PySem.W.kitOne K (.ref (cl "NoWord")) u_NoRow = some false) (i_NoWord_NoString : PySem.W.kitOne K (.ref (cl "NoWord")) u_NoString = some false) (i_NoWord_TooMany : PySem.W.kitOne K (.ref (cl "NoWord")) u_TooMany = some false) (i_NoWord_Unlike : PySem.W.kitOne K (.ref (cl "NoWord")) u_Unlike = some false) (n_BadPicture : PySem.W.kitOne K (.type "NoneType") u_BadPicture = some false) (n_BadText : PySem.W.kitOne K (.type "NoneType") u_BadText = some false) (n_NoForm : PySem.W.kitOne K (.type "NoneType") u_NoForm = some false) (n_NoRow : PySem.W.kitOne K (.type "NoneType") u_NoRow = some false) (n_NoString : PySem.W.kitOne K (.type "NoneType") u_NoString = some false) (n_TooMany : PySem.W.kitOne K (.type "NoneType") u_TooMany = some false) (n_Unlike : PySem.W.kitOne K (.type "NoneType") u_Unlike = some false) : IsF K cl ([u_BadPicture, u_BadText, u_NoForm, u_NoRow, u_NoString, u_TooMany, u_Unlike]) t_is_BadPicture_BadText_NoForm_NoRow_NoString_TooMany_Unlike where
  exc := fun c b hb => by
    unfold t_is_BadPicture_BadText_NoForm_NoRow_NoString_TooMany_Unlike at hb
    split at hb
    · rename_i e; subst e; cases hb; exact ⟨E_NoMove, by simp only [PySem.W.kitAny, i_NoMove_BadPicture, i_NoMove_BadText, i_NoMove_NoForm, i_NoMove_NoRow, i_NoMove_NoString, i_NoMove_TooMany, i_NoMove_Unlike]; try rfl⟩
    split at hb
    · rename_i e; subst e; cases hb; exact ⟨E_NoWord, by simp only [PySem.W.kitAny, i_NoWord_BadPicture, i_NoWord_BadText, i_NoWord_NoForm, i_NoWord_NoRow, i_NoWord_NoString, i_NoWord_TooMany, i_NoWord_Unlike]; try rfl⟩
    cases hb
  non := by simp only [PySem.W.kitAny, n_BadPicture, n_BadText, n_NoForm, n_NoRow, n_NoString, n_TooMany, n_Unlike]; try rfl
theorem mk_ct_BraidError {K : PySem.W.Frag} {cl : String → Addr} {v : Value} (s_NoMove : PySem.W.exmOne K (.ref (cl "NoMove")) v = some true) (s_NoWord : PySem.W.exmOne K (.ref (cl "NoWord")) v = some true) : CatOk K cl v t_ct_BraidError := fun c b hb => by
    unfold t_ct_BraidError at hb
    split at hb
    · rename_i e; subst e; cases hb; exact s_NoMove
    split at hb
    · rename_i e; subst e; cases hb; exact s_NoWord
    cases hb
theorem all_mk {P : Program} {w : World} {K : PySem.W.Frag} {h : Heap} {mg : Str → Option Value} {fa f0 f1 f2 f3 f4 f5 f6 f7 f8 f9 f10 f11 f12 f13 f14 f15 f16 f17 f18 f19 f20 f21 f22 f23 f24 f25 C_BadPicture C_BadText C_BraidError C_Loom C_NoForm C_NoMove C_NoRow C_NoString C_NoWord C_TooMany C_Unlike : Addr} {od0 an0 od1 an1 od2 an2 od3 an3 od4 an4 od5 an5 od6 an6 od7 an7 od8 an8 od9 an9 od10 an10 od11 an11 od12 an12 od13 an13 od14 an14 od15 an15 od16 an16 od17 an17 od18 an18 od19 an19 od20 an20 od21 an21 od22 an22 od23 an23 od24 an24 od25 an25 : Option Addr} {sl0 sl1 sl2 sl3 sl4 sl5 sl6 sl7 sl8 sl9 sl10 sl11 sl12 sl13 sl14 sl15 sl16 sl17 sl18 sl19 sl20 sl21 sl22 sl23 sl24 sl25 : Array (Option Value)} {oc0 kV0 dc0 pm0 cd0 ct0 oc1 kV1 dc1 pm1 cd1 ct1 oc2 kV2 dc2 pm2 cd2 ct2 oc3 kV3 dc3 pm3 cd3 ct3 oc4 kV4 dc4 pm4 cd4 ct4 oc5 kV5 dc5 pm5 cd5 ct5 oc6 kV6 dc6 pm6 cd6 ct6 oc7 kV7 dc7 pm7 cd7 ct7 oc8 kV8 dc8 pm8 cd8 ct8 oc9 kV9 dc9 pm9 cd9 ct9 oc10 kV10 dc10 pm10 cd10 ct10 oc11 kV11 dc11 pm11 cd11 ct11 oc12 kV12 dc12 pm12 cd12 ct12 oc13 kV13 dc13 pm13 cd13 ct13 oc14 kV14 dc14 pm14 cd14 ct14 oc15 kV15 dc15 pm15 cd15 ct15 oc16 kV16 dc16 pm16 cd16 ct16 oc17 kV17 dc17 pm17 cd17 ct17 oc18 kV18 dc18 pm18 cd18 ct18 oc19 kV19 dc19 pm19 cd19 ct19 oc20 kV20 dc20 pm20 cd20 ct20 oc21 kV21 dc21 pm21 cd21 ct21 oc22 kV22 dc22 pm22 cd22 ct22 oc23 kV23 dc23 pm23 cd23 ct23 oc24 kV24 dc24 pm24 cd24 ct24 oc25 kV25 dc25 pm25 cd25 ct25 : Value} {t_MOST_STRINGS : Tok} (X : K.In h) (G : h.Ns mainGlobals mg) (hfa : mg "law" = some (.ref fa))
    (a0 : PySem.W.nsIn K mainGlobals "checked" = some (some (.ref f0)))
    (l0 : K.lookup f0 = some ⟨oc0, od0, .func (PySem.W.fnOf "checked" "checked" (defArgs s_checked) (defBody s_checked) (defScope s_checked) .none kV0 dc0 pm0 an0 cd0 ct0), sl0⟩)
    (c0 : PySem.W.codeIn K cd0 "checked" = true)
    (k0 : PySem.W.keepIn K (.ref f0) = true)
    (a1 : PySem.W.findIn K (.ref C_Loom) "__init__" = some (some (.ref f1)))
    (iF1 : PySem.W.isFn K (.ref f1) = true)
    (l1 : K.lookup f1 = some ⟨oc1, od1, .func (PySem.W.fnOf "__init__" "Loom.__init__" (defArgs s_Loom___init__) (defBody s_Loom___init__) (defScope s_Loom___init__) .none kV1 dc1 pm1 an1 cd1 ct1), sl1⟩)
    (c1 : PySem.W.codeIn K cd1 "Loom.__init__" = true)
    (k1 : PySem.W.keepIn K (.ref f1) = true)
    (a2 : PySem.W.findIn K (.ref C_Loom) "now" = some (some (.ref f2)))
    (iF2 : PySem.W.isFn K (.ref f2) = true)
    (l2 : K.lookup f2 = some ⟨oc2, od2, .func (PySem.W.fnOf "now" "Loom.now" (defArgs s_Loom_now) (defBody s_Loom_now) (defScope s_Loom_now) .none kV2 dc2 pm2 an2 cd2 ct2), sl2⟩)
    (c2 : PySem.W.codeIn K cd2 "Loom.now" = true)
    (k2 : PySem.W.keepIn K (.ref f2) = true)
    (a3 : PySem.W.findIn K (.ref C_Loom) "undo" = some (some (.ref f3)))
    (iF3 : PySem.W.isFn K (.ref f3) = true)
    (l3 : K.lookup f3 = some ⟨oc3, od3, .func (PySem.W.fnOf "undo" "Loom.undo" (defArgs s_Loom_undo) (defBody s_Loom_undo) (defScope s_Loom_undo) .none kV3 dc3 pm3 an3 cd3 ct3), sl3⟩)
    (c3 : PySem.W.codeIn K cd3 "Loom.undo" = true)
    (k3 : PySem.W.keepIn K (.ref f3) = true)
    (a4 : PySem.W.nsIn K mainGlobals "_law_done" = some (some (.ref f4)))
    (l4 : K.lookup f4 = some ⟨oc4, od4, .func (PySem.W.fnOf "_law_done" "_law_done" (defArgs s_law_done) (defBody s_law_done) (defScope s_law_done) .none kV4 dc4 pm4 an4 cd4 ct4), sl4⟩)
    (c4 : PySem.W.codeIn K cd4 "_law_done" = true)
    (k4 : PySem.W.keepIn K (.ref f4) = true)
    (a5 : PySem.W.nsIn K mainGlobals "_law_behind" = some (some (.ref f5)))
    (l5 : K.lookup f5 = some ⟨oc5, od5, .func (PySem.W.fnOf "_law_behind" "_law_behind" (defArgs s_law_behind) (defBody s_law_behind) (defScope s_law_behind) .none kV5 dc5 pm5 an5 cd5 ct5), sl5⟩)
    (c5 : PySem.W.codeIn K cd5 "_law_behind" = true)
    (k5 : PySem.W.keepIn K (.ref f5) = true)
    (a6 : PySem.W.nsIn K mainGlobals "_law_cell_at" = some (some (.ref f6)))
    (l6 : K.lookup f6 = some ⟨oc6, od6, .func (PySem.W.fnOf "_law_cell_at" "_law_cell_at" (defArgs s_law_cell_at) (defBody s_law_cell_at) (defScope s_law_cell_at) .none kV6 dc6 pm6 an6 cd6 ct6), sl6⟩)
    (c6 : PySem.W.codeIn K cd6 "_law_cell_at" = true)
    (k6 : PySem.W.keepIn K (.ref f6) = true)
    (a7 : PySem.W.nsIn K mainGlobals "_law_mix" = some (some (.ref f7)))
    (l7 : K.lookup f7 = some ⟨oc7, od7, .func (PySem.W.fnOf "_law_mix" "_law_mix" (defArgs s_law_mix) (defBody s_law_mix) (defScope s_law_mix) .none kV7 dc7 pm7 an7 cd7 ct7), sl7⟩)
    (c7 : PySem.W.codeIn K cd7 "_law_mix" = true)
    (k7 : PySem.W.keepIn K (.ref f7) = true)
    (a8 : PySem.W.nsIn K mainGlobals "_law_crossing" = some (some (.ref f8)))
    (l8 : K.lookup f8 = some ⟨oc8, od8, .func (PySem.W.fnOf "_law_crossing" "_law_crossing" (defArgs s_law_crossing) (defBody s_law_crossing) (defScope s_law_crossing) .none kV8 dc8 pm8 an8 cd8 ct8), sl8⟩)
    (c8 : PySem.W.codeIn K cd8 "_law_crossing" = true)
    (k8 : PySem.W.keepIn K (.ref f8) = true)
    (a9 : PySem.W.nsIn K mainGlobals "_law_piece" = some (some (.ref f9)))
    (l9 : K.lookup f9 = some ⟨oc9, od9, .func (PySem.W.fnOf "_law_piece" "_law_piece" (defArgs s_law_piece) (defBody s_law_piece) (defScope s_law_piece) .none kV9 dc9 pm9 an9 cd9 ct9), sl9⟩)
    (c9 : PySem.W.codeIn K cd9 "_law_piece" = true)
    (k9 : PySem.W.keepIn K (.ref f9) = true)
    (a10 : PySem.W.nsIn K mainGlobals "_law_drawn" = some (some (.ref f10)))
    (l10 : K.lookup f10 = some ⟨oc10, od10, .func (PySem.W.fnOf "_law_drawn" "_law_drawn" (defArgs s_law_drawn) (defBody s_law_drawn) (defScope s_law_drawn) .none kV10 dc10 pm10 an10 cd10 ct10), sl10⟩)
    (c10 : PySem.W.codeIn K cd10 "_law_drawn" = true)
    (k10 : PySem.W.keepIn K (.ref f10) = true)
    (a11 : PySem.W.nsIn K mainGlobals "_law_deed_by" = some (some (.ref f11)))
    (l11 : K.lookup f11 = some ⟨oc11, od11, .func (PySem.W.fnOf "_law_deed_by" "_law_deed_by" (defArgs s_law_deed_by) (defBody s_law_deed_by) (defScope s_law_deed_by) .none kV11 dc11 pm11 an11 cd11 ct11), sl11⟩)
    (c11 : PySem.W.codeIn K cd11 "_law_deed_by" = true)
    (k11 : PySem.W.keepIn K (.ref f11) = true)
    (a12 : PySem.W.nsIn K mainGlobals "_law_can" = some (some (.ref f12)))
    (l12 : K.lookup f12 = some ⟨oc12, od12, .func (PySem.W.fnOf "_law_can" "_law_can" (defArgs s_law_can) (defBody s_law_can) (defScope s_law_can) .none kV12 dc12 pm12 an12 cd12 ct12), sl12⟩)
    (c12 : PySem.W.codeIn K cd12 "_law_can" = true)
    (k12 : PySem.W.keepIn K (.ref f12) = true)
    (a13 : PySem.W.nsIn K mainGlobals "_law_due" = some (some (.ref f13)))
    (l13 : K.lookup f13 = some ⟨oc13, od13, .func (PySem.W.fnOf "_law_due" "_law_due" (defArgs s_law_due) (defBody s_law_due) (defScope s_law_due) .none kV13 dc13 pm13 an13 cd13 ct13), sl13⟩)
    (c13 : PySem.W.codeIn K cd13 "_law_due" = true)
    (k13 : PySem.W.keepIn K (.ref f13) = true)
    (a14 : PySem.W.nsIn K mainGlobals "_law_number" = some (some (.ref f14)))
    (l14 : K.lookup f14 = some ⟨oc14, od14, .func (PySem.W.fnOf "_law_number" "_law_number" (defArgs s_law_number) (defBody s_law_number) (defScope s_law_number) .none kV14 dc14 pm14 an14 cd14 ct14), sl14⟩)
    (c14 : PySem.W.codeIn K cd14 "_law_number" = true)
    (k14 : PySem.W.keepIn K (.ref f14) = true)
    (a15 : PySem.W.nsIn K mainGlobals "_law_equal" = some (some (.ref f15)))
    (l15 : K.lookup f15 = some ⟨oc15, od15, .func (PySem.W.fnOf "_law_equal" "_law_equal" (defArgs s_law_equal) (defBody s_law_equal) (defScope s_law_equal) .none kV15 dc15 pm15 an15 cd15 ct15), sl15⟩)
    (c15 : PySem.W.codeIn K cd15 "_law_equal" = true)
    (k15 : PySem.W.keepIn K (.ref f15) = true)
    (a16 : PySem.W.findIn K (.ref C_Loom) "hang" = some (some (.ref f16)))
    (iF16 : PySem.W.isFn K (.ref f16) = true)
    (l16 : K.lookup f16 = some ⟨oc16, od16, .func (PySem.W.fnOf "hang" "Loom.hang" (defArgs s_Loom_hang) (defBody s_Loom_hang) (defScope s_Loom_hang) .none kV16 dc16 pm16 an16 cd16 ct16), sl16⟩)
    (c16 : PySem.W.codeIn K cd16 "Loom.hang" = true)
    (k16 : PySem.W.keepIn K (.ref f16) = true)
    (a17 : PySem.W.findIn K (.ref C_Loom) "drop" = some (some (.ref f17)))
    (iF17 : PySem.W.isFn K (.ref f17) = true)
    (l17 : K.lookup f17 = some ⟨oc17, od17, .func (PySem.W.fnOf "drop" "Loom.drop" (defArgs s_Loom_drop) (defBody s_Loom_drop) (defScope s_Loom_drop) .none kV17 dc17 pm17 an17 cd17 ct17), sl17⟩)
    (c17 : PySem.W.codeIn K cd17 "Loom.drop" = true)
    (k17 : PySem.W.keepIn K (.ref f17) = true)
    (a18 : PySem.W.nsIn K mainGlobals "move_at" = some (some (.ref f18)))
    (l18 : K.lookup f18 = some ⟨oc18, od18, .func (PySem.W.fnOf "move_at" "move_at" (defArgs s_move_at) (defBody s_move_at) (defScope s_move_at) .none kV18 dc18 pm18 an18 cd18 ct18), sl18⟩)
    (c18 : PySem.W.codeIn K cd18 "move_at" = true)
    (k18 : PySem.W.keepIn K (.ref f18) = true)
    (a19 : PySem.W.nsIn K mainGlobals "can_move" = some (some (.ref f19)))
    (l19 : K.lookup f19 = some ⟨oc19, od19, .func (PySem.W.fnOf "can_move" "can_move" (defArgs s_can_move) (defBody s_can_move) (defScope s_can_move) .none kV19 dc19 pm19 an19 cd19 ct19), sl19⟩)
    (c19 : PySem.W.codeIn K cd19 "can_move" = true)
    (k19 : PySem.W.keepIn K (.ref f19) = true)
    (a20 : PySem.W.nsIn K mainGlobals "moved" = some (some (.ref f20)))
    (l20 : K.lookup f20 = some ⟨oc20, od20, .func (PySem.W.fnOf "moved" "moved" (defArgs s_moved) (defBody s_moved) (defScope s_moved) .none kV20 dc20 pm20 an20 cd20 ct20), sl20⟩)
    (c20 : PySem.W.codeIn K cd20 "moved" = true)
    (k20 : PySem.W.keepIn K (.ref f20) = true)
    (a21 : PySem.W.findIn K (.ref C_Loom) "go" = some (some (.ref f21)))
    (iF21 : PySem.W.isFn K (.ref f21) = true)
    (l21 : K.lookup f21 = some ⟨oc21, od21, .func (PySem.W.fnOf "go" "Loom.go" (defArgs s_Loom_go) (defBody s_Loom_go) (defScope s_Loom_go) .none kV21 dc21 pm21 an21 cd21 ct21), sl21⟩)
    (c21 : PySem.W.codeIn K cd21 "Loom.go" = true)
    (k21 : PySem.W.keepIn K (.ref f21) = true)
    (a22 : PySem.W.nsIn K mainGlobals "_law_refused" = some (some (.ref f22)))
    (l22 : K.lookup f22 = some ⟨oc22, od22, .func (PySem.W.fnOf "_law_refused" "_law_refused" (defArgs s_law_refused) (defBody s_law_refused) (defScope s_law_refused) .none kV22 dc22 pm22 an22 cd22 ct22), sl22⟩)
    (c22 : PySem.W.codeIn K cd22 "_law_refused" = true)
    (k22 : PySem.W.keepIn K (.ref f22) = true)
    (a23 : PySem.W.nsIn K mainGlobals "_law_made_good" = some (some (.ref f23)))
    (l23 : K.lookup f23 = some ⟨oc23, od23, .func (PySem.W.fnOf "_law_made_good" "_law_made_good" (defArgs s_law_made_good) (defBody s_law_made_good) (defScope s_law_made_good) .none kV23 dc23 pm23 an23 cd23 ct23), sl23⟩)
    (c23 : PySem.W.codeIn K cd23 "_law_made_good" = true)
    (k23 : PySem.W.keepIn K (.ref f23) = true)
    (a24 : PySem.W.nsIn K mainGlobals "_law_strings" = some (some (.ref f24)))
    (l24 : K.lookup f24 = some ⟨oc24, od24, .func (PySem.W.fnOf "_law_strings" "_law_strings" (defArgs s_law_strings) (defBody s_law_strings) (defScope s_law_strings) .none kV24 dc24 pm24 an24 cd24 ct24), sl24⟩)
    (c24 : PySem.W.codeIn K cd24 "_law_strings" = true)
    (k24 : PySem.W.keepIn K (.ref f24) = true)
    (a25 : PySem.W.nsIn K mainGlobals "law" = some (some (.ref f25)))
    (l25 : K.lookup f25 = some ⟨oc25, od25, .func (PySem.W.fnOf "law" "law" (defArgs s_law) (defBody s_law) (defScope s_law) .none kV25 dc25 pm25 an25 cd25 ct25), sl25⟩)
    (c25 : PySem.W.codeIn K cd25 "law" = true)
    (k25 : PySem.W.keepIn K (.ref f25) = true)
    (z_ValueError : PySem.W.nsIn K mainGlobals "ValueError" = some none)
    (z_abs : PySem.W.nsIn K mainGlobals "abs" = some none)
    (z_bool : PySem.W.nsIn K mainGlobals "bool" = some none)
    (z_enumerate : PySem.W.nsIn K mainGlobals "enumerate" = some none)
    (z_int : PySem.W.nsIn K mainGlobals "int" = some none)
    (z_isinstance : PySem.W.nsIn K mainGlobals "isinstance" = some none)
    (z_len : PySem.W.nsIn K mainGlobals "len" = some none)
    (z_list : PySem.W.nsIn K mainGlobals "list" = some none)
    (z_max : PySem.W.nsIn K mainGlobals "max" = some none)
    (z_range : PySem.W.nsIn K mainGlobals "range" = some none)
    (z_str : PySem.W.nsIn K mainGlobals "str" = some none)
    (z_tuple : PySem.W.nsIn K mainGlobals "tuple" = some none)
    (v_MOST_STRINGS : PySem.W.nsIn K mainGlobals "MOST_STRINGS" = some (some (.int 7 t_MOST_STRINGS)))
    (g_BadPicture : PySem.W.nsIn K mainGlobals "BadPicture" = some (some (.ref C_BadPicture)))
    (g_BadText : PySem.W.nsIn K mainGlobals "BadText" = some (some (.ref C_BadText)))
    (g_BraidError : PySem.W.nsIn K mainGlobals "BraidError" = some (some (.ref C_BraidError)))
    (g_Loom : PySem.W.nsIn K mainGlobals "Loom" = some (some (.ref C_Loom)))
    (g_NoForm : PySem.W.nsIn K mainGlobals "NoForm" = some (some (.ref C_NoForm)))
    (g_NoMove : PySem.W.nsIn K mainGlobals "NoMove" = some (some (.ref C_NoMove)))
    (g_NoRow : PySem.W.nsIn K mainGlobals "NoRow" = some (some (.ref C_NoRow)))
    (g_NoString : PySem.W.nsIn K mainGlobals "NoString" = some (some (.ref C_NoString)))
    (g_NoWord : PySem.W.nsIn K mainGlobals "NoWord" = some (some (.ref C_NoWord)))
    (g_TooMany : PySem.W.nsIn K mainGlobals "TooMany" = some (some (.ref C_TooMany)))
    (g_Unlike : PySem.W.nsIn K mainGlobals "Unlike" = some (some (.ref C_Unlike)))
    (pgLoom : PySem.W.plainGet K C_Loom Str.empty = true)
    (hDLoom : PySem.W.hasDictIn K C_Loom = true)
    (poLoom : PySem.W.plainOver K C_Loom = true)
    (saLoom : PySem.W.findIn K (.ref C_Loom) "__setattr__" = some (some (.builtin "object.__setattr__")))
    (mkLoom : PySem.W.makesIn K C_Loom = true)
    (kcLoom : PySem.W.keepIn K (.ref C_Loom) = true)
    (nALoom_hung : PySem.W.findIn K (.ref C_Loom) "hung" = some none)
    (nALoom_past : PySem.W.findIn K (.ref C_Loom) "past" = some none)
    (nALoom_strings : PySem.W.findIn K (.ref C_Loom) "strings" = some none)
    (q_NoMove : PySem.W.excIn K C_NoMove [.type "ValueError", .type "Exception", .type "BaseException", .type "object"] "ValueError.__new__" = true)
    (kp_NoMove : PySem.W.keepIn K (.ref C_NoMove) = true)
    (ty_NoMove : PySem.W.typeIn K (.ref C_NoMove) = some (.type "type"))
    (hg_NoMove : PySem.W.findIn K (.ref C_NoMove) "__getattribute__" = some (some (.builtin "BaseException.__getattribute__")))
    (hk_NoMove : PySem.W.findIn K (.ref C_NoMove) "__getattr__" = some none)
    (hd_NoMove : PySem.W.hasDictIn K C_NoMove = true)
    (ha_NoMove : PySem.W.findIn K (.ref C_NoMove) "__class__" = some (some (.builtin "object.__class__")))
    (hm_NoMove : PySem.W.mroIn K C_NoMove (.type "object") = some true)
    (q_NoWord : PySem.W.excIn K C_NoWord [.type "ValueError", .type "Exception", .type "BaseException", .type "object"] "ValueError.__new__" = true)
    (kp_NoWord : PySem.W.keepIn K (.ref C_NoWord) = true)
    (ty_NoWord : PySem.W.typeIn K (.ref C_NoWord) = some (.type "type"))
    (hg_NoWord : PySem.W.findIn K (.ref C_NoWord) "__getattribute__" = some (some (.builtin "BaseException.__getattribute__")))
    (hk_NoWord : PySem.W.findIn K (.ref C_NoWord) "__getattr__" = some none)
    (hd_NoWord : PySem.W.hasDictIn K C_NoWord = true)
    (ha_NoWord : PySem.W.findIn K (.ref C_NoWord) "__class__" = some (some (.builtin "object.__class__")))
    (hm_NoWord : PySem.W.mroIn K C_NoWord (.type "object") = some true)
    (hn : PySem.W.specialIn K (.builtin "object.__class__") "__get__" = some (some (.builtin "getset_descriptor.__get__")))
    (ht : PySem.W.takesIn K (.builtin "object.__class__") = some true)
    (hs_BraidError : PySem.W.subIn K (.ref C_BraidError) (.type "BaseException") = some true)
    (hs_NoMove : PySem.W.subIn K (.ref C_NoMove) (.type "BaseException") = some true)
    (hs_NoWord : PySem.W.subIn K (.ref C_NoWord) (.type "BaseException") = some true)
    (i_NoMove_NoMove : PySem.W.kitOne K (.ref C_NoMove) (.ref C_NoMove) = some true)
    (i_NoWord_NoMove : PySem.W.kitOne K (.ref C_NoWord) (.ref C_NoMove) = some false)
    (i_NoMove_NoWord : PySem.W.kitOne K (.ref C_NoMove) (.ref C_NoWord) = some false)
    (i_NoWord_NoWord : PySem.W.kitOne K (.ref C_NoWord) (.ref C_NoWord) = some true)
    (i_NoMove_ValueError : PySem.W.kitOne K (.ref C_NoMove) (.type "ValueError") = some true)
    (i_NoWord_ValueError : PySem.W.kitOne K (.ref C_NoWord) (.type "ValueError") = some true)
    (i_NoMove_BadPicture : PySem.W.kitOne K (.ref C_NoMove) (.ref C_BadPicture) = some false)
    (i_NoMove_BadText : PySem.W.kitOne K (.ref C_NoMove) (.ref C_BadText) = some false)
    (i_NoMove_NoForm : PySem.W.kitOne K (.ref C_NoMove) (.ref C_NoForm) = some false)
    (i_NoMove_NoRow : PySem.W.kitOne K (.ref C_NoMove) (.ref C_NoRow) = some false)
    (i_NoMove_NoString : PySem.W.kitOne K (.ref C_NoMove) (.ref C_NoString) = some false)
    (i_NoMove_TooMany : PySem.W.kitOne K (.ref C_NoMove) (.ref C_TooMany) = some false)
    (i_NoMove_Unlike : PySem.W.kitOne K (.ref C_NoMove) (.ref C_Unlike) = some false)
    (i_NoWord_BadPicture : PySem.W.kitOne K (.ref C_NoWord) (.ref C_BadPicture) = some false)
    (i_NoWord_BadText : PySem.W.kitOne K (.ref C_NoWord) (.ref C_BadText) = some false)
    (i_NoWord_NoForm : PySem.W.kitOne K (.ref C_NoWord) (.ref C_NoForm) = some false)
    (i_NoWord_NoRow : PySem.W.kitOne K (.ref C_NoWord) (.ref C_NoRow) = some false)
    (i_NoWord_NoString : PySem.W.kitOne K (.ref C_NoWord) (.ref C_NoString) = some false)
    (i_NoWord_TooMany : PySem.W.kitOne K (.ref C_NoWord) (.ref C_TooMany) = some false)
    (i_NoWord_Unlike : PySem.W.kitOne K (.ref C_NoWord) (.ref C_Unlike) = some false)
    (n_NoMove : PySem.W.kitOne K (.type "NoneType") (.ref C_NoMove) = some false)
    (n_NoWord : PySem.W.kitOne K (.type "NoneType") (.ref C_NoWord) = some false)
    (n_ValueError : PySem.W.kitOne K (.type "NoneType") (.type "ValueError") = some false)
    (n_BadPicture : PySem.W.kitOne K (.type "NoneType") (.ref C_BadPicture) = some false)
    (n_BadText : PySem.W.kitOne K (.type "NoneType") (.ref C_BadText) = some false)
    (n_NoForm : PySem.W.kitOne K (.type "NoneType") (.ref C_NoForm) = some false)
    (n_NoRow : PySem.W.kitOne K (.type "NoneType") (.ref C_NoRow) = some false)
    (n_NoString : PySem.W.kitOne K (.type "NoneType") (.ref C_NoString) = some false)
    (n_TooMany : PySem.W.kitOne K (.type "NoneType") (.ref C_TooMany) = some false)
    (n_Unlike : PySem.W.kitOne K (.type "NoneType") (.ref C_Unlike) = some false)
    (hx_BraidError : PySem.W.hasDictIn K C_BraidError = true)
    (tx_BraidError : PySem.W.typeIn K (.ref C_BraidError) = some (.type "type"))
    (s_NoMove_BraidError : PySem.W.subIn K (.ref C_NoMove) (.ref C_BraidError) = some true)
    (s_NoWord_BraidError : PySem.W.subIn K (.ref C_NoWord) (.ref C_BraidError) = some true) :
    ∃ (fd : FuncData) (cl : String → Addr), (∀ (s : Shared) (v : Value), BindsTo s fd ⟨[v], []⟩ [("_law_script", v)]) ∧ ∀ base : Heap, K.In base → base.Ns mainGlobals mg → FnOk P w K mg base (L2.CX P w) 8 fa fd ["_law_script"] (Ctr K cl 1 m_law) := by
  have e := hfa.symm.trans (PySem.W.mg_of X G a25)
  cases e
  refine ⟨PySem.W.fnOf "law" "law" (defArgs s_law) (defBody s_law) (defScope s_law) .none kV25 dc25 pm25 an25 cd25 ct25, fun z => if z = "BadPicture" then C_BadPicture else if z = "BadText" then C_BadText else if z = "BraidError" then C_BraidError else if z = "Loom" then C_Loom else if z = "NoForm" then C_NoForm else if z = "NoMove" then C_NoMove else if z = "NoRow" then C_NoRow else if z = "NoString" then C_NoString else if z = "NoWord" then C_NoWord else if z = "TooMany" then C_TooMany else if z = "Unlike" then C_Unlike else 0, fun s v => .of_eq rfl, fun base _ _ => ?_⟩
  have T : Tb K mg (fun z => if z = "BadPicture" then C_BadPicture else if z = "BadText" then C_BadText else if z = "BraidError" then C_BraidError else if z = "Loom" then C_Loom else if z = "NoForm" then C_NoForm else if z = "NoMove" then C_NoMove else if z = "NoRow" then C_NoRow else if z = "NoString" then C_NoString else if z = "NoWord" then C_NoWord else if z = "TooMany" then C_TooMany else if z = "Unlike" then C_Unlike else 0) := { z_ValueError := PySem.W.mg_none_of X G z_ValueError, z_abs := PySem.W.mg_none_of X G z_abs, z_bool := PySem.W.mg_none_of X G z_bool, z_enumerate := PySem.W.mg_none_of X G z_enumerate, z_int := PySem.W.mg_none_of X G z_int, z_isinstance := PySem.W.mg_none_of X G z_isinstance, z_len := PySem.W.mg_none_of X G z_len, z_list := PySem.W.mg_none_of X G z_list, z_max := PySem.W.mg_none_of X G z_max, z_range := PySem.W.mg_none_of X G z_range, z_str := PySem.W.mg_none_of X G z_str, z_tuple := PySem.W.mg_none_of X G z_tuple, c_MOST_STRINGS := ⟨_, PySem.W.mg_of X G v_MOST_STRINGS⟩, gc_BadPicture := PySem.W.mg_of X G g_BadPicture, gc_BadText := PySem.W.mg_of X G g_BadText, gc_BraidError := PySem.W.mg_of X G g_BraidError, gc_Loom := PySem.W.mg_of X G g_Loom, gc_NoForm := PySem.W.mg_of X G g_NoForm, gc_NoMove := PySem.W.mg_of X G g_NoMove, gc_NoRow := PySem.W.mg_of X G g_NoRow, gc_NoString := PySem.W.mg_of X G g_NoString, gc_NoWord := PySem.W.mg_of X G g_NoWord, gc_TooMany := PySem.W.mg_of X G g_TooMany, gc_Unlike := PySem.W.mg_of X G g_Unlike, e_NoMove := ⟨q_NoMove, kp_NoMove, ⟨hg_NoMove, hk_NoMove, hs_NoMove, hd_NoMove, ha_NoMove, hn, ht, hm_NoMove⟩, ty_NoMove⟩, e_NoWord := ⟨q_NoWord, kp_NoWord, ⟨hg_NoWord, hk_NoWord, hs_NoWord, hd_NoWord, ha_NoWord, hn, ht, hm_NoWord⟩, ty_NoWord⟩, o_Loom := ⟨pgLoom, hDLoom, poLoom, saLoom⟩, n_Loom_hung := nALoom_hung, n_Loom_past := nALoom_past, n_Loom_strings := nALoom_strings, is1_NoMove := mk_is1_NoMove ⟨hg_NoMove, hk_NoMove, hs_NoMove, hd_NoMove, ha_NoMove, hn, ht, hm_NoMove⟩ ⟨hg_NoWord, hk_NoWord, hs_NoWord, hd_NoWord, ha_NoWord, hn, ht, hm_NoWord⟩ i_NoMove_NoMove i_NoWord_NoMove n_NoMove, is1_NoWord := mk_is1_NoWord ⟨hg_NoMove, hk_NoMove, hs_NoMove, hd_NoMove, ha_NoMove, hn, ht, hm_NoMove⟩ ⟨hg_NoWord, hk_NoWord, hs_NoWord, hd_NoWord, ha_NoWord, hn, ht, hm_NoWord⟩ i_NoMove_NoWord i_NoWord_NoWord n_NoWord, is1_ValueError := mk_is1_ValueError ⟨hg_NoMove, hk_NoMove, hs_NoMove, hd_NoMove, ha_NoMove, hn, ht, hm_NoMove⟩ ⟨hg_NoWord, hk_NoWord, hs_NoWord, hd_NoWord, ha_NoWord, hn, ht, hm_NoWord⟩ i_NoMove_ValueError i_NoWord_ValueError n_ValueError, is_BadPicture_BadText_NoForm_NoRow_NoString_TooMany_Unlike := mk_is_BadPicture_BadText_NoForm_NoRow_NoString_TooMany_Unlike ⟨hg_NoMove, hk_NoMove, hs_NoMove, hd_NoMove, ha_NoMove, hn, ht, hm_NoMove⟩ ⟨hg_NoWord, hk_NoWord, hs_NoWord, hd_NoWord, ha_NoWord, hn, ht, hm_NoWord⟩ i_NoMove_BadPicture i_NoMove_BadText i_NoMove_NoForm i_NoMove_NoRow i_NoMove_NoString i_NoMove_TooMany i_NoMove_Unlike i_NoWord_BadPicture i_NoWord_BadText i_NoWord_NoForm i_NoWord_NoRow i_NoWord_NoString i_NoWord_TooMany i_NoWord_Unlike n_BadPicture n_BadText n_NoForm n_NoRow n_NoString n_TooMany n_Unlike, ct_BraidError := mk_ct_BraidError (PySem.W.exm_ref hs_BraidError hx_BraidError tx_BraidError s_NoMove_BraidError) (PySem.W.exm_ref hs_BraidError hx_BraidError tx_BraidError s_NoWord_BraidError) }
  have X0 : Fx K mg "checked" s_checked f0 _ ["n", "word"] := ⟨fun_mk (st := s_checked) l0 c0 k0, PySem.W.mg_of X G a0, (fun_mk (st := s_checked) l0 c0 k0).binds fun _ _ _ _ _ _ us hl => match us, hl with | [_, _], _ => rfl⟩
  have X1 : Ix K "__init__" "Loom.__init__" s_Loom___init__ C_Loom f1 _ ["self", "n"] := ⟨fun_mk (st := s_Loom___init__) l1 c1 k1, ⟨mkLoom, a1, iF1, kcLoom⟩, (fun_mk (st := s_Loom___init__) l1 c1 k1).binds fun _ _ _ _ _ _ us hl => match us, hl with | [_, _], _ => rfl⟩
  have X2 : Mx K "now" "Loom.now" s_Loom_now C_Loom f2 _ ["self"] := ⟨fun_mk (st := s_Loom_now) l2 c2 k2, ⟨a2, iF2, k2⟩, (fun_mk (st := s_Loom_now) l2 c2 k2).binds fun _ _ _ _ _ _ us hl => match us, hl with | [_], _ => rfl⟩
  have X3 : Mx K "undo" "Loom.undo" s_Loom_undo C_Loom f3 _ ["self"] := ⟨fun_mk (st := s_Loom_undo) l3 c3 k3, ⟨a3, iF3, k3⟩, (fun_mk (st := s_Loom_undo) l3 c3 k3).binds fun _ _ _ _ _ _ us hl => match us, hl with | [_], _ => rfl⟩
  have X4 : Fx K mg "_law_done" s_law_done f4 _ ["_law_word", "_law_deed"] := ⟨fun_mk (st := s_law_done) l4 c4 k4, PySem.W.mg_of X G a4, (fun_mk (st := s_law_done) l4 c4 k4).binds fun _ _ _ _ _ _ us hl => match us, hl with | [_, _], _ => rfl⟩
  have X5 : Fx K mg "_law_behind" s_law_behind f5 _ ["_law_word", "_law_deed"] := ⟨fun_mk (st := s_law_behind) l5 c5 k5, PySem.W.mg_of X G a5, (fun_mk (st := s_law_behind) l5 c5 k5).binds fun _ _ _ _ _ _ us hl => match us, hl with | [_, _], _ => rfl⟩
  have X6 : Fx K mg "_law_cell_at" s_law_cell_at f6 _ ["_law_script", "_law_k"] := ⟨fun_mk (st := s_law_cell_at) l6 c6 k6, PySem.W.mg_of X G a6, (fun_mk (st := s_law_cell_at) l6 c6 k6).binds fun _ _ _ _ _ _ us hl => match us, hl with | [_, _], _ => rfl⟩
  have X7 : Fx K mg "_law_mix" s_law_mix f7 _ ["_law_cell", "_law_k", "_law_factor"] := ⟨fun_mk (st := s_law_mix) l7 c7 k7, PySem.W.mg_of X G a7, (fun_mk (st := s_law_mix) l7 c7 k7).binds fun _ _ _ _ _ _ us hl => match us, hl with | [_, _, _], _ => rfl⟩
  have X8 : Fx K mg "_law_crossing" s_law_crossing f8 _ ["_law_number_here", "_law_n"] := ⟨fun_mk (st := s_law_crossing) l8 c8 k8, PySem.W.mg_of X G a8, (fun_mk (st := s_law_crossing) l8 c8 k8).binds fun _ _ _ _ _ _ us hl => match us, hl with | [_, _], _ => rfl⟩
  have X9 : Fx K mg "_law_piece" s_law_piece f9 _ ["_law_number_here", "_law_n"] := ⟨fun_mk (st := s_law_piece) l9 c9 k9, PySem.W.mg_of X G a9, (fun_mk (st := s_law_piece) l9 c9 k9).binds fun _ _ _ _ _ _ us hl => match us, hl with | [_, _], _ => rfl⟩
  have X10 : Fx K mg "_law_drawn" s_law_drawn f10 _ ["_law_cells", "_law_n", "_law_most"] := ⟨fun_mk (st := s_law_drawn) l10 c10 k10, PySem.W.mg_of X G a10, (fun_mk (st := s_law_drawn) l10 c10 k10).binds fun _ _ _ _ _ _ us hl => match us, hl with | [_, _, _], _ => rfl⟩
  have X11 : Fx K mg "_law_deed_by" s_law_deed_by f11 _ ["_law_n", "_law_word", "_law_number_here", "_law_far"] := ⟨fun_mk (st := s_law_deed_by) l11 c11 k11, PySem.W.mg_of X G a11, (fun_mk (st := s_law_deed_by) l11 c11 k11).binds fun _ _ _ _ _ _ us hl => match us, hl with | [_, _, _, _], _ => rfl⟩
  have X12 : Fx K mg "_law_can" s_law_can f12 _ ["_law_word", "_law_n", "_law_deed"] := ⟨fun_mk (st := s_law_can) l12 c12 k12, PySem.W.mg_of X G a12, (fun_mk (st := s_law_can) l12 c12 k12).binds fun _ _ _ _ _ _ us hl => match us, hl with | [_, _, _], _ => rfl⟩
  have X13 : Fx K mg "_law_due" s_law_due f13 _ ["_law_n", "_law_word", "_law_deed"] := ⟨fun_mk (st := s_law_due) l13 c13 k13, PySem.W.mg_of X G a13, (fun_mk (st := s_law_due) l13 c13 k13).binds fun _ _ _ _ _ _ us hl => match us, hl with | [_, _, _], _ => rfl⟩
  have X14 : Fx K mg "_law_number" s_law_number f14 _ ["_law_x"] := ⟨fun_mk (st := s_law_number) l14 c14 k14, PySem.W.mg_of X G a14, (fun_mk (st := s_law_number) l14 c14 k14).binds fun _ _ _ _ _ _ us hl => match us, hl with | [_], _ => rfl⟩
  have X15 : Fx K mg "_law_equal" s_law_equal f15 _ ["_law_found", "_law_due_here"] := ⟨fun_mk (st := s_law_equal) l15 c15 k15, PySem.W.mg_of X G a15, (fun_mk (st := s_law_equal) l15 c15 k15).binds fun _ _ _ _ _ _ us hl => match us, hl with | [_, _], _ => rfl⟩
  have X16 : Mx K "hang" "Loom.hang" s_Loom_hang C_Loom f16 _ ["self", "word"] := ⟨fun_mk (st := s_Loom_hang) l16 c16 k16, ⟨a16, iF16, k16⟩, (fun_mk (st := s_Loom_hang) l16 c16 k16).binds fun _ _ _ _ _ _ us hl => match us, hl with | [_, _], _ => rfl⟩
  have X17 : Mx K "drop" "Loom.drop" s_Loom_drop C_Loom f17 _ ["self", "many"] := ⟨fun_mk (st := s_Loom_drop) l17 c17 k17, ⟨a17, iF17, k17⟩, (fun_mk (st := s_Loom_drop) l17 c17 k17).binds fun _ _ _ _ _ _ us hl => match us, hl with | [_, _], _ => rfl⟩
  have X18 : Fx K mg "move_at" s_move_at f18 _ ["word", "p"] := ⟨fun_mk (st := s_move_at) l18 c18 k18, PySem.W.mg_of X G a18, (fun_mk (st := s_move_at) l18 c18 k18).binds fun _ _ _ _ _ _ us hl => match us, hl with | [_, _], _ => rfl⟩
  have X19 : Fx K mg "can_move" s_can_move f19 _ ["n", "word", "move"] := ⟨fun_mk (st := s_can_move) l19 c19 k19, PySem.W.mg_of X G a19, (fun_mk (st := s_can_move) l19 c19 k19).binds fun _ _ _ _ _ _ us hl => match us, hl with | [_, _, _], _ => rfl⟩
  have X20 : Fx K mg "moved" s_moved f20 _ ["n", "word", "move"] := ⟨fun_mk (st := s_moved) l20 c20 k20, PySem.W.mg_of X G a20, (fun_mk (st := s_moved) l20 c20 k20).binds fun _ _ _ _ _ _ us hl => match us, hl with | [_, _, _], _ => rfl⟩
  have X21 : Mx K "go" "Loom.go" s_Loom_go C_Loom f21 _ ["self", "move"] := ⟨fun_mk (st := s_Loom_go) l21 c21 k21, ⟨a21, iF21, k21⟩, (fun_mk (st := s_Loom_go) l21 c21 k21).binds fun _ _ _ _ _ _ us hl => match us, hl with | [_, _], _ => rfl⟩
  have X22 : Fx K mg "_law_refused" s_law_refused f22 _ ["_law_loom", "_law_kind", "_law_part"] := ⟨fun_mk (st := s_law_refused) l22 c22 k22, PySem.W.mg_of X G a22, (fun_mk (st := s_law_refused) l22 c22 k22).binds fun _ _ _ _ _ _ us hl => match us, hl with | [_, _, _], _ => rfl⟩
  have X23 : Fx K mg "_law_made_good" s_law_made_good f23 _ ["_law_loom", "_law_word"] := ⟨fun_mk (st := s_law_made_good) l23 c23 k23, PySem.W.mg_of X G a23, (fun_mk (st := s_law_made_good) l23 c23 k23).binds fun _ _ _ _ _ _ us hl => match us, hl with | [_, _], _ => rfl⟩
  have X24 : Fx K mg "_law_strings" s_law_strings f24 _ ["_law_seed", "_law_least", "_law_most"] := ⟨fun_mk (st := s_law_strings) l24 c24 k24, PySem.W.mg_of X G a24, (fun_mk (st := s_law_strings) l24 c24 k24).binds fun _ _ _ _ _ _ us hl => match us, hl with | [_, _, _], _ => rfl⟩
  have X25 : Fx K mg "law" s_law fa _ ["_law_script"] := ⟨fun_mk (st := s_law) l25 c25 k25, PySem.W.mg_of X G a25, (fun_mk (st := s_law) l25 c25 k25).binds fun _ _ _ _ _ _ us hl => match us, hl with | [_], _ => rfl⟩
  have G0 : FnOk P w K mg base (L2.CX P w) 1 f0 _ ["n", "word"] (Ctr K _ 2 m_checked) := ok_checked T X0
  have G1 : FnOk P w K mg base (L2.CX P w) 2 f1 _ ["self", "n"] (CtrW K _ 2 1 (m_Loom___init__ _)) := ok_Loom___init__ T X1 X0 G0
  have G2 : FnOk P w K mg base (L2.CX P w) 1 f2 _ ["self"] (Ctr K _ 1 (m_Loom_now _)) := ok_Loom_now T X2
  have G3 : FnOk P w K mg base (L2.CX P w) 1 f3 _ ["self"] (CtrW K _ 1 1 (m_Loom_undo _)) := ok_Loom_undo T X3
  have G4 : FnOk P w K mg base (L2.CX P w) 1 f4 _ ["_law_word", "_law_deed"] (Ctr K _ 2 m_law_done) := ok_law_done T X4
  have G5 : FnOk P w K mg base (L2.CX P w) 2 f5 _ ["_law_word", "_law_deed"] (Ctr K _ 2 m_law_behind) := ok_law_behind T X5 X4 G4
  have G6 : FnOk P w K mg base (L2.CX P w) 1 f6 _ ["_law_script", "_law_k"] (Ctr K _ 2 m_law_cell_at) := ok_law_cell_at T X6
  have G7 : FnOk P w K mg base (L2.CX P w) 1 f7 _ ["_law_cell", "_law_k", "_law_factor"] (Ctr K _ 3 m_law_mix) := ok_law_mix T X7
  have G8 : FnOk P w K mg base (L2.CX P w) 1 f8 _ ["_law_number_here", "_law_n"] (Ctr K _ 2 m_law_crossing) := ok_law_crossing T X8
  have G9 : FnOk P w K mg base (L2.CX P w) 2 f9 _ ["_law_number_here", "_law_n"] (Ctr K _ 2 m_law_piece) := ok_law_piece T X9 X8 G8
  have G10 : FnOk P w K mg base (L2.CX P w) 3 f10 _ ["_law_cells", "_law_n", "_law_most"] (Ctr K _ 3 m_law_drawn) := ok_law_drawn T X10 X7 G7 X9 G9
  have G11 : FnOk P w K mg base (L2.CX P w) 4 f11 _ ["_law_n", "_law_word", "_law_number_here", "_law_far"] (Ctr K _ 4 m_law_deed_by) := ok_law_deed_by T X11 X10 G10
  have G12 : FnOk P w K mg base (L2.CX P w) 1 f12 _ ["_law_word", "_law_n", "_law_deed"] (Ctr K _ 3 m_law_can) := ok_law_can T X12
  have G13 : FnOk P w K mg base (L2.CX P w) 2 f13 _ ["_law_n", "_law_word", "_law_deed"] (Ctr K _ 3 m_law_due) := ok_law_due T X13 X12 G12
  have G14 : FnOk P w K mg base (L2.CX P w) 1 f14 _ ["_law_x"] (Ctr K _ 1 m_law_number) := ok_law_number T X14
  have G15_1 : FnOk P w K mg base (L2.CX P w) (1 + 1) f15 _ ["_law_found", "_law_due_here"] (Ctr K _ 2 (m_law_equal 1)) := ok_law_equal T X15 X14 G14 (d := 0) (fnNo fun _ => rfl)
  have G15_2 : FnOk P w K mg base (L2.CX P w) (1 + 2) f15 _ ["_law_found", "_law_due_here"] (Ctr K _ 2 (m_law_equal 2)) := ok_law_equal T X15 X14 G14 (d := 1) G15_1
  have G15_3 : FnOk P w K mg base (L2.CX P w) (1 + 3) f15 _ ["_law_found", "_law_due_here"] (Ctr K _ 2 (m_law_equal 3)) := ok_law_equal T X15 X14 G14 (d := 2) G15_2
  have G15_4 : FnOk P w K mg base (L2.CX P w) (1 + 4) f15 _ ["_law_found", "_law_due_here"] (Ctr K _ 2 (m_law_equal 4)) := ok_law_equal T X15 X14 G14 (d := 3) G15_3
  have G15_5 : FnOk P w K mg base (L2.CX P w) (1 + 5) f15 _ ["_law_found", "_law_due_here"] (Ctr K _ 2 (m_law_equal 5)) := ok_law_equal T X15 X14 G14 (d := 4) G15_4
  have G15 : FnOk P w K mg base (L2.CX P w) 7 f15 _ ["_law_found", "_law_due_here"] (Ctr K _ 2 (m_law_equal 5)) := G15_5.mono (by decide)
  have G16 : FnOk P w K mg base (L2.CX P w) 2 f16 _ ["self", "word"] (CtrW K _ 2 1 (m_Loom_hang _)) := ok_Loom_hang T X16 X0 G0
  have G17 : FnOk P w K mg base (L2.CX P w) 1 f17 _ ["self", "many"] (CtrW K _ 2 1 (m_Loom_drop _)) := ok_Loom_drop T X17
  have G18 : FnOk P w K mg base (L2.CX P w) 1 f18 _ ["word", "p"] (Ctr K _ 2 m_move_at) := ok_move_at T X18
  have G19 : FnOk P w K mg base (L2.CX P w) 2 f19 _ ["n", "word", "move"] (Ctr K _ 3 m_can_move) := ok_can_move T X19 X18 G18
  have G20 : FnOk P w K mg base (L2.CX P w) 3 f20 _ ["n", "word", "move"] (Ctr K _ 3 m_moved) := ok_moved T X20 X19 G19
  have G21 : FnOk P w K mg base (L2.CX P w) 4 f21 _ ["self", "move"] (CtrW K _ 2 1 (m_Loom_go _)) := ok_Loom_go T X21 X20 G20
  have G22 : FnOk P w K mg base (L2.CX P w) 5 f22 _ ["_law_loom", "_law_kind", "_law_part"] (CtrW K _ 3 1 (m_law_refused _)) := ok_law_refused T X22 X1 G1 X17 G17 X21 G21 X16 G16
  have Gp22 : FnOk P w K mg base (L2.CX P w) 5 f22 _ ["_law_loom", "_law_kind", "_law_part"] (Ctr K _ 3 (mp_law_refused _)) := okp_law_refused T X22 X1 G1 X17 G17 X21 G21 X16 G16
  have G23 : FnOk P w K mg base (L2.CX P w) 6 f23 _ ["_law_loom", "_law_word"] (CtrW K _ 2 1 (m_law_made_good _)) := ok_law_made_good T X23 X16 G16 X2 G2 X3 G3 X22 G22 Gp22
  have G24 : FnOk P w K mg base (L2.CX P w) 1 f24 _ ["_law_seed", "_law_least", "_law_most"] (Ctr K _ 3 m_law_strings) := ok_law_strings T X24
  have G25 : FnOk P w K mg base (L2.CX P w) 8 fa _ ["_law_script"] (Ctr K _ 1 m_law) := ok_law T X25 X1 G1 X2 G2 X3 G3 X5 G5 X6 G6 X11 G11 X13 G13 X15 G15 X23 G23 X7 G7 X22 G22 Gp22 X24 G24
  exact G25
end BL
open PySem PySem.W PyProof.Rows
set_option maxHeartbeats 0 in
theorem PySem.Challenge.cw_braidcomb_k82_refused_changes_nothing_holds : PySem.Challenge.rw_braidcomb_k82_refused_changes_nothing.Holds := by
  w_on; o_law; k_head; (case hw => w_witness2)
  k_fill
  refine L2.walk_of (l := PySem.Challenge.rw_braidcomb_k82_refused_changes_nothing) (n := 63) (k := 8) (x := "_law_script") (CX := fun w => L2.CX (PySem.Challenge.rw_braidcomb_k82_refused_changes_nothing).prog w) (sp := fun w => BC.CtrL _ BL.m_law) rfl (by decide) rfl ⟨rfl, by decide, by decide⟩ (fun w h Y => PySem.W.kIn_of Y) ?F (fun w H a ns hl _ hS => BC.ctrL hS (BL.law_true ns hl)) (fun w H s e s' h => BC.cx_no h)
  case F =>
    intro w mg fa h KX G hmg
    refine BC.ctrF ?_
    refine' BL.all_mk KX G hmg ?a0 ?l0 ?c0 ?k0 ?a1 ?iF1 ?l1 ?c1 ?k1 ?a2 ?iF2 ?l2 ?c2 ?k2 ?a3 ?iF3 ?l3 ?c3 ?k3 ?a4 ?l4 ?c4 ?k4 ?a5 ?l5 ?c5 ?k5 ?a6 ?l6 ?c6 ?k6 ?a7 ?l7 ?c7 ?k7 ?a8 ?l8 ?c8 ?k8 ?a9 ?l9 ?c9 ?k9 ?a10 ?l10 ?c10 ?k10 ?a11 ?l11 ?c11 ?k11 ?a12 ?l12 ?c12 ?k12 ?a13 ?l13 ?c13 ?k13 ?a14 ?l14 ?c14 ?k14 ?a15 ?l15 ?c15 ?k15 ?a16 ?iF16 ?l16 ?c16 ?k16 ?a17 ?iF17 ?l17 ?c17 ?k17 ?a18 ?l18 ?c18 ?k18 ?a19 ?l19 ?c19 ?k19 ?a20 ?l20 ?c20 ?k20 ?a21 ?iF21 ?l21 ?c21 ?k21 ?a22 ?l22 ?c22 ?k22 ?a23 ?l23 ?c23 ?k23 ?a24 ?l24 ?c24 ?k24 ?a25 ?l25 ?c25 ?k25 ?z_ValueError ?z_abs ?z_bool ?z_enumerate ?z_int ?z_isinstance ?z_len ?z_list ?z_max ?z_range ?z_str ?z_tuple ?v_MOST_STRINGS ?g_BadPicture ?g_BadText ?g_BraidError ?g_Loom ?g_NoForm ?g_NoMove ?g_NoRow ?g_NoString ?g_NoWord ?g_TooMany ?g_Unlike ?pgLoom ?hDLoom ?poLoom ?saLoom ?mkLoom ?kcLoom ?nALoom_hung ?nALoom_past ?nALoom_strings ?q_NoMove ?kp_NoMove ?ty_NoMove ?hg_NoMove ?hk_NoMove ?hd_NoMove ?ha_NoMove ?hm_NoMove ?q_NoWord ?kp_NoWord ?ty_NoWord ?hg_NoWord ?hk_NoWord ?hd_NoWord ?ha_NoWord ?hm_NoWord ?hn ?ht ?hs_BraidError ?hs_NoMove ?hs_NoWord ?i_NoMove_NoMove ?i_NoWord_NoMove ?i_NoMove_NoWord ?i_NoWord_NoWord ?i_NoMove_ValueError ?i_NoWord_ValueError ?i_NoMove_BadPicture ?i_NoMove_BadText ?i_NoMove_NoForm ?i_NoMove_NoRow ?i_NoMove_NoString ?i_NoMove_TooMany ?i_NoMove_Unlike ?i_NoWord_BadPicture ?i_NoWord_BadText ?i_NoWord_NoForm ?i_NoWord_NoRow ?i_NoWord_NoString ?i_NoWord_TooMany ?i_NoWord_Unlike ?n_NoMove ?n_NoWord ?n_ValueError ?n_BadPicture ?n_BadText ?n_NoForm ?n_NoRow ?n_NoString ?n_TooMany ?n_Unlike ?hx_BraidError ?tx_BraidError ?s_NoMove_BraidError ?s_NoWord_BraidError
    (case g_BadPicture => k_is); (case g_BadText => k_is); (case g_BraidError => k_is); (case g_Loom => k_is); (case g_NoForm => k_is); (case g_NoMove => k_is); (case g_NoRow => k_is); (case g_NoString => k_is); (case g_NoWord => k_is); (case g_TooMany => k_is); (case g_Unlike => k_is); (case a0 => k_is); (case l0 => k_is); (case c0 => k_is); (case k0 => k_is); (case a1 => k_is); (case iF1 => k_is); (case l1 => k_is); (case c1 => k_is); (case k1 => k_is); (case a2 => k_is); (case iF2 => k_is); (case l2 => k_is); (case c2 => k_is); (case k2 => k_is); (case a3 => k_is); (case iF3 => k_is); (case l3 => k_is); (case c3 => k_is); (case k3 => k_is); (case a4 => k_is); (case l4 => k_is); (case c4 => k_is); (case k4 => k_is); (case a5 => k_is); (case l5 => k_is); (case c5 => k_is); (case k5 => k_is); (case a6 => k_is); (case l6 => k_is); (case c6 => k_is); (case k6 => k_is); (case a7 => k_is); (case l7 => k_is); (case c7 => k_is); (case k7 => k_is); (case a8 => k_is); (case l8 => k_is); (case c8 => k_is); (case k8 => k_is); (case a9 => k_is); (case l9 => k_is); (case c9 => k_is); (case k9 => k_is); (case a10 => k_is); (case l10 => k_is); (case c10 => k_is); (case k10 => k_is); (case a11 => k_is); (case l11 => k_is); (case c11 => k_is); (case k11 => k_is); (case a12 => k_is); (case l12 => k_is); (case c12 => k_is); (case k12 => k_is); (case a13 => k_is); (case l13 => k_is); (case c13 => k_is); (case k13 => k_is); (case a14 => k_is); (case l14 => k_is); (case c14 => k_is); (case k14 => k_is); (case a15 => k_is); (case l15 => k_is); (case c15 => k_is); (case k15 => k_is); (case a16 => k_is); (case iF16 => k_is); (case l16 => k_is); (case c16 => k_is); (case k16 => k_is); (case a17 => k_is); (case iF17 => k_is); (case l17 => k_is); (case c17 => k_is); (case k17 => k_is); (case a18 => k_is); (case l18 => k_is); (case c18 => k_is); (case k18 => k_is); (case a19 => k_is); (case l19 => k_is); (case c19 => k_is); (case k19 => k_is); (case a20 => k_is); (case l20 => k_is); (case c20 => k_is); (case k20 => k_is); (case a21 => k_is); (case iF21 => k_is); (case l21 => k_is); (case c21 => k_is); (case k21 => k_is); (case a22 => k_is); (case l22 => k_is); (case c22 => k_is); (case k22 => k_is); (case a23 => k_is); (case l23 => k_is); (case c23 => k_is); (case k23 => k_is); (case a24 => k_is); (case l24 => k_is); (case c24 => k_is); (case k24 => k_is); (case a25 => k_is); (case l25 => k_is); (case c25 => k_is); (case k25 => k_is); (case z_ValueError => k_is); (case z_abs => k_is); (case z_bool => k_is); (case z_enumerate => k_is); (case z_int => k_is); (case z_isinstance => k_is); (case z_len => k_is); (case z_list => k_is); (case z_max => k_is); (case z_range => k_is); (case z_str => k_is); (case z_tuple => k_is); (case v_MOST_STRINGS => k_is); (case pgLoom => k_is); (case hDLoom => k_is); (case poLoom => k_is); (case saLoom => k_is); (case mkLoom => k_is); (case kcLoom => k_is); (case nALoom_hung => k_is); (case nALoom_past => k_is); (case nALoom_strings => k_is); (case kp_NoMove => k_is); (case ty_NoMove => k_is); (case hg_NoMove => k_is); (case hk_NoMove => k_is); (case hd_NoMove => k_is); (case ha_NoMove => k_is); (case hm_NoMove => k_is); (case kp_NoWord => k_is); (case ty_NoWord => k_is); (case hg_NoWord => k_is); (case hk_NoWord => k_is); (case hd_NoWord => k_is); (case ha_NoWord => k_is); (case hm_NoWord => k_is); (case hn => k_is); (case ht => k_is); (case hs_BraidError => k_is); (case hs_NoMove => k_is); (case hs_NoWord => k_is); (case i_NoMove_NoMove => kit_is); (case i_NoWord_NoMove => kit_is); (case i_NoMove_NoWord => kit_is); (case i_NoWord_NoWord => kit_is); (case i_NoMove_ValueError => kit_is); (case i_NoWord_ValueError => kit_is); (case i_NoMove_BadPicture => kit_is); (case i_NoMove_BadText => kit_is); (case i_NoMove_NoForm => kit_is); (case i_NoMove_NoRow => kit_is); (case i_NoMove_NoString => kit_is); (case i_NoMove_TooMany => kit_is); (case i_NoMove_Unlike => kit_is); (case i_NoWord_BadPicture => kit_is); (case i_NoWord_BadText => kit_is); (case i_NoWord_NoForm => kit_is); (case i_NoWord_NoRow => kit_is); (case i_NoWord_NoString => kit_is); (case i_NoWord_TooMany => kit_is); (case i_NoWord_Unlike => kit_is); (case n_NoMove => kit_is); (case n_NoWord => kit_is); (case n_ValueError => kit_is); (case n_BadPicture => kit_is); (case n_BadText => kit_is); (case n_NoForm => kit_is); (case n_NoRow => kit_is); (case n_NoString => kit_is); (case n_TooMany => kit_is); (case n_Unlike => kit_is); (case hx_BraidError => k_is); (case tx_BraidError => k_is); (case s_NoMove_BraidError => k_is); (case s_NoWord_BraidError => k_is)
    (case q_NoMove => k_exc); (case q_NoWord => k_exc)
