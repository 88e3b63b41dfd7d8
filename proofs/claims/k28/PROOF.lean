import PyProof.Rows.All
import HandS.CallSlots
import HandS.Conv
import HandS.Deep
import HandS.DeepEq
import HandS.Exc
import HandS.ExcIs
import HandS.ExcOwn
import HandS.Flow
import HandS.ForExc
import HandS.ForMost
import HandS.IsInst
import HandS.More
import HandS.Replace
import HandS.Rev
import HandS.RevRange
import HandS.Set
import HandS.SetFor
import HandS.SetKeys
import HandS.SortInts
import HandS.SortKw
import HandS.SortRule
import HandS.StrMore
import HandS.Style
import HandS.Text
import HandS.TryOnly
import HandS.TupAny
import HandS.Wide
import HandS.Words
import HandS.WordsDict
import HandS.WordsExc
import HandS.Zip
import KE.DataMinMax
import KE.KSortTupG
import PyProof.ListStr
import PyProof.LongRange
import PyProof.Rows.SetFrom
import PyProof.Rows.SortShellAny
import PyProof.TupleOfStr
import PySem.Challenge.RW_meetstretch_k28_cuttings_judged
set_option Elab.async false
set_option linter.all false
set_option maxRecDepth 100000
set_option maxHeartbeats 4000000
namespace MP
open PySem PySem.Spec L2
open PyProof.Rows hiding St

/-! ## values -/
abbrev Kt := Sum Int (List Nat)
inductive T where
  | non | bl (b : Bool) | int (i : Int) | str (s : List Nat)
  | lst (ts : List T) | tup (ts : List T) | ro (ns : List Int)
  | dct (kvs : List (Kt × T)) | exc (c : String)
  deriving Inhabited

abbrev S2 (s : List Nat) : Str := ⟨s.toArray⟩
def keyOf : Kt → Key
  | .inl i => .inl i
  | .inr s => .inr (S2 s)
def sok (s : List Nat) : Bool := s.all fun c => decide (c < 1114112)
def kok : Kt → Bool
  | .inl _ => true
  | .inr s => sok s
/-- an exception object of the class -/
def ExT (cls : Value) (a : Addr) : HO := .ext fun h => ∃ (oe : Obj) (vs : Array Value), h.get? a = some oe ∧ oe.cls = cls ∧ oe.dict = none ∧ oe.data = .fields vs
/-- a list that is read alone -/
def RoAt (K : PySem.W.Frag) (H : Hp) (Av : Addr → Prop) (a : Addr) (xs : List V) : Prop :=
  (Rd H a (.lst xs) ∧ ¬ Av a) ∨ ∃ (o : Obj) (its : Array Value) (n : Nat), K.lookup a = some o ∧ o.cls = .type "list" ∧ o.dict = none ∧ o.data = .seq its n ∧ its.size ≤ sizeLine ∧ Vals xs its.toList

mutual
/-- the value v is the tree t; Av: addresses that it does not lean on -/
def Rep (K : PySem.W.Frag) (H : Hp) (Av : Addr → Prop) : T → V → Prop
  | .non, v => v = .non
  | .bl b, v => v = .bl b
  | .int i, v => v = .int i
  | .str s, v => v = .str (S2 s) ∧ sok s = true
  | .lst ts, v => ∃ a vs, v = .ref a ∧ ¬ Av a ∧ H a = some (.lst vs) ∧ Reps K H Av ts vs
  | .tup ts, v => ∃ a vs, v = .ref a ∧ ¬ Av a ∧ H a = some (.tup vs) ∧ Reps K H Av ts vs
  | .ro ns, v => ∃ a, v = .ref a ∧ RoAt K H Av a (ns.map V.int)
  | .dct kvs, v => ∃ a ws, v = .ref a ∧ ¬ Av a ∧ Rd H a (.dK ws) ∧ RepD K H Av kvs ws
  | .exc c, v => ∃ a D, v = .ref a ∧ ¬ Av a ∧ H a = some (ExT (.ref D) a) ∧ PySem.W.nsIn K mainGlobals (c : Str) = some (some (.ref D))
def Reps (K : PySem.W.Frag) (H : Hp) (Av : Addr → Prop) : List T → List V → Prop
  | [], vs => vs = []
  | t :: ts, vs => ∃ v r, vs = v :: r ∧ Rep K H Av t v ∧ Reps K H Av ts r
def RepD (K : PySem.W.Frag) (H : Hp) (Av : Addr → Prop) : List (Kt × T) → List (Key × V) → Prop
  | [], ws => ws = []
  | (k, t) :: r, ws => ∃ v q, ws = (keyOf k, v) :: q ∧ (Rep K H Av t v ∧ kok k = true) ∧ RepD K H Av r q
end

/-- what an own address holds -/
def OwnRep (K : PySem.W.Frag) (H : Hp) (Av : Addr → Prop) (a : Addr) : T → Prop
  | .lst ts => ∃ vs, H a = some (.lst vs) ∧ Reps K H Av ts vs
  | .dct kvs => ∃ ws, H a = some (.dK ws) ∧ RepD K H Av kvs ws
  | _ => False

section
variable {K : PySem.W.Frag} {H H' : Hp} {Av Av' : Addr → Prop}
theorem RoAt.keep (hh : ∀ b o, H b = some o → ¬ Av b → H' b = some o) (ha : ∀ b o, H b = some o → ¬ Av b → ¬ Av' b) {a : Addr} {xs : List V} (h : RoAt K H Av a xs) : RoAt K H' Av' a xs := by
  rcases h with ⟨x | ⟨o, x⟩, n⟩ | h
  · exact .inl ⟨.inl (hh _ _ x n), ha _ _ x n⟩
  · exact .inl ⟨.inr ⟨o, hh _ _ x n⟩, ha _ _ x n⟩
  · exact .inr h
theorem RoAt.sql {a : Addr} {xs : List V} (h : RoAt K H Av a xs) : SqL K H a xs := by
  rcases h with ⟨x, n⟩ | h
  · exact .inl x
  · exact .inr h
mutual
theorem Rep.keep (hh : ∀ b o, H b = some o → ¬ Av b → H' b = some o) (ha : ∀ b o, H b = some o → ¬ Av b → ¬ Av' b) : ∀ (t : T) (v : V), Rep K H Av t v → Rep K H' Av' t v
  | .non, v, h => h
  | .bl _, v, h => h
  | .int _, v, h => h
  | .str _, v, h => h
  | .lst ts, v, h => by
    simp only [Rep] at h ⊢
    obtain ⟨a, vs, e, n, x, r⟩ := h
    exact ⟨a, vs, e, ha a _ x n, hh a _ x n, Reps.keep hh ha ts vs r⟩
  | .tup ts, v, h => by
    simp only [Rep] at h ⊢
    obtain ⟨a, vs, e, n, x, r⟩ := h
    exact ⟨a, vs, e, ha a _ x n, hh a _ x n, Reps.keep hh ha ts vs r⟩
  | .ro ns, v, h => by
    simp only [Rep] at h ⊢
    obtain ⟨a, e, x⟩ := h
    exact ⟨a, e, x.keep hh ha⟩
  | .dct kvs, v, h => by
    simp only [Rep] at h ⊢
    obtain ⟨a, vs, e, n, x | ⟨o, x⟩, r⟩ := h
    · exact ⟨a, vs, e, ha a _ x n, .inl (hh a _ x n), RepD.keep hh ha kvs vs r⟩
    · exact ⟨a, vs, e, ha a _ x n, .inr ⟨o, hh a _ x n⟩, RepD.keep hh ha kvs vs r⟩
  | .exc _, v, h => by
    simp only [Rep] at h ⊢
    obtain ⟨a, D, e, n, x, r⟩ := h
    exact ⟨a, D, e, ha a _ x n, hh a _ x n, r⟩
theorem Reps.keep (hh : ∀ b o, H b = some o → ¬ Av b → H' b = some o) (ha : ∀ b o, H b = some o → ¬ Av b → ¬ Av' b) : ∀ (ts : List T) (vs : List V), Reps K H Av ts vs → Reps K H' Av' ts vs
  | [], vs, h => by simp only [Reps] at h ⊢; exact h
  | t :: ts, vs, h => by
    simp only [Reps] at h ⊢
    obtain ⟨v, r, e, h1, h2⟩ := h
    exact ⟨v, r, e, Rep.keep hh ha t v h1, Reps.keep hh ha ts r h2⟩
theorem RepD.keep (hh : ∀ b o, H b = some o → ¬ Av b → H' b = some o) (ha : ∀ b o, H b = some o → ¬ Av b → ¬ Av' b) : ∀ (ts : List (Kt × T)) (vs : List (Key × V)), RepD K H Av ts vs → RepD K H' Av' ts vs
  | [], vs, h => by simp only [RepD] at h ⊢; exact h
  | (k, t) :: ts, vs, h => by
    simp only [RepD] at h ⊢
    obtain ⟨v, r, e, h1, h2⟩ := h
    exact ⟨v, r, e, ⟨Rep.keep hh ha t v h1.1, h1.2⟩, RepD.keep hh ha ts r h2⟩
end
theorem OwnRep.keep (hh : ∀ b o, H b = some o → ¬ Av b → H' b = some o) (ha : ∀ b o, H b = some o → ¬ Av b → ¬ Av' b) {a : Addr} {t : T} (h : OwnRep K H Av a t) (he : H' a = H a) : OwnRep K H' Av' a t := by
  cases t <;> simp only [OwnRep] at h ⊢
  · obtain ⟨vs, x, r⟩ := h
    exact ⟨vs, he.trans x, Reps.keep hh ha _ _ r⟩
  · obtain ⟨vs, x, r⟩ := h
    exact ⟨vs, he.trans x, RepD.keep hh ha _ _ r⟩
theorem OwnRep.there {a : Addr} {t : T} (h : OwnRep K H Av a t) : ∃ o, H a = some o ∧ Mut (some o) := by
  cases t <;> simp only [OwnRep] at h
  · obtain ⟨vs, x, _⟩ := h
    exact ⟨_, x, trivial⟩
  · obtain ⟨vs, x, _⟩ := h
    exact ⟨_, x, trivial⟩
/-- an own object that is no longer own -/
theorem OwnRep.rep {a : Addr} {t : T} (h : OwnRep K H Av a t) (ha : ∀ b o, H b = some o → ¬ Av b → ¬ Av' b) (n : ¬ Av' a) : Rep K H Av' t (.ref a) := by
  cases t <;> simp only [OwnRep] at h <;> simp only [Rep]
  · obtain ⟨vs, x, r⟩ := h
    exact ⟨a, vs, rfl, n, x, Reps.keep (fun _ _ e _ => e) ha _ _ r⟩
  · obtain ⟨vs, x, r⟩ := h
    exact ⟨a, vs, rfl, n, .inl x, RepD.keep (fun _ _ e _ => e) ha _ _ r⟩
theorem Reps.length : ∀ {ts : List T} {vs : List V}, Reps K H Av ts vs → ts.length = vs.length
  | [], vs, h => by simp only [Reps] at h; subst h; rfl
  | t :: ts, vs, h => by
    simp only [Reps] at h
    obtain ⟨v, r, e, _, h2⟩ := h
    subst e
    simp [Reps.length h2]
theorem Reps.get : ∀ {ts : List T} {vs : List V} {i : Nat} {t : T}, Reps K H Av ts vs → ts[i]? = some t → ∃ v, vs[i]? = some v ∧ Rep K H Av t v
  | [], vs, i, t, h, e => by simp at e
  | t :: ts, vs, i, u, h, e => by
    simp only [Reps] at h
    obtain ⟨v, r, e', h1, h2⟩ := h
    subst e'
    cases i with
    | zero => simp at e; subst e; exact ⟨v, by simp, h1⟩
    | succ i =>
      obtain ⟨w, h3, h4⟩ := Reps.get h2 (i := i) (t := u) (by simpa using e)
      exact ⟨w, by simpa using h3, h4⟩
theorem Reps.append : ∀ {ts us : List T} {vs ws : List V}, Reps K H Av ts vs → Reps K H Av us ws → Reps K H Av (ts ++ us) (vs ++ ws)
  | [], us, vs, ws, h, h' => by simp only [Reps] at h; subst h; simpa using h'
  | t :: ts, us, vs, ws, h, h' => by
    simp only [Reps] at h
    obtain ⟨v, r, e, h1, h2⟩ := h
    subst e
    simp only [List.cons_append, Reps]
    exact ⟨v, r ++ ws, rfl, h1, h2.append h'⟩
theorem Reps.nil : Reps K H Av [] [] := by simp only [Reps]
theorem Reps.cons {t : T} {ts : List T} {v : V} {vs : List V} (h : Rep K H Av t v) (r : Reps K H Av ts vs) : Reps K H Av (t :: ts) (v :: vs) := by
  simp only [Reps]; exact ⟨v, vs, rfl, h, r⟩
theorem Reps.one {t : T} {v : V} (h : Rep K H Av t v) : Reps K H Av [t] [v] := .cons h .nil
theorem Reps.drop : ∀ {ts : List T} {vs : List V} (n : Nat), Reps K H Av ts vs → Reps K H Av (ts.drop n) (vs.drop n)
  | _, _, 0, h => by simpa using h
  | [], vs, n + 1, h => by simp only [Reps] at h; subst h; simp [Reps]
  | t :: ts, vs, n + 1, h => by
    simp only [Reps] at h
    obtain ⟨v, r, e, h1, h2⟩ := h
    subst e
    simpa using h2.drop n
theorem Reps.take : ∀ {ts : List T} {vs : List V} (n : Nat), Reps K H Av ts vs → Reps K H Av (ts.take n) (vs.take n)
  | _, _, 0, h => by simp [Reps]
  | [], vs, n + 1, h => by simp only [Reps] at h; subst h; simp [Reps]
  | t :: ts, vs, n + 1, h => by
    simp only [Reps] at h
    obtain ⟨v, r, e, h1, h2⟩ := h
    subst e
    simp only [List.take_succ_cons]
    exact .cons h1 (h2.take n)
theorem Reps.set {t : T} {v : V} (hv : Rep K H Av t v) : ∀ {ts : List T} {vs : List V} (i : Nat), Reps K H Av ts vs → Reps K H Av (ts.set i t) (vs.set i v)
  | [], vs, i, h => by simp only [Reps] at h; subst h; simp [Reps]
  | u :: ts, vs, i, h => by
    simp only [Reps] at h
    obtain ⟨w, r, e, h1, h2⟩ := h
    subst e
    cases i with
    | zero => exact .cons hv h2
    | succ i => exact .cons h1 (Reps.set hv i h2)
theorem Reps.reverse : ∀ {ts : List T} {vs : List V}, Reps K H Av ts vs → Reps K H Av ts.reverse vs.reverse
  | [], vs, h => by simp only [Reps] at h; subst h; simp [Reps]
  | u :: ts, vs, h => by
    simp only [Reps] at h
    obtain ⟨w, r, e, h1, h2⟩ := h
    subst e
    simp only [List.reverse_cons]
    exact h2.reverse.append (.one h1)
theorem Reps.ints {vs : List V} : ∀ {ns : List Int}, Reps K H Av (ns.map T.int) vs → vs = ns.map V.int := by
  intro ns
  induction ns generalizing vs with
  | nil => intro h; simpa [Reps] using h
  | cons n ns ih =>
    intro h
    simp only [List.map_cons, Reps, Rep] at h
    obtain ⟨v, r, e, h1, h2⟩ := h
    rw [e, h1, ih h2, List.map_cons]
theorem Reps.of_ints : ∀ (ns : List Int), Reps K H Av (ns.map T.int) (ns.map V.int)
  | [] => .nil
  | n :: ns => .cons (by simp [Rep]) (Reps.of_ints ns)
theorem Reps.strs {vs : List V} : ∀ {ns : List (List Nat)}, Reps K H Av (ns.map T.str) vs → vs = ns.map (fun s => V.str (S2 s)) ∧ ∀ s ∈ ns, sok s = true := by
  intro ns
  induction ns generalizing vs with
  | nil => intro h; simpa [Reps] using h
  | cons n ns ih =>
    intro h
    simp only [List.map_cons, Reps, Rep] at h
    obtain ⟨v, r, e, ⟨h1, h1'⟩, h2⟩ := h
    obtain ⟨e2, h3⟩ := ih h2
    refine ⟨by rw [e, h1, e2, List.map_cons], fun s hs => ?_⟩
    rcases List.mem_cons.mp hs with e | hs
    · rw [e]; exact h1'
    · exact h3 s hs
theorem Reps.of_strs : ∀ (ns : List (List Nat)), (∀ s ∈ ns, sok s = true) → Reps K H Av (ns.map T.str) (ns.map fun s => V.str (S2 s))
  | [], _ => .nil
  | n :: ns, h => .cons (by simp only [Rep, true_and]; exact h n (by simp)) (Reps.of_strs ns fun s hs => h s (by simp [hs]))
theorem Reps.bools {vs : List V} : ∀ {ns : List Bool}, Reps K H Av (ns.map T.bl) vs → vs = ns.map V.bl := by
  intro ns
  induction ns generalizing vs with
  | nil => intro h; simpa [Reps] using h
  | cons n ns ih =>
    intro h
    simp only [List.map_cons, Reps, Rep] at h
    obtain ⟨v, r, e, h1, h2⟩ := h
    rw [e, h1, ih h2, List.map_cons]
end

def T.isLstT : T → Bool
  | .lst _ => true
  | .dct _ => true
  | _ => false
/-! ## slots, results -/
inductive Slot where
  | shr (t : T) | own (t : T) | io (t : T) | lck (t : T)
def Slot.t : Slot → T
  | .shr t | .own t | .io t | .lck t => t
def Slot.mine : Slot → Bool
  | .shr _ => false
  | _ => true
abbrev Env := List (Option Slot)
inductive R where
  | val (t : T) | fresh (t : T) | loc (i : Nat) | deep (t : T)
inductive Res (α : Type) where
  | ok (a : α) (ρ : Env) | exc (c : String) (ρ : Env) | bad
@[inline] def Res.bind {α β : Type} (x : Res α) (f : α → Env → Res β) : Res β :=
  match x with
  | .ok a ρ => f a ρ
  | .exc c ρ => .exc c ρ
  | .bad => .bad
def slotAt (ρ : Env) (i : Nat) : Option Slot := (ρ[i]?).join
/-- the content -/
def R.get (ρ : Env) : R → Option T
  | .val t => some t
  | .fresh t => some t
  | .loc i => match slotAt ρ i with
    | some (.own t) => some t
    | some (.io t) => some t
    | some (.lck t) => some t
    | _ => none
  | .deep _ => none
/-- clean: not an own object -/
def R.clean : R → Option T
  | .val t => some t
  | .fresh t => some t
  | .loc _ => none
  | .deep _ => none

section
variable (K : PySem.W.Frag)
def SlotRep (H : Hp) (Av : Addr → Prop) : Slot → V → Prop
  | .shr t, v => Rep K H Av t v
  | .own t, v => ∃ a, v = .ref a ∧ Av a ∧ OwnRep K H Av a t
  | .io t, v => ∃ a, v = .ref a ∧ Av a ∧ OwnRep K H Av a t
  | .lck t, v => ∃ a, v = .ref a ∧ Av a ∧ OwnRep K H Av a t
/-- the slots are the trees -/
structure Rel (Av : Addr → Prop) (ρ : Env) (σ : St) (H : Hp) : Prop where
  len : ρ.length = σ.length
  slot : ∀ i s, slotAt ρ i = some s → ∃ v, σ[i]? = some (some v) ∧ SlotRep K H Av s v
  inj : ∀ i j s s' a, slotAt ρ i = some s → slotAt ρ j = some s' → s.mine = true → s'.mine = true → σ[i]? = some (some (.ref a)) → σ[j]? = some (some (.ref a)) → i = j
/-- the addresses that may be written -/
def Wr (ρ : Env) (σ : St) (a : Addr) : Prop := ∃ i t, (slotAt ρ i = some (.own t) ∨ slotAt ρ i = some (.io t)) ∧ σ[i]? = some (some (.ref a))
end
/-- what was tracked stays but for W -/
def Fr (W : Addr → Prop) (H H' : Hp) : Prop := ∀ b o, H b = some o → ¬ W b → H' b = some o
theorem Fr.refl {W : Addr → Prop} {H : Hp} : Fr W H H := fun _ _ e _ => e
theorem Fr.trans {W : Addr → Prop} {H H1 H2 : Hp} (a : Fr W H H1) (b : Fr W H1 H2) : Fr W H H2 := fun c o e n => b c o (a c o e n) n
theorem Fr.mono {W W' : Addr → Prop} {H H1 : Hp} (a : Fr W H H1) (h : ∀ b, W b → W' b) : Fr W' H H1 := fun c o e n => a c o e fun z => n (h c z)
theorem Fr.laid {W : Addr → Prop} {H : Hp} {p : Addr} {o : HO} (h : H p = none) : Fr W H (upd H p o) := fun b u e _ => by
  rw [upd_ne (ne_of_none e h)]; exact e
theorem Fr.wrote {W : Addr → Prop} {H : Hp} {p : Addr} {o : HO} (h : W p) : Fr W H (upd H p o) := fun b u e n => by
  rw [upd_ne (fun z => n (by rw [z]; exact h))]; exact e
/-- the avoided addresses are tracked -/
def Tr (Av : Addr → Prop) (H : Hp) : Prop := ∀ a, Av a → ∃ o, H a = some o
end MP

namespace MP
open PySem PySem.Spec L2
open PyProof.Rows hiding St

/-! ## operators on values -/
mutual
def T.eqv : T → T → Bool
  | .non, .non => true
  | .bl a, .bl b => a == b
  | .bl a, .int j => (if a then 1 else 0) == j
  | .int i, .bl b => i == (if b then 1 else 0)
  | .int i, .int j => i == j
  | .str x, .str y => x == y
  | .lst xs, .lst ys => T.eqvs xs ys
  | .tup xs, .tup ys => T.eqvs xs ys
  | _, _ => false
def T.eqvs : List T → List T → Bool
  | [], [] => true
  | x :: xs, y :: ys => T.eqv x y && T.eqvs xs ys
  | [], _ :: _ => false
  | _ :: _, [] => false
end
mutual
/-- plain data no deeper than so much -/
def T.flat : Nat → T → Bool
  | _, .non | _, .bl _ | _, .int _ | _, .str _ => true
  | 0, _ => false
  | n + 1, .lst ts => T.flats n ts
  | n + 1, .tup ts => T.flats n ts
  | _ + 1, .ro _ | _ + 1, .dct _ | _ + 1, .exc _ => false
def T.flats : Nat → List T → Bool
  | _, [] => true
  | n, t :: ts => T.flat n t && T.flats n ts
end
def T.atom : T → Bool
  | .non | .bl _ | .int _ | .str _ => true
  | _ => false
/-- a list of texts, numbers alone: what an own list may hold beside read ones -/
def T.atoms : T → Bool
  | .lst ts => ts.all T.atom
  | t => t.atom
/-- what a def may hand back that has read an own list -/
def T.okR (t : T) (fr : Bool) : Bool := t.atom || (fr && t.atoms)
def T.truth : T → Option Bool
  | .non => some false
  | .bl b => some b
  | .int i => some (decide (i ≠ 0))
  | .str s => if s.length ≤ 16777216 then some (!s.isEmpty) else none
  | .lst ts => some (!ts.isEmpty)
  | .tup ts => some (!ts.isEmpty)
  | .ro ts => some (!ts.isEmpty)
  | .dct _ => none
  | .exc _ => none

inductive Bop where
  | add | sub | mul | mod | fdiv | pow | shl | shr | band | bor
  deriving DecidableEq
def Bop.ast : Bop → Operator
  | .add => .Add | .sub => .Sub | .mul => .Mult | .mod => .Mod | .fdiv => .FloorDiv | .pow => .Pow | .shl => .LShift | .shr => .RShift | .band => .BitAnd | .bor => .BitOr
/-- the sizes of ints that may be multiplied -/
def mulOk (i j : Int) : Bool := decide (-(2 ^ 64) < i ∧ i < 2 ^ 64) || decide (-(2 ^ 64) < j ∧ j < 2 ^ 64) || decide (i.natAbs.log2 + j.natAbs.log2 < 1000000)
def divOk (j : Int) : Bool := decide (0 < j) && (decide (j < 1073741824) || decide (j.natAbs.log2 < 9000))
def powOk (i j : Int) : Bool := decide (0 ≤ j) && (decide (j ≤ 1000000 ∧ i.natAbs < 2 ^ 64) || decide ((Builtin.Int.intBits i : Int) * j ≤ 2 ^ 27))
def repL {α : Type} (xs : List α) (k : Int) : List α := (List.replicate k.toNat xs).flatten
def Bop.sem : Bop → T → T → Option R
  | .add, .int i, .int j => some (.val (.int (i + j)))
  | .add, .int i, .bl b => some (.val (.int (i + if b then 1 else 0)))
  | .add, .str x, .str y => if x.length + y.length ≤ 16777216 then some (.val (.str (x ++ y))) else none
  | .add, .lst x, .lst y => if x.length + y.length ≤ 16777216 then some (.fresh (.lst (x ++ y))) else none
  | .add, .tup x, .tup y => if x.length + y.length ≤ 16777216 then some (.val (.tup (x ++ y))) else none
  | .sub, .int i, .int j => some (.val (.int (i - j)))
  | .mul, .int i, .int j => if mulOk i j then some (.val (.int (i * j))) else none
  | .mul, .str x, .int k => if x.length * k.toNat ≤ 16777216 ∧ -(2 ^ 63) ≤ k ∧ k < 2 ^ 63 then some (.val (.str (repL x k))) else none
  | .mul, .lst x, .int k => if x.length * k.toNat ≤ 16777216 ∧ -(2 ^ 63) ≤ k ∧ k < 2 ^ 63 then some (.fresh (.lst (repL x k))) else none
  | .mod, .int i, .int j => if 0 < j then some (.val (.int (i % j))) else none
  | .fdiv, .int i, .int j => if divOk j then some (.val (.int (i / j))) else none
  | .pow, .int i, .int j => if powOk i j then some (.val (.int (i ^ j.toNat))) else none
  | .shl, .int i, .int j => if 0 ≤ j ∧ j ≤ 1000000 ∧ i.natAbs < 2 ^ 64 then some (.val (.int (i * 2 ^ j.toNat))) else none
  | .shr, .int i, .int j => if 0 ≤ j then some (.val (.int (i / 2 ^ j.toNat))) else none
  | .band, .int i, .int j => some (.val (.int (Builtin.bitAnd i j)))
  | .bor, .int i, .int j => some (.val (.int (Builtin.bitOr i j)))
  | _, _, _ => none

inductive Cop where
  | eq | ne | lt | le | gt | ge | is_ | isnot | in_ | notin
  deriving DecidableEq
def Cop.ast : Cop → CmpOp
  | .eq => .Eq | .ne => .NotEq | .lt => .Lt | .le => .LtE | .gt => .Gt | .ge => .GtE | .is_ => .Is | .isnot => .IsNot | .in_ => .In | .notin => .NotIn
def eqOk (t u : T) : Bool := (t.flat 30) && (u.flat 30)
def T.isNone : T → Bool
  | .non => true
  | _ => false
/-! ### texts -/
def subAtL (s t : List Nat) (i : Nat) : Bool := decide ((s.drop i).take t.length = t)
/-- t stands in s -/
def hasL (s t : List Nat) : Bool := (List.range (s.length + 1 - t.length)).any (subAtL s t)
def firstL (s t : List Nat) : Option Nat := (List.range (s.length + 1 - t.length)).find? (subAtL s t)
def findL (s t : List Nat) : Int := match firstL s t with
  | some i => (i : Int)
  | none => -1
/-- s.startswith(t, i), i not below 0 -/
def startsL (s t : List Nat) (i : Int) : Bool := decide (i.toNat + t.length ≤ s.length) && subAtL s t i.toNat
def endsL (s t : List Nat) : Bool := decide (t.length ≤ s.length) && subAtL s t (s.length - t.length)
/-- is x in y -/
def inSem : T → T → Option Bool
  | .str [c], .str s => some (decide (c ∈ s))
  | .str x, .str s => some (hasL s x)
  | .str x, .dct kvs => some ((kvs.find? fun kv => decide (kv.1 = .inr x)).isSome)
  | .int x, .dct kvs => some ((kvs.find? fun kv => decide (kv.1 = .inl x)).isSome)
  | t, .lst us => if (t.flat 28) && (T.flats 28 us) then some (us.any fun u => T.eqv u t) else none
  | t, .tup us => if t.atom && us.all T.atom then some (us.any fun u => T.eqv u t) else none
  | _, _ => none
def isSem : T → T → Option Bool
  | t, .non => some t.isNone
  | .bl a, .bl b => some (a == b)
  | _, _ => none
mutual
/-- data with dicts (no tuples), no deeper than so much -/
def T.datD : Nat → T → Bool
  | _, .non | _, .bl _ | _, .int _ | _, .str _ => true
  | 0, _ => false
  | n + 1, .lst ts => T.datDs n ts
  | n + 1, .dct kvs => T.datDd n kvs && decide ((kvs.map Prod.fst).Nodup)
  | _ + 1, _ => false
def T.datDs : Nat → List T → Bool
  | _, [] => true
  | n, t :: ts => T.datD n t && T.datDs n ts
def T.datDd : Nat → List (Kt × T) → Bool
  | _, [] => true
  | n, (_, t) :: ts => T.datD n t && T.datDd n ts
end
mutual
/-- the very same data -/
def T.same : T → T → Bool
  | .non, .non => true
  | .bl a, .bl b => a == b
  | .int i, .int j => i == j
  | .str x, .str y => x == y
  | .lst xs, .lst ys => T.sames xs ys
  | .dct xs, .dct ys => T.samed xs ys
  | _, _ => false
def T.sames : List T → List T → Bool
  | [], [] => true
  | x :: xs, y :: ys => T.same x y && T.sames xs ys
  | [], _ :: _ => false
  | _ :: _, [] => false
def T.samed : List (Kt × T) → List (Kt × T) → Bool
  | [], [] => true
  | (k, x) :: xs, (l, y) :: ys => decide (k = l) && (T.same x y && T.samed xs ys)
  | [], _ :: _ => false
  | _ :: _, [] => false
end
mutual
theorem T.same_eq : ∀ t u : T, T.same t u = true → t = u
  | .non, u, h => by cases u <;> simp_all [T.same]
  | .bl a, u, h => by cases u <;> simp_all [T.same]
  | .int a, u, h => by cases u <;> simp_all [T.same]
  | .str a, u, h => by cases u <;> simp_all [T.same]
  | .lst a, u, h => by
    cases u <;> (try (simp [T.same] at h; done))
    rename_i b
    rw [T.sames_eq a b (by simpa [T.same] using h)]
  | .tup a, u, h => by cases u <;> simp [T.same] at h
  | .ro a, u, h => by cases u <;> simp [T.same] at h
  | .exc a, u, h => by cases u <;> simp [T.same] at h
  | .dct a, u, h => by
    cases u <;> (try (simp [T.same] at h; done))
    rename_i b
    rw [T.samed_eq a b (by simpa [T.same] using h)]
theorem T.sames_eq : ∀ t u : List T, T.sames t u = true → t = u
  | [], [], _ => rfl
  | [], _ :: _, h => by simp [T.sames] at h
  | _ :: _, [], h => by simp [T.sames] at h
  | x :: xs, y :: ys, h => by
    simp only [T.sames, Bool.and_eq_true] at h
    rw [T.same_eq x y h.1, T.sames_eq xs ys h.2]
theorem T.samed_eq : ∀ t u : List (Kt × T), T.samed t u = true → t = u
  | [], [], _ => rfl
  | [], _ :: _, h => by simp [T.samed] at h
  | _ :: _, [], h => by simp [T.samed] at h
  | (k, x) :: xs, (l, y) :: ys, h => by
    simp only [T.samed, Bool.and_eq_true, decide_eq_true_eq] at h
    rw [h.1, T.same_eq x y h.2.1, T.samed_eq xs ys h.2.2]
end
mutual
theorem T.same_self : ∀ (n : Nat) (t : T), T.datD n t = true → T.same t t = true
  | _, .non, _ => rfl
  | _, .bl b, _ => by simp [T.same]
  | _, .int i, _ => by simp [T.same]
  | _, .str s, _ => by simp [T.same]
  | 0, .lst _, h => by simp [T.datD] at h
  | 0, .dct _, h => by simp [T.datD] at h
  | n + 1, .lst ts, h => by simp only [T.same]; exact T.sames_self n ts (by simpa [T.datD] using h)
  | n + 1, .dct ts, h => by simp only [T.same]; exact T.samed_self n ts (by simp [T.datD] at h; exact h.1)
  | 0, .tup _, h => by simp [T.datD] at h
  | 0, .ro _, h => by simp [T.datD] at h
  | 0, .exc _, h => by simp [T.datD] at h
  | n + 1, .tup _, h => by simp [T.datD] at h
  | n + 1, .ro _, h => by simp [T.datD] at h
  | n + 1, .exc _, h => by simp [T.datD] at h
theorem T.sames_self : ∀ (n : Nat) (t : List T), T.datDs n t = true → T.sames t t = true
  | _, [], _ => rfl
  | n, t :: ts, h => by
    simp only [T.datDs, Bool.and_eq_true] at h
    simp only [T.sames, T.same_self n t h.1, T.sames_self n ts h.2, Bool.and_self]
theorem T.samed_self : ∀ (n : Nat) (t : List (Kt × T)), T.datDd n t = true → T.samed t t = true
  | _, [], _ => rfl
  | n, (k, t) :: ts, h => by
    simp only [T.datDd, Bool.and_eq_true] at h
    simp only [T.samed, T.same_self n t h.1, T.samed_self n ts h.2, Bool.and_self, decide_true]
end
def T.boxed : T → Bool
  | .lst _ => true
  | .dct _ => true
  | _ => false
def T.listed : T → Bool
  | .lst _ => true
  | _ => false
def sameOk (t u : T) : Bool := T.datD 30 t && (t.boxed && T.same t u)
def sameNe (t u : T) : Bool := T.datD 30 t && (t.listed && T.same t u)
def Cop.semB : Cop → T → T → Option Bool
  | .eq, t, u => if eqOk t u then some (T.eqv t u) else if sameOk t u then some true else none
  | .ne, t, u => if eqOk t u then some (!T.eqv t u) else if sameNe t u then some false else none
  | .lt, .int i, .int j => some (decide (i < j))
  | .le, .int i, .int j => some (decide (i ≤ j))
  | .gt, .int i, .int j => some (decide (j < i))
  | .ge, .int i, .int j => some (decide (j ≤ i))
  | .lt, .str i, .str j => some (decide (i < j))
  | .le, .str i, .str j => some (!decide (j < i))
  | .gt, .str i, .str j => some (decide (j < i))
  | .ge, .str i, .str j => some (!decide (i < j))
  | .is_, t, u => isSem t u
  | .isnot, t, u => (isSem t u).map (!·)
  | .in_, t, u => inSem t u
  | .notin, t, u => (inSem t u).map (!·)
  | _, _, _ => none
inductive Uop where
  | neg | not
  deriving DecidableEq

/-- xs[i] -/
def pick {α : Type} (xs : List α) (i : Int) : Option α :=
  if 0 ≤ i then xs[i.toNat]? else if -(xs.length : Int) ≤ i then xs[(i + xs.length).toNat]? else none
def subSem : T → T → Option T
  | .lst xs, .int i => pick xs i
  | .tup xs, .int i => pick xs i
  | .ro xs, .int i => (pick xs i).map T.int
  | .str s, .int i => if s.length ≤ 16777216 then (pick s i).map fun c => T.str [c] else none
  | .dct kvs, .int k => (kvs.find? fun kv => decide (kv.1 = .inl k)).map (·.2)
  | .dct kvs, .str k => (kvs.find? fun kv => decide (kv.1 = .inr k)).map (·.2)
  | _, _ => none
def sIx (n d : Nat) : Option Int → Nat
  | none => d
  | some v => if v < 0 then (v + (n : Int)).toNat else min v.toNat n
def cut {α : Type} (xs : List α) (lo hi : Option Int) : List α := (xs.drop (sIx xs.length 0 lo)).take (sIx xs.length xs.length hi - sIx xs.length 0 lo)
def slcSem : T → Option Int → Option Int → Option R
  | .str s, lo, hi => if s.length ≤ 16777216 then some (.val (.str (cut s lo hi))) else none
  | .lst s, lo, hi => some (.fresh (.lst (cut s lo hi)))
  | .tup s, lo, hi => some (.val (.tup (cut s lo hi)))
  | _, _, _ => none
def revSem : T → Option R
  | .str s => if s.length ≤ 16777216 then some (.val (.str s.reverse)) else none
  | .lst s => some (.fresh (.lst s.reverse))
  | _ => none
/-! ### sorting -/
def tOfK : Kt → T
  | .inl i => .int i
  | .inr s => .str s
def T.k? : T → Option Kt
  | .int i => some (.inl i)
  | .str s => some (.inr s)
  | _ => none
def kts? : List T → Option (List Kt)
  | [] => some []
  | t :: r => t.k?.bind fun k => (kts? r).map (k :: ·)
def T.tupK? : T → Option (List Kt)
  | .tup ts => kts? ts
  | _ => none
def tups? : List T → Option (List (List Kt))
  | [] => some []
  | t :: r => t.tupK?.bind fun k => (tups? r).map (k :: ·)
def tupT (ks : List Kt) : T := .tup (ks.map tOfK)
def ltKt : Kt → Kt → Bool
  | .inl a, .inl b => decide (a < b)
  | .inl _, .inr _ => true
  | .inr _, .inl _ => false
  | .inr a, .inr b => decide (a < b)
def ltKs : List Kt → List Kt → Bool
  | _, [] => false
  | [], _ :: _ => true
  | x :: r, y :: t => ltKt x y || (!ltKt y x && ltKs r t)
def sortI (ns : List Int) : List Int := ns.mergeSort fun a b => decide (a ≤ b)
def sortS (xs : List (List Nat)) : List (List Nat) := xs.mergeSort fun a b => !decide (b < a)
def sortK (xs : List (List Kt)) : List (List Kt) := xs.mergeSort fun a b => !ltKs b a
def Kt.isS : Kt → Bool
  | .inl _ => false
  | .inr _ => true
/-- all alike, none empty -/
def shapeOk : List (List Kt) → Bool
  | [] => true
  | k :: r => !k.isEmpty && r.all fun l => decide (l.map Kt.isS = k.map Kt.isS)
end MP

namespace MP
open PySem PySem.Spec L2
open PyProof.Rows hiding St
/-! ## facts about sorting -/
theorem sortI_perm (ns : List Int) : (sortI ns).Perm ns := List.mergeSort_perm _ _
theorem sortI_le (ns : List Int) : (sortI ns).Pairwise (· ≤ ·) := by
  have h := List.pairwise_mergeSort (le := fun a b : Int => decide (a ≤ b)) (fun a b c h1 h2 => by simp only [decide_eq_true_eq] at *; omega) (fun a b => by simp only [Bool.or_eq_true, decide_eq_true_eq]; omega) ns
  exact h.imp fun h => by simpa using h
theorem sortI_of {ns ms : List Int} (p : ms.Perm ns) (h : ms.Pairwise (· ≤ ·)) : ms = sortI ns :=
  List.Perm.eq_of_pairwise (le := (· ≤ ·)) (fun a b _ _ h1 h2 => Int.le_antisymm h1 h2) h (sortI_le ns) (p.trans (sortI_perm ns).symm)
theorem sortI_congr {ns ms : List Int} (p : ms.Perm ns) : sortI ms = sortI ns := sortI_of ((sortI_perm ms).trans p) (sortI_le ms)
theorem sortI_self {ns : List Int} (h : ns.Pairwise (· ≤ ·)) : sortI ns = ns := (sortI_of (.refl _) h).symm
theorem sortI_lt {ns : List Int} (h : ns.Pairwise (· < ·)) : sortI ns = ns := sortI_self (h.imp fun h => Int.le_of_lt h)
theorem natL_tri (a b : List Nat) : a < b ∨ a = b ∨ b < a := by
  rcases List.le_total a b with h | h
  · rcases List.le_iff_lt_or_eq.mp h with h | h
    · exact .inl h
    · exact .inr (.inl h)
  · rcases List.le_iff_lt_or_eq.mp h with h | h
    · exact .inr (.inr h)
    · exact .inr (.inl h.symm)
theorem sortS_perm (ns : List (List Nat)) : (sortS ns).Perm ns := List.mergeSort_perm _ _
theorem sortS_le (ns : List (List Nat)) : (sortS ns).Pairwise fun a b => ¬ b < a := by
  have h := List.pairwise_mergeSort (le := fun a b : List Nat => !decide (b < a)) (fun a b c h1 h2 => by
      simp only [Bool.not_eq_true', decide_eq_false_iff_not] at *
      exact List.not_lt.mpr (List.le_trans (List.not_lt.mp h1) (List.not_lt.mp h2))) (fun a b => by
      simp only [Bool.or_eq_true, Bool.not_eq_true', decide_eq_false_iff_not]
      rcases natL_tri a b with h | h | h
      · exact .inl (List.lt_asymm h)
      · subst h; exact .inl (List.lt_irrefl a)
      · exact .inr (List.lt_asymm h)) ns
  exact h.imp fun h => by simpa using h
theorem sortS_of {ns ms : List (List Nat)} (p : ms.Perm ns) (h : ms.Pairwise fun a b => ¬ b < a) : ms = sortS ns :=
  List.Perm.eq_of_pairwise (le := fun a b : List Nat => ¬ b < a) (fun a b _ _ h1 h2 => by
    rcases natL_tri a b with h | h | h
    · exact absurd h h2
    · exact h
    · exact absurd h h1) h (sortS_le ns) (p.trans (sortS_perm ns).symm)
theorem sortS_congr {ns ms : List (List Nat)} (p : ms.Perm ns) : sortS ms = sortS ns := sortS_of ((sortS_perm ms).trans p) (sortS_le ms)
theorem sortS_self {ns : List (List Nat)} (h : ns.Pairwise fun a b => ¬ b < a) : sortS ns = ns := (sortS_of (.refl _) h).symm
/-! tuples -/
theorem ltKt_item : ∀ a b : Kt, ltKt a b = itemLt a b
  | .inl _, .inl _ => rfl
  | .inl _, .inr _ => rfl
  | .inr _, .inl _ => rfl
  | .inr _, .inr _ => rfl
theorem ltKs_lex : ∀ a b : List Kt, ltKs a b = lexLt itemOrd a b
  | [], [] => rfl
  | [], _ :: _ => rfl
  | _ :: _, [] => rfl
  | x :: r, y :: t => by
    show (ltKt x y || (!ltKt y x && ltKs r t)) = (itemLt x y || (!itemLt y x && lexLt itemOrd r t))
    rw [ltKt_item, ltKt_item, ltKs_lex r t]
theorem ltKs_irrefl (a : List Kt) : ltKs a a = false := by rw [ltKs_lex]; exact lex_irrefl (O := itemOrd) a
theorem ltKs_trans {a b c : List Kt} (h1 : ltKs a b = true) (h2 : ltKs b c = true) : ltKs a c = true := by rw [ltKs_lex] at *; exact lex_trans (O := itemOrd) a b c h1 h2
theorem ltKs_total {a b : List Kt} (h1 : ltKs a b = false) (h2 : ltKs b a = false) : a = b := by rw [ltKs_lex] at *; exact lex_total (O := itemOrd) a b h1 h2
theorem ltKs_neg {a b c : List Kt} (h : ltKs a c = true) : ltKs a b = true ∨ ltKs b c = true := by simp only [ltKs_lex] at *; exact lex_negTrans (O := itemOrd) a b c h
theorem ltKs_asymm {a b : List Kt} (h1 : ltKs a b = true) : ltKs b a = false := by
  cases h : ltKs b a with
  | false => rfl
  | true => have := ltKs_trans h1 h; rw [ltKs_irrefl] at this; cases this
theorem sortK_perm (ns : List (List Kt)) : (sortK ns).Perm ns := List.mergeSort_perm _ _
theorem sortK_le (ns : List (List Kt)) : (sortK ns).Pairwise fun a b => ltKs b a = false := by
  have h := List.pairwise_mergeSort (le := fun a b : List Kt => !ltKs b a) (fun a b c h1 h2 => by
      simp only [Bool.not_eq_true'] at *
      cases h : ltKs c a with
      | false => rfl
      | true => rcases ltKs_neg (b := b) h with h | h <;> simp_all) (fun a b => by
      simp only [Bool.or_eq_true, Bool.not_eq_true']
      cases h : ltKs b a with
      | false => exact .inl rfl
      | true => exact .inr (ltKs_asymm h)) ns
  exact h.imp fun h => by simpa using h
theorem sortK_of {ns ms : List (List Kt)} (p : ms.Perm ns) (h : ms.Pairwise fun a b => ltKs b a = false) : ms = sortK ns :=
  List.Perm.eq_of_pairwise (le := fun a b : List Kt => ltKs b a = false) (fun a b _ _ h1 h2 => ltKs_total h2 h1) h (sortK_le ns) (p.trans (sortK_perm ns).symm)
theorem sortK_congr {ns ms : List (List Kt)} (p : ms.Perm ns) : sortK ms = sortK ns := sortK_of ((sortK_perm ms).trans p) (sortK_le ms)
/-! ## facts about texts -/
theorem subAtL_iff {s t : List Nat} {i : Nat} : subAtL s t i = true ↔ (s.drop i).take t.length = t := by simp [subAtL]
theorem sub_s2 (s t : List Nat) {i : Nat} (h : i + t.length ≤ s.length) : Builtin.Str.subAt (S2 s) (S2 t) i = subAtL s t i := by
  unfold Builtin.Str.subAt subAtL
  rw [Bool.eq_iff_iff]
  simp only [beq_iff_eq, decide_eq_true_eq, Str.length, List.size_toArray]
  rw [← Array.toList_inj, Array.toList_extract, List.extract_eq_take_drop]
  simp
theorem hasL_eq (s t : List Nat) : (!(Builtin.Str.occurrences (S2 s) (S2 t) 0 (S2 s).length 1).isEmpty) = hasL s t := by
  rw [Bool.eq_iff_iff, StrLaws.found_iff]
  simp only [hasL, List.any_eq_true, List.mem_range, Str.length, List.size_toArray]
  constructor
  · rintro ⟨i, h1, h2⟩
    exact ⟨i, by omega, by rw [← sub_s2 s t h1]; exact h2⟩
  · rintro ⟨i, h1, h2⟩
    have h3 : i + t.length ≤ s.length := by omega
    exact ⟨i, h3, by rw [sub_s2 s t h3]; exact h2⟩
open PySem.StrLaws in
theorem occ_full (s sub : Str) (hi : Nat) : ∀ (l : List Nat) (st : Array Nat × Nat), 1 ≤ st.fst.size → (forIn l st (occBody s sub hi 1)).run.fst = st.fst
  | [], st, h => rfl
  | a :: l, st, h => by
    rw [List.forIn_cons]
    unfold occBody
    rw [if_neg (by omega)]
    exact occ_full s sub hi l _ h
open PySem.StrLaws in
theorem occ_first (s sub : Str) (hi : Nat) : ∀ (l : List Nat) (free : Nat), (∀ i ∈ l, free ≤ i) →
    (forIn l ((#[] : Array Nat), free) (occBody s sub hi 1)).run.fst.toList = (l.find? fun i => decide (i + sub.length ≤ hi) && Builtin.Str.subAt s sub i).toList
  | [], free, _ => rfl
  | a :: l, free, hf => by
    rw [List.forIn_cons]
    have ha : free ≤ a := hf a (List.mem_cons_self ..)
    by_cases hc : a + sub.length ≤ hi ∧ Builtin.Str.subAt s sub a = true
    · unfold occBody
      rw [if_pos ⟨⟨⟨by simp, ha⟩, hc.1⟩, hc.2⟩]
      show (forIn l ((#[] : Array Nat).push a, a + sub.length) (occBody s sub hi 1)).run.fst.toList = _
      rw [occ_full s sub hi l _ (by simp)]
      rw [List.find?_cons_of_pos (by simp [hc.1, hc.2])]
      rfl
    · unfold occBody
      rw [if_neg fun h => hc ⟨h.1.2, h.2⟩]
      show (forIn l ((#[] : Array Nat), free) (occBody s sub hi 1)).run.fst.toList = _
      rw [occ_first s sub hi l free fun i hi' => hf i (List.mem_cons_of_mem _ hi')]
      rw [List.find?_cons_of_neg (by simpa using hc)]
theorem find_cut {p q : Nat → Bool} {n m : Nat} (h : n ≤ m) (h1 : ∀ i, i < n → p i = q i) (h2 : ∀ i, n ≤ i → i < m → p i = false) : (List.range m).find? p = (List.range n).find? q := by
  obtain ⟨k, rfl⟩ := Nat.exists_eq_add_of_le h
  rw [List.range_add, List.find?_append]
  have e1 : (List.range n).find? p = (List.range n).find? q := by
    have : ∀ l : List Nat, (∀ i ∈ l, i < n) → l.find? p = l.find? q := by
      intro l
      induction l with
      | nil => intro _; rfl
      | cons a l ih =>
        intro hl
        simp only [List.find?_cons]
        rw [h1 a (hl a (by simp)), ih fun i hi => hl i (List.mem_cons_of_mem _ hi)]
    exact this _ fun i hi => List.mem_range.mp hi
  have e2 : ((List.range k).map (n + ·)).find? p = none := by
    rw [List.find?_eq_none]
    intro x hx
    obtain ⟨j, hj, rfl⟩ := List.mem_map.mp hx
    rw [h2 _ (by omega) (by have := List.mem_range.mp hj; omega)]
    simp
  rw [e1, e2, Option.or_none]
theorem occ_firstL (s t : List Nat) : Builtin.Str.occurrences (S2 s) (S2 t) 0 (S2 s).length 1 = (firstL s t).toList := by
  rw [StrLaws.occ_eq, occ_first _ _ _ _ _ (fun _ _ => Nat.zero_le _)]
  congr 1
  unfold firstL
  rw [Nat.sub_zero, ← List.range_eq_range']
  refine find_cut (by simp only [Str.length, List.size_toArray]; omega) (fun i hi => ?_) fun i hi hj => ?_
  · have h : i + t.length ≤ s.length := by omega
    rw [sub_s2 s t h]
    simp [Str.length, h]
  · have h : ¬ i + t.length ≤ s.length := by omega
    simp [Str.length, h]
theorem findL_eq (s t : List Nat) : Txt.find (S2 s) (S2 t) = findL s t := by
  unfold Txt.find findL
  rw [occ_firstL]
  cases firstL s t <;> rfl
end MP

namespace MP
open PySem PySem.Spec L2
open PyProof.Rows hiding St

inductive FRes where
  | ok (t : T) (fr : Bool) (outs : List T) | exc (c : String) (outs : List T) | bad
/-- what a def is worth -/
structure Fn where
  ios : List Bool
  imm : Bool
  run : List T → FRes
  /-- the answer's lists are new, held by nothing else -/
  deep : Bool
  dfr : deep = true → ∀ ts t fr outs, run ts = .ok t fr outs → fr = false

inductive Blt where
  | len | abs | min | max | int | str | list | tuple | sorted | sum | any | all | dict
  deriving DecidableEq
def Blt.name : Blt → String
  | .len => "len" | .abs => "abs" | .min => "min" | .max => "max" | .int => "int" | .str => "str" | .list => "list" | .tuple => "tuple" | .sorted => "sorted" | .sum => "sum" | .any => "any" | .all => "all" | .dict => "dict"
def Blt.ty : Blt → Bool
  | .int | .str | .list | .tuple | .dict => true
  | _ => false
inductive Mth where
  | join | count | index | find | startswith | endswith | get | upper | split
  deriving DecidableEq
inductive Mut where
  | append | extend | pop | insert | reverse | clear | setdefault
  deriving DecidableEq
inductive Tg where
  | n (i : Nat) | t (ts : List Tg)
inductive ItK where
  | val | range | enum | zip | reversed | revrange
  deriving DecidableEq

def ints? : List T → Option (List Int)
  | [] => some []
  | .int i :: r => (ints? r).map (i :: ·)
  | _ => none
def bools? : List T → Option (List Bool)
  | [] => some []
  | .bl i :: r => (bools? r).map (i :: ·)
  | _ => none
def strs? : List T → Option (List (List Nat))
  | [] => some []
  | .str i :: r => (strs? r).map (i :: ·)
  | _ => none
theorem ints?_map (ns : List Int) : ints? (ns.map T.int) = some ns := by induction ns <;> simp_all [ints?]
theorem bools?_map (ns : List Bool) : bools? (ns.map T.bl) = some ns := by induction ns <;> simp_all [bools?]
theorem strs?_map (ns : List (List Nat)) : strs? (ns.map T.str) = some ns := by induction ns <;> simp_all [strs?]
theorem of_ints? : ∀ {ts : List T} {ns : List Int}, ints? ts = some ns → ts = ns.map T.int
  | [], ns, h => by simp [ints?] at h; subst h; rfl
  | .int i :: r, ns, h => by
    simp only [ints?, Option.map_eq_some_iff] at h
    obtain ⟨q, h1, h2⟩ := h
    subst h2
    rw [of_ints? h1]; rfl
  | .non :: r, _, h => by simp [ints?] at h
  | .bl _ :: r, _, h => by simp [ints?] at h
  | .str _ :: r, _, h => by simp [ints?] at h
  | .lst _ :: r, _, h => by simp [ints?] at h
  | .tup _ :: r, _, h => by simp [ints?] at h
  | .ro _ :: r, _, h => by simp [ints?] at h
  | .dct _ :: r, _, h => by simp [ints?] at h
  | .exc _ :: r, _, h => by simp [ints?] at h
theorem of_bools? : ∀ {ts : List T} {ns : List Bool}, bools? ts = some ns → ts = ns.map T.bl
  | [], ns, h => by simp [bools?] at h; subst h; rfl
  | .bl i :: r, ns, h => by
    simp only [bools?, Option.map_eq_some_iff] at h
    obtain ⟨q, h1, h2⟩ := h
    subst h2
    rw [of_bools? h1]; rfl
  | .non :: r, _, h => by simp [bools?] at h
  | .int _ :: r, _, h => by simp [bools?] at h
  | .str _ :: r, _, h => by simp [bools?] at h
  | .lst _ :: r, _, h => by simp [bools?] at h
  | .tup _ :: r, _, h => by simp [bools?] at h
  | .ro _ :: r, _, h => by simp [bools?] at h
  | .dct _ :: r, _, h => by simp [bools?] at h
  | .exc _ :: r, _, h => by simp [bools?] at h
theorem of_strs? : ∀ {ts : List T} {ns : List (List Nat)}, strs? ts = some ns → ts = ns.map T.str
  | [], ns, h => by simp [strs?] at h; subst h; rfl
  | .str i :: r, ns, h => by
    simp only [strs?, Option.map_eq_some_iff] at h
    obtain ⟨q, h1, h2⟩ := h
    subst h2
    rw [of_strs? h1]; rfl
  | .non :: r, _, h => by simp [strs?] at h
  | .int _ :: r, _, h => by simp [strs?] at h
  | .bl _ :: r, _, h => by simp [strs?] at h
  | .lst _ :: r, _, h => by simp [strs?] at h
  | .tup _ :: r, _, h => by simp [strs?] at h
  | .ro _ :: r, _, h => by simp [strs?] at h
  | .dct _ :: r, _, h => by simp [strs?] at h
  | .exc _ :: r, _, h => by simp [strs?] at h

def sortSem (ts : List T) : Option (List T) := match ints? ts with
  | some ns => some ((sortI ns).map T.int)
  | none => match strs? ts with
    | some xs => some ((sortS xs).map T.str)
    | none => match tups? ts with
      | some ks => if shapeOk ks then some ((sortK ks).map tupT) else none
      | none => none
def keysT (kvs : List (Kt × T)) : List T := kvs.map fun kv => tOfK kv.1
def putT (kvs : List (Kt × T)) (k : Kt) (t : T) : List (Kt × T) := if kvs.any fun kv => decide (kv.1 = k) then kvs.map fun kv => if kv.1 = k then (k, t) else kv else kvs ++ [(k, t)]
def getT (kvs : List (Kt × T)) (k : Kt) : Option T := (kvs.find? fun kv => decide (kv.1 = k)).map (·.2)
def mergeT (kvs : List (Kt × T)) : List (Kt × T) → List (Kt × T)
  | [] => kvs
  | (k, t) :: r => mergeT (putT kvs k t) r
def pair? : T → Option (Kt × T)
  | .tup [a, b] => a.k?.map fun k => (k, b)
  | _ => none
def pairs? : List T → Option (List (Kt × T))
  | [] => some []
  | t :: r => (pair? t).bind fun k => (pairs? r).map (k :: ·)
/-- a number's figures -/
def decS (i : Int) : List Nat := (Str.ofString (toString i)).cps.toList
def Blt.sem : Blt → List T → Option R
  | .sorted, [.lst ts] => (sortSem ts).map fun l => .fresh (.lst l)
  | .sorted, [.dct kvs] => if kvs.length < 64 then (match ints? (keysT kvs) with
    | some ns => some (.fresh (.lst ((sortI ns).map T.int)))
    | none => match strs? (keysT kvs) with
      | some xs => some (.fresh (.lst ((sortS xs).map T.str)))
      | none => none) else none
  | .min, [.lst ts] => (ints? ts).bind fun ns => ns.min?.map fun m => .val (.int m)
  | .max, [.lst ts] => (ints? ts).bind fun ns => ns.max?.map fun m => .val (.int m)
  | .list, [.str s] => if s.length ≤ 16777216 then some (.fresh (.lst (s.map fun c => .str [c]))) else none
  | .sorted, [.str s] => if s.length ≤ 16777216 then some (.fresh (.lst ((sortS (s.map fun c => [c])).map T.str))) else none
  | .list, [.dct kvs] => some (.fresh (.lst (keysT kvs)))
  | .dict, [.lst ts] => (pairs? ts).map fun ps => .fresh (.dct (mergeT [] ps))
  | .dict, [.dct kvs] => some (.fresh (.dct kvs))
  | .len, [.str s] => if s.length ≤ 16777216 then some (.val (.int s.length)) else none
  | .len, [.lst s] => some (.val (.int s.length))
  | .len, [.tup s] => some (.val (.int s.length))
  | .len, [.ro s] => some (.val (.int s.length))
  | .len, [.dct s] => some (.val (.int s.length))
  | .abs, [.int i] => some (.val (.int (if i < 0 then -i else i)))
  | .min, [.int i, .int j] => some (.val (.int (if j < i then j else i)))
  | .max, [.int i, .int j] => some (.val (.int (if j > i then j else i)))
  | .int, [.int i] => some (.val (.int i))
  | .int, [.bl b] => some (.val (.int (if b then 1 else 0)))
  | .list, [.lst ts] => some (.fresh (.lst ts))
  | .list, [.tup ts] => some (.fresh (.lst ts))
  | .list, [.ro ts] => some (.fresh (.lst (ts.map T.int)))
  | .tuple, [.lst ts] => some (.val (.tup ts))
  | .tuple, [.tup ts] => some (.val (.tup ts))
  | .sum, [.lst ts] => (ints? ts).map fun ns => .val (.int ns.sum)
  | .any, [.lst ts] => (bools? ts).map fun ns => .val (.bl (ns.any id))
  | .all, [.lst ts] => (bools? ts).map fun ns => .val (.bl (ns.all id))
  | .str, [.int i] => if sok (decS i) = true ∧ i.natAbs.log2 < 1920 then some (.val (.str (decS i))) else none
  | _, _ => none
/-- join -/
def joinL (S : List Nat) : List (List Nat) → List Nat
  | [] => []
  | [x] => x
  | x :: y :: r => x ++ S ++ joinL S (y :: r)
/-- how often u stands in ts -/
def countT (ts : List T) (u : T) : Nat := ts.countP fun t => T.eqv t u
/-- split at a sign -/
def splitL (c : Nat) : List Nat → List (List Nat)
  | [] => [[]]
  | x :: r => if x = c then [] :: splitL c r else match splitL c r with
    | [] => [[x]]
    | y :: t => (x :: y) :: t
def T.isLst : T → Bool
  | .lst _ => true
  | _ => false
def T.isDct : T → Bool
  | .dct _ => true
  | _ => false
/-- what a method may be asked of -/
def Mth.pre (m : Mth) (t : Option T) : Bool := match m, t with
  | .get, some (.dct _) => true
  | .get, _ => false
  | .count, some (.lst _) => true
  | .count, _ => false
  | .index, some (.lst _) => true
  | .startswith, some (.lst _) => false
  | _, some (.str _) => true
  | _, _ => false
def Mth.sem : Mth → T → List T → Option R
  | .join, .str s, [.lst ts] => (strs? ts).bind fun xs => if (xs.map List.length).sum + xs.length * s.length ≤ 16777216 then some (.val (.str (joinL s xs))) else none
  | .get, .dct kvs, [k] => k.k?.map fun k => .val ((getT kvs k).getD .non)
  | .get, .dct kvs, [k, d] => if d.atom then k.k?.map fun k => .val ((getT kvs k).getD d) else none
  | .index, .lst ts, [u] => if (u.flat 28) && (T.flats 28 ts) then (ts.findIdx? fun t => T.eqv t u).map fun (i : Nat) => .val (.int (i : Int)) else none
  | .index, .str s, [.str t] => (firstL s t).map fun (i : Nat) => .val (.int (i : Int))
  | .find, .str s, [.str t] => some (.val (.int (findL s t)))
  | .startswith, .str s, [.str t, .int i] => if 0 ≤ i ∧ i < 2 ^ 62 then some (.val (.bl (startsL s t i))) else none
  | .count, .lst ts, [u] => if (u.flat 28) && (T.flats 28 ts) then some (.val (.int (countT ts u : Nat))) else none
  | .endswith, .str s, [.str t] => some (.val (.bl (endsL s t)))
  | .split, .str s, [.str [c]] => if s.length + 2 ≤ 16777216 then some (.fresh (.lst ((splitL c s).map T.str))) else none
  | _, _, _ => none
/-- the new content, what is told -/
def Mut.sem : Mut → T → List T → Option (T × T)
  | .append, .lst ts, [t] => if ts.length < 16777216 then some (.lst (ts ++ [t]), .non) else none
  | .extend, .lst ts, [.lst us] => if ts.length + us.length ≤ 16777216 then some (.lst (ts ++ us), .non) else none
  | .pop, .lst ts, [] => (ts[ts.length - 1]?).map fun t => (.lst ts.dropLast, t)
  | .pop, .lst ts, [.int i] => if -(2 ^ 63) ≤ i ∧ i < 2 ^ 63 then (pick ts i).map fun t => (.lst (ts.eraseIdx (if 0 ≤ i then i.toNat else (i + ts.length).toNat)), t) else none
  | .insert, .lst ts, [.int i, t] => if 0 ≤ i ∧ i < 2 ^ 63 ∧ ts.length < 16777216 then some (.lst (ts.take i.toNat ++ [t] ++ ts.drop i.toNat), .non) else none
  | .setdefault, .dct kvs, [k, d] => k.k?.bind fun k => match getT kvs k with
    | some t => if kvs.length < 16777216 then some (.dct kvs, t) else none
    | none => if kvs.length < 16777216 then some (.dct (putT kvs k d), d) else none
  | .reverse, .lst ts, [] => some (.lst ts.reverse, .non)
  | .clear, .lst ts, [] => some (.lst [], .non)
  | _, _, _ => none
/-- does it read lists handed in -/
def Mut.reads : Mut → Bool
  | .extend => true
  | _ => false
def small62 (j : Int) : Bool := decide (-(2 ^ 62) ≤ j ∧ j < 2 ^ 62)
def iterSem : ItK → List T → Option (List T)
  | .val, [.lst ts] => some ts
  | .val, [.tup ts] => some ts
  | .val, [.ro ts] => some (ts.map T.int)
  | .val, [.str s] => some (s.map fun c => .str [c])
  | .range, [.int j] => some ((List.range j.toNat).map fun (k : Nat) => T.int (k : Int))
  | .range, [.int i, .int j] => some ((List.range (j - i).toNat).map fun (k : Nat) => T.int (i + (k : Int)))
  | .enum, [.lst ts] => some (ts.zipIdx.map fun p => .tup [.int p.2, p.1])
  | .zip, [.lst ts, .lst us] => some (ts.zipWith (fun t u => .tup [t, u]) us)
  | .zip, [.tup ts, .tup us] => some (ts.zipWith (fun t u => .tup [t, u]) us)
  | .reversed, [.lst ts] => some ts.reverse
  | .range, [.int i, .int j, .int c] => if c = -1 ∧ small62 i && small62 j then some ((List.range (i - j).toNat).map fun (k : Nat) => T.int (i - (k : Int))) else none
  | .revrange, [.int j] => if small62 j then some (((List.range j.toNat).map fun (k : Nat) => T.int (k : Int)).reverse) else none
  | _, _ => none

inductive Tn where
  | non | bool | int | str | list | tuple | dict
  deriving DecidableEq
def Tn.name : Tn → String
  | .non => "NoneType" | .bool => "bool" | .int => "int" | .str => "str" | .list => "list" | .tuple => "tuple" | .dict => "dict"
def T.ty : T → Option Tn
  | .non => some .non | .bl _ => some .bool | .int _ => some .int | .str _ => some .str | .lst _ => some .list | .tup _ => some .tuple | .dct _ => some .dict
  | .ro _ => none | .exc _ => none
def Tn.isa (a b : Tn) : Bool := decide (a = b) || (decide (a = .bool) && decide (b = .int))
def isiSem (t : T) (tys : List Tn) : Option Bool := t.ty.map fun a => tys.any fun b => a.isa b

/-- expressions of more than one node, by their arguments' values -/
inductive Spk where
  | lrange1 | lrange2 | minNone | disp | sortset | lenset | minOf
  deriving DecidableEq
def rangeT (i j : Int) : List T := (List.range (j - i).toNat).map fun (k : Nat) => T.int (i + (k : Int))
def rangeOk (i j : Int) : Bool := small62 i && small62 j && decide ((j - i).toNat ≤ 16777216)
def kvsOf : List T → Option (List (Kt × T))
  | [] => some []
  | k :: t :: r => k.k?.bind fun k => if t.atom then (kvsOf r).map ((k, t) :: ·) else none
  | _ => none
def minS : List (List Nat) → Option (List Nat)
  | [] => none
  | x :: r => some (r.foldl (fun m y => if y < m then y else m) x)
/-- each once, the first one stays -/
def onceI : List Int → List Int
  | [] => []
  | x :: r => x :: (onceI r).filter (fun y => decide (y ≠ x))
def onceS : List (List Nat) → List (List Nat)
  | [] => []
  | x :: r => x :: (onceS r).filter (fun y => decide (y ≠ x))
/-- what a set is made of: ints, or texts -/
def setItems : T → Option (Sum (List Int) (List (List Nat)))
  | .lst ts => match ints? ts with
    | some ns => some (.inl ns)
    | none => (strs? ts).map .inr
  | .str s => some (.inr (s.map fun c => [c]))
  | _ => none
def Spk.sem : Spk → List T → Option R
  | .lrange1, [.int j] => if rangeOk 0 j then some (.fresh (.lst (rangeT 0 j))) else none
  | .lrange2, [.int i, .int j] => if rangeOk i j then some (.fresh (.lst (rangeT i j))) else none
  | .minNone, [.lst ts] => (strs? ts).map fun xs => .val (match minS xs with
    | some m => .str m
    | none => .non)
  | .minOf, [.lst ts] => (strs? ts).bind fun xs => (minS xs).map fun m => .val (.str m)
  | .disp, ts => if ts.length ≤ 30 then (kvsOf ts).map fun kvs => .fresh (.dct (mergeT [] kvs)) else none
  | .sortset, [t] => (setItems t).bind fun
    | .inl ns => if ns.length < 4095 then some (.fresh (.lst ((sortI (onceI ns)).map T.int))) else none
    | .inr xs => if xs.length < 4095 then some (.fresh (.lst ((sortS (onceS xs)).map T.str))) else none
  | .lenset, [t] => (setItems t).bind fun
    | .inl ns => if ns.length < 4095 then some (.val (.int (onceI ns).length)) else none
    | .inr xs => if xs.length < 4095 then some (.val (.int (onceS xs).length)) else none
  | _, _ => none
/-- is an exception's class one of these -/
def subX (c d : String) : Bool := decide (d = c) || decide (d = "MarkError") || decide (d = "ValueError")
/-- isinstance(t, (cs)): xs: the classes that t's may be, tys: its types -/
def isxSem (t : T) (cs xs : List String) (tys : List Tn) : Option Bool := match t with
  | .exc c => if c ∈ xs then some (cs.any (subX c)) else none
  | t => t.ty.bind fun y => if y ∈ tys then some false else none
inductive E where
  | lit (t : T) | glob (x : String) (t : T) | var (i : Nat)
  | un (op : Uop) (a : E) | bin (op : Bop) (a b : E) | cmp (op : Cop) (a b : E) | cmp2 (o1 o2 : Cop) (a b c : E)
  | and_ (es : List E) | or_ (es : List E) | ite (c a b : E)
  | tup (es : List E) | lst (es : List E) | dct0
  | sub (a i : E) | slc (a : E) (lo hi : List E) | rev (a : E)
  | call (nm : String) (f : Fn) (args : List E)
  | blt (b : Blt) (args : List E)
  | meth (m : Mth) (o : E) (args : List E)
  | mut (m : Mut) (i : Nat) (args : List E)
  | isi (a : E) (tys : List Tn)
  | comp (elt : E) (tg : Tg) (k : ItK) (its : List E) (cond : List E) (own : List (String × Nat))
  | spec (k : Spk) (args : List E)
  | compK (elt : E) (tg : Tg) (i : Nat) (cond : List E) (own : List (String × Nat))
  | isx (a : E) (cs xs : List String) (tys : List Tn)
  | cmp3 (o1 o2 o3 : Cop) (a b c d : E)

/-- set a slot whose object is not held from without -/
def setS (ρ : Env) (i : Nat) (s : Slot) : Option Env :=
  match slotAt ρ i with
  | some (.io _) => none
  | some (.lck _) => none
  | _ => if i < ρ.length then some (ρ.set i (some s)) else none
mutual
def bindTg : Tg → T → Env → Option Env
  | .n i, t, ρ => setS ρ i (.shr t)
  | .t tgs, .tup ts, ρ => bindTgs tgs ts ρ
  | .t _, _, _ => none
def bindTgs : List Tg → List T → Env → Option Env
  | [], [], ρ => some ρ
  | g :: gs, t :: ts, ρ => (bindTg g t ρ).bind fun ρ => bindTgs gs ts ρ
  | _, _, _ => none
end
def wipeR (ρ : Env) : List Nat → Env
  | [] => ρ
  | i :: r => (wipeR ρ r).set i none
/-- the slots at own as they were -/
def backR (ρ0 ρ : Env) : List Nat → Env
  | [] => ρ
  | i :: r => (backR ρ0 ρ r).set i (ρ0[i]?.join)
def R.lock (ρ : Env) : R → Env
  | .loc i => match slotAt ρ i with
    | some s => if s.mine then ρ.set i (some (.lck s.t)) else ρ
    | none => ρ
  | _ => ρ
def lockAll (ρ : Env) : List R → Env
  | [] => ρ
  | r :: rs => lockAll (r.lock ρ) rs
def R.ix : R → List Nat
  | .loc i => [i]
  | _ => []
def gets (ρ : Env) : List R → Option (List T)
  | [] => some []
  | r :: rs => (r.get ρ).bind fun t => (gets ρ rs).map (t :: ·)
def cleans : List R → Option (List T)
  | [] => some []
  | r :: rs => r.clean.bind fun t => (cleans rs).map (t :: ·)
def liftR (o : Option R) (ρ : Env) : Res R := match o with
  | some r => .ok r ρ
  | none => .bad
def boolR (o : Option Bool) (ρ : Env) : Res R := match o with
  | some b => .ok (.val (.bl b)) ρ
  | none => .bad

/-- the arguments' trees: an in-and-out one is an own object, another one is clean, or read alone -/
def argT (ρ : Env) (imm : Bool) : List Bool → List R → Option (List T)
  | [], [] => some []
  | io :: ios, r :: rs => (match io, r with
    | true, .loc i => (match slotAt ρ i with
      | some (.own t) => some t
      | some (.io t) => some t
      | _ => none)
    | true, .fresh t => some t
    | true, .val _ => none
    | true, .deep _ => none
    | false, .loc i => if imm then R.get ρ (.loc i) else none
    | false, r => r.clean).bind fun t => (argT ρ imm ios rs).map (t :: ·)
  | _, _ => none
/-- the slots of the in-and-out arguments, of those read alone -/
def ioIx : List Bool → List R → List Nat
  | true :: ios, .loc i :: rs => i :: ioIx ios rs
  | _ :: ios, _ :: rs => ioIx ios rs
  | _, _ => []
def rdIx : List Bool → List R → List Nat
  | false :: ios, .loc i :: rs => i :: rdIx ios rs
  | _ :: ios, _ :: rs => rdIx ios rs
  | _, _ => []
def reown (s : Slot) (t : T) : Slot := match s with
  | .io _ => .io t
  | _ => .own t
def putOuts (ρ : Env) : List Bool → List R → List T → Env
  | true :: ios, .loc i :: rs, t :: ts => putOuts (match slotAt ρ i with
    | some s => ρ.set i (some (reown s t))
    | none => ρ) ios rs ts
  | true :: ios, _ :: rs, _ :: ts => putOuts ρ ios rs ts
  | false :: ios, _ :: rs, ts => putOuts ρ ios rs ts
  | _, _, _ => ρ
def R.isFresh : R → Bool
  | .fresh _ => true
  | _ => false
/-- no new object is handed in to be changed, or it is the one new object -/
def frOk : List Bool → List R → Bool
  | ios, rs => !((ios.zip rs).any fun p => p.1 && p.2.isFresh) || decide ((rs.filter R.isFresh).length = 1)
def callRes (f : Fn) (rs : List R) (ρ : Env) : Res R :=
  if (ioIx f.ios rs).Nodup ∧ (∀ i ∈ rdIx f.ios rs, i ∉ ioIx f.ios rs) ∧ frOk f.ios rs then
    match argT ρ f.imm f.ios rs with
    | none => .bad
    | some ts => match f.run ts with
      | .ok t fr outs => if (rdIx f.ios rs).isEmpty || (t.okR fr && outs.all T.atoms) then .ok (if fr then .fresh t else .val t) (putOuts ρ f.ios rs outs) else .bad
      | .exc c outs => if (rdIx f.ios rs).isEmpty || outs.all T.atoms then .exc c (putOuts ρ f.ios rs outs) else .bad
      | .bad => .bad
  else .bad
def mutRes (m : Mut) (i : Nat) (rs : List R) (ρ : Env) : Res R :=
  match slotAt ρ i, (if m.reads then gets ρ rs else cleans rs) with
  | some (.own t), some ts => (match m.sem t ts with
    | some (t', r) => .ok (.val r) (ρ.set i (some (.own t')))
    | none => .bad)
  | some (.io t), some ts => (match m.sem t ts with
    | some (t', r) => .ok (.val r) (ρ.set i (some (.io t')))
    | none => .bad)
  | _, _ => .bad
def Mut.dict : Mut → Bool
  | .setdefault => true
  | _ => false
def mutAt (ρ : Env) (m : Mut) (i : Nat) : Bool := match slotAt ρ i with
  | some s => s.mine && (if m.dict then s.t.isDct else s.t.isLst)
  | none => false
def compLoop (tg : Tg) (own : List Nat) (cond : Env → Res Bool) (elt : Env → Res R) : List T → Env → List T → Res (List T)
  | [], ρ, acc => .ok acc ρ
  | x :: xs, ρ, acc =>
    match bindTg tg x (wipeR ρ own) with
    | none => .bad
    | some ρ1 => match cond ρ1 with
      | .ok true ρ2 => (match elt ρ2 with
        | .ok r ρ3 => (match r.clean with
          | some t => compLoop tg own cond elt xs (backR ρ ρ3 own) (acc ++ [t])
          | none => .bad)
        | _ => .bad)
      | .ok false ρ2 => compLoop tg own cond elt xs (backR ρ ρ2 own) acc
      | _ => .bad
/-- the keys of a dict that is shared -/
def keysAt (ρ : Env) (i : Nat) : Option (List T) := match slotAt ρ i with
  | some (.shr (.dct kvs)) => if kvs.length ≤ 16777216 then some (keysT kvs) else none
  | _ => none
def truthR (x : Res R) : Res Bool := x.bind fun r ρ => match (r.get ρ).bind T.truth with
  | some b => .ok b ρ
  | none => .bad

mutual
def ev : E → Env → Res R
  | .lit t, ρ => .ok (.val t) ρ
  | .glob _ t, ρ => .ok (.val t) ρ
  | .var i, ρ => (match slotAt ρ i with
    | some (.shr t) => .ok (.val t) ρ
    | some _ => .ok (.loc i) ρ
    | none => .bad)
  | .un .neg a, ρ => (ev a ρ).bind fun r ρ => (match r.get ρ with
    | some (.int i) => .ok (.val (.int (-i))) ρ
    | _ => .bad)
  | .un .not a, ρ => (truthR (ev a ρ)).bind fun b ρ => .ok (.val (.bl (!b))) ρ
  | .bin op a b, ρ => (ev a ρ).bind fun r ρ => (ev b ρ).bind fun q ρ => liftR ((r.get ρ).bind fun t => (q.get ρ).bind fun u => op.sem t u) ρ
  | .cmp op a b, ρ => (ev a ρ).bind fun r ρ => (ev b ρ).bind fun q ρ => boolR ((r.get ρ).bind fun t => (q.get ρ).bind fun u => op.semB t u) ρ
  | .cmp2 o1 o2 a b c, ρ => (ev a ρ).bind fun r ρ => (ev b ρ).bind fun q ρ =>
      match (r.get ρ).bind fun t => (q.get ρ).bind fun u => o1.semB t u with
      | some true => (match q.clean with
        | some u => (ev c ρ).bind fun p ρ => boolR ((p.get ρ).bind fun w => o2.semB u w) ρ
        | none => .bad)
      | some false => .ok (.val (.bl false)) ρ
      | none => .bad
  | .and_ es, ρ => evAnd es ρ
  | .or_ es, ρ => evOr es ρ
  | .ite c a b, ρ => (truthR (ev c ρ)).bind fun k ρ => if k then ev a ρ else ev b ρ
  | .tup es, ρ => (evs es ρ).bind fun rs ρ => (match cleans rs with
    | some ts => if ts.length ≤ 16777216 then .ok (.val (.tup ts)) ρ else .bad
    | none => .bad)
  | .lst es, ρ => (evs es ρ).bind fun rs ρ => (match cleans rs with
    | some ts => if ts.length ≤ 16777216 then .ok (.fresh (.lst ts)) ρ else .bad
    | none => .bad)
  | .dct0, ρ => .ok (.fresh (.dct [])) ρ
  | .sub a i, ρ => (ev a ρ).bind fun r ρ => (ev i ρ).bind fun q ρ => (match (r.get ρ).bind fun t => (q.get ρ).bind fun u => subSem t u with
    | some t => .ok (.val t) ρ
    | none => .bad)
  | .slc a lo hi, ρ => (ev a ρ).bind fun r ρ => (evO lo ρ).bind fun l ρ => (evO hi ρ).bind fun h ρ => liftR ((r.get ρ).bind fun t => slcSem t l h) ρ
  | .rev a, ρ => (ev a ρ).bind fun r ρ => liftR ((r.get ρ).bind revSem) ρ
  | .call _ f args, ρ => (evs args ρ).bind fun rs ρ => callRes f rs ρ
  | .blt b args, ρ => (evs args ρ).bind fun rs ρ => liftR ((gets ρ rs).bind b.sem) ρ
  | .meth m o args, ρ => (ev o ρ).bind fun r ρ => if m.pre (r.get ρ) then (evs args ρ).bind fun rs ρ => liftR ((r.get ρ).bind fun t => (gets ρ rs).bind fun ts => m.sem t ts) ρ else .bad
  | .mut m i args, ρ => if mutAt ρ m i then (evs args ρ).bind fun rs ρ => mutRes m i rs ρ else .bad
  | .isi a tys, ρ => (ev a ρ).bind fun r ρ => boolR ((r.get ρ).bind fun t => isiSem t tys) ρ
  | .comp elt tg k its cond own, ρ => (evs its ρ).bind fun rs ρ =>
      (match (gets ρ rs).bind (iterSem k) with
      | some items => if items.length ≤ 16777216 then
          (compLoop tg (own.map (·.2)) (fun ρ => evC cond ρ) (fun ρ => ev elt ρ) items (lockAll ρ rs) []).bind fun ts ρ' => .ok (.fresh (.lst ts)) (backR ρ ρ' (rs.flatMap R.ix))
        else .bad
      | none => .bad)
  | .spec k args, ρ => (evs args ρ).bind fun rs ρ => liftR ((gets ρ rs).bind k.sem) ρ
  | .compK elt tg i cond own, ρ => (match keysAt ρ i with
    | some items => (compLoop tg (own.map (·.2)) (fun ρ => evC cond ρ) (fun ρ => ev elt ρ) items ρ []).bind fun ts ρ' => .ok (.fresh (.lst ts)) ρ'
    | none => .bad)
  | .isx a cs xs tys, ρ => (ev a ρ).bind fun r ρ => boolR ((r.get ρ).bind fun t => isxSem t cs xs tys) ρ
  | .cmp3 o1 o2 o3 a b c d, ρ => (ev a ρ).bind fun r ρ => (ev b ρ).bind fun q ρ =>
      match (r.get ρ).bind fun t => (q.get ρ).bind fun u => o1.semB t u with
      | some true => (match q.clean with
        | some u => (ev c ρ).bind fun p ρ => (match (p.get ρ).bind fun w => o2.semB u w with
          | some true => (match p.clean with
            | some w => (ev d ρ).bind fun z ρ => boolR ((z.get ρ).bind fun y => o3.semB w y) ρ
            | none => .bad)
          | some false => .ok (.val (.bl false)) ρ
          | none => .bad)
        | none => .bad)
      | some false => .ok (.val (.bl false)) ρ
      | none => .bad
def evs : List E → Env → Res (List R)
  | [], ρ => .ok [] ρ
  | e :: es, ρ => (ev e ρ).bind fun r ρ => (evs es ρ).bind fun rs ρ => .ok (r :: rs) ρ
/-- a slice's part (none, or one) -/
def evO : List E → Env → Res (Option Int)
  | [], ρ => .ok none ρ
  | [e], ρ => (ev e ρ).bind fun r ρ => (match r with
    | .val (.int i) => .ok (some i) ρ
    | _ => .bad)
  | _ :: _ :: _, _ => .bad
def evAnd : List E → Env → Res R
  | [], _ => .bad
  | [e], ρ => ev e ρ
  | e :: f :: es, ρ => (ev e ρ).bind fun r ρ => (match r.get ρ with
    | some (.bl true) => evAnd (f :: es) ρ
    | some (.bl false) => .ok (.val (.bl false)) ρ
    | _ => .bad)
def evOr : List E → Env → Res R
  | [], _ => .bad
  | [e], ρ => ev e ρ
  | e :: f :: es, ρ => (ev e ρ).bind fun r ρ => (match r.get ρ with
    | some (.bl false) => evOr (f :: es) ρ
    | some (.bl true) => .ok (.val (.bl true)) ρ
    | _ => .bad)
/-- a clause's tests (none, or one) -/
def evC : List E → Env → Res Bool
  | [], ρ => .ok true ρ
  | [e], ρ => truthR (ev e ρ)
  | _ :: _ :: _, _ => .bad
end
end MP

namespace MP
open PySem PySem.Spec L2
open PyProof.Rows hiding St

/-! ## kinds of slots, the step from state to state -/
def Slot.k : Slot → Nat
  | .shr _ => 1 | .own _ => 2 | .io _ => 3 | .lck _ => 4
def kindAt (ρ : Env) (i : Nat) : Nat := match slotAt ρ i with
  | none => 0
  | some s => s.k
structure Shp (ρ ρ' : Env) : Prop where
  len : ρ.length = ρ'.length
  kind : ∀ i, kindAt ρ i = kindAt ρ' i
  lck : ∀ i t, slotAt ρ i = some (.lck t) → slotAt ρ' i = some (.lck t)
theorem Shp.refl {ρ : Env} : Shp ρ ρ := ⟨rfl, fun _ => rfl, fun _ _ h => h⟩
theorem Shp.trans {a b c : Env} (x : Shp a b) (y : Shp b c) : Shp a c := ⟨x.len.trans y.len, fun i => (x.kind i).trans (y.kind i), fun i t h => y.lck i t (x.lck i t h)⟩
/-- the addresses that may be written -/
def WrK (ρ : Env) (σ : St) (a : Addr) : Prop := ∃ i, (kindAt ρ i = 2 ∨ kindAt ρ i = 3) ∧ σ[i]? = some (some (.ref a))
theorem Shp.wr {ρ ρ' : Env} (x : Shp ρ ρ') {σ : St} {a : Addr} : WrK ρ' σ a ↔ WrK ρ σ a := by
  unfold WrK
  constructor
  · rintro ⟨i, h, e⟩; exact ⟨i, by rw [x.kind i]; exact h, e⟩
  · rintro ⟨i, h, e⟩; exact ⟨i, by rw [← x.kind i]; exact h, e⟩
theorem slotAt_set {ρ : Env} {i j : Nat} {s : Slot} (h : i < ρ.length) : slotAt (ρ.set i (some s)) j = if j = i then some s else slotAt ρ j := by
  unfold slotAt
  by_cases e : j = i
  · subst e
    rw [List.getElem?_set_self h, if_pos rfl]; rfl
  · rw [List.getElem?_set_ne (Ne.symm e), if_neg e]
theorem slotAt_none {ρ : Env} {i j : Nat} : slotAt (ρ.set i none) j = if j = i then none else slotAt ρ j := by
  unfold slotAt
  by_cases e : j = i
  · subst e
    rw [if_pos rfl]
    by_cases h : j < ρ.length
    · rw [List.getElem?_set_self h]; rfl
    · rw [List.getElem?_eq_none (by simpa using h)]; rfl
  · rw [List.getElem?_set_ne (Ne.symm e), if_neg e]
theorem slotAt_lt {ρ : Env} {i : Nat} {s : Slot} (h : slotAt ρ i = some s) : i < ρ.length := by
  unfold slotAt at h
  by_cases q : i < ρ.length
  · exact q
  · rw [List.getElem?_eq_none (by simpa using q)] at h; simp at h
theorem mine_k {s : Slot} : s.mine = true ↔ s.k ≠ 1 := by cases s <;> simp [Slot.mine, Slot.k]
theorem kindAt_some {ρ : Env} {i : Nat} {s : Slot} (h : slotAt ρ i = some s) : kindAt ρ i = s.k := by unfold kindAt; rw [h]

section
variable {K : PySem.W.Frag} {Av Av' Av2 : Addr → Prop} {ρ ρ' ρ2 : Env} {σ : St} {H H' H2 : Hp}
theorem SlotRep.at {s : Slot} {v : V} (h : SlotRep K H Av s v) (m : s.mine = true) : ∃ a, v = .ref a ∧ Av a ∧ OwnRep K H Av a s.t := by
  cases s with
  | shr t => simp [Slot.mine] at m
  | own t => exact h
  | io t => exact h
  | lck t => exact h
theorem SlotRep.of {s : Slot} {v : V} {a : Addr} (m : s.mine = true) (e : v = .ref a) (ha : Av a) (h : OwnRep K H Av a s.t) : SlotRep K H Av s v := by
  cases s with
  | shr t => simp [Slot.mine] at m
  | own t => exact ⟨a, e, ha, h⟩
  | io t => exact ⟨a, e, ha, h⟩
  | lck t => exact ⟨a, e, ha, h⟩
/-- an own slot's address -/
theorem Rel.at (r : Rel K Av ρ σ H) {i : Nat} {s : Slot} (h : slotAt ρ i = some s) (m : s.mine = true) : ∃ a, σ[i]? = some (some (.ref a)) ∧ Av a ∧ OwnRep K H Av a s.t := by
  obtain ⟨v, e, q⟩ := r.slot i s h
  obtain ⟨a, rfl, ha, o⟩ := q.at m
  exact ⟨a, e, ha, o⟩
theorem Rel.wr (r : Rel K Av ρ σ H) {a : Addr} (h : WrK ρ σ a) : Av a := by
  obtain ⟨i, k, e⟩ := h
  unfold kindAt at k
  cases q : slotAt ρ i with
  | none => rw [q] at k; simp at k
  | some s =>
    rw [q] at k
    have k : s.k = 2 ∨ s.k = 3 := k
    obtain ⟨b, e', ha, _⟩ := r.at q (mine_k.mpr (by omega))
    rw [e] at e'; cases e'
    exact ha
/-- from state to state -/
structure Nx (K : PySem.W.Frag) (ρ : Env) (σ : St) (Av : Addr → Prop) (H : Hp) (ρ' : Env) (Av' : Addr → Prop) (H' : Hp) : Prop where
  shp : Shp ρ ρ'
  rel : Rel K Av' ρ' σ H'
  tr : Tr Av' H'
  up : ∀ b, Av b → Av' b
  nw : ∀ b, Av' b → Av b ∨ H b = none
  fr : Fr (WrK ρ σ) H H'
theorem Nx.refl (r : Rel K Av ρ σ H) (t : Tr Av H) : Nx K ρ σ Av H ρ Av H := ⟨.refl, r, t, fun _ h => h, fun _ h => .inl h, .refl⟩
theorem Fr.none {W : Addr → Prop} (f : Fr W H H') {b : Addr} (h : H' b = none) (hw : W b → False) : H b = none := by
  cases q : H b with
  | none => rfl
  | some o => rw [f b o q hw] at h; cases h
theorem Nx.trans {Av1 Av2 : Addr → Prop} {ρ1 ρ2 : Env} {H1 H2 : Hp} (r : Rel K Av ρ σ H) (a : Nx K ρ σ Av H ρ1 Av1 H1) (b : Nx K ρ1 σ Av1 H1 ρ2 Av2 H2) : Nx K ρ σ Av H ρ2 Av2 H2 where
  shp := a.shp.trans b.shp
  rel := b.rel
  tr := b.tr
  up := fun c h => b.up c (a.up c h)
  nw := fun c h => by
    rcases b.nw c h with h | h
    · exact a.nw c h
    · by_cases w : WrK ρ σ c
      · exact .inl (r.wr w)
      · exact .inr (a.fr.none h w)
  fr := a.fr.trans (b.fr.mono fun c h => a.shp.wr.mp h)
/-- what is clean stays -/
theorem Nx.rep (r : Rel K Av ρ σ H) (n : Nx K ρ σ Av H ρ' Av' H') {t : T} {v : V} (h : Rep K H Av t v) : Rep K H' Av' t v :=
  Rep.keep (fun b o e q => n.fr b o e fun w => q (r.wr w)) (fun b o e q z => (n.nw b z).elim q fun z => by rw [e] at z; cases z) t v h
theorem Nx.reps (r : Rel K Av ρ σ H) (n : Nx K ρ σ Av H ρ' Av' H') {t : List T} {v : List V} (h : Reps K H Av t v) : Reps K H' Av' t v :=
  Reps.keep (fun b o e q => n.fr b o e fun w => q (r.wr w)) (fun b o e q z => (n.nw b z).elim q fun z => by rw [e] at z; cases z) t v h
theorem Nx.own (r : Rel K Av ρ σ H) (n : Nx K ρ σ Av H ρ' Av' H') {t : T} {a : Addr} (w : ¬ WrK ρ σ a) (h : OwnRep K H Av a t) : OwnRep K H' Av' a t := by
  obtain ⟨o, e, _⟩ := h.there
  exact h.keep (fun b o e q => n.fr b o e fun w => q (r.wr w)) (fun b o e q z => (n.nw b z).elim q fun z => by rw [e] at z; cases z) ((n.fr a o e w).trans e.symm)
/-- a tuple's parts: the lists at bs are held by nothing else -/
def DRep (K : PySem.W.Frag) (H : Hp) (Av : Addr → Prop) : List T → List V → List Addr → Prop
  | [], vs, bs => vs = [] ∧ bs = []
  | t :: ts, vs, bs => ∃ v r, vs = v :: r ∧ ((∃ b bs', bs = b :: bs' ∧ v = .ref b ∧ OwnRep K H Av b t ∧ DRep K H Av ts r bs') ∨ (Rep K H Av t v ∧ t.isLstT = false ∧ DRep K H Av ts r bs))
theorem DRep.keep {K : PySem.W.Frag} {H H' : Hp} {Av Av' : Addr → Prop} (hh : ∀ b o, H b = some o → ¬ Av b → H' b = some o) (ha : ∀ b o, H b = some o → ¬ Av b → ¬ Av' b) : ∀ {ts : List T} {vs : List V} {bs : List Addr}, DRep K H Av ts vs bs → (∀ b ∈ bs, H' b = H b) → DRep K H' Av' ts vs bs
  | [], vs, bs, h, _ => h
  | t :: ts, vs, bs, h, hb => by
    simp only [DRep] at h ⊢
    obtain ⟨v, r, rfl, ⟨b, bs', rfl, rfl, o, d⟩ | ⟨o, l, d⟩⟩ := h
    · exact ⟨_, r, rfl, .inl ⟨b, bs', rfl, rfl, o.keep hh ha (hb b (by simp)), DRep.keep hh ha d fun c hc => hb c (by simp [hc])⟩⟩
    · exact ⟨v, r, rfl, .inr ⟨Rep.keep hh ha _ _ o, l, DRep.keep hh ha d hb⟩⟩
/-- the lists let go -/
theorem DRep.reps {K : PySem.W.Frag} {H : Hp} {Av Av' : Addr → Prop} (ha : ∀ b o, H b = some o → ¬ Av b → ¬ Av' b) : ∀ {ts : List T} {vs : List V} {bs : List Addr}, DRep K H Av ts vs bs → (∀ b ∈ bs, ¬ Av' b) → Reps K H Av' ts vs
  | [], vs, bs, h, _ => by simp only [DRep] at h; simp only [Reps]; exact h.1
  | t :: ts, vs, bs, h, hb => by
    simp only [DRep] at h
    obtain ⟨v, r, rfl, ⟨b, bs', rfl, rfl, o, d⟩ | ⟨o, l, d⟩⟩ := h
    · exact .cons (o.rep ha (hb b (by simp))) (DRep.reps ha d fun c hc => hb c (by simp [hc]))
    · exact .cons (Rep.keep (fun _ _ e _ => e) ha _ _ o) (DRep.reps ha d hb)
theorem DRep.there {K : PySem.W.Frag} {H : Hp} {Av : Addr → Prop} : ∀ {ts : List T} {vs : List V} {bs : List Addr}, DRep K H Av ts vs bs → ∀ b ∈ bs, ∃ o, H b = some o
  | [], vs, bs, h, b, m => by simp only [DRep] at h; rw [h.2] at m; cases m
  | t :: ts, vs, bs, h, b, m => by
    simp only [DRep] at h
    obtain ⟨v, r, rfl, ⟨c, bs', rfl, rfl, o, d⟩ | ⟨o, l, d⟩⟩ := h
    · rcases List.mem_cons.mp m with rfl | m
      · exact o.there.imp fun _ h => h.1
      · exact d.there b m
    · exact d.there b m
/-- new since H0 -/
def DeepF (K : PySem.W.Frag) (H0 : Hp) (Av : Addr → Prop) (H : Hp) (P : Addr → Prop) : T → V → Prop
  | .tup ts, v => ∃ a vs bs, v = .ref a ∧ ¬ Av a ∧ H a = some (.tup vs) ∧ bs.Nodup ∧ (∀ b ∈ bs, Av b ∧ P b ∧ H0 b = none) ∧ DRep K H Av ts vs bs
  | t, v => Rep K H Av t v
/-- a result; H0: the heap ahead of it -/
def RepR (K : PySem.W.Frag) (H0 : Hp) (Av : Addr → Prop) (ρ : Env) (σ : St) (H : Hp) : R → V → Prop
  | .val t, v => Rep K H Av t v
  | .fresh t, v => ∃ a, v = .ref a ∧ Av a ∧ ¬ (∃ i, kindAt ρ i ≥ 2 ∧ σ[i]? = some (some (.ref a))) ∧ OwnRep K H Av a t ∧ H0 a = none
  | .loc i, v => kindAt ρ i ≥ 2 ∧ σ[i]? = some (some v)
  | .deep t, v => DeepF K H0 Av H (fun b => ¬ (∃ i, kindAt ρ i ≥ 2 ∧ σ[i]? = some (some (.ref b)))) t v
theorem Shp.mn {ρ ρ' : Env} (x : Shp ρ ρ') {σ : St} {a : Addr} : (∃ i, kindAt ρ' i ≥ 2 ∧ σ[i]? = some (some (V.ref a))) ↔ (∃ i, kindAt ρ i ≥ 2 ∧ σ[i]? = some (some (V.ref a))) := by
  constructor
  · rintro ⟨i, h, e⟩; exact ⟨i, by rw [x.kind i]; exact h, e⟩
  · rintro ⟨i, h, e⟩; exact ⟨i, by rw [← x.kind i]; exact h, e⟩
theorem wr_mn {ρ : Env} {σ : St} {a : Addr} (h : WrK ρ σ a) : ∃ i, kindAt ρ i ≥ 2 ∧ σ[i]? = some (some (V.ref a)) := by
  obtain ⟨i, k, e⟩ := h
  exact ⟨i, by omega, e⟩
variable {H0 : Hp}
theorem Nx.deepF (r : Rel K Av ρ σ H) (n : Nx K ρ σ Av H ρ' Av' H') {P P' : Addr → Prop} (hp : ∀ b, P b → ¬ WrK ρ σ b ∧ P' b) {t : T} {v : V} (h : DeepF K H0 Av H P t v) : DeepF K H0 Av' H' P' t v := by
  cases t with
  | tup ts =>
    obtain ⟨a, vs, bs, e, na, ea, nd, hb, d⟩ := h
    have hh : ∀ b o, H b = some o → ¬ Av b → H' b = some o := fun b o e q => n.fr b o e fun w => q (r.wr w)
    have ha : ∀ b o, H b = some o → ¬ Av b → ¬ Av' b := fun b o e q z => (n.nw b z).elim q fun z => by rw [e] at z; cases z
    refine ⟨a, vs, bs, e, ha a _ ea na, hh a _ ea na, nd, fun b m => ⟨n.up b (hb b m).1, (hp b (hb b m).2.1).2, (hb b m).2.2⟩, d.keep hh ha fun b m => ?_⟩
    obtain ⟨o, eo⟩ := d.there b m
    exact (n.fr b o eo (hp b (hb b m).2.1).1).trans eo.symm
  | _ => exact n.rep r h
theorem DeepF.mono {P P' : Addr → Prop} {H1 : Hp} (hp : ∀ b, H0 b = none → P b → P' b ∧ H1 b = none) {t : T} {v : V} (h : DeepF K H0 Av H P t v) : DeepF K H1 Av H P' t v := by
  cases t with
  | tup ts =>
    obtain ⟨a, vs, bs, e, na, ea, nd, hb, d⟩ := h
    exact ⟨a, vs, bs, e, na, ea, nd, fun b m => ⟨(hb b m).1, (hp b (hb b m).2.2 (hb b m).2.1).1, (hp b (hb b m).2.2 (hb b m).2.1).2⟩, d⟩
  | _ => exact h
/-- let go -/
theorem DeepF.rep {P : Addr → Prop} (ha : ∀ b, Av' b → Av b) (hn : ∀ b, H0 b = none → ¬ Av' b) {t : T} {v : V} (h : DeepF K H0 Av H P t v) : Rep K H Av' t v := by
  have hk : ∀ b o, H b = some o → ¬ Av b → ¬ Av' b := fun b _ _ n z => n (ha b z)
  cases t with
  | tup ts =>
    obtain ⟨a, vs, bs, e, na, ea, nd, hb, d⟩ := h
    simp only [Rep]
    exact ⟨a, vs, e, hk a _ ea na, ea, d.reps hk fun b m => hn b (hb b m).2.2⟩
  | _ => exact Rep.keep (fun _ _ e _ => e) hk _ _ h
theorem Nx.repR (r : Rel K Av ρ σ H) (n : Nx K ρ σ Av H ρ' Av' H') {q : R} {v : V} (h : RepR K H0 Av ρ σ H q v) : RepR K H0 Av' ρ' σ H' q v := by
  cases q with
  | val t => exact n.rep r h
  | fresh t =>
    obtain ⟨a, e, ha, w, o, z⟩ := h
    exact ⟨a, e, n.up a ha, fun z => w (n.shp.mn.mp z), n.own r (fun z => w (wr_mn z)) o, z⟩
  | loc i => exact ⟨by rw [← n.shp.kind i]; exact h.1, h.2⟩
  | deep t => exact n.deepF r (fun b w => ⟨fun z => w (wr_mn z), fun z => w (n.shp.mn.mp z)⟩) h
/-- seen from an earlier start -/
theorem Nx.backR (n : Nx K ρ σ Av H ρ' Av' H') {ρ2 : Env} {Av2 : Addr → Prop} {H2 : Hp} (s : Shp ρ ρ2) {q : R} {v : V} (h : RepR K H' Av2 ρ2 σ H2 q v) : RepR K H Av2 ρ2 σ H2 q v := by
  cases q with
  | val t => exact h
  | fresh t =>
    obtain ⟨a, e, ha, w, o, z⟩ := h
    exact ⟨a, e, ha, w, o, n.fr.none z fun q => w (s.mn.mpr (wr_mn q))⟩
  | loc i => exact h
  | deep t => exact DeepF.mono (fun b z w => ⟨w, n.fr.none z fun q => w (s.mn.mpr (wr_mn q))⟩) h
/-- the content of a result, readable -/
theorem RepR.own {i : Nat} {v : V} {t : T} (r : Rel K Av ρ σ H) (h : RepR K H0 Av ρ σ H (.loc i) v) (g : R.get ρ (.loc i) = some t) : ∃ a, v = .ref a ∧ Av a ∧ OwnRep K H Av a t := by
  simp only [R.get] at g
  cases q : slotAt ρ i with
  | none => rw [q] at g; cases g
  | some s =>
    rw [q] at g
    have m : s.mine = true := by cases s <;> first | rfl | (simp at g)
    have e : s.t = t := by cases s <;> simp_all [Slot.t]
    obtain ⟨a, e', ha, o⟩ := r.at q m
    rw [h.2] at e'; cases e'
    exact ⟨a, rfl, ha, e ▸ o⟩
theorem R.clean_get {q : R} {ρ : Env} {u : T} (h : q.clean = some u) : q.get ρ = some u := by cases q <;> first | exact h | cases h
/-- what may be read of a result -/
theorem RepR.read {q : R} {v : V} {t : T} (r : Rel K Av ρ σ H) (h : RepR K H0 Av ρ σ H q v) (g : q.get ρ = some t) : Rep K H Av t v ∨ ∃ a, v = .ref a ∧ Av a ∧ OwnRep K H Av a t := by
  cases q with
  | val u => cases g; exact .inl h
  | fresh u =>
    cases g
    obtain ⟨a, e, ha, w, o, _⟩ := h
    exact .inr ⟨a, e, ha, o⟩
  | loc i => exact .inr (h.own r g)
  | deep t => cases g
/-- another set to avoid: a smaller one -/
theorem Rel.less (r : Rel K Av ρ σ H) (h : ∀ b, Av' b → Av b) (o : ∀ i s a, slotAt ρ i = some s → s.mine = true → σ[i]? = some (some (.ref a)) → Av' a) : Rel K Av' ρ σ H := by
  refine ⟨r.len, fun i s e => ?_, r.inj⟩
  obtain ⟨v, e2, q⟩ := r.slot i s e
  refine ⟨v, e2, ?_⟩
  have ha : ∀ b o, H b = some o → ¬ Av b → ¬ Av' b := fun b o _ n z => n (h b z)
  by_cases mi : s.mine = true
  · obtain ⟨a, e3, h1, h2⟩ := q.at mi
    subst e3
    exact .of mi rfl (o i s a e mi e2) (h2.keep (fun _ _ e _ => e) ha rfl)
  · cases s <;> first | exact Rep.keep (fun _ _ e _ => e) ha _ _ q | (simp [Slot.mine] at mi)
/-- home: what was pending is let go -/
theorem Nx.home (r : Rel K Av ρ σ H) (n : Nx K ρ σ Av H ρ' Av' H') : Nx K ρ σ Av H ρ' Av H' where
  shp := n.shp
  rel := n.rel.less n.up fun i s a e m e2 => by
    have k : kindAt ρ i = s.k := (n.shp.kind i).trans (kindAt_some e)
    have k2 := mine_k.mp m
    have k3 : s.k ≥ 1 := by cases s <;> simp [Slot.k]
    unfold kindAt at k
    cases q : slotAt ρ i with
    | none => rw [q] at k; have k : 0 = s.k := k; omega
    | some s' =>
      rw [q] at k
      have k : s'.k = s.k := k
      obtain ⟨b, e3, hb, _⟩ := r.at q (mine_k.mpr (by omega))
      rw [e2] at e3; cases e3
      exact hb
  tr := fun a h => n.tr a (n.up a h)
  up := fun _ h => h
  nw := fun _ h => .inl h
  fr := n.fr
theorem Nx.cleanR (n : Nx K ρ σ Av H ρ' Av' H') (tr : Tr Av H) {q : R} {v : V} {t : T} (h : RepR K H Av' ρ' σ H' q v) (g : q.clean = some t) : Rep K H' Av t v := by
  have ha : ∀ b o, H' b = some o → ¬ Av' b → ¬ Av b := fun b o _ m z => m (n.up b z)
  cases q with
  | val u => cases g; exact Rep.keep (fun _ _ e _ => e) ha _ _ h
  | fresh u =>
    cases g
    obtain ⟨a, rfl, _, _, o, z⟩ := h
    exact o.rep ha fun w => by
      obtain ⟨o, e⟩ := tr a w
      rw [z] at e; cases e
  | loc i => cases g
  | deep t => cases g
end
end MP

namespace MP
open PySem PySem.Spec L2
open PyProof.Rows hiding St

/-- what may be read as t -/
def Rdb (K : PySem.W.Frag) (H : Hp) (Av : Addr → Prop) : T → V → Prop
  | .lst ts, v => ∃ a vs, v = .ref a ∧ H a = some (.lst vs) ∧ Reps K H Av ts vs
  | .tup ts, v => ∃ a vs, v = .ref a ∧ ¬ Av a ∧ H a = some (.tup vs) ∧ Reps K H Av ts vs
  | .dct kvs, v => ∃ a ws, v = .ref a ∧ Rd H a (.dK ws) ∧ RepD K H Av kvs ws
  | .ro ns, v => ∃ a, v = .ref a ∧ SqL K H a (ns.map V.int)
  | .non, v => v = .non
  | .bl b, v => v = .bl b
  | .int i, v => v = .int i
  | .str s, v => v = .str (S2 s) ∧ sok s = true
  | .exc c, v => Rep K H Av (.exc c) v
section
variable {K : PySem.W.Frag} {Av Av' : Addr → Prop} {ρ ρ' : Env} {σ : St} {H H' : Hp}
theorem Rep.rdb {t : T} {v : V} (h : Rep K H Av t v) : Rdb K H Av t v := by
  cases t <;> simp only [Rep] at h <;> simp only [Rdb]
  case lst => obtain ⟨a, vs, e, n, x, r⟩ := h; exact ⟨a, vs, e, x, r⟩
  case tup => obtain ⟨a, vs, e, n, x, r⟩ := h; exact ⟨a, vs, e, n, x, r⟩
  case dct => obtain ⟨a, vs, e, n, x, r⟩ := h; exact ⟨a, vs, e, x, r⟩
  case ro => obtain ⟨a, e, x⟩ := h; exact ⟨a, e, x.sql⟩
  all_goals exact h
theorem OwnRep.rdb {t : T} {a : Addr} (h : OwnRep K H Av a t) : Rdb K H Av t (.ref a) := by
  cases t <;> simp only [OwnRep] at h <;> simp only [Rdb]
  case lst => obtain ⟨vs, x, r⟩ := h; exact ⟨a, vs, rfl, x, r⟩
  case dct => obtain ⟨vs, x, r⟩ := h; exact ⟨a, vs, rfl, .inl x, r⟩
theorem RepR.rdb {H0 : Hp} {q : R} {v : V} {t : T} (r : Rel K Av ρ σ H) (h : RepR K H0 Av ρ σ H q v) (g : q.get ρ = some t) : Rdb K H Av t v := by
  rcases h.read r g with h | ⟨a, rfl, _, o⟩
  · exact h.rdb
  · exact o.rdb

/-- a result is made: all that stood stands -/
structure Made (K : PySem.W.Frag) (Av : Addr → Prop) (H : Hp) (q : R) (v : V) (Av' : Addr → Prop) (H' : Hp) : Prop where
  keep : ∀ b o, H b = some o → H' b = some o
  up : ∀ b, Av b → Av' b
  nw : ∀ b, Av' b → Av b ∨ H b = none
  tr : Tr Av' H'
  rep : match q with
    | .val t => Rep K H' Av' t v
    | .fresh t => ∃ a, v = .ref a ∧ Av' a ∧ H a = none ∧ OwnRep K H' Av' a t
    | .loc _ => False
    | .deep _ => False
theorem Made.same {t : T} {v : V} (tr : Tr Av H) (h : Rep K H Av t v) : Made K Av H (.val t) v Av H := ⟨fun _ _ e => e, fun _ h => h, fun _ h => .inl h, tr, h⟩
theorem Tr.not {p : Addr} (tr : Tr Av H) (h : H p = none) : ¬ Av p := fun z => by
  obtain ⟨o, e⟩ := tr p z
  rw [h] at e; cases e
theorem Tr.laid {p : Addr} {o : HO} (tr : Tr Av H) : Tr Av (upd H p o) := fun a h => by
  by_cases e : a = p
  · exact ⟨o, by rw [e, upd_same]⟩
  · obtain ⟨u, q⟩ := tr a h
    exact ⟨u, by rw [upd_ne e]; exact q⟩
theorem laid_keep {p : Addr} {o : HO} (h : H p = none) : ∀ b u, H b = some u → upd H p o b = some u := fun b u e => by rw [upd_ne (ne_of_none e h)]; exact e
theorem Made.tup {p : Addr} {ts : List T} {vs : List V} (tr : Tr Av H) (h : H p = none) (r : Reps K H Av ts vs) : Made K Av H (.val (.tup ts)) (.ref p) Av (upd H p (.tup vs)) := by
  refine ⟨laid_keep h, fun _ h => h, fun _ h => .inl h, tr.laid, ?_⟩
  simp only [Rep]
  exact ⟨p, vs, rfl, tr.not h, upd_same, Reps.keep (fun b o e _ => laid_keep h b o e) (fun _ _ _ n => n) _ _ r⟩
theorem Made.lst {p : Addr} {ts : List T} {vs : List V} (tr : Tr Av H) (h : H p = none) (r : Reps K H Av ts vs) : Made K Av H (.fresh (.lst ts)) (.ref p) (fun b => Av b ∨ b = p) (upd H p (.lst vs)) := by
  refine ⟨laid_keep h, fun _ h => .inl h, fun b q => q.imp id fun e => by rw [e]; exact h, fun b q => ?_, p, rfl, .inr rfl, h, ?_⟩
  · rcases q with q | q
    · exact tr.laid b q
    · exact ⟨_, by rw [q, upd_same]⟩
  · simp only [OwnRep]
    exact ⟨vs, upd_same, Reps.keep (fun b o e _ => laid_keep h b o e) (fun b o e n q => q.elim n fun z => by rw [z, h] at e; cases e) _ _ r⟩
theorem Made.dct {p : Addr} {ts : List (Kt × T)} {vs : List (Key × V)} (tr : Tr Av H) (h : H p = none) (r : RepD K H Av ts vs) : Made K Av H (.fresh (.dct ts)) (.ref p) (fun b => Av b ∨ b = p) (upd H p (.dK vs)) := by
  refine ⟨laid_keep h, fun _ h => .inl h, fun b q => q.imp id fun e => by rw [e]; exact h, fun b q => ?_, p, rfl, .inr rfl, h, ?_⟩
  · rcases q with q | q
    · exact tr.laid b q
    · exact ⟨_, by rw [q, upd_same]⟩
  · simp only [OwnRep]
    exact ⟨vs, upd_same, RepD.keep (fun b o e _ => laid_keep h b o e) (fun b o e n q => q.elim n fun z => by rw [z, h] at e; cases e) _ _ r⟩
/-- the slots behind a making -/
theorem Made.nx {q : R} {v : V} (r : Rel K Av ρ σ H) (m : Made K Av H q v Av' H') : Nx K ρ σ Av H ρ Av' H' where
  shp := .refl
  up := m.up
  nw := m.nw
  tr := m.tr
  fr := fun b o e _ => m.keep b o e
  rel := by
    have ha : ∀ b o, H b = some o → ¬ Av b → ¬ Av' b := fun b o e n q => (m.nw b q).elim n fun z => by rw [e] at z; cases z
    refine ⟨r.len, fun i s e => ?_, r.inj⟩
    obtain ⟨w, e2, h⟩ := r.slot i s e
    refine ⟨w, e2, ?_⟩
    by_cases mi : s.mine = true
    · obtain ⟨a, e3, h1, h2⟩ := h.at mi
      obtain ⟨o, e4, _⟩ := h2.there
      exact .of mi e3 (m.up a h1) (h2.keep (fun b o e _ => m.keep b o e) ha ((m.keep a o e4).trans e4.symm))
    · cases s <;> first | exact Rep.keep (fun b o e _ => m.keep b o e) ha _ _ h | (simp [Slot.mine] at mi)
theorem Made.repR {q : R} {v : V} (r : Rel K Av ρ σ H) (m : Made K Av H q v Av' H') : RepR K H Av' ρ σ H' q v := by
  have h := m.rep
  cases q with
  | val t => exact h
  | fresh t =>
    obtain ⟨a, e, ha, n, o⟩ := h
    refine ⟨a, e, ha, fun ⟨i, k, e2⟩ => ?_, o, n⟩
    unfold kindAt at k
    cases q : slotAt ρ i with
    | none => rw [q] at k; simp at k
    | some s =>
      rw [q] at k
      have k : s.k ≥ 2 := k
      obtain ⟨b, e3, _, h2⟩ := r.at q (mine_k.mpr (by omega))
      obtain ⟨u, e4, _⟩ := h2.there
      rw [e2] at e3; cases e3
      rw [n] at e4; cases e4
  | loc i => exact h.elim
  | deep t => exact h.elim
end

/-! ## operators -/
/-- two trees in, a result out -/
def rBin (K : PySem.W.Frag) (f : T → T → Option R) : R2 := fun x y H Q => ∃ t u q Av, Tr Av H ∧ Rdb K H Av t x ∧ Rdb K H Av u y ∧ f t u = some q ∧ ∀ v Av' H', Made K Av H q v Av' H' → Q v H'
def rCmp (K : PySem.W.Frag) (f : T → T → Option Bool) : R2 := fun x y H Q => ∃ t u b Av, Tr Av H ∧ Rdb K H Av t x ∧ Rdb K H Av u y ∧ f t u = some b ∧ Q (.bl b) H
def rCall (K : PySem.W.Frag) (f : List T → Option R) : List V → Hp → VK → Prop := fun xs H Q => ∃ ts q Av, Tr Av H ∧ Paired (Rdb K H Av) ts xs ∧ f ts = some q ∧ ∀ v Av' H', Made K Av H q v Av' H' → Q v H'
theorem line : sizeLine = 16777216 := sizeLine_eq
theorem sok_append {a b : List Nat} (ha : sok a = true) (hb : sok b = true) : sok (a ++ b) = true := by simp only [sok, List.all_append, Bool.and_eq_true] at *; exact ⟨ha, hb⟩
theorem sok_sub {a b : List Nat} (ha : sok a = true) (h : ∀ x ∈ b, x ∈ a) : sok b = true := by simp [sok] at *; exact fun x hx => ha x (h x hx)
theorem s2_append (a b : List Nat) : S2 a ++ S2 b = S2 (a ++ b) := by
  show Str.append _ _ = _
  simp [Str.append]
theorem s2_length (a : List Nat) : (S2 a).length = a.length := by simp [Str.length]
section
variable {X : Cx} {Av : Addr → Prop} {H : Hp}
theorem Reps.drop' {K : PySem.W.Frag} {ts : List T} {vs : List V} (h : Reps K H Av ts vs) : ts.length = vs.length := h.length
theorem Reps.repL {K : PySem.W.Frag} {ts : List T} {vs : List V} (h : Reps K H Av ts vs) (k : Int) : Reps K H Av (repL ts k) (repL vs k) := by
  unfold MP.repL
  induction k.toNat with
  | zero => simp [Reps]
  | succ n ih =>
    simp only [List.replicate_succ, List.flatten_cons]
    exact h.append ih
theorem sok_repL {a : List Nat} (j : Int) (h : sok a = true) : sok (repL a j) = true := sok_sub h fun x hx => by
  simp only [repL, List.mem_flatten, List.mem_replicate] at hx
  obtain ⟨l, ⟨_, e⟩, hx⟩ := hx
  rw [e] at hx
  exact hx
theorem Txt_mul (s : List Nat) (k : Int) : Txt.mul (S2 s) k = S2 (repL s k) := by
  unfold Txt.mul repL
  by_cases h1 : k < 1
  · rw [if_pos h1]
    have : k.toNat = 0 := by omega
    rw [this]; rfl
  · rw [if_neg h1]
    have fold : ∀ (n : Nat) (acc : Array Nat), ((List.replicate n s.toArray).foldl (· ++ ·) acc) = acc ++ ((List.replicate n s).flatten).toArray := by
      intro n
      induction n with
      | zero => intro acc; simp
      | succ n ih =>
        intro acc
        rw [List.replicate_succ, List.foldl_cons, ih, List.replicate_succ, List.flatten_cons]
        simp
    by_cases h2 : (k == 1 || (S2 s).length == 0) = true
    · rw [if_pos h2]
      simp only [Bool.or_eq_true, beq_iff_eq] at h2
      rcases h2 with h2 | h2
      · subst h2
        simp
      · rw [s2_length, List.length_eq_zero_iff] at h2
        subst h2
        simp
    · rw [if_neg h2, fold]
      simp
theorem mulOk_str {s : List Nat} {k : Int} (h : s.length * k.toNat ≤ 16777216 ∧ -(2 ^ 63) ≤ k ∧ k < 2 ^ 63) : MulOk (S2 s) k := by
  obtain ⟨h1, h2, h3⟩ := h
  refine ⟨by simp; omega, fun a b c => ?_, fun a b => ?_⟩
  · have hk : 0 < k := by omega
    rw [s2_length] at c
    have hd : (2 ^ 63 - 1 : Int) / k * k > 2 ^ 63 - 1 - k := by
      have := Int.lt_ediv_add_one_mul_self (2 ^ 63 - 1 : Int) hk
      rw [Int.add_mul] at this
      omega
    have hlt : ((2 ^ 63 - 1 : Int) / k + 1) * k ≤ s.length * k := Int.mul_le_mul_of_nonneg_right (by omega) (by omega)
    have e : ((s.length * k.toNat : Nat) : Int) = s.length * k := by rw [Int.natCast_mul, Int.toNat_of_nonneg (by omega)]
    have h1' : (s.length : Int) * k ≤ 16777216 := by rw [← e]; omega
    rw [Int.add_mul] at hlt
    omega
  · unfold Builtin.Str.tooLong
    simp only [decide_eq_false_iff_not, Nat.not_lt, s2_length]
    rw [line]
    exact h1
theorem Bop.ok (op : Bop) : OpR X (binaryOp op.ast) (rBin X.K op.sem) := by
  intro pins s σ H x y v u Q I rx ry h
  obtain ⟨t, w, q, Av, tr, ht, hu, e, k⟩ := h
  cases op <;> simp only [Bop.ast]
  case add =>
    cases t <;> cases w <;> simp only [Bop.sem] at e <;> try cases e
    case int.int i j => simp only [Rdb] at ht hu; subst ht hu; exact op_add pins s σ H _ _ v u Q I rx ry ⟨i, j, rfl, rfl, k _ _ _ (.same tr (by simp [Rep]))⟩
    case int.bl i j =>
      simp only [Rdb] at ht hu; subst ht hu
      exact op_add_ib pins s σ H _ _ v u Q I rx ry ⟨i, j, rfl, rfl, k _ _ _ (.same tr (by simp [Rep, b2i]))⟩
    case str.str a b =>
      split at e
      · cases e
        rename_i hl
        simp only [Rdb] at ht hu
        obtain ⟨rfl, s1⟩ := ht
        obtain ⟨rfl, s2⟩ := hu
        exact op_add_str pins s σ H _ _ v u Q I rx ry ⟨_, _, rfl, rfl, by rw [s2_length, s2_length, line]; exact hl, k _ _ _ (.same tr (by simp only [Rep]; exact ⟨by rw [s2_append], sok_append s1 s2⟩))⟩
      · cases e
    case lst.lst a b =>
      split at e
      · cases e
        rename_i hl
        simp only [Rdb] at ht hu
        obtain ⟨p, vs, rfl, h1, r1⟩ := ht
        obtain ⟨p2, vs2, rfl, h2, r2⟩ := hu
        refine op_cat pins s σ H _ _ v u Q I rx ry ⟨p, p2, vs, vs2, rfl, rfl, h1, h2, by rw [line, ← r1.length, ← r2.length]; exact hl, fun z hz => k _ _ _ (.lst tr hz (r1.append r2))⟩
      · cases e
    case tup.tup a b =>
      split at e
      · cases e
        rename_i hl
        simp only [Rdb] at ht hu
        have ht0 := ht
        have hu0 := hu
        obtain ⟨p, vs, rfl, n1, h1, r1⟩ := ht
        obtain ⟨p2, vs2, rfl, n2, h2, r2⟩ := hu
        refine op_catA pins s σ H _ _ v u Q I rx ry ⟨p, p2, vs, vs2, rfl, rfl, .of h1, .of h2, by rw [line, ← r1.length, ← r2.length]; exact hl, fun z => k _ _ _ (.same tr ?_), fun z1 z2 => k _ _ _ (.same tr ?_), fun z1 z2 z hz => k _ _ _ (.tup tr hz (r1.append r2))⟩
        · have : a = [] := by have := r1.length; rw [z] at this; simpa using this
          subst this
          simp only [Rep]
          exact ⟨p2, vs2, rfl, n2, h2, r2⟩
        · have : b = [] := by have := r2.length; rw [z2] at this; simpa using this
          subst this
          simp only [Rep, List.append_nil]
          exact ⟨p, vs, rfl, n1, h1, r1⟩
      · cases e
  case sub =>
    cases t <;> cases w <;> simp only [Bop.sem] at e <;> try cases e
    case int.int i j => simp only [Rdb] at ht hu; subst ht hu; exact op_sub pins s σ H _ _ v u Q I rx ry ⟨i, j, rfl, rfl, k _ _ _ (.same tr (by simp [Rep]))⟩
  case mul =>
    cases t <;> cases w <;> simp only [Bop.sem] at e <;> try cases e
    case int.int i j =>
      split at e
      · cases e
        rename_i hl
        simp only [Rdb] at ht hu; subst ht hu
        simp only [mulOk, Bool.or_eq_true, decide_eq_true_eq] at hl
        rcases hl with hl | hl
        · exact op_mul pins s σ H _ _ v u Q I rx ry ⟨i, j, rfl, rfl, hl, k _ _ _ (.same tr (by simp [Rep]))⟩
        · exact op_mulW pins s σ H _ _ v u Q I rx ry ⟨i, j, rfl, rfl, hl, k _ _ _ (.same tr (by simp [Rep]))⟩
      · cases e
    case str.int a j =>
      split at e
      · cases e
        rename_i hl
        simp only [Rdb] at ht hu; subst hu
        obtain ⟨rfl, s1⟩ := ht
        obtain ⟨t1, rfl⟩ := rx
        obtain ⟨t2, rfl⟩ := ry
        refine PySem.SB.mul (mulOk_str hl) fun t' kk => ?_
        exact ⟨.str (S2 (repL a j)), H, I.tok _, ⟨t', by rw [Txt_mul]⟩, k _ _ _ (.same tr (by simp only [Rep, true_and]; exact sok_repL j s1))⟩
      · cases e
    case lst.int a j =>
      split at e
      · cases e
        rename_i hl
        simp only [Rdb] at ht hu; subst hu
        obtain ⟨p, vs, rfl, h1, r1⟩ := ht
        exact op_rep pins s σ H _ _ v u Q I rx ry ⟨p, j, vs, rfl, rfl, h1, hl.2.1, hl.2.2, by rw [line, ← r1.length]; exact hl.1, fun z hz => k _ _ _ (.lst tr hz (r1.repL j))⟩
      · cases e
  case mod =>
    cases t <;> cases w <;> simp only [Bop.sem] at e <;> try cases e
    case int.int i j =>
      split at e
      · cases e
        rename_i hl
        simp only [Rdb] at ht hu; subst ht hu
        exact op_mod pins s σ H _ _ v u Q I rx ry ⟨i, j, rfl, rfl, hl, k _ _ _ (.same tr (by simp [Rep]))⟩
      · cases e
  case fdiv =>
    cases t <;> cases w <;> simp only [Bop.sem] at e <;> try cases e
    case int.int i j =>
      split at e
      · cases e
        rename_i hl
        simp only [Rdb] at ht hu; subst ht hu
        simp only [divOk, Bool.and_eq_true, Bool.or_eq_true, decide_eq_true_eq] at hl
        rcases hl.2 with h2 | h2
        · exact op_fdiv pins s σ H _ _ v u Q I rx ry ⟨i, j, rfl, rfl, ⟨hl.1, h2⟩, k _ _ _ (.same tr (by simp [Rep]))⟩
        · exact op_fdivW pins s σ H _ _ v u Q I rx ry ⟨i, j, rfl, rfl, ⟨hl.1, h2⟩, k _ _ _ (.same tr (by simp [Rep]))⟩
      · cases e
  case pow =>
    cases t <;> cases w <;> simp only [Bop.sem] at e <;> try cases e
    case int.int i j =>
      split at e
      · cases e
        rename_i hl
        simp only [Rdb] at ht hu; subst ht hu
        simp only [powOk, Bool.and_eq_true, Bool.or_eq_true, decide_eq_true_eq] at hl
        obtain ⟨t1, rfl⟩ := rx
        obtain ⟨t2, rfl⟩ := ry
        rcases hl.2 with h2 | h2
        · exact pow_int_small hl.1 h2.1 h2.2 ⟨.int _, H, I.tok _, ⟨_, rfl⟩, k _ _ _ (.same tr (by simp [Rep]))⟩
        · exact pow_int hl.1 h2 ⟨.int _, H, I.tok _, ⟨_, rfl⟩, k _ _ _ (.same tr (by simp [Rep]))⟩
      · cases e
  case shl =>
    cases t <;> cases w <;> simp only [Bop.sem] at e <;> try cases e
    case int.int i j =>
      split at e
      · cases e
        rename_i hl
        simp only [Rdb] at ht hu; subst ht hu
        exact op_shl pins s σ H _ _ v u Q I rx ry ⟨i, j, rfl, rfl, hl, k _ _ _ (.same tr (by simp [Rep]))⟩
      · cases e
  case shr =>
    cases t <;> cases w <;> simp only [Bop.sem] at e <;> try cases e
    case int.int i j =>
      split at e
      · cases e
        rename_i hl
        simp only [Rdb] at ht hu; subst ht hu
        exact op_shr pins s σ H _ _ v u Q I rx ry ⟨i, j, rfl, rfl, hl, k _ _ _ (.same tr (by simp [Rep]))⟩
      · cases e
  case band =>
    cases t <;> cases w <;> simp only [Bop.sem] at e <;> try cases e
    case int.int i j => simp only [Rdb] at ht hu; subst ht hu; exact op_and pins s σ H _ _ v u Q I rx ry ⟨i, j, rfl, rfl, k _ _ _ (.same tr (by simp [Rep]))⟩
  case bor =>
    cases t <;> cases w <;> simp only [Bop.sem] at e <;> try cases e
    case int.int i j => simp only [Rdb] at ht hu; subst ht hu; exact op_or pins s σ H _ _ v u Q I rx ry ⟨i, j, rfl, rfl, k _ _ _ (.same tr (by simp [Rep]))⟩
end
end MP

namespace PySem.SeqAt
open AutoSeq1 (wpAny_loadPart')
open MeetsSeq MeetsSeq2 MeetsSeq3 SeqRoads2
section
variable {prog : Program} {w : World}
/-- != of lists whose items are equal -/
theorem ne_loopIn (l b : Addr) (items items2 : Array Value) (n n2 : Nat) (dd dd2 : Option Addr) (sl sl2 : Array (Option Value)) (hsz : items.size = items2.size) (k : Nat) :
    ∀ i : Nat, items.size - i = k → MeetsIn prog w (Builtin.«list.__eq__.loop» ⟨[.ref l, .ref b, rawInt i, rawInt 3], []⟩)
      (fun A R s => s.heap.get? l = some { cls := .type "list", dict := dd, data := .seq items n, slots := sl } ∧ s.heap.get? b = some { cls := .type "list", dict := dd2, data := .seq items2 n2, slots := sl2 } ∧
        (∀ j (h1 : j < items.size) (h2 : j < items2.size), EqP prog w A.in1 s items[j] items2[j] true) ∧
        R (.ok (.ret (.bool false))) s) := by
  induction k with
  | zero =>
    intro i hk A R s h
    obtain ⟨hp, g, d, tk, os⟩ := s; obtain ⟨hl, hb, he, h⟩ := h
    wp_walk using wpAny_loadPart' hl, wpAny_loadPart' hb
    have hi1 : items[((i : Nat) : Int).toNat]? = none := by simp; omega
    have hi2 : items2[((i : Nat) : Int).toNat]? = none := by simp; omega
    rw [hi1, hi2]
    wp_walk using wpAny_loadPart' hl, wpAny_loadPart' hb
    show R (.ok (.ret (.bool (items.size != items2.size)))) _
    rw [hsz]
    simpa using h
  | succ k ih =>
    intro i hk A R s h
    obtain ⟨hp, g, d, tk, os⟩ := s; obtain ⟨hl, hb, he, h⟩ := h
    wp_walk using wpAny_loadPart' hl, wpAny_loadPart' hb
    have hlt : i < items.size := by omega
    have hlt2 : i < items2.size := by omega
    have hi1 : items[((i : Nat) : Int).toNat]? = some items[i] := by simp [hlt]
    have hi2 : items2[((i : Nat) : Int).toNat]? = some items2[i] := by simp [hlt2]
    have hc : ((i : Int) + 1) = ((i + 1 : Nat) : Int) := by push_cast; rfl
    rw [hi1, hi2]
    refine wpAny_bind (he i hlt hlt2 _ _ ?_)
    wp_walk
    rw [hc]
    exact ⟨plainId_quiet plain_eq_loop _, codeAny_builtin entry_eq_loop (by
      rw [Around.under_plainId plain_eq_loop _]
      exact ih (i + 1) (by omega) A R _ ⟨hl, hb, he, h⟩)⟩
theorem list_neIn (l b : Addr) (items items2 : Array Value) (n n2 : Nat) (dd dd2 : Option Addr) (sl sl2 : Array (Option Value)) (hsz : items.size = items2.size) :
    MeetsIn prog w (Builtin.«list.__ne__» ⟨[.ref l, .ref b], []⟩)
      (fun A R s => s.heap.get? l = some { cls := .type "list", dict := dd, data := .seq items n, slots := sl } ∧ s.heap.get? b = some { cls := .type "list", dict := dd2, data := .seq items2 n2, slots := sl2 } ∧
        (∀ j (h1 : j < items.size) (h2 : j < items2.size), EqP prog w A.in1 s items[j] items2[j] true) ∧
        R (.ok (.ret (.bool false))) s) := by
  intro A R s h
  obtain ⟨hp, g, d, tk, os⟩ := s; obtain ⟨hl, hb, he, h⟩ := h
  have f3 := AutoSeq1.sub_list_list
  have hne : ¬ (items.size != items2.size) = true := by simp [hsz]
  wp_walk using wpAny_loadPart' hl, wpAny_loadPart' hb
  exact ⟨plainId_quiet plain_eq_loop _, codeAny_builtin entry_eq_loop (by
    rw [Around.under_plainId plain_eq_loop _]
    exact ne_loopIn l b items items2 n n2 dd dd2 sl sl2 hsz _ 0 rfl A R _ ⟨hl, hb, he, h⟩)⟩
theorem rcN_lists {A : Around} {s : Shared} {l b : Addr} {items items2 : Array Value} (hl : s.heap.IsList l items) (hb : s.heap.IsList b items2) (hsz : items.size = items2.size) (hu : A.units < cLine)
    (he : ∀ j (h1 : j < items.size) (h2 : j < items2.size), EqP prog w A.in1 s items[j] items2[j] true) (E Q : Value → Shared → Prop) (h : Q (.bool false) s) : wpAny (model prog w) A (richCompare .NotEq (.ref l) (.ref b)) Q E s := by
  obtain ⟨⟨cls, dd, data, sl⟩, ho, hc, n, hd⟩ := id hl
  obtain ⟨⟨cls2, dd2, data2, sl2⟩, ho2, hc2, n2, hd2⟩ := id hb
  simp only at hc hd hc2 hd2
  subst hc hd hc2 hd2
  have ta : s.TypeIs (.ref l) "list" := ⟨_, ho, rfl⟩
  have tb : s.TypeIs (.ref b) "list" := ⟨_, ho2, rfl⟩
  exact wpAny_richCompare_same_room (op := .NotEq) ta tb F.slot_list_ne (call_meetsIn F.slot_list_ne ta F.entry_list_ne (F.args_list_ne_2 _ _) (list_neIn l b items items2 n n2 dd dd2 sl sl2 hsz)
    ⟨ho, ho2, he, show Value.bool false ≠ Value.notImplemented ∧ Q (.bool false) s from ⟨(fun x => nomatch x), h⟩⟩) hu
end
end PySem.SeqAt
namespace MP
end MP

namespace MP
open PySem PySem.Spec L2
open PyProof.Rows hiding St
/-! ## comparisons -/
mutual
def T.pd : T → PyData
  | .bl b => .bool b
  | .int i => .int i
  | .str s => .str (S2 s)
  | .lst ts => .list (T.pds ts)
  | .tup ts => .tuple (T.pds ts)
  | _ => .none
def T.pds : List T → List PyData
  | [] => []
  | t :: ts => T.pd t :: T.pds ts
end
section
variable {K : PySem.W.Frag} {Av : Addr → Prop} {H : Hp}
mutual
theorem dp_of : ∀ (n : Nat) (t : T) (v : V), t.flat n = true → Rdb K H Av t v → Dp K H v t.pd ∧ t.pd.canLay0 = true ∧ t.pd.depth ≤ n
  | n, .non, v, f, h => by simp only [Rdb] at h; subst h; exact ⟨.non, by simp [T.pd, PyData.canLay0], by simp [T.pd, PyData.depth]⟩
  | n, .bl b, v, f, h => by simp only [Rdb] at h; subst h; exact ⟨.bl b, by simp [T.pd, PyData.canLay0], by simp [T.pd, PyData.depth]⟩
  | n, .int b, v, f, h => by simp only [Rdb] at h; subst h; exact ⟨.int b, by simp [T.pd, PyData.canLay0], by simp [T.pd, PyData.depth]⟩
  | n, .str b, v, f, h => by simp only [Rdb] at h; obtain ⟨rfl, s⟩ := h; exact ⟨.str _, by simpa [T.pd, PyData.canLay0, PyData.strOk, sok] using s, by simp [T.pd, PyData.depth]⟩
  | 0, .lst ts, v, f, h => by simp [T.flat] at f
  | 0, .tup ts, v, f, h => by simp [T.flat] at f
  | n + 1, .lst ts, v, f, h => by
    simp only [Rdb] at h
    obtain ⟨a, vs, rfl, e, r⟩ := h
    simp only [T.flat] at f
    obtain ⟨h1, h2, h3⟩ := dps_of n ts vs f r
    exact ⟨.lst (.of e) h1, by simpa [T.pd, PyData.canLay0] using h2, by simp only [T.pd, PyData.depth]; omega⟩
  | n + 1, .tup ts, v, f, h => by
    simp only [Rdb] at h
    obtain ⟨a, vs, rfl, _, e, r⟩ := h
    simp only [T.flat] at f
    obtain ⟨h1, h2, h3⟩ := dps_of n ts vs f r
    exact ⟨.tup (.of e) h1, by simpa [T.pd, PyData.canLay0] using h2, by simp only [T.pd, PyData.depth]; omega⟩
  | n, .ro _, v, f, h => by cases n <;> simp [T.flat] at f
  | n, .dct _, v, f, h => by cases n <;> simp [T.flat] at f
  | n, .exc _, v, f, h => by cases n <;> simp [T.flat] at f
theorem dps_of : ∀ (n : Nat) (ts : List T) (vs : List V), T.flats n ts = true → Reps K H Av ts vs → DpAll K H vs (T.pds ts) ∧ PyData.canLayAll0 (T.pds ts) = true ∧ PyData.depthAll (T.pds ts) ≤ n
  | n, [], vs, f, h => by simp only [Reps] at h; subst h; exact ⟨.nil, by simp [T.pds, PyData.canLayAll0], by simp [T.pds, PyData.depthAll]⟩
  | n, t :: ts, vs, f, h => by
    simp only [Reps] at h
    obtain ⟨v, r, rfl, h1, h2⟩ := h
    simp only [T.flats, Bool.and_eq_true] at f
    obtain ⟨a1, a2, a3⟩ := dp_of n t v f.1 h1.rdb
    obtain ⟨b1, b2, b3⟩ := dps_of n ts r f.2 h2
    exact ⟨.cons a1 b1, by simp [T.pds, PyData.canLayAll0, a2, b2], by simp only [T.pds, PyData.depthAll]; omega⟩
end
end
theorem shaped_of {K : PySem.W.Frag} {Av : Addr → Prop} {H : Hp} {t : T} {v : V} {n : Nat} (hn : n ≤ 60) (f : t.flat n = true) (h : Rdb K H Av t v) : Dp K H v t.pd ∧ SeqAt.shaped t.pd = true := by
  obtain ⟨h1, h2, h3⟩ := dp_of n t v f h
  refine ⟨h1, ?_⟩
  unfold SeqAt.shaped
  simp only [h2, Bool.true_and, decide_eq_true_eq]
  omega
mutual
theorem eqv_pd : ∀ (n : Nat) (t u : T), t.flat n = true → u.flat n = true → PyData.eqv t.pd u.pd = T.eqv t u
  | n, t, u, f, g => by
    cases t <;> cases u <;> (try (cases n <;> simp [T.flat] at f; done)) <;> (try (cases n <;> simp [T.flat] at g; done)) <;> simp only [T.pd, PyData.eqv, T.eqv]
    case str.str a b =>
      rw [Bool.eq_iff_iff]; simp
    case lst.lst a b =>
      cases n with
      | zero => simp [T.flat] at f
      | succ n => exact eqvs_pd n a b (by simpa [T.flat] using f) (by simpa [T.flat] using g)
    case tup.tup a b =>
      cases n with
      | zero => simp [T.flat] at f
      | succ n => exact eqvs_pd n a b (by simpa [T.flat] using f) (by simpa [T.flat] using g)
theorem eqvs_pd : ∀ (n : Nat) (t u : List T), T.flats n t = true → T.flats n u = true → PyData.eqvAll (T.pds t) (T.pds u) = T.eqvs t u
  | n, [], [], _, _ => by simp [T.pds, PyData.eqvAll, T.eqvs]
  | n, [], _ :: _, _, _ => by simp [T.pds, PyData.eqvAll, T.eqvs]
  | n, _ :: _, [], _, _ => by simp [T.pds, PyData.eqvAll, T.eqvs]
  | n, t :: ts, u :: us, f, g => by
    simp only [T.flats, Bool.and_eq_true] at f g
    simp only [T.pds, PyData.eqvAll, T.eqvs]
    rw [eqv_pd n t u f.1 g.1, eqvs_pd n ts us f.2 g.2]
end
end MP
namespace MP
open PySem PySem.Spec L2
open PyProof.Rows hiding St
theorem OpR.weaken {X : Cx} {f : Value → Value → Sem Value} {r r' : R2} (h : OpR X f r) (i : ∀ x y H Q, r' x y H Q → r x y H Q) : OpR X f r' := fun pins s σ H x y v u Q I rx ry q => h pins s σ H x y v u Q I rx ry (i x y H Q q)
theorem pds_map : ∀ ts : List T, T.pds ts = ts.map T.pd
  | [] => rfl
  | t :: ts => by simp [T.pds, pds_map ts]
theorem flats_all : ∀ (n : Nat) (ts : List T), T.flats n ts = ts.all (T.flat n)
  | _, [] => rfl
  | n, t :: ts => by simp [T.flats, flats_all n ts]
theorem any_pd {n : Nat} {t : T} (f : t.flat n = true) : ∀ us : List T, T.flats n us = true → (T.pds us).any (fun z => PyData.eqv z t.pd) = us.any fun u => T.eqv u t
  | [], _ => rfl
  | u :: us, g => by
    simp only [T.flats, Bool.and_eq_true] at g
    simp only [T.pds, List.any_cons]
    rw [eqv_pd n u t g.1 f, any_pd f us g.2]
theorem atom_flatV {K : PySem.W.Frag} {H : Hp} {Av : Addr → Prop} {t : T} {v : V} (a : t.atom = true) (h : Rdb K H Av t v) : flatV v = true := by
  cases t <;> simp [T.atom] at a <;> simp only [Rdb] at h
  · subst h; rfl
  · subst h; rfl
  · subst h; rfl
  · obtain ⟨rfl, _⟩ := h; rfl
theorem atom_eqV {K : PySem.W.Frag} {H : Hp} {Av Av' : Addr → Prop} {t u : T} {v w : V} (a : t.atom = true) (b : u.atom = true) (h : Rdb K H Av t v) (g : Rdb K H Av' u w) : eqV v w = T.eqv t u := by
  cases t <;> simp [T.atom] at a <;> cases u <;> simp [T.atom] at b <;> simp only [Rdb] at h g <;> (try subst h) <;> (try subst g) <;> (try (obtain ⟨rfl, _⟩ := h)) <;> (try (obtain ⟨rfl, _⟩ := g)) <;> simp only [eqV, T.eqv]
  rw [Bool.eq_iff_iff]; simp
theorem atoms_flat {K : PySem.W.Frag} {H : Hp} {Av : Addr → Prop} : ∀ {ts : List T} {vs : List V}, ts.all T.atom = true → Reps K H Av ts vs → vs.all flatV = true
  | [], vs, _, h => by simp only [Reps] at h; subst h; rfl
  | t :: ts, vs, a, h => by
    simp only [Reps] at h
    obtain ⟨v, r, rfl, h1, h2⟩ := h
    simp only [List.all_cons, Bool.and_eq_true] at a ⊢
    exact ⟨atom_flatV a.1 h1.rdb, atoms_flat a.2 h2⟩
theorem atoms_in {K : PySem.W.Frag} {H : Hp} {Av : Addr → Prop} {t : T} {v : V} (at_ : t.atom = true) (ht : Rdb K H Av t v) : ∀ {ts : List T} {vs : List V}, ts.all T.atom = true → Reps K H Av ts vs → inV v vs = ts.any fun u => T.eqv u t
  | [], vs, _, h => by simp only [Reps] at h; subst h; rfl
  | u :: ts, vs, a, h => by
    simp only [Reps] at h
    obtain ⟨w, r, rfl, h1, h2⟩ := h
    simp only [List.all_cons, Bool.and_eq_true] at a
    simp only [inV, List.any_cons]
    rw [atom_eqV a.1 at_ h1.rdb ht]
    exact congrArg _ (atoms_in at_ ht a.2 h2)
theorem valV_find {K : PySem.W.Frag} {H : Hp} {Av : Addr → Prop} (k : Kt) : ∀ {kvs : List (Kt × T)} {ws : List (Key × V)}, RepD K H Av kvs ws →
    (∀ t, (kvs.find? fun kv => decide (kv.1 = k)).map (·.2) = some t → ∃ v, valV ws (keyOf k) = some v ∧ Rep K H Av t v) ∧ ((kvs.find? fun kv => decide (kv.1 = k)).isSome = (valV ws (keyOf k)).isSome)
  | [], ws, h => by simp only [RepD] at h; subst h; exact ⟨fun t e => by simp at e, rfl⟩
  | (k', t') :: kvs, ws, h => by
    simp only [RepD] at h
    obtain ⟨v, q, rfl, h1, h2⟩ := h
    have inj : (keyOf k' = keyOf k) ↔ k' = k := by
      constructor
      · intro e
        cases k' <;> cases k <;> simp [keyOf] at e <;> simp [e]
      · intro e; rw [e]
    obtain ⟨i1, i2⟩ := valV_find k h2
    unfold valV at i1 i2 ⊢
    by_cases e : k' = k
    · subst e
      simp only [List.find?_cons, decide_true, Option.map_some]
      refine ⟨fun t q => ?_, by simp⟩
      cases q
      exact ⟨v, by simp, h1.1⟩
    · have e' : ¬ keyOf k' = keyOf k := fun z => e (inj.mp z)
      simp only [List.find?_cons, e, e', decide_false]
      exact ⟨i1, i2⟩
theorem isV_none {K : PySem.W.Frag} {H : Hp} {Av : Addr → Prop} {t : T} {v : V} (h : Rdb K H Av t v) : decide (v = V.non) = t.isNone := by
  cases t <;> simp only [Rdb, Rep] at h <;> simp only [T.isNone]
  case exc => obtain ⟨a, D, rfl, _⟩ := h; simp
  case lst => obtain ⟨a, vs, rfl, _⟩ := h; simp
  case tup => obtain ⟨a, vs, rfl, _⟩ := h; simp
  case ro => obtain ⟨a, rfl, _⟩ := h; simp
  case dct => obtain ⟨a, vs, rfl, _⟩ := h; simp
  case str => obtain ⟨rfl, _⟩ := h; simp
  all_goals (subst h; simp)
section
variable {X : Cx}
theorem op_notIn_strT : OpR X (compareOp .NotIn) (fun x y H Q => ∃ i j, x = .str i ∧ y = .str j ∧ Q (.bl (!!(Builtin.Str.occurrences j i 0 j.length 1).isEmpty)) H) := by
  intro pins s σ H x y v u Q I rx ry h
  obtain ⟨i, j, rfl, rfl, q⟩ := h
  obtain ⟨t, rfl⟩ := rx
  obtain ⟨t', rfl⟩ := ry
  exact notIn_str (fin_bl I q rfl)
theorem inSem_ok (hu : X.A.units + 65 < cLine) (hd : X.A.units + 1 < cLine) {t u : T} {b : Bool} {Av : Addr → Prop} {pins : List (Addr × Obj)} {s : Shared} {σ : St} {H : Hp} {x y : V} {v w : Value} {Q : VK} (I : L2.Inv X pins σ H s) (rx : RelV x v) (ry : RelV y w)
    (ht : Rdb X.K H Av t x) (hw : Rdb X.K H Av u y) (e : inSem t u = some b) : (Q (.bl b) H → wpAny (model X.prog X.w) X.A (compareOp .In v w) (EP X pins σ Q) X.xe s) ∧ (Q (.bl (!b)) H → wpAny (model X.prog X.w) X.A (compareOp .NotIn v w) (EP X pins σ Q) X.xe s) := by
  have dict : ∀ (k : Kt) (kvs : List (Kt × T)), u = .dct kvs → x = kV (keyOf k) → b = (kvs.find? fun kv => decide (kv.1 = k)).isSome → (Q (.bl b) H → wpAny (model X.prog X.w) X.A (compareOp .In v w) (EP X pins σ Q) X.xe s) ∧ (Q (.bl (!b)) H → wpAny (model X.prog X.w) X.A (compareOp .NotIn v w) (EP X pins σ Q) X.xe s) := fun k kvs eu ex eb => by
    subst eu ex eb
    simp only [Rdb] at hw
    obtain ⟨a, ws, rfl, h1, r⟩ := hw
    obtain ⟨_, i2⟩ := valV_find k r
    obtain rfl : w = Value.ref a := ry
    have g : DGet H a (kV (keyOf k)) (valV ws (keyOf k)) := .inl ⟨ws, keyOf k, h1, rfl, rfl⟩
    exact ⟨fun q => d_in hd I g rx fun s3 I3 => ⟨.bl _, H, I3, rfl, by rw [i2] at q; exact q⟩, fun q => d_notIn hd I g rx fun s3 I3 => ⟨.bl _, H, I3, rfl, by rw [i2] at q; exact q⟩⟩
  have list : ∀ us : List T, u = .lst us → (if (t.flat 28) && (T.flats 28 us) then some (us.any fun u => T.eqv u t) else none) = some b → (Q (.bl b) H → wpAny (model X.prog X.w) X.A (compareOp .In v w) (EP X pins σ Q) X.xe s) ∧ (Q (.bl (!b)) H → wpAny (model X.prog X.w) X.A (compareOp .NotIn v w) (EP X pins σ Q) X.xe s) := fun us eu e' => by
    subst eu
    split at e'
    · cases e'
      rename_i hk
      simp only [Bool.and_eq_true] at hk
      obtain ⟨d1, s1⟩ := shaped_of (n := 28) (by omega) hk.1 ht
      obtain ⟨d2, s2⟩ := shaped_of (n := 29) (t := .lst us) (by omega) (by simpa [T.flat] using hk.2) hw
      simp only [T.pd] at d2 s2
      exact ⟨fun q => op_inD hu pins s σ H _ _ v w Q I rx ry ⟨_, _, d1, d2, s1, s2, by rw [any_pd hk.1 us hk.2]; exact q⟩, fun q => op_notInD hu pins s σ H _ _ v w Q I rx ry ⟨_, _, d1, d2, s1, s2, by rw [any_pd hk.1 us hk.2]; exact q⟩⟩
    · cases e'
  have tup : ∀ us : List T, u = .tup us → (if t.atom && us.all T.atom then some (us.any fun u => T.eqv u t) else none) = some b → (Q (.bl b) H → wpAny (model X.prog X.w) X.A (compareOp .In v w) (EP X pins σ Q) X.xe s) ∧ (Q (.bl (!b)) H → wpAny (model X.prog X.w) X.A (compareOp .NotIn v w) (EP X pins σ Q) X.xe s) := fun us eu e' => by
    subst eu
    split at e'
    · cases e'
      rename_i hk
      simp only [Bool.and_eq_true] at hk
      simp only [Rdb] at hw
      obtain ⟨a, vs, rfl, _, h1, r⟩ := hw
      exact ⟨fun q => op_in_seq pins s σ H _ _ v w Q I rx ry ⟨a, vs, rfl, .inr (.of h1), atom_flatV hk.1 ht, atoms_flat hk.2 r, by rw [if_neg Bool.false_ne_true, atoms_in hk.1 ht hk.2 r]; exact q⟩,
        fun q => op_notIn_seq pins s σ H _ _ v w Q I rx ry ⟨a, vs, rfl, .inr (.of h1), atom_flatV hk.1 ht, atoms_flat hk.2 r, by rw [if_pos rfl, atoms_in hk.1 ht hk.2 r]; exact q⟩⟩
    · cases e'
  cases u with
  | lst us => exact list us rfl (by cases t <;> (try exact e) <;> (rename_i z; cases z <;> (try exact e) <;> (rename_i z1 z2; cases z2 <;> exact e)))
  | tup us => exact tup us rfl (by cases t <;> (try exact e) <;> (rename_i z; cases z <;> (try exact e) <;> (rename_i z1 z2; cases z2 <;> exact e)))
  | dct kvs =>
    cases t with
    | int i => exact dict (.inl i) kvs rfl (by simp only [Rdb] at ht; exact ht) (by simpa [inSem] using e.symm)
    | str z =>
      have e2 : b = (kvs.find? fun kv => decide (kv.1 = Sum.inr z)).isSome := by
        cases z with
        | nil => simpa [inSem] using e.symm
        | cons z1 z2 => cases z2 <;> simpa [inSem] using e.symm
      simp only [Rdb] at ht
      exact dict (.inr z) kvs rfl ht.1 e2
    | _ => simp [inSem] at e
  | str z =>
    cases t with
    | str c =>
      have gen : hasL z c = b → (Q (.bl b) H → wpAny (model X.prog X.w) X.A (compareOp .In v w) (EP X pins σ Q) X.xe s) ∧ (Q (.bl (!b)) H → wpAny (model X.prog X.w) X.A (compareOp .NotIn v w) (EP X pins σ Q) X.xe s) := fun e => by
        simp only [Rdb] at ht hw
        obtain ⟨rfl, _⟩ := ht
        obtain ⟨rfl, _⟩ := hw
        subst e
        exact ⟨fun q => op_in_str pins s σ H _ _ v w Q I rx ry ⟨_, _, rfl, rfl, by rw [hasL_eq]; exact q⟩, fun q => op_notIn_strT pins s σ H _ _ v w Q I rx ry ⟨_, _, rfl, rfl, by rw [← hasL_eq] at q; exact q⟩⟩
      cases c with
      | nil => exact gen (by simpa [inSem] using e)
      | cons c r =>
        cases r with
        | nil =>
          simp only [inSem, Option.some.injEq] at e
          simp only [Rdb] at ht hw
          obtain ⟨rfl, _⟩ := ht
          obtain ⟨rfl, _⟩ := hw
          subst e
          exact ⟨fun q => op_in_sign pins s σ H _ _ v w Q I rx ry ⟨c, _, rfl, rfl, q⟩, fun q => op_notIn_sign pins s σ H _ _ v w Q I rx ry ⟨c, _, rfl, rfl, q⟩⟩
        | cons _ _ => exact gen (by simpa [inSem] using e)
    | _ => simp [inSem] at e
  | _ => cases t <;> simp [inSem] at e
/-! == of the very same data -/
def DatF (K : PySem.W.Frag) (H : Hp) (Av Av' : Addr → Prop) (n : Nat) : V → V → Prop := fun x y => ∃ t, T.datD n t = true ∧ Rdb K H Av t x ∧ Rdb K H Av' t y
theorem datF_list {K : PySem.W.Frag} {H : Hp} {Av Av' : Addr → Prop} {n : Nat} : ∀ {ts : List T} {vs ws : List V}, T.datDs n ts = true → Reps K H Av ts vs → Reps K H Av' ts ws → Paired (DatF K H Av Av' n) vs ws
  | [], vs, ws, _, h1, h2 => by simp only [Reps] at h1 h2; subst h1 h2; exact .nil
  | t :: ts, vs, ws, hd, h1, h2 => by
    simp only [Reps] at h1 h2
    simp only [T.datDs, Bool.and_eq_true] at hd
    obtain ⟨v, r, rfl, a1, a2⟩ := h1
    obtain ⟨w, q, rfl, b1, b2⟩ := h2
    exact .cons ⟨t, hd.1, a1.rdb, b1.rdb⟩ (datF_list hd.2 a2 b2)
theorem repD_mem {K : PySem.W.Frag} {H : Hp} {Av : Addr → Prop} : ∀ {kvs : List (Kt × T)} {ws : List (Key × V)}, RepD K H Av kvs ws → ∀ p ∈ ws, ∃ k t, (k, t) ∈ kvs ∧ p.1 = keyOf k ∧ Rep K H Av t p.2
  | [], ws, h, p, m => by simp only [RepD] at h; subst h; cases m
  | (k, t) :: kvs, ws, h, p, m => by
    simp only [RepD] at h
    obtain ⟨v, q, rfl, h1, h2⟩ := h
    rcases List.mem_cons.mp m with rfl | m
    · exact ⟨k, t, by simp, rfl, h1.1⟩
    · obtain ⟨k', t', a, b, c⟩ := repD_mem h2 p m
      exact ⟨k', t', by simp [a], b, c⟩
theorem find_key : ∀ {kvs : List (Kt × T)} {k : Kt} {t : T}, (kvs.map Prod.fst).Nodup → (k, t) ∈ kvs → (kvs.find? fun kv => decide (kv.1 = k)).map (·.2) = some t
  | [], _, _, _, m => by cases m
  | (k', t') :: kvs, k, t, nd, m => by
    rw [List.map_cons, List.nodup_cons] at nd
    rw [List.find?_cons]
    rcases List.mem_cons.mp m with e | m
    · cases e; simp
    · have : k' ≠ k := fun e => nd.1 (by rw [e]; exact List.mem_map.mpr ⟨_, m, rfl⟩)
      simp only [this, decide_false]
      exact find_key nd.2 m
theorem datD_mem : ∀ {n : Nat} {kvs : List (Kt × T)}, T.datDd n kvs = true → ∀ {k : Kt} {t : T}, (k, t) ∈ kvs → T.datD n t = true
  | n, [], _, k, t, m => by cases m
  | n, (k', t') :: kvs, h, k, t, m => by
    simp only [T.datDd, Bool.and_eq_true] at h
    rcases List.mem_cons.mp m with e | m
    · cases e; exact h.1
    · exact datD_mem h.2 m
theorem repD_len {K : PySem.W.Frag} {H : Hp} {Av : Addr → Prop} : ∀ {kvs : List (Kt × T)} {ws : List (Key × V)}, RepD K H Av kvs ws → ws.length = kvs.length
  | [], ws, h => by simp only [RepD] at h; subst h; rfl
  | (k, t) :: kvs, ws, h => by
    simp only [RepD] at h
    obtain ⟨v, q, rfl, h1, h2⟩ := h
    simp [repD_len h2]
theorem dat_rc {pins : List (Addr × Obj)} {s : Shared} {σ : St} {H : Hp} (I : L2.Inv X pins σ H s) {A : Around} {n : Nat} (hu : A.units < cLine) {Av Av' : Addr → Prop}
    (ih : ∀ x y v u, DatF X.K H Av Av' n x y → RelV x v → RelV y u → SeqAt.EqP X.prog X.w A.in1 s v u true) {t : T} (hd : T.datD (n + 1) t = true) (hb : t.boxed = true) {x y : V} {v u : Value} (hx : Rdb X.K H Av t x) (hy : Rdb X.K H Av' t y) (rx : RelV x v) (ry : RelV y u) :
    (∃ a b, v = .ref a ∧ u = .ref b) ∧ ∀ E Q, Q (.bool true) s → wpAny (model X.prog X.w) A (richCompare .Eq v u) Q E s := by
  cases t <;> (try (simp [T.boxed] at hb; done))
  case lst ts =>
    simp only [Rdb] at hx hy
    obtain ⟨a, vs, rfl, e1, r1⟩ := hx
    obtain ⟨b, ws, rfl, e2, r2⟩ := hy
    cases (show v = Value.ref a from rx)
    cases (show u = Value.ref b from ry)
    exact ⟨⟨a, b, rfl, rfl⟩, fun E Q q => eqR_run I hu ih (.inl ⟨a, b, vs, ws, rfl, rfl, SqL.of e1, SqL.of e2, datF_list (by simpa [T.datD] using hd) r1 r2⟩) rfl rfl E Q q⟩
  case dct kvs =>
    simp only [Rdb] at hx hy
    obtain ⟨a, vs, rfl, e1, r1⟩ := hx
    obtain ⟨b, ws, rfl, e2, r2⟩ := hy
    cases (show v = Value.ref a from rx)
    cases (show u = Value.ref b from ry)
    simp only [T.datD, Bool.and_eq_true, decide_eq_true_eq] at hd
    refine ⟨⟨a, b, rfl, rfl⟩, fun E Q q => ?_⟩
    obtain ⟨_, ya, va, ra, da⟩ := (show ObjOk X.prog X.w H s.heap a (.dK vs) from e1.ok I.hok)
    obtain ⟨_, yb, vb, rb, db⟩ := (show ObjOk X.prog X.w H s.heap b (.dK ws) from e2.ok I.hok)
    refine PySem.W.rcP_dicts (knd := mixKind X.prog X.w) (r := true) ya yb da db hu (fun _ => hits_run ih rb ra fun p hp => ?_) E Q ?_
    · obtain ⟨k, t, m, ek, rp⟩ := repD_mem r1 p hp
      obtain ⟨z, ez, rz⟩ := (valV_find k r2).1 t (find_key hd.2 m)
      exact ⟨z, by rw [ek]; exact ez, t, datD_mem hd.1 m, rp.rdb, rz.rdb⟩
    · have e : va.length = vb.length := by rw [← ra.length, ← rb.length, repD_len r1, repD_len r2]
      rw [show (va.length == vb.length && true) = true from by rw [e]; simp]
      exact q
theorem dat_run {pins : List (Addr × Obj)} {s : Shared} {σ : St} {H : Hp} (I : L2.Inv X pins σ H s) {Av Av' : Addr → Prop} : ∀ (n : Nat) (A : Around), A.units + n < cLine → ∀ x y v u, DatF X.K H Av Av' n x y → RelV x v → RelV y u → SeqAt.EqP X.prog X.w A s v u true
  | n, A, hu, x, y, v, u, ⟨t, hd, hx, hy⟩, rx, ry => by
    by_cases hb : t.boxed = true
    · cases n with
      | zero => cases t <;> simp [T.datD, T.boxed] at hd hb
      | succ n =>
        obtain ⟨⟨a, b, rfl, rfl⟩, step⟩ := dat_rc I (A := A) (by omega) (dat_run I n A.in1 (by show A.units + 1 + n < cLine; omega)) hd hb hx hy rx ry
        by_cases e : a = b
        · subst e
          exact (SeqAt.EqAt.same _).eqP
        · exact SeqAt.eqP_refs e step
    · have e : x = y ∧ flatB x = true := by
        cases t <;> (try (simp [T.boxed] at hb; done)) <;> (try (cases n <;> simp [T.datD] at hd; done)) <;> simp only [Rdb] at hx hy
        · subst hx hy; exact ⟨rfl, rfl⟩
        · subst hx hy; exact ⟨rfl, rfl⟩
        · subst hx hy; exact ⟨rfl, rfl⟩
        · obtain ⟨rfl, _⟩ := hx; obtain ⟨rfl, _⟩ := hy; exact ⟨rfl, rfl⟩
      obtain ⟨rfl, f⟩ := e
      exact (eqAt_same rx ry f).eqP
theorem dat_ne {pins : List (Addr × Obj)} {s : Shared} {σ : St} {H : Hp} (I : L2.Inv X pins σ H s) {A : Around} (hu : A.units + 65 < cLine) {Av Av' : Addr → Prop}
    {t : T} (hd : T.datD 30 t = true) (hb : t.listed = true) {x y : V} {v u : Value} (hx : Rdb X.K H Av t x) (hy : Rdb X.K H Av' t y) (rx : RelV x v) (ry : RelV y u) :
    ∀ E Q, Q (.bool false) s → wpAny (model X.prog X.w) A (richCompare .NotEq v u) Q E s := by
  cases t <;> (try (simp [T.listed] at hb; done))
  rename_i ts
  simp only [Rdb] at hx hy
  obtain ⟨a, vs, rfl, e1, r1⟩ := hx
  obtain ⟨b, ws, rfl, e2, r2⟩ := hy
  cases (show v = Value.ref a from rx)
  cases (show u = Value.ref b from ry)
  intro E Q q
  have hp := datF_list (by simpa [T.datD] using hd) r1 r2
  obtain ⟨us, p1, l1, _⟩ := I.list (SqL.of e1)
  obtain ⟨zs, p2, l2, _⟩ := I.list (SqL.of e2)
  have hsz : us.toArray.size = zs.toArray.size := by
    rw [List.size_toArray, List.size_toArray, ← p1.length, ← p2.length]
    exact Paired.length hp
  refine SeqAt.rcN_lists l1.isList l2.isList hsz (by omega) (fun j h1 h2 => ?_) E Q q
  have k := items_run (dat_run I 29 A.in1 (by show A.units + 1 + 29 < cLine; omega)) hp p1 p2 j (by simpa using h1) (by simpa using h2)
  simpa using k
theorem Cop.ok (op : Cop) (hu : X.A.units + 65 < cLine) : OpR X (compareOp op.ast) (rCmp X.K op.semB) := by
  intro pins s σ H x y v u Q I rx ry h
  obtain ⟨t, w, b, Av, tr, ht, hw, e, q⟩ := h
  cases op <;> simp only [Cop.ast]
  case eq =>
    simp only [Cop.semB] at e
    split at e
    · cases e
      rename_i hk
      simp only [eqOk, Bool.and_eq_true] at hk
      obtain ⟨d1, s1⟩ := shaped_of (by omega) hk.1 ht
      obtain ⟨d2, s2⟩ := shaped_of (by omega) hk.2 hw
      exact op_eqD (by omega) pins s σ H _ _ v u Q I rx ry ⟨_, _, d1, d2, s1, s2, by rw [eqv_pd 30 _ _ hk.1 hk.2]; exact q⟩
    · split at e
      · cases e
        rename_i hk
        simp only [sameOk, Bool.and_eq_true] at hk
        have := T.same_eq _ _ hk.2.2
        subst this
        exact (dat_rc I (A := X.A) (n := 29) (by omega) (dat_run I 29 X.A.in1 (by show X.A.units + 1 + 29 < cLine; omega)) hk.1 hk.2.1 ht hw rx ry).2 _ _ ⟨.bl true, H, I, rfl, q⟩
      · cases e
  case ne =>
    simp only [Cop.semB] at e
    split at e
    · cases e
      rename_i hk
      simp only [eqOk, Bool.and_eq_true] at hk
      obtain ⟨d1, s1⟩ := shaped_of (by omega) hk.1 ht
      obtain ⟨d2, s2⟩ := shaped_of (by omega) hk.2 hw
      exact op_neD (by omega) pins s σ H _ _ v u Q I rx ry ⟨_, _, d1, d2, s1, s2, by rw [eqv_pd 30 _ _ hk.1 hk.2]; exact q⟩
    · split at e
      · cases e
        rename_i hk
        simp only [sameNe, Bool.and_eq_true] at hk
        have := T.same_eq _ _ hk.2.2
        subst this
        exact dat_ne I hu hk.1 hk.2.1 ht hw rx ry _ _ ⟨.bl false, H, I, rfl, q⟩
      · cases e
  case lt =>
    cases t <;> cases w <;> simp only [Cop.semB] at e <;> try cases e
    case int.int => simp only [Rdb] at ht hw; subst ht hw; exact op_lt pins s σ H _ _ v u Q I rx ry ⟨_, _, rfl, rfl, q⟩
    case str.str => simp only [Rdb] at ht hw; obtain ⟨rfl, _⟩ := ht; obtain ⟨rfl, _⟩ := hw; exact op_lt_str pins s σ H _ _ v u Q I rx ry ⟨_, _, rfl, rfl, q⟩
  case le =>
    cases t <;> cases w <;> simp only [Cop.semB] at e <;> try cases e
    case int.int => simp only [Rdb] at ht hw; subst ht hw; exact op_le pins s σ H _ _ v u Q I rx ry ⟨_, _, rfl, rfl, q⟩
    case str.str => simp only [Rdb] at ht hw; obtain ⟨rfl, _⟩ := ht; obtain ⟨rfl, _⟩ := hw; exact op_le_str pins s σ H _ _ v u Q I rx ry ⟨_, _, rfl, rfl, q⟩
  case gt =>
    cases t <;> cases w <;> simp only [Cop.semB] at e <;> try cases e
    case int.int => simp only [Rdb] at ht hw; subst ht hw; exact op_gt pins s σ H _ _ v u Q I rx ry ⟨_, _, rfl, rfl, q⟩
    case str.str => simp only [Rdb] at ht hw; obtain ⟨rfl, _⟩ := ht; obtain ⟨rfl, _⟩ := hw; exact op_gt_str pins s σ H _ _ v u Q I rx ry ⟨_, _, rfl, rfl, q⟩
  case ge =>
    cases t <;> cases w <;> simp only [Cop.semB] at e <;> try cases e
    case int.int => simp only [Rdb] at ht hw; subst ht hw; exact op_ge pins s σ H _ _ v u Q I rx ry ⟨_, _, rfl, rfl, q⟩
    case str.str => simp only [Rdb] at ht hw; obtain ⟨rfl, _⟩ := ht; obtain ⟨rfl, _⟩ := hw; exact op_ge_str pins s σ H _ _ v u Q I rx ry ⟨_, _, rfl, rfl, q⟩
  case is_ =>
    simp only [Cop.semB] at e
    cases w <;> (try (cases t <;> simp only [isSem] at e <;> cases e; done))
    case non =>
      have e' : b = t.isNone := by cases t <;> simp [isSem] at e <;> first | exact e.symm | simp [e]
      simp only [Rdb] at hw; subst hw
      exact op_isN pins s σ H _ _ v u Q I rx ry ⟨rfl, by rw [isV_none ht, ← e']; exact q⟩
    case bl c =>
      cases t <;> simp only [isSem] at e <;> cases e
      simp only [Rdb] at ht hw; subst ht hw
      exact op_isBl pins s σ H _ _ v u Q I rx ry ⟨_, _, rfl, rfl, by rw [← Bool.beq_eq_decide_eq]; exact q⟩
  case isnot =>
    simp only [Cop.semB] at e
    cases w <;> (try (cases t <;> simp only [isSem] at e <;> cases e; done))
    case non =>
      have e' : b = !t.isNone := by cases t <;> simp [isSem] at e <;> first | exact e.symm | simp [e]
      simp only [Rdb] at hw; subst hw
      exact op_notN pins s σ H _ _ v u Q I rx ry ⟨rfl, by rw [isV_none ht, ← e']; exact q⟩
    case bl c =>
      cases t <;> simp only [isSem] at e <;> cases e
      simp only [Rdb] at ht hw; subst ht hw
      exact op_notBl pins s σ H _ _ v u Q I rx ry ⟨_, _, rfl, rfl, by rw [← Bool.beq_eq_decide_eq]; exact q⟩
  case in_ =>
    exact (inSem_ok hu (by omega) I rx ry ht hw e).1 q
  case notin =>
    simp only [Cop.semB, Option.map_eq_some_iff] at e
    obtain ⟨c, e, rfl⟩ := e
    exact (inSem_ok hu (by omega) I rx ry ht hw e).2 q
end
end MP

namespace MP
open PySem PySem.Spec L2
open PyProof.Rows hiding St
/-! ## items, slices -/
theorem pick_atI {α : Type} (xs : List α) (i : Int) : pick xs i = atI xs i := by
  unfold pick atI ixN
  by_cases h : 0 ≤ i
  · rw [if_pos h, if_pos h]
    by_cases h2 : i < xs.length
    · rw [if_pos h2]; rfl
    · rw [if_neg h2, List.getElem?_eq_none (by omega)]; rfl
  · rw [if_neg h, if_neg h]
    split <;> rfl
theorem Reps.pick {K : PySem.W.Frag} {H : Hp} {Av : Addr → Prop} {ts : List T} {vs : List V} (r : Reps K H Av ts vs) {i : Int} {t : T} (e : MP.pick ts i = some t) : ∃ v, atI vs i = some v ∧ Rep K H Av t v := by
  have hl := r.length
  rw [← pick_atI]
  unfold MP.pick at e ⊢
  rw [← hl]
  split
  · rename_i h
    rw [if_pos h] at e
    obtain ⟨v, e2, h2⟩ := r.get e
    exact ⟨v, e2, h2⟩
  · rename_i h
    rw [if_neg h] at e
    split
    · rename_i h2
      rw [if_pos h2] at e
      obtain ⟨v, e2, h2⟩ := r.get e
      exact ⟨v, e2, h2⟩
    · rename_i h2
      rw [if_neg h2] at e; cases e
theorem pick_map {α β : Type} (f : α → β) (xs : List α) (i : Int) : pick (xs.map f) i = (pick xs i).map f := by
  unfold pick
  simp only [List.getElem?_map, List.length_map]
  split
  · rfl
  · split <;> rfl
/-- a[b], by trees -/
def rSub (K : PySem.W.Frag) : R2 := fun x y H Q => ∃ t u w Av, Tr Av H ∧ Rdb K H Av t x ∧ Rdb K H Av u y ∧ subSem t u = some w ∧ ∀ v, Rep K H Av w v → Q v H
section
variable {X : Cx}
theorem sub_ix (hu : X.A.units + 1 < cLine) : IxR X (rSub X.K) := by
  intro value slice pins s σ H x y v u Q I rx ry h hs
  obtain ⟨t, w, z, Av, tr, ht, hw, e, q⟩ := h
  have dict : ∀ (k : Kt) (kvs : List (Kt × T)), t = .dct kvs → y = kV (keyOf k) → (kvs.find? fun kv => decide (kv.1 = k)).map (·.2) = some z →
      wpAny (model X.prog X.w) X.A (subscriptTail value slice v u) (EP X pins σ Q) X.xe s := fun k kvs et ey e' => by
    subst et ey
    simp only [Rdb] at ht
    obtain ⟨a, ws, rfl, h1, r⟩ := ht
    obtain ⟨i1, _⟩ := valV_find k r
    obtain ⟨zv, e2, hz⟩ := i1 z e'
    obtain rfl : v = Value.ref a := rx
    have g : DGet H a (kV (keyOf k)) (some zv) := by rw [← e2]; exact .inl ⟨ws, keyOf k, h1, rfl, rfl⟩
    refine tail_any (ops := [.ref a, u]) (dict_typeIs I g) PySem.F.slot_dict_getitem.lookup ?_ hs
    exact d_getItem hu I g ry fun w' s' I' rw' => ⟨zv, H, I', rw', q zv hz⟩
  cases t <;> cases w <;> simp only [subSem] at e <;> try cases e
  case lst.int ts i =>
    simp only [Rdb] at ht hw; subst hw
    obtain ⟨a, vs, rfl, h1, r⟩ := ht
    obtain ⟨zv, e2, hz⟩ := r.pick e
    exact ix_list value slice pins s σ H _ _ v u Q I rx ry ⟨a, vs, i, zv, rfl, rfl, .of h1, e2, q zv hz⟩ hs
  case tup.int ts i =>
    simp only [Rdb] at ht hw; subst hw
    obtain ⟨a, vs, rfl, _, h1, r⟩ := ht
    obtain ⟨zv, e2, hz⟩ := r.pick e
    exact ix_tup value slice pins s σ H _ _ v u Q I rx ry ⟨a, vs, i, zv, rfl, rfl, .of h1, e2, q zv hz⟩ hs
  case ro.int ts i =>
    simp only [Rdb] at ht hw; subst hw
    obtain ⟨a, rfl, h1⟩ := ht
    simp only [Option.map_eq_some_iff] at e
    obtain ⟨n, e, rfl⟩ := e
    exact ix_list value slice pins s σ H _ _ v u Q I rx ry ⟨a, _, i, .int n, rfl, rfl, h1, by rw [← pick_atI, pick_map, e]; rfl, q _ (by simp [Rep])⟩ hs
  case str.int z i =>
    split at e
    · rename_i hl
      simp only [Rdb] at ht hw; subst hw
      obtain ⟨rfl, sk⟩ := ht
      simp only [Option.map_eq_some_iff] at e
      obtain ⟨n, e, rfl⟩ := e
      have hm : n ∈ z := by
        unfold pick at e
        split at e
        · exact List.mem_of_getElem? e
        · split at e
          · exact List.mem_of_getElem? e
          · cases e
      refine ix_str value slice pins s σ H _ _ v u Q I rx ry ⟨S2 z, i, n, rfl, rfl, by rw [s2_length, line]; exact hl, by rw [← pick_atI]; exact e, q _ ?_⟩ hs
      simp only [Rep, true_and]
      exact sok_sub sk (by simpa using hm)
    · cases e
  case dct.int kvs i => exact dict (.inl i) kvs rfl (by simp only [Rdb] at hw; exact hw) e
  case dct.str kvs i => exact dict (.inr i) kvs rfl (by simp only [Rdb] at hw; exact hw.1) e
theorem sIx_eq : sIx = HT.sIx := by
  funext n d o
  cases o <;> rfl
/-- a[lo:hi], by trees -/
def rSlc (K : PySem.W.Frag) : V → Option Int → Option Int → Hp → VK → Prop := fun x lo hi H Q => ∃ t q Av, Tr Av H ∧ Rdb K H Av t x ∧ slcSem t lo hi = some q ∧ ∀ v Av' H', Made K Av H q v Av' H' → Q v H'
theorem sok_cut {s : List Nat} {lo hi : Option Int} (h : sok s = true) : sok (cut s lo hi) = true := sok_sub h fun x hx => List.mem_of_mem_drop (List.mem_of_mem_take hx)
theorem slc_sl : SlR X (rSlc X.K) := by
  intro pins s σ H x v vl vu lo hi sl Q I rx hs pl pu h
  obtain ⟨t, q, Av, tr, ht, e, k⟩ := h
  cases t <;> simp only [slcSem] at e <;> try cases e
  case str z =>
    split at e
    · rename_i hl
      cases e
      simp only [Rdb] at ht
      obtain ⟨rfl, sk⟩ := ht
      refine sl_str pins s σ H _ v vl vu lo hi sl Q I rx hs pl pu ⟨S2 z, rfl, by rw [s2_length, line]; exact hl, k _ _ _ (.same tr ?_)⟩
      simp only [Rep]
      refine ⟨?_, sok_cut sk⟩
      show V.str ⟨_⟩ = V.str ⟨_⟩
      rw [s2_length]
      unfold cut
      rw [sIx_eq]
    · cases e
  case lst ts =>
    simp only [Rdb] at ht
    obtain ⟨a, vs, rfl, h1, r⟩ := ht
    refine sl_list pins s σ H _ v vl vu lo hi sl Q I rx hs pl pu ⟨a, vs, rfl, .of h1, fun p hp => k _ _ _ (.lst tr hp ?_)⟩
    unfold cut cutV
    rw [sIx_eq, ← r.length]
    exact (r.drop _).take _
  case tup ts =>
    have ht0 := ht
    simp only [Rdb] at ht
    obtain ⟨a, vs, rfl, n1, h1, r⟩ := ht
    refine sl_tupA pins s σ H _ v vl vu lo hi sl Q I rx hs pl pu ⟨a, vs, rfl, .of h1, fun z => k _ _ _ (.same tr ?_), fun z p hp => k _ _ _ (.tup tr hp ?_)⟩
    · have : cut ts lo hi = ts := by
        unfold cut
        rw [sIx_eq, r.length, z.1, z.2]
        simp [← r.length]
      rw [this]
      simp only [Rep]
      exact ⟨a, vs, rfl, n1, h1, r⟩
    · unfold cut cutV
      rw [sIx_eq, ← r.length]
      exact (r.drop _).take _
end
end MP

namespace MP
open PySem PySem.Spec L2
open PyProof.Rows hiding St
/-! ## sorted -/
theorem risingS_pw : ∀ (l : List Str) (p : Str), risingS p l = true → (p :: l).Pairwise fun a b => ¬ b.cps.toList < a.cps.toList
  | [], p, _ => by simp
  | x :: r, p, h => by
    simp only [risingS, Bool.and_eq_true, Bool.not_eq_true', ltCps_eq, decide_eq_false_iff_not] at h
    have ih := risingS_pw r x h.2
    refine List.pairwise_cons.mpr ⟨fun y hy => ?_, ih⟩
    rcases List.mem_cons.mp hy with rfl | hy
    · exact h.1
    · have h2 := (List.pairwise_cons.mp ih).1 y hy
      exact List.not_lt.mpr (List.le_trans (List.not_lt.mp h.1) (List.not_lt.mp h2))
theorem sortedS_pw {l : List Str} (h : sortedS l = true) : l.Pairwise fun a b => ¬ b.cps.toList < a.cps.toList := by
  cases l with
  | nil => exact .nil
  | cons x r => exact risingS_pw r x h
theorem sorted_s2 {xs : List (List Nat)} {ys : List Str} (p : ys.Perm (xs.map S2)) (h : sortedS ys = true) : ys = (sortS xs).map S2 := by
  have e : ys = (ys.map fun y => y.cps.toList).map S2 := by
    rw [List.map_map]
    conv => lhs; rw [← List.map_id ys]
    refine List.map_congr_left fun y hy => ?_
    obtain ⟨x, _, rfl⟩ := List.mem_map.mp (p.mem_iff.mp hy)
    simp
  have p2 : (ys.map fun y => y.cps.toList).Perm xs := by
    have := p.map fun y : Str => y.cps.toList
    rw [List.map_map] at this
    have e2 : xs.map ((fun y : Str => y.cps.toList) ∘ S2) = xs := by
      conv => rhs; rw [← List.map_id xs]
      exact List.map_congr_left fun x _ => by simp
    rw [e2] at this
    exact this
  rw [e, sortS_of p2 (by rw [List.pairwise_map]; exact sortedS_pw h)]
section
variable {X : Cx}
theorem cr_sortedSA : CallR X (.builtin "sorted") (fun vs H Q => ∃ (a : Addr) (xs : List Str), vs = [V.ref a] ∧ SqL X.K H a (xs.map V.str) ∧
    ∀ (ys : List Str) (p : Addr), ys.Perm xs → sortedS ys = true → H p = none → Q (.ref p) (upd H p (.lst (ys.map V.str)))) := by
  intro pins s σ H vs us Q I r h
  obtain ⟨a, xs, rfl, hs, q⟩ := h
  obtain ⟨its, rv, hl, hz⟩ := I.list hs
  rw [Vals.ref1 r]
  have hlen0 := rv.length
  refine PyProof.Rows.sorted_strsAny hl.isList rv.strs (by rw [← hlen0]; exact hz) fun out ys h1 h2 h3 => ?_
  obtain ⟨ep, he'⟩ := PyProof.Rows.sortedAll_at s.heap its out
  have hlen : (ys.map V.str).length ≤ sizeLine := by
    rw [List.length_map, h2.length_eq]
    rw [List.length_map] at hz
    exact hz
  exact ⟨.ref _, upd H (s.heap.objs.size + 1) (.lst (ys.map V.str)), I.laid (t' := s.toks) (fun _ _ => PyProof.Rows.sortedAll_old) (Nat.le_succ _) ⟨hlen, out.toList, ep, vals_of_strs h1, he'⟩, rfl, q ys _ h2 h3 (I.hok.fresh (Nat.le_succ _))⟩

def vK : Kt → V
  | .inl i => .int i
  | .inr s => .str (S2 s)
def shp (k : List Kt) (i : Nat) : Bool := (k[i]?.map Kt.isS).getD false
theorem tupItems_of {k0 : List Kt} : ∀ (k : List Kt) (ws : List Value) (i : Nat), Vals (k.map vK) ws → k.map Kt.isS = (k0.drop i).map Kt.isS → tupItems (shp k0) i ws = some k
  | [], ws, i, h, _ => by cases h; rfl
  | a :: k, ws, i, h, e => by
    cases h with
    | cons r t =>
      rename_i u us
      have hd : k0.drop i ≠ [] := fun z => by rw [z] at e; simp at e
      have hi : i < k0.length := Nat.lt_of_not_le fun z => hd (List.drop_eq_nil_of_le z)
      rw [List.drop_eq_getElem_cons hi] at e
      simp only [List.map_cons, List.cons.injEq] at e
      have hs : shp k0 i = a.isS := by simp [shp, List.getElem?_eq_getElem hi, e.1]
      have ih := tupItems_of k us (i + 1) t e.2
      cases a with
      | inl n =>
        obtain ⟨tk, rfl⟩ := (show ∃ t, u = Value.int n t from r)
        have hs : shp k0 i = false := hs
        simp [tupItems, hs, ih]
      | inr x =>
        obtain ⟨tk, rfl⟩ := (show ∃ t, u = Value.str (S2 x) t from r)
        have hs : shp k0 i = true := hs
        simp [tupItems, hs, ih]
theorem pairs_snd {ps : List Keyed} {vs : List Value} (h : ps.Perm (vs.zip vs)) : (ps.map (·.2)).Perm vs ∧ ∀ p ∈ ps, p.1 = p.2 := by
  constructor
  · have := h.map (·.2)
    rw [List.map_snd_zip (Nat.le_refl _)] at this
    exact this
  · intro p hp
    have := h.mem_iff.mp hp
    exact (mem_zip_self this).1
theorem cr_sortedTu : CallR X (.builtin "sorted") (fun vs H Q => ∃ (a : Addr) (xs : List V) (ky : V → List Kt), vs = [V.ref a] ∧ SqL X.K H a xs ∧ shapeOk (xs.map ky) = true ∧ (∀ x ∈ xs, ∃ t, x = V.ref t ∧ H t = some (.tup ((ky x).map vK))) ∧
    ∀ (ys : List V) (p : Addr), ys.Perm xs → (ys.map ky).Pairwise (fun a b => ltKs b a = false) → H p = none → Q (.ref p) (upd H p (.lst ys))) := by
  intro pins s σ H vs us Q I r h
  obtain ⟨a, xs, ky, rfl, hs, sh, hx, q⟩ := h
  obtain ⟨its, rv, hl, hz⟩ := I.list hs
  obtain ⟨u, rfl, ru⟩ := vals1 r
  obtain rfl : u = Value.ref a := ru
  obtain ⟨e1, e2⟩ := refs_back rv fun x m => by
    obtain ⟨t, e, _⟩ := hx x m
    exact ⟨t, e⟩
  obtain ⟨k0, hk0⟩ : ∃ k0 : List Kt, ∀ x ∈ xs, (ky x).map Kt.isS = k0.map Kt.isS ∧ (ky x) ≠ [] := by
    cases xs with
    | nil => exact ⟨[], fun x m => by simp at m⟩
    | cons x0 xr =>
      refine ⟨ky x0, fun x m => ?_⟩
      simp only [List.map_cons, shapeOk, Bool.and_eq_true, Bool.not_eq_true', List.isEmpty_eq_false_iff, List.all_eq_true, decide_eq_true_eq, List.mem_map, forall_exists_index, and_imp, forall_apply_eq_imp_iff₂] at sh
      rcases List.mem_cons.mp m with rfl | m
      · exact ⟨rfl, sh.1⟩
      · refine ⟨sh.2 x m, fun z => ?_⟩
        have := sh.2 x m
        rw [z] at this
        exact sh.1 (List.map_eq_nil_iff.mp this.symm)
  have key : ∀ v ∈ its, ∃ t o ws n, v = .ref t ∧ s.heap.get? t = some o ∧ o.cls = .type "tuple" ∧ o.data = .seq ws n ∧ Vals ((ky (backV v)).map vK) ws.toList ∧ (ky (backV v)).map Kt.isS = k0.map Kt.isS ∧ ky (backV v) ≠ [] := fun v hv => by
    obtain ⟨t, rfl⟩ := e2 v hv
    have hm : V.ref t ∈ xs := by rw [e1]; exact List.mem_map.mpr ⟨_, hv, rfl⟩
    obtain ⟨t', e, ht⟩ := hx _ hm
    cases e
    obtain ⟨_, its2, r2, o, ho, hc, n, hd⟩ := I.hok _ _ ht
    exact ⟨t, o, _, n, rfl, ho, hc, hd, (show Vals ((ky (V.ref t)).map vK) its2 from r2), (hk0 _ hm).1, (hk0 _ hm).2⟩
  have hk : ∀ v ∈ its, G.tupKeyC s.heap (shp k0) v = some (ky (backV v)) := fun v hv => by
    obtain ⟨t, o, ws, n, rfl, ho, hc, hd, r2, k1, _⟩ := key v hv
    have hi := tupItems_of (k0 := k0) _ _ 0 r2 k1
    unfold G.tupKeyC
    rw [if_pos (by simp [G.isTupObj, ho, hc])]
    simp only [tupKey, ho, hd]
    exact hi
  have ht : ∃ fs, TupsOf s.heap (shp k0) its fs := by
    have : ∀ l : List Value, (∀ v ∈ l, v ∈ its) → ∃ fs, TupsOf s.heap (shp k0) l fs := by
      intro l
      induction l with
      | nil => intro _; exact ⟨[], .nil⟩
      | cons v l ih =>
        intro hl
        obtain ⟨fs, hf⟩ := ih fun w hw => hl w (List.mem_cons_of_mem _ hw)
        obtain ⟨t, o, ws, n, rfl, ho, hc, hd, r2, k1, k2⟩ := key v (hl v (by simp))
        generalize ky (backV (Value.ref t)) = kk at r2 k1 k2
        cases kk with
        | nil => exact absurd rfl k2
        | cons c kk =>
          obtain ⟨wl⟩ := ws
          cases r2 with
          | @cons _ f _ wl' rc _ =>
            have hs : shp k0 0 = c.isS := by
              cases k0 with
              | nil => simp at k1
              | cons d k0 => simp only [List.map_cons, List.cons.injEq] at k1; simp [shp, k1.1]
            refine ⟨f :: fs, .cons ⟨t, o, _, n, rfl, ho, hc, hd, rfl, fun z => ?_, fun z => ?_⟩ hf⟩
            · cases c with
              | inl i => exact ⟨i, (show ∃ t, f = Value.int i t from rc)⟩
              | inr x => rw [hs] at z; cases z
            · cases c with
              | inl i => rw [hs] at z; cases z
              | inr x => exact ⟨_, (show ∃ t, f = Value.str (S2 x) t from rc)⟩
    exact this its fun _ h => h
  obtain ⟨fs, ht⟩ := ht
  refine G.sorted_tups hl.isList ht (fun v hv => ⟨_, hk v hv⟩) (by rw [← rv.length]; exact hz) fun st' hp hsrt _ => ?_
  have hp2 : (arrOf st').toList.Perm (its.zip its) := by
    have := Array.perm_iff_toList_perm.mp hp
    rwa [pairsOf_toList] at this
  obtain ⟨p1, p2⟩ := pairs_snd hp2
  obtain ⟨ep, he'⟩ := PyProof.Rows.sortedAll_at s.heap its ((arrOf st').map (·.2))
  have h3 : ∀ u ∈ (arrOf st').toList.map (·.2), ∃ a, u = Value.ref a := fun u hu => e2 u (p1.mem_iff.mp hu)
  have hperm : (((arrOf st').toList.map (·.2)).map backV).Perm xs := by
    rw [e1]; exact p1.map backV
  refine ⟨.ref _, upd H (s.heap.objs.size + 1) (.lst (((arrOf st').toList.map (·.2)).map backV)), I.laid (t' := s.toks) (fun _ _ => PyProof.Rows.sortedAll_old) (Nat.le_succ _) ⟨?_, (arrOf st').toList.map (·.2), ep, vals_back h3, by rw [← Array.toList_map]; exact he'⟩, rfl, q _ _ hperm ?_ (I.hok.fresh (Nat.le_succ _))⟩
  · rw [hperm.length_eq]; exact hz
  · rw [List.map_map, List.map_map]
    refine List.pairwise_map.mpr (List.pairwise_iff_getElem.mpr fun i j hi hj hij => ?_)
    have hsz : (pairsOf its).size = (arrOf st').size := hp.size_eq.symm
    simp only [Array.length_toList] at hi hj
    have z := hsrt i j (Nat.le_of_lt hij) (by rw [hsz]; exact hj)
    have kkeq : ∀ (i : Nat) (hi : i < (arrOf st').size), KK (G.tupKindC s.heap (shp k0)) (arrOf st') i = ky (backV (arrOf st')[i].2) := fun i hi => by
      have m : (arrOf st')[i] ∈ (arrOf st').toList := by simp
      unfold KK
      rw [Array.getElem?_eq_getElem hi]
      have e3 := p2 _ m
      show ((G.tupKeyC s.heap (shp k0) (arrOf st')[i].1).getD []) = _
      rw [e3, hk _ (p1.mem_iff.mp (List.mem_map.mpr ⟨_, m, rfl⟩))]
      rfl
    rw [kkeq i hi, kkeq j hj] at z
    have z : lexLt itemOrd (ky (backV (arrOf st')[j].2)) (ky (backV (arrOf st')[i].2)) = false := z
    rw [← ltKs_lex] at z
    simpa using z
end
end MP

namespace MP
open PySem PySem.Spec L2
open PyProof.Rows hiding St
/-! ## lists, tuples, sorted lists of a text's signs -/
def signs (s : List Nat) : List Str := s.map fun c => S2 [c]
theorem signs_are {x : List Nat} : ∀ {n : Nat} {vs : List Value} {l : List Nat}, x.drop n = l → vs.length = l.length → (∀ (j : Nat) v, vs[j]? = some v → SignAt (S2 x) (n + j) v) → StrsAre vs (signs l)
  | n, [], [], _, _, _ => .nil
  | n, [], _ :: _, _, h, _ => nomatch h
  | n, _ :: _, [], _, h, _ => nomatch h
  | n, v :: vs, c :: l, e, h, g => by
    obtain ⟨c', u, e1, rfl⟩ := g 0 v rfl
    have e2 : x[n]? = some c := by
      have := congrArg (fun l => l[0]?) e
      simp only [List.getElem?_drop, List.getElem?_cons_zero, Nat.add_zero] at this
      exact this
    have e3 : x[n]? = some c' := by simpa using e1
    rw [e2] at e3
    cases e3
    refine .cons _ _ (signs_are (x := x) (n := n + 1) ?_ (Nat.succ.inj h) fun j v' hv => ?_)
    · rw [← List.drop_drop, e]; rfl
    · have := g (j + 1) v' hv
      rw [show n + 1 + j = n + (j + 1) by omega]; exact this
theorem signs_items {x : List Nat} {acc : Array Value} (h : ItemsOf (SignAt (S2 x)) acc (S2 x).cps.size) : StrsAre acc.toList (signs x) :=
  signs_are (n := 0) rfl (by rw [Array.length_toList, h.1]; simp) fun j v e => by rw [Nat.zero_add]; exact h.2 j v (by rw [← Array.getElem?_toList]; exact e)
theorem sok_one {s : List Nat} {c : Nat} (h : sok s = true) (hc : c ∈ s) : sok [c] = true := by
  simp only [sok, List.all_eq_true, decide_eq_true_eq] at h ⊢
  intro x hx
  simp at hx; subst hx; exact h x hc
section
variable {X : Cx}
theorem cr_listStr (hc : X.calm = true) : CallR X (.type "list") (fun vs H Q => ∃ x : List Nat, vs = [V.str (S2 x)] ∧ x.length ≤ sizeLine ∧ ∀ l, H l = none → Q (.ref l) (upd H l (.lst ((signs x).map V.str)))) := by
  intro pins s σ H vs us Q I r h
  obtain ⟨x, rfl, hz, q⟩ := h
  obtain ⟨u, rfl, rx⟩ := vals1 r
  obtain ⟨t, rfl⟩ := rx
  refine call_list_str (I.ok.hd hc) _ _ (fun h' tk acc' c' hk e hacc => ?_) (by simpa using hz)
  have hs := signs_items hacc
  refine ⟨.ref s.heap.objs.size, _, I.laid (t' := tk) hk (Nat.le_refl _) (show ObjOk X.prog X.w _ h' _ (.lst ((signs x).map V.str)) from ⟨by rw [List.length_map, signs, List.length_map]; exact hz, acc'.toList, c', vals_of_strs hs, by rw [Array.toArray_toList]; exact e⟩), rfl, q _ (I.hok.fresh (Nat.le_refl _))⟩
theorem cr_sortedStr (hc : X.calm = true) : CallR X (.builtin "sorted") (fun vs H Q => ∃ x : List Nat, vs = [V.str (S2 x)] ∧ x.length ≤ sizeLine ∧ ∀ (ys : List Str) (p : Addr), ys.Perm (signs x) → sortedS ys = true → H p = none → Q (.ref p) (upd H p (.lst (ys.map V.str)))) := by
  intro pins s σ H vs us Q I r h
  obtain ⟨x, rfl, hz, q⟩ := h
  obtain ⟨u, rfl, rx⟩ := vals1 r
  obtain ⟨t, rfl⟩ := rx
  refine Calls.call_function_entry kind_sorted plain_sorted entry_sorted (args_sorted1 _) ?_
  unfold Builtin.«sorted»
  refine wpAny_bind (m := checkCount "sorted" 1 1 _) (wpAny_pure ?_)
  refine wpAny_bind (wpAny_collect_str (A := X.A.in1) (I.ok.hd hc) _ _ (fun s1 acc k1 g1 d1 o1 hacc => ?_) (by simpa using hz))
  have hs := signs_items hacc
  have hal : acc.toList.length = x.length := by rw [Array.length_toList, hacc.1]; simp
  refine wpAny_bind (wpAny_newList ?_ (by rw [hal]; exact hz))
  have hoL : (s1.heap.push (seqObj "list" acc.toList.toArray 0)).get? s1.heap.objs.size = some (seqObj "list" acc.toList.toArray 0) := Heap.get?_push_size _ rfl
  refine wpAny_bind (wpAny_holding (wpAny_call_entry slot_list_sort ⟨_, hoL, rfl⟩ entry_list_sort (list_sort_treeKAny strKind_oneLt hoL hs.keysOf (fun v₁ v₂ rest e => keyKind_strs (by rw [← e]; exact hs)) (by rw [hal]; exact hz) fun st' hp hso => ⟨_, rfl, ?_⟩) (args_list_sort _)))
  obtain ⟨ys, a1, a2, a3⟩ := sorted_out_str hs hp hso
  obtain ⟨c, hcc⟩ := sortedHeap_at (vs := acc.toList) (out := (arrOf st').map (·.2)) hoL
  have hlen : (ys.map V.str).length ≤ sizeLine := by rw [List.length_map, a2.length_eq, signs, List.length_map]; exact hz
  refine wpAny_pure ⟨_, rfl, ?_⟩
  obtain ⟨hh', gg, dd, tk, os⟩ := s1
  cases g1
  cases d1
  cases o1
  have I1 : Inv X pins σ H { s with heap := hh', toks := tk } := I.kept (t' := tk) k1
  have kk : ∀ b u, hh'.get? b = some u → (sortedHeap (hh'.push (seqObj "list" acc.toList.toArray 0)) hh'.objs.size acc.toList ((arrOf st').map (·.2))).get? b = some u := fun b u q => by
    have hlt := Heap.lt_size q
    rw [sortedHeap_old (Nat.ne_of_lt hlt) (by rw [size_push']; exact Nat.lt_succ_of_lt hlt)]
    exact Heap.get?_push_of_some _ q
  exact ⟨.ref _, upd H _ (.lst (ys.map V.str)), I1.laid (t' := tk) kk (Nat.le_refl _) ⟨hlen, _, c, vals_of_strs a1, by rw [Array.toArray_toList]; exact hcc⟩, rfl, q ys _ a2 a3 (I1.hok.fresh (Nat.le_refl _))⟩
end
end MP

namespace MP
open PySem PySem.Spec L2
open PyProof.Rows hiding St
/-! ## calls of builtins -/
def Blt.val (b : Blt) : Value := if b.ty then .type b.name else .builtin b.name
theorem Reps.ofInts {K : PySem.W.Frag} {H : Hp} {Av : Addr → Prop} {ts : List T} {vs : List V} {ns : List Int} (e : ints? ts = some ns) (r : Reps K H Av ts vs) : vs = ns.map V.int := by
  rw [of_ints? e] at r
  exact r.ints
theorem Reps.ofBools {K : PySem.W.Frag} {H : Hp} {Av : Addr → Prop} {ts : List T} {vs : List V} {ns : List Bool} (e : bools? ts = some ns) (r : Reps K H Av ts vs) : vs = ns.map V.bl := by
  rw [of_bools? e] at r
  exact r.bools
section
variable {K : PySem.W.Frag} {H : Hp} {Av : Addr → Prop}
theorem kV_key : ∀ k : Kt, kV (keyOf k) = vK k
  | .inl _ => rfl
  | .inr _ => rfl
theorem RepD.keysK : ∀ {kvs : List (Kt × T)} {ws : List (Key × V)}, RepD K H Av kvs ws → ws.map (·.1) = kvs.map fun kv => keyOf kv.1
  | [], ws, h => by simp only [RepD] at h; subst h; rfl
  | (k, t) :: kvs, ws, h => by
    simp only [RepD] at h
    obtain ⟨v, q, rfl, _, h2⟩ := h
    simp only [List.map_cons, h2.keysK]
theorem RepD.keys' {kvs : List (Kt × T)} {ws : List (Key × V)} (h : RepD K H Av kvs ws) : (ws.map fun kv => kV kv.1) = kvs.map fun kv => vK kv.1 := by
  have e := congrArg (List.map kV) h.keysK
  rw [List.map_map, List.map_map] at e
  rw [show (ws.map fun kv => kV kv.1) = List.map (kV ∘ fun x => x.fst) ws from rfl, e]
  exact List.map_congr_left fun kv _ => kV_key kv.1
theorem rep_k {k : Kt} (h : kok k = true) : Rep K H Av (tOfK k) (vK k) := by
  cases k with
  | inl i => simp [tOfK, vK, Rep]
  | inr s => simp only [tOfK, vK, Rep, true_and]; exact h
theorem reps_keys : ∀ {kvs : List (Kt × T)} {ws : List (Key × V)}, RepD K H Av kvs ws → Reps K H Av (keysT kvs) (kvs.map fun kv => vK kv.1)
  | [], ws, h => .nil
  | (k, t) :: kvs, ws, h => by
    simp only [RepD] at h
    obtain ⟨v, q, rfl, h1, h2⟩ := h
    exact .cons (rep_k h1.2) (reps_keys h2)
theorem keys_ints : ∀ {kvs : List (Kt × T)} {ns : List Int}, keysT kvs = ns.map T.int → (kvs.map fun kv => keyOf kv.1) = ns.map Sum.inl
  | [], [], _ => rfl
  | [], _ :: _, h => by simp [keysT] at h
  | _ :: _, [], h => by simp [keysT] at h
  | (k, t) :: kvs, n :: ns, h => by
    simp only [keysT, List.map_cons, List.cons.injEq] at h
    cases k with
    | inl i =>
      have e : i = n := by simpa [tOfK] using h.1
      subst e
      rw [List.map_cons, keys_ints (kvs := kvs) h.2]
      rfl
    | inr s => simp [tOfK] at h
theorem keys_strs : ∀ {kvs : List (Kt × T)} {ws : List (Key × V)} {xs : List (List Nat)}, RepD K H Av kvs ws → keysT kvs = xs.map T.str → (kvs.map fun kv => keyOf kv.1) = (xs.map S2).map Sum.inr ∧ ∀ s ∈ xs, sok s = true
  | [], _, [], _, _ => ⟨rfl, by simp⟩
  | [], _, _ :: _, _, h => by simp [keysT] at h
  | _ :: _, _, [], _, h => by simp [keysT] at h
  | (k, t) :: kvs, ws, n :: ns, r, h => by
    simp only [keysT, List.map_cons, List.cons.injEq] at h
    simp only [RepD] at r
    obtain ⟨v, q, rfl, h1, h2⟩ := r
    cases k with
    | inr i =>
      have e : i = n := by simpa [tOfK] using h.1
      subst e
      obtain ⟨i1, i2⟩ := keys_strs h2 h.2
      refine ⟨by rw [List.map_cons, i1]; rfl, fun s hs => ?_⟩
      rcases List.mem_cons.mp hs with rfl | hs
      · exact h1.2
      · exact i2 s hs
    | inl s => simp [tOfK] at h
/-! tuples as keys -/
def kOf : V → Kt
  | .int i => .inl i
  | .str s => .inr s.cps.toList
  | _ => .inl 0
theorem kOf_vK : ∀ k : Kt, kOf (vK k) = k
  | .inl _ => rfl
  | .inr _ => by simp [kOf, vK]
def kyOf (H : Hp) : V → List Kt
  | .ref t => match H t with
    | some (.tup ws) => ws.map kOf
    | _ => []
  | _ => []
theorem kts_of : ∀ {us : List T} {k : List Kt} {vs : List V}, kts? us = some k → Reps K H Av us vs → vs = k.map vK ∧ us = k.map tOfK
  | [], k, vs, e, r => by simp only [kts?, Option.some.injEq] at e; subst e; simp only [Reps] at r; subst r; exact ⟨rfl, rfl⟩
  | t :: us, k, vs, e, r => by
    simp only [kts?, Option.bind_eq_some_iff, Option.map_eq_some_iff] at e
    obtain ⟨c, e1, k', e2, rfl⟩ := e
    simp only [Reps] at r
    obtain ⟨v, q, rfl, h1, h2⟩ := r
    obtain ⟨i1, i2⟩ := kts_of e2 h2
    subst i1
    cases t <;> simp only [T.k?, Option.some.injEq] at e1 <;> (try (cases e1; done)) <;> subst e1 <;> simp only [Rep] at h1
    · subst h1; exact ⟨rfl, by rw [i2]; rfl⟩
    · obtain ⟨rfl, _⟩ := h1; exact ⟨rfl, by rw [i2]; rfl⟩
theorem tups_at : ∀ {z : List T} {ks : List (List Kt)} {vs : List V}, Reps K H Av z vs → tups? z = some ks → ∀ x ∈ vs, (∃ t, x = V.ref t ∧ H t = some (.tup ((kyOf H x).map vK))) ∧ Rep K H Av (tupT (kyOf H x)) x
  | [], ks, vs, r, e => by simp only [Reps] at r; subst r; intro x h; simp at h
  | t :: z, ks, vs, r, e => by
    simp only [tups?, Option.bind_eq_some_iff, Option.map_eq_some_iff] at e
    obtain ⟨c, e1, k', e2, rfl⟩ := e
    simp only [Reps] at r
    obtain ⟨v, q, rfl, h1, h2⟩ := r
    intro x hx
    rcases List.mem_cons.mp hx with rfl | hx
    · cases t <;> simp only [T.tupK?] at e1 <;> (try (cases e1; done))
      have h0 := h1
      simp only [Rep] at h1
      obtain ⟨a, vs, rfl, na, g, rr⟩ := h1
      obtain ⟨i1, i2⟩ := kts_of e1 rr
      have e3 : kyOf H (V.ref a) = c := by
        simp only [kyOf, g, i1, List.map_map]
        conv => rhs; rw [← List.map_id c]
        exact List.map_congr_left fun k _ => kOf_vK k
      rw [e3]
      refine ⟨⟨a, rfl, by rw [g, i1]⟩, ?_⟩
      unfold tupT
      rw [← i2]; exact h0
    · exact tups_at h2 e2 x hx
theorem tups_map : ∀ {z : List T} {ks : List (List Kt)} {vs : List V}, Reps K H Av z vs → tups? z = some ks → vs.map (kyOf H) = ks
  | [], ks, vs, r, e => by simp only [Reps] at r; subst r; simp only [tups?, Option.some.injEq] at e; subst e; rfl
  | t :: z, ks, vs, r, e => by
    simp only [tups?, Option.bind_eq_some_iff, Option.map_eq_some_iff] at e
    obtain ⟨c, e1, k', e2, rfl⟩ := e
    simp only [Reps] at r
    obtain ⟨v, q, rfl, h1, h2⟩ := r
    rw [List.map_cons, tups_map h2 e2]
    cases t <;> simp only [T.tupK?] at e1 <;> (try (cases e1; done))
    simp only [Rep] at h1
    obtain ⟨a, vs, rfl, na, g, rr⟩ := h1
    obtain ⟨i1, i2⟩ := kts_of e1 rr
    have e3 : kyOf H (V.ref a) = c := by
      simp only [kyOf, g, i1, List.map_map]
      conv => rhs; rw [← List.map_id c]
      exact List.map_congr_left fun k _ => kOf_vK k
    rw [e3]
theorem tups_reps {f : V → T} : ∀ {ys : List V}, (∀ x ∈ ys, Rep K H Av (f x) x) → Reps K H Av (ys.map f) ys
  | [], _ => .nil
  | y :: ys, h => .cons (h y (by simp)) (tups_reps fun x hx => h x (List.mem_cons_of_mem _ hx))
/-! pairs to a dict -/
theorem RepD.nil' : RepD K H Av [] [] := by simp only [RepD]
theorem keyOf_inj {k k' : Kt} : (keyOf k' = keyOf k) ↔ k' = k := by
  constructor
  · intro e
    cases k' <;> cases k <;> simp [keyOf] at e <;> simp [e]
  · intro e; rw [e]
theorem RepD.put {k : Kt} {t : T} {v : V} (hv : Rep K H Av t v) (hk : kok k = true) {kvs : List (Kt × T)} {ws : List (Key × V)} (h : RepD K H Av kvs ws) : RepD K H Av (putT kvs k t) (putK ws (keyOf k) v) := by
  have any : ∀ {kvs : List (Kt × T)} {ws : List (Key × V)}, RepD K H Av kvs ws → (kvs.any fun kv => decide (kv.1 = k)) = ws.any fun kv => decide (kv.1 = keyOf k) := by
    intro kvs
    induction kvs with
    | nil => intro ws h; simp only [RepD] at h; subst h; rfl
    | cons kv kvs ih =>
      intro ws h
      obtain ⟨k', t'⟩ := kv
      simp only [RepD] at h
      obtain ⟨v', q, rfl, _, h2⟩ := h
      simp only [List.any_cons, ih h2, keyOf_inj]
  have mp : ∀ {kvs : List (Kt × T)} {ws : List (Key × V)}, RepD K H Av kvs ws → RepD K H Av (kvs.map fun kv => if kv.1 = k then (k, t) else kv) (ws.map fun kv => if kv.1 = keyOf k then (kv.1, v) else kv) := by
    intro kvs
    induction kvs with
    | nil => intro ws h; simp only [RepD] at h; subst h; exact .nil'
    | cons kv kvs ih =>
      intro ws h
      obtain ⟨k', t'⟩ := kv
      simp only [RepD] at h
      obtain ⟨v', q, rfl, h1, h2⟩ := h
      simp only [List.map_cons, keyOf_inj]
      by_cases z : k' = k
      · subst z
        rw [if_pos rfl, if_pos rfl]
        simp only [RepD]
        exact ⟨v, _, rfl, ⟨hv, hk⟩, ih h2⟩
      · rw [if_neg z, if_neg z]
        simp only [RepD]
        exact ⟨v', _, rfl, h1, ih h2⟩
  have ap : ∀ {kvs : List (Kt × T)} {ws : List (Key × V)}, RepD K H Av kvs ws → RepD K H Av (kvs ++ [(k, t)]) (ws ++ [(keyOf k, v)]) := by
    intro kvs
    induction kvs with
    | nil => intro ws h; simp only [RepD] at h; subst h; simp only [List.nil_append, RepD]; exact ⟨v, [], rfl, ⟨hv, hk⟩, rfl⟩
    | cons kv kvs ih =>
      intro ws h
      obtain ⟨k', t'⟩ := kv
      simp only [RepD] at h
      obtain ⟨v', q, rfl, h1, h2⟩ := h
      simp only [List.cons_append, RepD]
      exact ⟨v', _, rfl, h1, ih h2⟩
  unfold putT putK
  rw [any h]
  split
  · exact mp h
  · exact ap h
theorem RepD.merge : ∀ {ps : List (Kt × T)} {qs : List (Key × V)} {kvs : List (Kt × T)} {ws : List (Key × V)}, RepD K H Av ps qs → RepD K H Av kvs ws → RepD K H Av (mergeT kvs ps) (mergeK ws qs)
  | [], qs, kvs, ws, h, h' => by simp only [RepD] at h; subst h; exact h'
  | (k, t) :: ps, qs, kvs, ws, h, h' => by
    simp only [RepD] at h
    obtain ⟨v, q, rfl, h1, h2⟩ := h
    have h3 := RepD.put h1.1 h1.2 h'
    show RepD K H Av (mergeT (putT kvs k t) ps) (mergeK (putK ws (keyOf k) v) q)
    exact RepD.merge h2 h3
theorem rep_tK {t : T} {k : Kt} {v : V} (e : t.k? = some k) (h : Rep K H Av t v) : v = vK k ∧ kok k = true ∧ t = tOfK k := by
  cases t <;> simp only [T.k?, Option.some.injEq] at e <;> (try (cases e; done)) <;> subst e <;> simp only [Rep] at h
  · exact ⟨h, rfl, rfl⟩
  · exact ⟨h.1, h.2, rfl⟩
theorem pairs_at : ∀ {z : List T} {ps : List (Kt × T)} {vs : List V}, Reps K H Av z vs → pairs? z = some ps → ∃ (qs : List Addr) (kvs : List (Key × V)), vs = qs.map V.ref ∧ Paired (fun p (kv : Key × V) => H p = some (.tup [kV kv.1, kv.2])) qs kvs ∧ RepD K H Av ps kvs
  | [], ps, vs, r, e => by simp only [Reps] at r; subst r; simp only [pairs?, Option.some.injEq] at e; subst e; exact ⟨[], [], rfl, .nil, .nil'⟩
  | t :: z, ps, vs, r, e => by
    simp only [pairs?, Option.bind_eq_some_iff, Option.map_eq_some_iff] at e
    obtain ⟨c, e1, k', e2, rfl⟩ := e
    simp only [Reps] at r
    obtain ⟨v, q, rfl, h1, h2⟩ := r
    obtain ⟨qs, kvs, rfl, pr, rd⟩ := pairs_at h2 e2
    match t, e1, h1 with
    | .tup [a, b], e1, h1 =>
      simp only [pair?, Option.map_eq_some_iff] at e1
      obtain ⟨k, e4, rfl⟩ := e1
      simp only [Rep, Reps] at h1
      obtain ⟨p, ws, rfl, na, g, x, _, rfl, hx, y, _, rfl, hy, rfl⟩ := h1
      obtain ⟨rfl, hk, rfl⟩ := rep_tK e4 hx
      refine ⟨p :: qs, (keyOf k, y) :: kvs, rfl, .cons (by rw [g, kV_key]) pr, ?_⟩
      simp only [RepD]
      exact ⟨y, kvs, rfl, ⟨hy, hk⟩, rd⟩
    | .non, e1, _ => simp [pair?] at e1
    | .bl _, e1, _ => simp [pair?] at e1
    | .int _, e1, _ => simp [pair?] at e1
    | .str _, e1, _ => simp [pair?] at e1
    | .lst _, e1, _ => simp [pair?] at e1
    | .ro _, e1, _ => simp [pair?] at e1
    | .dct _, e1, _ => simp [pair?] at e1
    | .exc _, e1, _ => simp [pair?] at e1
    | .tup [], e1, _ => simp [pair?] at e1
    | .tup [_], e1, _ => simp [pair?] at e1
    | .tup (_ :: _ :: _ :: _), e1, _ => simp [pair?] at e1
end
section
variable {X : Cx}
theorem Blt.ok (hc : X.calm = true) (b : Blt) : CallR X b.val (rCall X.K b.sem) := by
  intro pins s σ H xs us Q I r h
  obtain ⟨ts, q, Av, tr, p, e, k⟩ := h
  cases b <;> simp only [Blt.val, Blt.ty, Blt.name, if_true, Bool.false_eq_true, if_false]
  case len =>
    cases p with
    | nil => simp [Blt.sem] at e
    | cons h1 p =>
      rename_i t x ts xs
      cases p with
      | cons h2 p => cases t <;> simp [Blt.sem] at e
      | nil =>
        cases t <;> simp only [Blt.sem] at e <;> try (cases e; done)
        case str z =>
          split at e
          · cases e
            rename_i hl
            simp only [Rdb] at h1
            obtain ⟨rfl, _⟩ := h1
            exact call_len pins s σ H _ us Q I r ⟨_, z.length, rfl, ⟨by rw [s2_length, line]; exact hl, (s2_length z).symm⟩, k _ _ _ (.same tr (by simp [Rep]))⟩
          · cases e
        case lst z =>
          cases e
          simp only [Rdb] at h1
          obtain ⟨a, vs, rfl, g, rr⟩ := h1
          exact call_len pins s σ H _ us Q I r ⟨_, z.length, rfl, .inl ⟨vs, .of g, rr.length⟩, k _ _ _ (.same tr (by simp [Rep]))⟩
        case tup z =>
          cases e
          simp only [Rdb] at h1
          obtain ⟨a, vs, rfl, _, g, rr⟩ := h1
          exact call_len pins s σ H _ us Q I r ⟨_, z.length, rfl, .inr ⟨vs, .of g, rr.length⟩, k _ _ _ (.same tr (by simp [Rep]))⟩
        case ro z =>
          cases e
          simp only [Rdb] at h1
          obtain ⟨a, rfl, g⟩ := h1
          exact call_len pins s σ H _ us Q I r ⟨_, z.length, rfl, .inl ⟨_, g, by simp⟩, k _ _ _ (.same tr (by simp [Rep]))⟩
        case dct z =>
          cases e
          simp only [Rdb] at h1
          obtain ⟨a, ws, rfl, g, rr⟩ := h1
          have hl : ∀ {kvs : List (Kt × T)} {ws : List (Key × V)}, RepD X.K H Av kvs ws → kvs.length = ws.length := by
            intro kvs
            induction kvs with
            | nil => intro ws h; simp only [RepD] at h; subst h; rfl
            | cons kv kvs ih => intro ws h; obtain ⟨k, t⟩ := kv; simp only [RepD] at h; obtain ⟨v, q, rfl, _, h2⟩ := h; simp [ih h2]
          obtain ⟨u, rfl, ru⟩ := vals1 r
          cases ru
          exact d_len I g fun t s' I' => ⟨.int ws.length, H, I', ⟨t, rfl⟩, k _ _ _ (.same tr (by simp [Rep, hl rr]))⟩
  case abs =>
    cases p with
    | nil => simp [Blt.sem] at e
    | cons h1 p =>
      rename_i t x ts xs
      cases p with
      | cons h2 p => cases t <;> simp [Blt.sem] at e
      | nil =>
        cases t <;> simp only [Blt.sem] at e <;> try (cases e; done)
        case int z => cases e; simp only [Rdb] at h1; subst h1; exact call_abs pins s σ H _ us Q I r ⟨z, rfl, k _ _ _ (.same tr (by simp [Rep]))⟩
  case min =>
    cases p with
    | nil => simp [Blt.sem] at e
    | cons h1 p =>
      rename_i t x ts xs
      cases p with
      | nil =>
        cases t <;> (try (simp [Blt.sem] at e; done))
        rename_i l
        simp only [Blt.sem, Option.bind_eq_some_iff, Option.map_eq_some_iff] at e
        obtain ⟨ns, e1, m, e2, rfl⟩ := e
        simp only [Rdb] at h1
        obtain ⟨a, vs, rfl, g, rr⟩ := h1
        have := rr.ofInts e1
        subst this
        refine cr_min hc pins s σ H _ us Q I r ⟨a, ns, rfl, .of g, ?_, fun m' h1 h2 => ?_⟩
        · cases ns with
          | nil => simp at e2
          | cons => simp
        · have em : m' = m := by
            rw [List.min?_eq_some_iff] at e2
            have := e2.2 _ h1
            have := h2 _ e2.1
            omega
          subst em
          exact k _ _ _ (.same tr (by simp [Rep]))
      | cons h2 p =>
        rename_i t2 x2 ts xs
        cases p with
        | cons h3 p => cases t <;> cases t2 <;> simp [Blt.sem] at e
        | nil =>
          cases t <;> cases t2 <;> simp only [Blt.sem] at e <;> try (cases e; done)
          case int.int i j => cases e; simp only [Rdb] at h1 h2; subst h1 h2; exact call_min2 hc pins s σ H _ us Q I r ⟨i, j, rfl, k _ _ _ (.same tr (by simp [Rep]))⟩
  case max =>
    cases p with
    | nil => simp [Blt.sem] at e
    | cons h1 p =>
      rename_i t x ts xs
      cases p with
      | nil =>
        cases t <;> (try (simp [Blt.sem] at e; done))
        rename_i l
        simp only [Blt.sem, Option.bind_eq_some_iff, Option.map_eq_some_iff] at e
        obtain ⟨ns, e1, m, e2, rfl⟩ := e
        simp only [Rdb] at h1
        obtain ⟨a, vs, rfl, g, rr⟩ := h1
        have := rr.ofInts e1
        subst this
        refine cr_max hc pins s σ H _ us Q I r ⟨a, ns, rfl, .of g, ?_, fun m' h1 h2 => ?_⟩
        · cases ns with
          | nil => simp at e2
          | cons => simp
        · have em : m' = m := by
            rw [List.max?_eq_some_iff] at e2
            have := e2.2 _ h1
            have := h2 _ e2.1
            omega
          subst em
          exact k _ _ _ (.same tr (by simp [Rep]))
      | cons h2 p =>
        rename_i t2 x2 ts xs
        cases p with
        | cons h3 p => cases t <;> cases t2 <;> simp [Blt.sem] at e
        | nil =>
          cases t <;> cases t2 <;> simp only [Blt.sem] at e <;> try (cases e; done)
          case int.int i j => cases e; simp only [Rdb] at h1 h2; subst h1 h2; exact call_max2 hc pins s σ H _ us Q I r ⟨i, j, rfl, k _ _ _ (.same tr (by simp [Rep]))⟩
  case int =>
    cases p with
    | nil => simp [Blt.sem] at e
    | cons h1 p =>
      rename_i t x ts xs
      cases p with
      | cons h2 p => cases t <;> simp [Blt.sem] at e
      | nil =>
        cases t <;> simp only [Blt.sem] at e <;> try (cases e; done)
        case int z => cases e; simp only [Rdb] at h1; subst h1; exact call_int1 pins s σ H _ us Q I r (.inl ⟨z, rfl, k _ _ _ (.same tr (by simp [Rep]))⟩)
        case bl z => cases e; simp only [Rdb] at h1; subst h1; exact call_int1 pins s σ H _ us Q I r (.inr ⟨z, rfl, k _ _ _ (.same tr (by simp [Rep]))⟩)
  case list =>
    cases p with
    | nil => simp [Blt.sem] at e
    | cons h1 p =>
      rename_i t x ts xs
      cases p with
      | cons h2 p => cases t <;> simp [Blt.sem] at e
      | nil =>
        cases t <;> simp only [Blt.sem] at e <;> try (cases e; done)
        case lst z =>
          cases e
          simp only [Rdb] at h1
          obtain ⟨a, vs, rfl, g, rr⟩ := h1
          exact call_list_of pins s σ H _ us Q I r ⟨a, vs, rfl, .inl (.of g), fun l hl => k _ _ _ (.lst tr hl rr)⟩
        case tup z =>
          cases e
          simp only [Rdb] at h1
          obtain ⟨a, vs, rfl, _, g, rr⟩ := h1
          exact call_list_of pins s σ H _ us Q I r ⟨a, vs, rfl, .inr (.of g), fun l hl => k _ _ _ (.lst tr hl rr)⟩
        case dct z =>
          cases e
          simp only [Rdb] at h1
          obtain ⟨a, ws, rfl, g, rr⟩ := h1
          exact call_listD hc pins s σ H _ us Q I r ⟨a, ws, rfl, g, fun l hl => k _ _ _ (.lst tr hl (by rw [rr.keys']; exact reps_keys rr))⟩
        case str z =>
          split at e
          · rename_i hl
            cases e
            simp only [Rdb] at h1
            obtain ⟨rfl, so⟩ := h1
            refine cr_listStr hc pins s σ H _ us Q I r ⟨z, rfl, by rw [line]; exact hl, fun l hl => k _ _ _ (.lst tr hl ?_)⟩
            have := Reps.of_strs (K := X.K) (H := H) (Av := Av) (z.map fun c => [c]) (fun s hs => by
              obtain ⟨c, hc, rfl⟩ := List.mem_map.mp hs
              exact sok_one so hc)
            rw [List.map_map, List.map_map] at this
            rw [signs, List.map_map]
            exact this
          · cases e
        case ro z =>
          cases e
          simp only [Rdb] at h1
          obtain ⟨a, rfl, g⟩ := h1
          exact call_list_of pins s σ H _ us Q I r ⟨a, _, rfl, .inl g, fun l hl => k _ _ _ (.lst tr hl (.of_ints z))⟩
  case tuple =>
    cases p with
    | nil => simp [Blt.sem] at e
    | cons h1 p =>
      rename_i t x ts xs
      cases p with
      | cons h2 p => cases t <;> simp [Blt.sem] at e
      | nil =>
        cases t <;> simp only [Blt.sem] at e <;> try (cases e; done)
        case lst z =>
          cases e
          simp only [Rdb] at h1
          obtain ⟨a, vs, rfl, g, rr⟩ := h1
          exact call_tuple_of pins s σ H _ us Q I r ⟨a, vs, rfl, .inl ⟨.of g, fun l hl => k _ _ _ (.tup tr hl rr)⟩⟩
        case tup z =>
          cases e
          have h0 := h1
          simp only [Rdb] at h1
          obtain ⟨a, vs, rfl, n1, g, rr⟩ := h1
          exact call_tuple_of pins s σ H _ us Q I r ⟨a, vs, rfl, .inr ⟨.of g, k _ _ _ (.same tr (by simp only [Rep]; exact ⟨a, vs, rfl, n1, g, rr⟩))⟩⟩
  case sum =>
    cases p with
    | nil => simp [Blt.sem] at e
    | cons h1 p =>
      rename_i t x ts xs
      cases p with
      | cons h2 p => cases t <;> simp [Blt.sem] at e
      | nil =>
        cases t <;> simp only [Blt.sem, Option.map_eq_some_iff] at e <;> try (cases e; done)
        case lst z =>
          obtain ⟨ns, e, rfl⟩ := e
          simp only [Rdb] at h1
          obtain ⟨a, vs, rfl, g, rr⟩ := h1
          have := rr.ofInts e
          subst this
          exact cr_sum hc pins s σ H _ us Q I r ⟨a, ns, rfl, .of g, k _ _ _ (.same tr (by simp [Rep]))⟩
  case any =>
    cases p with
    | nil => simp [Blt.sem] at e
    | cons h1 p =>
      rename_i t x ts xs
      cases p with
      | cons h2 p => cases t <;> simp [Blt.sem] at e
      | nil =>
        cases t <;> simp only [Blt.sem, Option.map_eq_some_iff] at e <;> try (cases e; done)
        case lst z =>
          obtain ⟨ns, e, rfl⟩ := e
          simp only [Rdb] at h1
          obtain ⟨a, vs, rfl, g, rr⟩ := h1
          have := rr.ofBools e
          subst this
          exact cr_any hc pins s σ H _ us Q I r ⟨a, ns, rfl, .of g, k _ _ _ (.same tr (by simp [Rep]))⟩
  case all =>
    cases p with
    | nil => simp [Blt.sem] at e
    | cons h1 p =>
      rename_i t x ts xs
      cases p with
      | cons h2 p => cases t <;> simp [Blt.sem] at e
      | nil =>
        cases t <;> simp only [Blt.sem, Option.map_eq_some_iff] at e <;> try (cases e; done)
        case lst z =>
          obtain ⟨ns, e, rfl⟩ := e
          simp only [Rdb] at h1
          obtain ⟨a, vs, rfl, g, rr⟩ := h1
          have := rr.ofBools e
          subst this
          exact cr_all hc pins s σ H _ us Q I r ⟨a, ns, rfl, .of g, k _ _ _ (.same tr (by simp [Rep]))⟩
  case sorted =>
    cases p with
    | nil => simp [Blt.sem] at e
    | cons h1 p =>
      rename_i t x ts xs
      cases p with
      | cons h2 p => cases t <;> simp [Blt.sem] at e
      | nil =>
        cases t <;> (try (simp [Blt.sem] at e; done))
        case lst z =>
          simp only [Blt.sem, Option.map_eq_some_iff] at e
          obtain ⟨l, e, rfl⟩ := e
          simp only [Rdb] at h1
          obtain ⟨a, vs, rfl, g, rr⟩ := h1
          unfold sortSem at e
          cases e1 : ints? z with
          | some ns =>
            rw [e1] at e; cases e
            have := rr.ofInts e1
            subst this
            exact cr_sortedI pins s σ H _ us Q I r ⟨a, ns, rfl, .of g, fun ns' p h1 h2 hp => by rw [sortI_of h1 h2] ; exact k _ _ _ (.lst tr hp (.of_ints _))⟩
          | none =>
            rw [e1] at e
            cases e2 : strs? z with
            | some xs =>
              rw [e2] at e; cases e
              rw [of_strs? e2] at rr
              obtain ⟨ev, so⟩ := rr.strs
              have em : vs = (xs.map S2).map V.str := by rw [ev, List.map_map]; rfl
              refine cr_sortedSA pins s σ H _ us Q I r ⟨a, xs.map S2, rfl, .of (by rw [g, em]), fun ys p h1 h2 hp => ?_⟩
              rw [sorted_s2 h1 h2, List.map_map]
              exact k _ _ _ (.lst tr hp (.of_strs _ fun s hs => so s ((sortS_perm xs).mem_iff.mp hs)))
            | none =>
              rw [e2] at e
              cases e3 : tups? z with
              | none => rw [e3] at e; cases e
              | some ks =>
                rw [e3] at e
                simp only at e
                split at e
                · rename_i hsh
                  cases e
                  have ht := tups_at rr e3
                  have em : vs.map (kyOf H) = ks := tups_map rr e3
                  refine cr_sortedTu pins s σ H _ us Q I r ⟨a, vs, kyOf H, rfl, .of g, by rw [em]; exact hsh, fun x hx => (ht x hx).1, fun ys p h1 h2 hp => ?_⟩
                  have e4 : ys.map (kyOf H) = sortK ks := sortK_of (by rw [← em]; exact h1.map _) h2
                  refine k _ _ _ (.lst tr hp ?_)
                  rw [← e4, List.map_map]
                  exact tups_reps fun x hx => (ht x (h1.mem_iff.mp hx)).2
                · cases e
        case str z =>
          simp only [Blt.sem] at e
          split at e
          · rename_i hl
            cases e
            simp only [Rdb] at h1
            obtain ⟨rfl, so⟩ := h1
            refine cr_sortedStr hc pins s σ H _ us Q I r ⟨z, rfl, by rw [line]; exact hl, fun ys p h1 h2 hp => ?_⟩
            rw [sorted_s2 (xs := z.map fun c => [c]) (by rw [List.map_map]; exact h1) h2, List.map_map]
            exact k _ _ _ (.lst tr hp (.of_strs _ fun s hs => by
              obtain ⟨c, hc, rfl⟩ := List.mem_map.mp ((sortS_perm _).mem_iff.mp hs)
              exact sok_one so hc))
          · cases e
        case dct z =>
          simp only [Blt.sem] at e
          split at e
          · rename_i h64
            simp only [Rdb] at h1
            obtain ⟨a, ws, rfl, g, rr⟩ := h1
            have hk := rr.keysK
            cases e1 : ints? (keysT z) with
            | some ns =>
              rw [e1] at e; cases e
              have e2 := of_ints? e1
              have e3 : ws.map (·.1) = ns.map Sum.inl := by
                rw [hk]
                exact keys_ints e2
              exact call_sortedDI hc pins s σ H _ us Q I r ⟨a, ws, ns, rfl, g, e3, by
                have := congrArg List.length e2
                simp [keysT] at this
                omega, fun ns' p h1 h2 hp => by rw [sortI_of h1 h2] ; exact k _ _ _ (.lst tr hp (.of_ints _))⟩
            | none =>
              rw [e1] at e
              simp only at e
              cases e2 : strs? (keysT z) with
              | none => rw [e2] at e; cases e
              | some xs =>
                rw [e2] at e; cases e
                have e4 := of_strs? e2
                obtain ⟨e3, so⟩ := keys_strs rr e4
                refine call_sortedD hc pins s σ H _ us Q I r ⟨a, ws, xs.map S2, rfl, g, by rw [hk, e3], by
                  have := congrArg List.length e4
                  simp [keysT] at this
                  simp; omega, fun ys p h1 h2 hp => ?_⟩
                rw [sorted_s2 h1 h2, List.map_map]
                exact k _ _ _ (.lst tr hp (.of_strs _ fun s hs => so s ((sortS_perm xs).mem_iff.mp hs)))
          · cases e
  case dict =>
    cases p with
    | nil => simp [Blt.sem] at e
    | cons h1 p =>
      rename_i t x ts xs
      cases p with
      | cons h2 p => cases t <;> simp [Blt.sem] at e
      | nil =>
        cases t <;> (try (simp [Blt.sem] at e; done))
        case lst z =>
          simp only [Blt.sem, Option.map_eq_some_iff] at e
          obtain ⟨ps, e, rfl⟩ := e
          simp only [Rdb] at h1
          obtain ⟨a, vs, rfl, g, rr⟩ := h1
          obtain ⟨qs, kvs, e1, pr, rd⟩ := pairs_at rr e
          exact call_dictP hc pins s σ H _ us Q I r ⟨a, qs, kvs, rfl, .of (by rw [g, e1]), pr.mono fun p kv h => .of h, fun p hp => k _ _ _ (.dct tr hp (RepD.merge rd .nil'))⟩
        case dct z =>
          simp only [Blt.sem, Option.some.injEq] at e
          subst e
          simp only [Rdb] at h1
          obtain ⟨a, ws, rfl, g, rr⟩ := h1
          exact call_dictD pins s σ H _ us Q I r ⟨a, ws, rfl, g, fun p hp => k _ _ _ (.dct tr hp rr)⟩
  case str =>
    cases p with
    | nil => simp [Blt.sem] at e
    | cons h1 p =>
      rename_i t x ts xs
      cases p with
      | cons h2 p => cases t <;> simp [Blt.sem] at e
      | nil =>
        cases t <;> (try (simp [Blt.sem] at e; done))
        case int i =>
          simp only [Blt.sem] at e
          split at e
          · rename_i hz
            cases e
            simp only [Rdb] at h1
            subst h1
            exact call_str_int pins s σ H _ us Q I r ⟨i, rfl, hz.2, k _ _ _ (.same tr (by simp only [Rep]; exact ⟨rfl, hz.1⟩))⟩
          · cases e
  all_goals (simp [Blt.sem] at e)
end
end MP

namespace MP
open PySem PySem.Spec L2
open PyProof.Rows hiding St
/-! ## what a step is to reach -/
abbrev Rp (α β : Type) := Hp → (Addr → Prop) → Env → St → Hp → α → β → Prop
def Post {α β : Type} (K : PySem.W.Frag) (mg : Str → Option Value) (W : WX) (rp : Rp α β) (ρ : Env) (σ : St) (Av : Addr → Prop) (H : Hp) (x : Res α) (Q : β → Hp → Prop) : Prop :=
  match x with
  | .ok r ρ' => ∀ v Av' H', Nx K ρ σ Av H ρ' Av' H' → rp H Av' ρ' σ H' r v → Q v H'
  | .exc c ρ' => ∀ cls Av' H', mg c = some cls → Nx K ρ σ Av H ρ' Av' H' → W cls none σ H'
  | .bad => False
inductive RepRs (K : PySem.W.Frag) (H0 : Hp) (Av : Addr → Prop) (ρ : Env) (σ : St) (H : Hp) : List R → List V → Prop
  | nil : RepRs K H0 Av ρ σ H [] []
  | cons {r v rs vs} : RepR K H0 Av ρ σ H r v → RepRs K H0 Av ρ σ H rs vs → RepRs K H0 Av ρ σ H (r :: rs) (v :: vs)
abbrev rpB : Rp Bool Bool := fun _ _ _ _ _ a b => a = b
/-- a result seen from an earlier start -/
class RpOk (K : PySem.W.Frag) {α β : Type} (rp : Rp α β) : Prop where
  back : ∀ {ρ ρ' ρ2 : Env} {σ : St} {Av Av' Av2 : Addr → Prop} {H H' H2 : Hp} {q : α} {v : β}, Nx K ρ σ Av H ρ' Av' H' → Shp ρ ρ2 → rp H' Av2 ρ2 σ H2 q v → rp H Av2 ρ2 σ H2 q v
instance {K : PySem.W.Frag} : RpOk K (RepR K) := ⟨fun n s h => n.backR s h⟩
instance {K : PySem.W.Frag} : RpOk K rpB := ⟨fun _ _ h => h⟩
instance {K : PySem.W.Frag} : RpOk K (RepRs K) := ⟨fun n s h => by
  induction h with
  | nil => exact .nil
  | cons a _ ih => exact .cons (n.backR s a) ih⟩
section
variable {K : PySem.W.Frag} {mg : Str → Option Value} {W : WX} {α β γ δ : Type} {rp : Rp α β} {rp2 : Rp γ δ} {ρ : Env} {σ : St} {Av : Addr → Prop} {H : Hp}
theorem Post.mono {x : Res α} {Q Q' : β → Hp → Prop} (h : Post K mg W rp ρ σ Av H x Q) (i : ∀ v H', Q v H' → Q' v H') : Post K mg W rp ρ σ Av H x Q' := by
  cases x with
  | ok r ρ' => exact fun v Av' H' n r => i v H' (h v Av' H' n r)
  | exc c ρ' => exact h
  | bad => exact h
/-- from a later start -/
theorem Post.later [ro : RpOk K rp] {x : Res α} {Q : β → Hp → Prop} {ρ1 : Env} {Av1 : Addr → Prop} {H1 : Hp} (rl : Rel K Av ρ σ H) (h : Post K mg W rp ρ σ Av H x Q) (n : Nx K ρ σ Av H ρ1 Av1 H1) : Post K mg W rp ρ1 σ Av1 H1 x Q := by
  cases x with
  | ok r2 ρ2 => exact fun v2 Av2 H2 n2 q2 => h v2 Av2 H2 (n.trans rl n2) (ro.back n (n.shp.trans n2.shp) q2)
  | exc c ρ2 => exact fun cls Av2 H2 m n2 => h cls Av2 H2 m (n.trans rl n2)
  | bad => exact h
theorem Post.bind0 {x : Res α} {f : α → Env → Res γ} {Q : δ → Hp → Prop} (h : Post K mg W rp2 ρ σ Av H (x.bind f) Q) :
    Post K mg W rp ρ σ Av H x fun v H1 => ∃ r ρ1 Av1, x = .ok r ρ1 ∧ Nx K ρ σ Av H ρ1 Av1 H1 ∧ rp H Av1 ρ1 σ H1 r v ∧ Post K mg W rp2 ρ σ Av H (f r ρ1) Q := by
  cases x with
  | ok r ρ1 => exact fun v Av1 H1 n1 q1 => ⟨r, ρ1, Av1, rfl, n1, q1, h⟩
  | exc c ρ1 => exact h
  | bad => exact h
theorem Post.bind [RpOk K rp2] {x : Res α} {f : α → Env → Res γ} {Q : δ → Hp → Prop} (rl : Rel K Av ρ σ H) (h : Post K mg W rp2 ρ σ Av H (x.bind f) Q) :
    Post K mg W rp ρ σ Av H x fun v H1 => ∃ r ρ1 Av1, x = .ok r ρ1 ∧ Nx K ρ σ Av H ρ1 Av1 H1 ∧ rp H Av1 ρ1 σ H1 r v ∧ Post K mg W rp2 ρ1 σ Av1 H1 (f r ρ1) Q :=
  h.bind0.mono fun _ _ ⟨r, ρ1, Av1, e, n1, q1, p⟩ => ⟨r, ρ1, Av1, e, n1, q1, p.later rl n1⟩
theorem RepRs.nx {H0 : Hp} {ρ' : Env} {Av' : Addr → Prop} {H' : Hp} (rl : Rel K Av ρ σ H) (n : Nx K ρ σ Av H ρ' Av' H') {rs : List R} {vs : List V} (h : RepRs K H0 Av ρ σ H rs vs) : RepRs K H0 Av' ρ' σ H' rs vs := by
  induction h with
  | nil => exact .nil
  | cons a _ ih => exact .cons (n.repR rl a) ih
theorem RepRs.gets {H0 : Hp} (rl : Rel K Av ρ σ H) {rs : List R} {vs : List V} (h : RepRs K H0 Av ρ σ H rs vs) : ∀ {ts : List T}, MP.gets ρ rs = some ts → Paired (Rdb K H Av) ts vs := by
  induction h with
  | nil => intro ts e; simp [MP.gets] at e; subst e; exact .nil
  | cons a _ ih =>
    intro ts e
    simp only [MP.gets, Option.bind_eq_some_iff, Option.map_eq_some_iff] at e
    obtain ⟨t, e1, ts', e2, rfl⟩ := e
    exact .cons (a.rdb rl e1) (ih e2)
theorem RepRs.cleans {ρ' : Env} {Av' : Addr → Prop} {H' : Hp} (n : Nx K ρ σ Av H ρ' Av' H') (tr : Tr Av H) {rs : List R} {vs : List V} (h : RepRs K H Av' ρ' σ H' rs vs) : ∀ {ts : List T}, MP.cleans rs = some ts → Reps K H' Av ts vs := by
  induction h with
  | nil => intro ts e; simp [MP.cleans] at e; subst e; exact .nil
  | cons a _ ih =>
    intro ts e
    simp only [MP.cleans, Option.bind_eq_some_iff, Option.map_eq_some_iff] at e
    obtain ⟨t, e1, ts', e2, rfl⟩ := e
    exact .cons (n.cleanR tr a e1) (ih e2)
/-- a bare end -/
theorem Post.lift {o : Option R} {Q : VK} (h : Post K mg W (RepR K) ρ σ Av H (liftR o ρ) Q) : ∃ q, o = some q ∧ (Rel K Av ρ σ H → ∀ v Av' H', Made K Av H q v Av' H' → Q v H') := by
  cases o with
  | none => exact h.elim
  | some q => exact ⟨q, rfl, fun rl v Av' H' m => h v Av' H' (m.nx rl) (m.repR rl)⟩
theorem Post.bool {o : Option Bool} {Q : VK} (tr : Tr Av H) (rl : Rel K Av ρ σ H) (h : Post K mg W (RepR K) ρ σ Av H (boolR o ρ) Q) : ∃ q, o = some q ∧ Q (.bl q) H := by
  cases o with
  | none => exact h.elim
  | some q => exact ⟨q, rfl, h _ Av H (.refl rl tr) (by simp [RepR, Rep])⟩
end
def tE (K : PySem.W.Frag) (mg : Str → Option Value) (W : WX) (e : E) : TE := fun σ H Q => ∃ ρ Av, Rel K Av ρ σ H ∧ Tr Av H ∧ Post K mg W (RepR K) ρ σ Av H (ev e ρ) Q
def tEs (K : PySem.W.Frag) (mg : Str → Option Value) (W : WX) (es : List E) : TA := fun σ H Q => ∃ ρ Av, Rel K Av ρ σ H ∧ Tr Av H ∧ Post K mg W (RepRs K) ρ σ Av H (evs es ρ) Q
def tT (K : PySem.W.Frag) (mg : Str → Option Value) (W : WX) (e : E) : TT := fun σ H Q => ∃ ρ Av, Rel K Av ρ σ H ∧ Tr Av H ∧ Post K mg W rpB ρ σ Av H (truthR (ev e ρ)) Q
def tC (K : PySem.W.Frag) (mg : Str → Option Value) (W : WX) (es : List E) : TT := fun σ H Q => ∃ ρ Av, Rel K Av ρ σ H ∧ Tr Av H ∧ Post K mg W rpB ρ σ Av H (evC es ρ) Q

theorem _root_.L2.PE.weaken {X : Cx} {a : Expr} {t t' : TE} (h : PE X a t) (i : ∀ σ H Q, t' σ H Q → t σ H Q) : PE X a t' := ⟨fun pins s σ H Q I q => h.run pins s σ H Q I (i σ H Q q)⟩
theorem _root_.L2.PT.weaken {X : Cx} {a : Expr} {t t' : TT} (h : PT X a t) (i : ∀ σ H Q, t' σ H Q → t σ H Q) : PT X a t' := ⟨fun pins s σ H Q I q => h.run pins s σ H Q I (i σ H Q q)⟩
section
variable {X : Cx} {W : WX} {a b c : Expr} {ea eb ec : E} {pos : Pos}
theorem s_lit {t : T} {v : V} {a : Expr} (h : PE X a (L2.tC v)) (hr : ∀ H Av, Rep X.K H Av t v) : PE X a (tE X.K X.mg W (.lit t)) := by
  refine h.weaken fun σ H Q ⟨ρ, Av, rl, tr, p⟩ => ?_
  exact p v Av H (.refl rl tr) (hr H Av)
theorem s_var {i : Nat} {x : Str} (h : PE X a (tVar i)) : PE X a (tE X.K X.mg W (.var i)) := by
  refine h.weaken fun σ H Q ⟨ρ, Av, rl, tr, p⟩ => ?_
  simp only [ev] at p
  cases q : slotAt ρ i with
  | none => rw [q] at p; exact p.elim
  | some s =>
    rw [q] at p
    obtain ⟨v, e, hr⟩ := rl.slot i s q
    refine ⟨v, e, ?_⟩
    cases s with
    | shr t => exact p v Av H (.refl rl tr) hr
    | own t => exact p v Av H (.refl rl tr) ⟨by rw [kindAt_some q]; simp [Slot.k], e⟩
    | io t => exact p v Av H (.refl rl tr) ⟨by rw [kindAt_some q]; simp [Slot.k], e⟩
    | lck t => exact p v Av H (.refl rl tr) ⟨by rw [kindAt_some q]; simp [Slot.k], e⟩
theorem s_bin {op : Bop} (ha : PE X a (tE X.K X.mg W (ea))) (hb : PE X b (tE X.K X.mg W (eb))) : PE X (.BinOp a op.ast b pos) (tE X.K X.mg W (.bin op ea eb)) := by
  refine (pe_op op.ok ha hb).weaken fun σ H Q ⟨ρ, Av, rl, tr, p⟩ => ?_
  simp only [ev] at p
  refine ⟨ρ, Av, rl, tr, (p.bind rl).mono fun x H1 ⟨r, ρ1, Av1, _, n1, q1, p1⟩ => ⟨ρ1, Av1, n1.rel, n1.tr, (p1.bind n1.rel).mono fun y H2 ⟨q, ρ2, Av2, _, n2, q2, p2⟩ => ?_⟩⟩
  obtain ⟨z, e, k⟩ := p2.lift
  simp only [Option.bind_eq_some_iff] at e
  obtain ⟨t, e1, u, e2, e⟩ := e
  exact ⟨t, u, z, Av2, n2.tr, (n2.repR n1.rel q1).rdb n2.rel e1, q2.rdb n2.rel e2, e, k n2.rel⟩
theorem r_cmp {op : Cop} {σ : St} {H : Hp} {Q : VK} (h : (tE X.K X.mg W (.cmp op ea eb)) σ H Q) : tOp (rCmp X.K op.semB) (tE X.K X.mg W (ea)) (tE X.K X.mg W (eb)) σ H Q := by
  obtain ⟨ρ, Av, rl, tr, p⟩ := h
  simp only [ev] at p
  refine ⟨ρ, Av, rl, tr, (p.bind rl).mono fun x H1 ⟨r, ρ1, Av1, _, n1, q1, p1⟩ => ⟨ρ1, Av1, n1.rel, n1.tr, (p1.bind n1.rel).mono fun y H2 ⟨q, ρ2, Av2, _, n2, q2, p2⟩ => ?_⟩⟩
  obtain ⟨z, e, k⟩ := p2.bool n2.tr n2.rel
  simp only [Option.bind_eq_some_iff] at e
  obtain ⟨t, e1, u, e2, e⟩ := e
  exact ⟨t, u, z, Av2, n2.tr, (n2.repR n1.rel q1).rdb n2.rel e1, q2.rdb n2.rel e2, e, k⟩
theorem s_cmp {op : Cop} (hu : X.A.units + 65 < cLine) (ha : PE X a (tE X.K X.mg W (ea))) (hb : PE X b (tE X.K X.mg W (eb))) (hm : behindInMarks op.ast b = false) : PE X (.Compare a [op.ast] [b] pos) (tE X.K X.mg W (.cmp op ea eb)) :=
  (pe_cmpR (op.ok hu) ha hb hm).weaken fun σ H Q h => r_cmp h
theorem r_cmp2 {o1 o2 : Cop} {σ : St} {H : Hp} {Q : VK} (h : (tE X.K X.mg W (.cmp2 o1 o2 ea eb ec)) σ H Q) : tChain (rCmp X.K o1.semB) (rCmp X.K o2.semB) (tE X.K X.mg W (ea)) (tE X.K X.mg W (eb)) (tE X.K X.mg W (ec)) σ H Q := by
  obtain ⟨ρ, Av, rl, tr, p⟩ := h
  simp only [ev] at p
  refine ⟨ρ, Av, rl, tr, (p.bind rl).mono fun x H1 ⟨r, ρ1, Av1, _, n1, q1, p1⟩ => ⟨ρ1, Av1, n1.rel, n1.tr, (p1.bind n1.rel).mono fun y H2 ⟨q, ρ2, Av2, _, n2, q2, p2⟩ => ?_⟩⟩
  cases g : (r.get ρ2).bind fun t => (q.get ρ2).bind fun u => o1.semB t u with
  | none => rw [g] at p2; exact p2.elim
  | some k =>
    rw [g] at p2
    simp only [Option.bind_eq_some_iff] at g
    obtain ⟨t, e1, u, e2, e⟩ := g
    refine ⟨t, u, k, Av2, n2.tr, (n2.repR n1.rel q1).rdb n2.rel e1, q2.rdb n2.rel e2, e, k, rfl, ?_⟩
    cases k with
    | false => exact iteF (p2 _ Av2 H2 (.refl n2.rel n2.tr) (by simp [RepR, Rep]))
    | true =>
      refine iteT ?_
      cases g2 : q.clean with
      | none => simp only [g2] at p2; exact p2.elim
      | some u' =>
        simp only [g2] at p2
        have eu : u' = u := by cases q <;> simp_all [R.clean, R.get]
        subst eu
        refine ⟨ρ2, Av2, n2.rel, n2.tr, (p2.bind n2.rel).mono fun z H3 ⟨s, ρ3, Av3, _, n3, q3, p3⟩ => ?_⟩
        obtain ⟨z, e, k⟩ := p3.bool n3.tr n3.rel
        simp only [Option.bind_eq_some_iff] at e
        obtain ⟨w, e4, e⟩ := e
        have q2' := n3.repR n2.rel q2
        refine ⟨u', w, z, Av3, n3.tr, q2'.rdb n3.rel ?_, q3.rdb n3.rel e4, e, k⟩
        cases q <;> simp_all [R.clean, R.get]
theorem s_cmp2 {o1 o2 : Cop} (hu : X.A.units + 65 < cLine) (ha : PE X a (tE X.K X.mg W (ea))) (hb : PE X b (tE X.K X.mg W (eb))) (hc : PE X c (tE X.K X.mg W (ec))) (hm : lastMarks [o1.ast, o2.ast] [b, c] = false) : PE X (.Compare a [o1.ast, o2.ast] [b, c] pos) (tE X.K X.mg W (.cmp2 o1 o2 ea eb ec)) :=
  (pe_chain (o1.ok hu) (o2.ok hu) ha hb hc hm).weaken fun σ H Q h => r_cmp2 h
/-- a test that tells a truth -/
theorem test_of {e : E} {σ : St} {H : Hp} {Q : Bool → Hp → Prop} (hb : ∀ ρ r ρ', ev e ρ = .ok r ρ' → ∃ b, r = .val (.bl b)) (h : tT X.K X.mg W e σ H Q) : (tE X.K X.mg W (e)) σ H fun x H' => ∃ k, x = .bl k ∧ Q k H' := by
  obtain ⟨ρ, Av, rl, tr, p⟩ := h
  refine ⟨ρ, Av, rl, tr, (p.bind rl).mono fun x H1 ⟨r, ρ1, Av1, e1, n1, q1, p1⟩ => ?_⟩
  obtain ⟨k, rfl⟩ := hb _ _ _ e1
  simp only [RepR, Rep] at q1
  exact ⟨k, q1, p1 k Av1 H1 (.refl n1.rel n1.tr) rfl⟩
theorem boolR_ok {o : Option Bool} {ρ ρ' : Env} {r : R} (h : boolR o ρ = .ok r ρ') : ∃ b, r = .val (.bl b) := by
  cases o with
  | none => cases h
  | some b => cases h; exact ⟨b, rfl⟩
theorem Res.bind_ok {α β : Type} {x : Res α} {f : α → Env → Res β} {r : β} {ρ' : Env} (h : x.bind f = .ok r ρ') : ∃ a ρ1, x = .ok a ρ1 ∧ f a ρ1 = .ok r ρ' := by
  cases x with
  | ok a ρ1 => exact ⟨a, ρ1, rfl, h⟩
  | exc c ρ => cases h
  | bad => cases h
theorem cmp_bool {op : Cop} {ρ ρ' : Env} {r : R} (h : ev (.cmp op ea eb) ρ = .ok r ρ') : ∃ b, r = .val (.bl b) := by
  simp only [ev] at h
  obtain ⟨_, _, _, h⟩ := Res.bind_ok h
  obtain ⟨_, _, _, h⟩ := Res.bind_ok h
  exact boolR_ok h
theorem cmp2_bool {o1 o2 : Cop} {ρ ρ' : Env} {r : R} (h : ev (.cmp2 o1 o2 ea eb ec) ρ = .ok r ρ') : ∃ b, r = .val (.bl b) := by
  simp only [ev] at h
  obtain ⟨_, _, _, h⟩ := Res.bind_ok h
  obtain ⟨_, _, _, h⟩ := Res.bind_ok h
  split at h
  · split at h
    · obtain ⟨_, _, _, h⟩ := Res.bind_ok h
      exact boolR_ok h
    · cases h
  · cases h; exact ⟨_, rfl⟩
  · cases h
theorem s_neg (ha : PE X a (tE X.K X.mg W (ea))) : PE X (.UnaryOp .USub a pos) (tE X.K X.mg W (.un .neg ea)) := by
  refine (pe_un un_neg ha).weaken fun σ H Q ⟨ρ, Av, rl, tr, p⟩ => ?_
  simp only [ev] at p
  refine ⟨ρ, Av, rl, tr, (p.bind rl).mono fun x H1 ⟨r, ρ1, Av1, _, n1, q1, p1⟩ => ?_⟩
  cases g : r.get ρ1 with
  | none => rw [g] at p1; exact p1.elim
  | some t =>
    rw [g] at p1
    cases t <;> try exact p1.elim
    rename_i i
    have h := q1.rdb n1.rel g
    simp only [Rdb] at h
    exact ⟨i, h, p1 _ Av1 H1 (.refl n1.rel n1.tr) (by simp [RepR, Rep])⟩
theorem repd_empty {K : PySem.W.Frag} {H : Hp} {Av : Addr → Prop} {kvs : List (Kt × T)} {ws : List (Key × V)} (h : RepD K H Av kvs ws) : kvs.isEmpty = ws.isEmpty := by
  cases kvs with
  | nil => simp only [RepD] at h; subst h; rfl
  | cons kv kvs => obtain ⟨k, t⟩ := kv; simp only [RepD] at h; obtain ⟨v, q, rfl, _⟩ := h; rfl
theorem reps_empty {K : PySem.W.Frag} {H : Hp} {Av : Addr → Prop} {ts : List T} {vs : List V} (h : Reps K H Av ts vs) : ts.isEmpty = vs.isEmpty := by
  cases ts with
  | nil => simp only [Reps] at h; subst h; rfl
  | cons t ts => simp only [Reps] at h; obtain ⟨v, q, rfl, _⟩ := h; rfl
/-- truth of a tree -/
theorem tru_of {K : PySem.W.Frag} {H : Hp} {Av : Addr → Prop} {t : T} {v : V} {b : Bool} (h : Rdb K H Av t v) (e : t.truth = some b) : TruV K v H b := by
  cases t <;> simp only [Rdb] at h <;> simp only [T.truth] at e
  case non => cases e; subst h; rfl
  case bl => cases e; subst h; rfl
  case int i => cases e; subst h; show _ = (i != 0); by_cases z : i = 0 <;> simp [z]
  case str z =>
    split at e
    · cases e
      rename_i hl
      obtain ⟨rfl, _⟩ := h
      refine ⟨by rw [s2_length, line]; exact hl, ?_⟩
      rw [s2_length]
      cases z <;> simp
      omega
    · cases e
  case lst z => cases e; obtain ⟨a, vs, rfl, g, r⟩ := h; exact .inl ⟨vs, .of g, by rw [reps_empty r]⟩
  case tup z => cases e; obtain ⟨a, vs, rfl, _, g, r⟩ := h; exact .inr (.inl ⟨vs, .of g, by rw [reps_empty r]⟩)
  case ro z => cases e; obtain ⟨a, rfl, g⟩ := h; exact .inl ⟨_, g, by simp⟩
  case dct => cases e
  case exc => cases e
/-- a test that is its value's truth -/
theorem t_plain (ha : PE X a (tE X.K X.mg W (ea))) (he : ∀ whole, isTrue a X.env whole = (do let v ← whole; standAt a.pos; holding [v] (truthy v))) : PT X a (tT X.K X.mg W ea) := by
  refine (pt_truth ha he).weaken fun σ H Q ⟨ρ, Av, rl, tr, p⟩ => ?_
  refine ⟨ρ, Av, rl, tr, (p.bind rl).mono fun x H1 ⟨r, ρ1, Av1, _, n1, q1, p1⟩ => ?_⟩
  cases g : (r.get ρ1).bind T.truth with
  | none => rw [g] at p1; exact p1.elim
  | some b =>
    rw [g] at p1
    simp only [Option.bind_eq_some_iff] at g
    obtain ⟨t, g1, g2⟩ := g
    exact ⟨b, tru_of (q1.rdb n1.rel g1) g2, p1 b Av1 H1 (.refl n1.rel n1.tr) rfl⟩
theorem t_cmp {op : Cop} (hu : X.A.units + 65 < cLine) (ha : PE X a (tE X.K X.mg W (ea))) (hb : PE X b (tE X.K X.mg W (eb))) (hm : behindInMarks op.ast b = false) : PT X (.Compare a [op.ast] [b] pos) (tT X.K X.mg W (.cmp op ea eb)) :=
  (pt_cmpR (op.ok hu) ha hb hm).weaken fun σ H Q h => r_cmp (test_of (fun _ _ _ => cmp_bool) h)
theorem t_cmp2 {o1 o2 : Cop} (hu : X.A.units + 65 < cLine) (ha : PE X a (tE X.K X.mg W (ea))) (hb : PE X b (tE X.K X.mg W (eb))) (hc : PE X c (tE X.K X.mg W (ec))) (hm : lastMarks [o1.ast, o2.ast] [b, c] = false) : PT X (.Compare a [o1.ast, o2.ast] [b, c] pos) (tT X.K X.mg W (.cmp2 o1 o2 ea eb ec)) :=
  (pt_chain (o1.ok hu) (o2.ok hu) ha hb hc hm).weaken fun σ H Q h => r_cmp2 (test_of (fun _ _ _ => cmp2_bool) h)
/-- not -/
theorem t_not (ha : PT X a (tT X.K X.mg W ea)) : PT X (.UnaryOp .Not a pos) (tT X.K X.mg W (.un .not ea)) := by
  refine (pt_not ha).weaken fun σ H Q ⟨ρ, Av, rl, tr, p⟩ => ?_
  have e : truthR (ev (.un .not ea) ρ) = (truthR (ev ea ρ)).bind fun b ρ => .ok (!b) ρ := by
    simp only [ev, truthR]
    cases ev ea ρ with
    | ok r ρ1 =>
      simp only [Res.bind]
      cases (r.get ρ1).bind T.truth <;> simp [R.get, T.truth]
    | exc c ρ1 => rfl
    | bad => rfl
  rw [e] at p
  exact ⟨ρ, Av, rl, tr, (p.bind rl).mono fun x H1 ⟨r, ρ1, Av1, _, n1, q1, p1⟩ => by subst q1; exact p1 (!r) Av1 H1 (.refl n1.rel n1.tr) rfl⟩
theorem s_not (ha : PE X a (tE X.K X.mg W (ea))) : PE X (.UnaryOp .Not a pos) (tE X.K X.mg W (.un .not ea)) := by
  refine (pe_notT ha).weaken fun σ H Q ⟨ρ, Av, rl, tr, p⟩ => ?_
  have e : ev (.un .not ea) ρ = (ev ea ρ).bind fun r ρ => match (r.get ρ).bind T.truth with
    | some b => .ok (.val (.bl (!b))) ρ
    | none => .bad := by
    simp only [ev, truthR]
    cases ev ea ρ with
    | ok r ρ1 =>
      simp only [Res.bind]
      cases (r.get ρ1).bind T.truth <;> rfl
    | exc c ρ1 => rfl
    | bad => rfl
  rw [e] at p
  refine ⟨ρ, Av, rl, tr, (p.bind rl).mono fun x H1 ⟨r, ρ1, Av1, _, n1, q1, p1⟩ => ?_⟩
  cases g : (r.get ρ1).bind T.truth with
  | none => rw [g] at p1; exact p1.elim
  | some k =>
    rw [g] at p1
    simp only [Option.bind_eq_some_iff] at g
    obtain ⟨t, g1, g2⟩ := g
    exact ⟨k, tru_of (q1.rdb n1.rel g1) g2, p1 _ Av1 H1 (.refl n1.rel n1.tr) (by simp [RepR, Rep])⟩
/-- a if c else b -/
theorem s_ite (hc : PT X c (tT X.K X.mg W ec)) (ha : PE X a (tE X.K X.mg W (ea))) (hb : PE X b (tE X.K X.mg W (eb))) : PE X (.IfExp c a b pos) (tE X.K X.mg W (.ite ec ea eb)) := by
  refine (pe_ifExp hc ha hb).weaken fun σ H Q ⟨ρ, Av, rl, tr, p⟩ => ?_
  simp only [ev] at p
  refine ⟨ρ, Av, rl, tr, (p.bind rl).mono fun x H1 ⟨r, ρ1, Av1, _, n1, q1, p1⟩ => ?_⟩
  subst q1
  cases r with
  | true => exact iteT ⟨ρ1, Av1, n1.rel, n1.tr, p1⟩
  | false => exact iteF ⟨ρ1, Av1, n1.rel, n1.tr, p1⟩
end
end MP

namespace MP
open PySem PySem.Spec L2
open PyProof.Rows hiding St
/-! ## try .. except X as e: e is a tracked object from then on -/
section
variable {X : Cx} {pins : List (Addr × Obj)} {σ : St} {H : Hp} {sI s s' : Shared} {B : Heap}
theorem excT_ok {P : Program} {w : World} {h : Heap} {a : Addr} {cls : Value} {oe : Obj} {vs : Array Value} (e : h.get? a = some oe) (z : oe.cls = cls ∧ oe.dict = none) (d : oe.data = .fields vs) : ObjOk P w H h a (ExT cls a) :=
  ⟨⟨oe, vs, e, z.1, z.2, d⟩, ⟨oe, e⟩, fun _ _ ⟨o, v, q, r⟩ k => ⟨o, v, k o q, r⟩⟩
theorem Inv.landedX (I : Inv X pins σ H sI) (nb : ∀ b o, sI.heap.get? b = some o → b ∉ frs X.stack → B.get? b = some o) (st : B.StaysIn s'.heap) (up : sI.heap.UpToSlots s'.heap) (os : s'.os = sI.os) (ag : AllBare s'.gens)
    {a : Addr} {cls : Value} {oe : Obj} {vs : Array Value} (hB : B.get? a = none) (ha : s'.heap.get? a = some oe) (hz : oe.cls = cls ∧ oe.dict = none) (hd : oe.data = .fields vs) (na : H a = none) (nf : a ∉ frs X.stack) : Inv X pins σ (upd H a (ExT cls a)) s' := by
  have new : sI.heap.get? a = none := by
    cases e : sI.heap.get? a with
    | none => rfl
    | some o => rw [nb a o e nf] at hB; cases hB
  have ne : ∀ b o, sI.heap.get? b = some o → b ≠ a := fun b o e z => by rw [z, new] at e; cases e
  have sl : ∀ b ∈ frs X.stack, ∀ o, sI.heap.get? b = some o → ∃ sl, s'.heap.get? b = some { o with slots := sl } := fun b hb o e => by
    obtain ⟨_, o', e', hd'⟩ := I.stack.mem hb
    rw [e] at e'; cases e'
    exact up b o e hd'
  have kp : ∀ b u, H b = some u → b ≠ a := fun b u e z => by rw [z, na] at e; cases e
  have J := I.call (ch := []) (h' := s'.heap) (g' := s'.gens) (t' := s'.toks) (d' := s'.drawn) (H' := upd H a (ExT cls a))
    ⟨fun b o e _ hb _ => st b o (nb b o e hb), fun b o e _ hb _ => sl b hb o e, fun b o e n _ => by rw [upd_ne (ne b o e)]; exact n, fun b o e _ => by
      by_cases hb : b ∈ frs X.stack
      · obtain ⟨sl, q⟩ := sl b hb o e; exact ⟨_, q⟩
      · exact ⟨o, st b o (nb b o e hb)⟩, fun b _ e => by rw [upd_ne (kp b _ e)]; exact e, fun b _ _ e => by rw [upd_ne (kp b _ e)]; exact e, fun b ps e => ⟨#[], by rw [upd_ne (kp b _ e), e]; simp⟩⟩
    (fun b o e => by
      by_cases hb : b = a
      · subst hb; rw [upd_same] at e; cases e; exact excT_ok ha hz hd
      · rw [upd_ne hb] at e
        exact (I.inGround nb b o e).stay (fun c u _ q => st c u q) (fun c q => by rw [upd_ne (kp c _ q)]; exact q) fun c _ q => by rw [upd_ne (kp c _ q)]; exact q) ag (fun _ z => nomatch z)
  obtain ⟨a1, a2, a3, a4, a5⟩ := s'
  obtain rfl : a5 = sI.os := os
  exact J
theorem Inv.suiteX (I : Inv X pins σ H s) {a : Addr} : Inv (X.suite a (X.pn ++ pins)) [] σ H s :=
  ⟨I.ok.suite _ _, I.os, I.bare, I.base, I.loc, I.cell, I.free, I.freeC, fun p hp => I.pin p (by rw [List.append_nil] at hp; exact hp), I.hok, I.len⟩
theorem Inv.unsuiteX {a : Addr} (I : Inv (X.suite a (X.pn ++ pins)) [] σ H s) (ok : X.Ok) : Inv X pins σ H s :=
  ⟨ok, I.os, I.bare, I.base, I.loc, I.cell, I.free, I.freeC, fun p hp => I.pin p (List.mem_append_left _ hp), I.hok, I.len⟩
end
/-- what the clause wishes of an exception: slot i is its name's -/
def wAsT (K : PySem.W.Frag) (c : Value) (i : Nat) (ts : Addr → TS) (D : Ends) : WX := fun cls d σ H => PySem.W.exmOne K cls c = some true ∧ d = none ∧
  ∀ a, H a = none → ts a { nx := fun σ' H' => D.nx (σ'.set i none) H', rt := D.rt, bk := fun σ' H' => D.bk (σ'.set i none) H', ct := fun σ' H' => D.ct (σ'.set i none) H' } (σ.set i (some (.ref a))) (upd H a (ExT cls a))
section
variable {X : Cx} {x n : Str} {c : Value} {i : Nat} {body suite : List Stmt} {b₀ : Stmt} {np pos pos' : Pos} {tb : WX → TS} {ts : Addr → TS}
theorem ps_try_asT (hs : X.stack = X.env :: X.outer) (hf : X.env.frame = some X.env.locals) (hN : X.N.Nodup) (hi : X.N[i]? = some n) (hln : X.env.kindOf n = some .local) (hc : Names X x c)
    (hb : ∀ (W : WX) (pn : List (Addr × Obj)) (xe : Value → Shared → Prop), Takes (X.tr pn xe) W → PassesOwn (model X.prog X.w) X.A X.env xe → PSs (X.tr pn xe) body (tb W))
    (hsu : ∀ (a : Addr) (pn : List (Addr × Obj)), PSs (X.suite a pn) (b₀ :: suite) (ts a)) :
    PS X (.Try body [.ExceptHandler (some (.Name x np)) (some n) (b₀ :: suite) pos'] [] [] pos) (fun D σ H => tb (wAsT X.K c i ts D) D σ H) := by
  refine ⟨fun pins s σ H D I h => ?_⟩
  have ok := I.ok
  have fr0 : X.A.frames = some (X.env :: X.outer) := by rw [ok.frames, hs]
  have lo : Loc X.env.scope n := .inl hln
  refine wpAny_Try_except ?_
  refine wpAny_mono ((hb (wAsT X.K c i ts D) (X.pn ++ pins) (fun e s1 => wpAny (model X.prog X.w) X.A (noteFrame e X.env) (fun _ s2 => wpAny (model X.prog X.w) X.A (setFlight e none) (fun _ s3 => wpAny (model X.prog X.w) X.A (handleBy e X.env [.ExceptHandler (some (.Name x np)) (some n) (b₀ :: suite) pos']) (SP X pins D) X.xe s3) X.xe s2) X.xe s1)
    (fun u s' xx => ?_) PassesOwn.looking).run [] s σ H D (I.toTry _) h) (fun f s1 hsp => ?_) (fun e s1 he => he)
  · obtain ⟨a, B, sI, pins', σ', H', cls, d, rfl, J', nb, up, sky, na, os, ag, hb1, rfl, hyes⟩ := xx
    have J : Inv X pins σ' H' sI := J'.ofTry ok
    have sky' : Sky B (X.env :: X.outer) a (Zc cls none) X.env.locals s'.heap := by rw [← hs]; exact sky
    show wpAny (model X.prog X.w) X.A (noteFrame (.ref a) X.env) _ _ _
    refine Sky.land Zc.steady fr0 hf sky' fun h3 fl3 up3 => ?_
    have J3 : Inv X pins σ' H' { s' with heap := h3 } := J.landed nb fl3.1 (up.trans up3) os ag
    obtain ⟨oe3, vs3, he3, hz3, hd3⟩ := fl3.there
    have nfr : a ∉ frs (X.env :: X.outer) := fun hm => by
      obtain ⟨_, o', e', hnf⟩ := fl3.2.2.1.mem hm
      rw [he3] at e'; cases e'; exact hnf _ hd3
    have nL : a ≠ X.env.locals := fun z => nfr (List.mem_filterMap.mpr ⟨X.env, List.mem_cons_self, by rw [hf, z]⟩)
    have nF : a ∉ X.fs := fun hm => by
      obtain ⟨e, he, q⟩ := List.mem_filterMap.mp hm
      exact nfr (List.mem_filterMap.mpr ⟨e, List.mem_cons_of_mem _ he, q⟩)
    have S3 := J3.suite he3 hd3 na nL nF
    refine wpAny_handleBy_cons (codeAny_handlers_test ?_) (by intro q; cases q)
    have LT : PySem.W.Looks (model X.prog X.w) h3 (typeOf (.ref a)) cls := fun A Q E s k q => wpAny_typeOf_ref (k _ _ he3) (by rw [hz3.1]; exact q)
    have LM := PySem.W.exm_one (M := model X.prog X.w) (J3.kIn) LT hb1
    have test : ∀ {Q : Value → Shared → Prop} {E : Value → Shared → Prop}, Q c { s' with heap := h3 } → wpAny (model X.prog X.w) (X.A.mark (some (.ref a))) (eval (.Name x np) X.env) Q E { s' with heap := h3 } := fun {Q E} q => by
      obtain ⟨hg, hdbg, hm | ⟨hm, hv, hnn⟩⟩ := hc
      · exact ld_glob (X := X.suite a ((a, oe3) :: (X.pn ++ pins))) S3 hg hm q hdbg
      · exact ld_blt (X := X.suite a ((a, oe3) :: (X.pn ++ pins))) S3 hg hm hv q hnn hdbg
    refine test (LM.here ?_)
    refine codeAny_handlers_suite_as ?_
    refine HandSPX.lands_againZ fl3 fun h4 fl4 up4 => ?_
    obtain ⟨oe4, vs4, he4, hz4, hd4⟩ := fl4.there
    have J4 : Inv X pins σ' (upd H' a (ExT cls a)) { s' with heap := h4 } := Inv.landedX (s' := { s' with heap := h4 }) J nb fl4.1 ((up.trans up3).trans up4) os ag fl4.2.1 he4 hz4 hd4 na (by rw [hs]; exact nfr)
    have S4 : Inv (X.suite a (X.pn ++ pins)) [] σ' (upd H' a (ExT cls a)) { s' with heap := h4 } := MP.Inv.suiteX J4
    refine store_ok (X := X.suite a (X.pn ++ pins)) (v := .ref a) S4 hN hi lo rfl (fun s5 S5 => ?_) (.inr hln)
    refine wpAny_mono ((hsu a (X.pn ++ pins)).run [] s5 _ _ _ S5 (hyes a na)) (fun f s6 hsp => ?_) (fun _ _ z => False.elim z)
    have end_ : ∀ {σ6 : St} {H6 : Hp} {Q : Shared → Prop}, Inv (X.suite a (X.pn ++ pins)) [] σ6 H6 s6 → (∀ s7, Inv X pins (σ6.set i none) H6 s7 → Q s7) → wpAny (model X.prog X.w) X.A (do bindName X.env n .none; unbindBehindTheSuite X.env n pos') (fun _ s7 => Q s7) X.xe s6 := fun {σ6 H6 Q} S6 hq => gone_ok (MP.Inv.unsuiteX S6 ok) hN hi hln hq
    cases f with
    | next => obtain ⟨σ6, H6, S6, q6⟩ := hsp; exact end_ S6 fun s7 J7 => ⟨_, _, J7, q6⟩
    | brk => obtain ⟨σ6, H6, S6, q6⟩ := hsp; exact end_ S6 fun s7 J7 => ⟨_, _, J7, q6⟩
    | cont => obtain ⟨σ6, H6, S6, q6⟩ := hsp; exact end_ S6 fun s7 J7 => ⟨_, _, J7, q6⟩
    | ret u => obtain ⟨v6, σ6, H6, S6, r6, q6⟩ := hsp; exact end_ S6 fun s7 J7 => ⟨_, _, _, J7, r6, q6⟩
  · cases f with
    | next => obtain ⟨σ', H', J', q⟩ := hsp; exact wpAny_execs_nil ⟨σ', H', J'.ofTry ok, q⟩
    | brk => obtain ⟨σ', H', J', q⟩ := hsp; exact ⟨σ', H', J'.ofTry ok, q⟩
    | cont => obtain ⟨σ', H', J', q⟩ := hsp; exact ⟨σ', H', J'.ofTry ok, q⟩
    | ret u => obtain ⟨v, σ', H', J', r, q⟩ := hsp; exact ⟨v, σ', H', J'.ofTry ok, r, q⟩
end
/-! ## isinstance of a tracked exception -/
/-- the class's facts -/
abbrev ExcCl (K : PySem.W.Frag) (D : Addr) : Prop := L2.ExcC K D
theorem kitx_exT {K : PySem.W.Frag} {a D : Addr} (C : L2.ExcC K D) : PySem.W.KitX K (.ref a) (.ref D) (fun h => ∃ oe vs, h.get? a = some oe ∧ oe.cls = .ref D ∧ oe.dict = none ∧ oe.data = .fields vs) := by
  have Z : ∀ oe, PySem.W.KitX K (.ref a) (.ref D) (fun h => PySem.W.InstAt h a oe D none) := fun oe => PySem.W.handS_kitx_exc C.hg C.hk C.hs C.hd C.ha C.hn C.ht C.hm
  have J : ∀ {h : Heap}, (∃ oe vs, h.get? a = some oe ∧ oe.cls = .ref D ∧ oe.dict = none ∧ oe.data = .fields vs) → ∃ oe, PySem.W.InstAt h a oe D none := fun {h} ⟨oe, vs, e, z1, z2, d⟩ => by
    obtain ⟨oc, od, oda, osl⟩ := oe
    dsimp only at z1 z2 d
    subst z1 z2 d
    exact ⟨_, e, rfl, rfl, trivial⟩
  exact ⟨fun M h X p => by obtain ⟨oe, i⟩ := J p; exact (Z oe).ty M h X i, fun M h X p => by obtain ⟨oe, i⟩ := J p; exact (Z oe).it M h X i, fun h tp dd its n sl X e => (Z default).ne h tp dd its n sl X e, fun X p k => by obtain ⟨oe, i⟩ := J p; exact (Z oe).ca X i k⟩
section
variable {X : Cx}
/-- isinstance(x, c), x an exception or another thing -/
def rIsX (K : PySem.W.Frag) : List V → Hp → VK → Prop := fun xs H Q => ∃ (x c : V) (t cv : Value) (b : Bool), xs = [x, c] ∧ (∀ u, RelV c u → u = cv) ∧ ((∃ a D, x = .ref a ∧ t = .ref D ∧ H a = some (ExT (.ref D) a) ∧ L2.ExcC K D) ∨ TyX K H x t) ∧ PySem.W.kitOne K t cv = some b ∧ Q (.bl b) H
theorem call_isX : CallR X (.builtin "isinstance") (rIsX X.K) := by
  intro pins s σ H xs us Q I r h
  obtain ⟨x, c, t, cv, b, rfl, hcv, hx, e, q⟩ := h
  obtain ⟨u1, u2, rfl, r1, r2⟩ := vals2 r
  obtain rfl := hcv _ r2
  rcases hx with ⟨a, D, rfl, rfl, ha, C⟩ | ty
  · cases r1
    have o := (show ObjOk X.prog X.w H s.heap a (ExT (.ref D) a) from I.hok a _ ha).1
    exact PySem.W.kia_one (kitx_exT C) I.kIn o e (fun z => nomatch z) fun tk => ⟨.bl b, H, I.tok tk, rfl, q⟩
  · obtain ⟨P, Z, p, hx⟩ := kit_of I r1 ty
    exact PySem.W.kia_one Z I.kIn p e hx fun tk => ⟨.bl b, H, I.tok tk, rfl, q⟩
/-- isinstance(x, (c, ..)) -/
def rIsXT (K : PySem.W.Frag) : List V → Hp → VK → Prop := fun xs H Q => ∃ (x : V) (tp : Addr) (cs : List V) (t : Value) (us : List Value) (b : Bool), xs = [x, .ref tp] ∧ H tp = some (.tup cs) ∧ (∀ ws, Vals cs ws → ws = us) ∧ ((∃ a D, x = .ref a ∧ t = .ref D ∧ H a = some (ExT (.ref D) a) ∧ L2.ExcC K D) ∨ TyX K H x t) ∧ PySem.W.kitAny K t us = some b ∧ Q (.bl b) H
theorem call_isXT : CallR X (.builtin "isinstance") (rIsXT X.K) := by
  intro pins s σ H xs us Q I r h
  obtain ⟨x, tp, cs, t, ws, b, rfl, hT, k, hx, e, q⟩ := h
  obtain ⟨u1, u2, rfl, r1, r2⟩ := vals2 r
  cases (show u2 = Value.ref tp from r2)
  obtain ⟨_, its, rv, o, h1, h2, n, h3⟩ := (show ObjOk X.prog X.w H s.heap tp (.tup cs) from I.hok tp _ hT)
  obtain rfl := k _ rv
  obtain ⟨oc, od, dt, sl⟩ := o
  simp only at h2 h3
  subst h2 h3
  rcases hx with ⟨a, D, rfl, rfl, ha, C⟩ | ty
  · cases r1
    have o := (show ObjOk X.prog X.w H s.heap a (ExT (.ref D) a) from I.hok a _ ha).1
    exact PySem.W.kia_tup (kitx_exT C) I.kIn o h1 e (fun z => nomatch z) fun tk => ⟨.bl b, H, I.tok tk, rfl, q⟩
  · obtain ⟨P, Z, p, hx⟩ := kit_of I r1 ty
    exact PySem.W.kia_tup Z I.kIn p h1 e hx fun tk => ⟨.bl b, H, I.tok tk, rfl, q⟩
end
end MP

namespace MP
open PySem PySem.Spec L2
open PyProof.Rows hiding St
/-! ## chains of three tests -/
def tChain3 (r r' r'' : R2) (ta tb tc td : TE) : TE := fun σ H Q => ta σ H fun x H1 => tb σ H1 fun y H2 => r x y H2 fun z H3 => ∃ k, z = .bl k ∧
  (if k = true then tc σ H3 fun w H4 => r' y w H4 fun z H5 => ∃ k, z = .bl k ∧ (if k = true then td σ H5 fun v H6 => r'' w v H6 Q else Q (.bl false) H5) else Q (.bl false) H3)
section
variable {X : Cx} {W : WX} {a b c d : Expr} {ta tb tc td : TE} {ea eb ec ed : E} {pos : Pos}
theorem pe_chain3 {op op' op'' : CmpOp} {r r' r'' : R2} (ho : OpR X (compareOp op) r) (ho' : OpR X (compareOp op') r') (ho'' : OpR X (compareOp op'') r'') (ha : PE X a ta) (hb : PE X b tb) (hc : PE X c tc) (hd : PE X d td)
    (hm : lastMarks [op, op', op''] [b, c, d] = false) : PE X (.Compare a [op, op', op''] [b, c, d] pos) (tChain3 r r' r'' ta tb tc td) := by
  refine ⟨fun pins s σ H Q I h => ?_⟩
  refine Compare_chain (thn (ha.run pins s σ H _ I h) fun v s1 ⟨x, H1, I1, r1, q1⟩ => chain_link (thn (hb.run pins s1 σ H1 _ I1 q1) fun u s2 ⟨y, H2, I2, r2, q2⟩ => thn (ho pins s2 σ H2 x y v u _ I2 r1 r2 q2) fun e1 s3 ⟨z, H3, I3, r3, k, e, q3⟩ => ?_)) hm
  subst e
  cases r3
  refine wpAny_truthy_bool ?_
  cases k with
  | false => exact ite_ff ⟨.bl false, H3, I3, rfl, q3⟩
  | true =>
    refine ite_tt (chain_link (thn (hc.run pins s3 σ H3 _ I3 q3) fun w s4 ⟨z', H4, I4, r4, q4⟩ => thn (ho' pins s4 σ H4 y z' u w _ I4 r2 r4 q4) fun e2 s5 ⟨z2, H5, I5, r5, k2, e', q5⟩ => ?_))
    subst e'
    cases r5
    refine wpAny_truthy_bool ?_
    cases k2 with
    | false => exact ite_ff ⟨.bl false, H5, I5, rfl, q5⟩
    | true => exact ite_tt (chain_last (thn (hd.run pins s5 σ H5 _ I5 q5) fun w' s6 ⟨z3, H6, I6, r6, q6⟩ => ho'' pins s6 σ H6 z' z3 w w' Q I6 r4 r6 q6))
theorem pt_chain3 {op op' op'' : CmpOp} {r r' r'' : R2} (ho : OpR X (compareOp op) r) (ho' : OpR X (compareOp op') r') (ho'' : OpR X (compareOp op'') r'') (ha : PE X a ta) (hb : PE X b tb) (hc : PE X c tc) (hd : PE X d td)
    (hm : lastMarks [op, op', op''] [b, c, d] = false) : PT X (.Compare a [op, op', op''] [b, c, d] pos) (tTest (tChain3 r r' r'' ta tb tc td)) := by
  refine ⟨fun pins s σ H Q I h => ?_⟩
  refine isTrue_chain (thn (ha.run pins s σ H _ I h) fun v s1 ⟨x, H1, I1, r1, q1⟩ => test_link (thn (hb.run pins s1 σ H1 _ I1 q1) fun u s2 ⟨y, H2, I2, r2, q2⟩ => thn (ho pins s2 σ H2 x y v u _ I2 r1 r2 q2) fun e1 s3 ⟨z, H3, I3, r3, k, e, q3⟩ => ?_)) hm
  subst e
  cases r3
  refine wpAny_truthy_bool ?_
  cases k with
  | false => obtain ⟨k', e', q'⟩ := q3; cases e'; exact ite_ff ⟨H3, I3, q'⟩
  | true =>
    refine ite_tt (test_link (thn (hc.run pins s3 σ H3 _ I3 q3) fun w s4 ⟨z', H4, I4, r4, q4⟩ => thn (ho' pins s4 σ H4 y z' u w _ I4 r2 r4 q4) fun e2 s5 ⟨z2, H5, I5, r5, k2, e', q5⟩ => ?_))
    subst e'
    cases r5
    refine wpAny_truthy_bool ?_
    cases k2 with
    | false => obtain ⟨k', e', q'⟩ := q5; cases e'; exact ite_ff ⟨H5, I5, q'⟩
    | true =>
      refine ite_tt (test_last (thn (hd.run pins s5 σ H5 _ I5 q5) fun w' s6 ⟨z3, H6, I6, r6, q6⟩ => thn (ho'' pins s6 σ H6 z' z3 w w' _ I6 r4 r6 q6) fun d' s7 ⟨z4, H7, I7, r7, k4, e4, q7⟩ => ?_))
      subst e4
      cases r7
      exact wpAny_truthy_bool ⟨H7, I7, q7⟩
theorem r_cmp3 {o1 o2 o3 : Cop} {σ : St} {H : Hp} {Q : VK} (h : (tE X.K X.mg W (.cmp3 o1 o2 o3 ea eb ec ed)) σ H Q) : tChain3 (rCmp X.K o1.semB) (rCmp X.K o2.semB) (rCmp X.K o3.semB) (tE X.K X.mg W (ea)) (tE X.K X.mg W (eb)) (tE X.K X.mg W (ec)) (tE X.K X.mg W (ed)) σ H Q := by
  obtain ⟨ρ, Av, rl, tr, p⟩ := h
  simp only [ev] at p
  refine ⟨ρ, Av, rl, tr, (p.bind rl).mono fun x H1 ⟨r, ρ1, Av1, _, n1, q1, p1⟩ => ⟨ρ1, Av1, n1.rel, n1.tr, (p1.bind n1.rel).mono fun y H2 ⟨q, ρ2, Av2, _, n2, q2, p2⟩ => ?_⟩⟩
  cases g : (r.get ρ2).bind fun t => (q.get ρ2).bind fun u => o1.semB t u with
  | none => rw [g] at p2; exact p2.elim
  | some k =>
    rw [g] at p2
    simp only [Option.bind_eq_some_iff] at g
    obtain ⟨t, e1, u, e2, e⟩ := g
    refine ⟨t, u, k, Av2, n2.tr, (n2.repR n1.rel q1).rdb n2.rel e1, q2.rdb n2.rel e2, e, k, rfl, ?_⟩
    cases k with
    | false => exact iteF (p2 _ Av2 H2 (.refl n2.rel n2.tr) (by simp [RepR, Rep]))
    | true =>
      refine iteT ?_
      cases g2 : q.clean with
      | none => simp only [g2] at p2; exact p2.elim
      | some u' =>
        simp only [g2] at p2
        have eu : u' = u := Option.some.inj ((R.clean_get g2).symm.trans e2)
        subst eu
        refine ⟨ρ2, Av2, n2.rel, n2.tr, (p2.bind n2.rel).mono fun z H3 ⟨s, ρ3, Av3, _, n3, q3, p3⟩ => ?_⟩
        cases g3 : (s.get ρ3).bind fun w => o2.semB u' w with
        | none => rw [g3] at p3; exact p3.elim
        | some k2 =>
          rw [g3] at p3
          simp only [Option.bind_eq_some_iff] at g3
          obtain ⟨w, e4, e5⟩ := g3
          have q2' := n3.repR n2.rel q2
          refine ⟨u', w, k2, Av3, n3.tr, q2'.rdb n3.rel (R.clean_get g2), q3.rdb n3.rel e4, e5, k2, rfl, ?_⟩
          cases k2 with
          | false => exact iteF (p3 _ Av3 H3 (.refl n3.rel n3.tr) (by simp [RepR, Rep]))
          | true =>
            refine iteT ?_
            cases g4 : s.clean with
            | none => simp only [g4] at p3; exact p3.elim
            | some w' =>
              simp only [g4] at p3
              have ew : w' = w := Option.some.inj ((R.clean_get g4).symm.trans e4)
              subst ew
              refine ⟨ρ3, Av3, n3.rel, n3.tr, (p3.bind n3.rel).mono fun v H4 ⟨f, ρ4, Av4, _, n4, q4, p4⟩ => ?_⟩
              obtain ⟨z, e6, k⟩ := p4.bool n4.tr n4.rel
              simp only [Option.bind_eq_some_iff] at e6
              obtain ⟨y', e7, e8⟩ := e6
              have q3' := n4.repR n3.rel q3
              exact ⟨w', y', z, Av4, n4.tr, q3'.rdb n4.rel (R.clean_get g4), q4.rdb n4.rel e7, e8, k⟩
theorem s_cmp3 {o1 o2 o3 : Cop} (hu : X.A.units + 65 < cLine) (ha : PE X a (tE X.K X.mg W (ea))) (hb : PE X b (tE X.K X.mg W (eb))) (hc : PE X c (tE X.K X.mg W (ec))) (hd : PE X d (tE X.K X.mg W (ed))) (hm : lastMarks [o1.ast, o2.ast, o3.ast] [b, c, d] = false) : PE X (.Compare a [o1.ast, o2.ast, o3.ast] [b, c, d] pos) (tE X.K X.mg W (.cmp3 o1 o2 o3 ea eb ec ed)) :=
  (pe_chain3 (o1.ok hu) (o2.ok hu) (o3.ok hu) ha hb hc hd hm).weaken fun σ H Q h => r_cmp3 h
theorem cmp3_bool {o1 o2 o3 : Cop} {ρ ρ' : Env} {r : R} (h : ev (.cmp3 o1 o2 o3 ea eb ec ed) ρ = .ok r ρ') : ∃ b, r = .val (.bl b) := by
  simp only [ev] at h
  obtain ⟨r1, ρ1, _, h⟩ := Res.bind_ok h
  obtain ⟨r2, ρ2, _, h⟩ := Res.bind_ok h
  split at h
  · split at h
    · obtain ⟨r3, ρ3, _, h⟩ := Res.bind_ok h
      split at h
      · split at h
        · obtain ⟨r4, ρ4, _, h⟩ := Res.bind_ok h; exact boolR_ok h
        · cases h
      · cases h; exact ⟨_, rfl⟩
      · cases h
    · cases h
  · cases h; exact ⟨_, rfl⟩
  · cases h
theorem t_cmp3 {o1 o2 o3 : Cop} (hu : X.A.units + 65 < cLine) (ha : PE X a (tE X.K X.mg W (ea))) (hb : PE X b (tE X.K X.mg W (eb))) (hc : PE X c (tE X.K X.mg W (ec))) (hd : PE X d (tE X.K X.mg W (ed))) (hm : lastMarks [o1.ast, o2.ast, o3.ast] [b, c, d] = false) : PT X (.Compare a [o1.ast, o2.ast, o3.ast] [b, c, d] pos) (tT X.K X.mg W (.cmp3 o1 o2 o3 ea eb ec ed)) :=
  (pt_chain3 (o1.ok hu) (o2.ok hu) (o3.ok hu) ha hb hc hd hm).weaken fun σ H Q h => r_cmp3 (test_of (fun _ _ _ => cmp3_bool) h)
end
end MP

namespace MP
open PySem PySem.Spec L2
open PyProof.Rows hiding St
theorem _root_.L2.PA.weaken {X : Cx} {a : List Expr} {t t' : TA} (h : PA X a t) (i : ∀ σ H Q, t' σ H Q → t σ H Q) : PA X a t' := ⟨fun pos pins s σ H Q I q => h.run pos pins s σ H Q I (i σ H Q q)⟩
theorem _root_.L2.PW.weaken {X : Cx} {a : Expr} {t t' : TT} (h : PW X a t) (i : ∀ σ H Q, t' σ H Q → t σ H Q) : PW X a t' := ⟨fun w pins s σ H Q I q => h.run w pins s σ H Q I (i σ H Q q)⟩
section
variable {X : Cx} {W : WX} {a b c : Expr} {as bs : List Expr} {ea eb ec : E} {es fs : List E} {pos : Pos}
/-! ### and, or -/
def tAnds (K : PySem.W.Frag) (mg : Str → Option Value) (W : WX) (es : List E) : TE := fun σ H Q => ∃ ρ Av, Rel K Av ρ σ H ∧ Tr Av H ∧ Post K mg W (RepR K) ρ σ Av H (evAnd es ρ) Q
def tOrs (K : PySem.W.Frag) (mg : Str → Option Value) (W : WX) (es : List E) : TE := fun σ H Q => ∃ ρ Av, Rel K Av ρ σ H ∧ Tr Av H ∧ Post K mg W (RepR K) ρ σ Av H (evOr es ρ) Q
def tAndsT (K : PySem.W.Frag) (mg : Str → Option Value) (W : WX) (es : List E) : TT := fun σ H Q => ∃ ρ Av, Rel K Av ρ σ H ∧ Tr Av H ∧ Post K mg W rpB ρ σ Av H (truthR (evAnd es ρ)) Q
def tOrsT (K : PySem.W.Frag) (mg : Str → Option Value) (W : WX) (es : List E) : TT := fun σ H Q => ∃ ρ Av, Rel K Av ρ σ H ∧ Tr Av H ∧ Post K mg W rpB ρ σ Av H (truthR (evOr es ρ)) Q
theorem s_and1 (ha : PE X a (tE X.K X.mg W (ea))) : PE X (.BoolOp .And [a] pos) (tAnds X.K X.mg W [ea]) := (pe_one ha).weaken fun σ H Q ⟨ρ, Av, rl, tr, p⟩ => ⟨ρ, Av, rl, tr, by simpa only [evAnd] using p⟩
theorem s_or1 (ha : PE X a (tE X.K X.mg W (ea))) : PE X (.BoolOp .Or [a] pos) (tOrs X.K X.mg W [ea]) := (pe_one ha).weaken fun σ H Q ⟨ρ, Av, rl, tr, p⟩ => ⟨ρ, Av, rl, tr, by simpa only [evOr] using p⟩
theorem s_andC (ha : PE X a (tE X.K X.mg W (ea))) (hb : PE X (.BoolOp .And (b :: bs) pos) (tAnds X.K X.mg W (eb :: es))) : PE X (.BoolOp .And (a :: b :: bs) pos) (tAnds X.K X.mg W (ea :: eb :: es)) := by
  refine (pe_and ha hb).weaken fun σ H Q ⟨ρ, Av, rl, tr, p⟩ => ?_
  simp only [evAnd] at p
  refine ⟨ρ, Av, rl, tr, (p.bind rl).mono fun x H1 ⟨r, ρ1, Av1, _, n1, q1, p1⟩ => ?_⟩
  cases g : r.get ρ1 with
  | none => rw [g] at p1; exact p1.elim
  | some t =>
    rw [g] at p1
    cases t <;> try exact p1.elim
    rename_i k
    have h := q1.rdb n1.rel g
    simp only [Rdb] at h
    refine ⟨k, h, ?_⟩
    cases k with
    | true => exact iteT ⟨ρ1, Av1, n1.rel, n1.tr, p1⟩
    | false => exact iteF (p1 _ Av1 H1 (.refl n1.rel n1.tr) (by simp [RepR, Rep]))
theorem s_orC (ha : PE X a (tE X.K X.mg W (ea))) (hb : PE X (.BoolOp .Or (b :: bs) pos) (tOrs X.K X.mg W (eb :: es))) : PE X (.BoolOp .Or (a :: b :: bs) pos) (tOrs X.K X.mg W (ea :: eb :: es)) := by
  refine (pe_or ha hb).weaken fun σ H Q ⟨ρ, Av, rl, tr, p⟩ => ?_
  simp only [evOr] at p
  refine ⟨ρ, Av, rl, tr, (p.bind rl).mono fun x H1 ⟨r, ρ1, Av1, _, n1, q1, p1⟩ => ?_⟩
  cases g : r.get ρ1 with
  | none => rw [g] at p1; exact p1.elim
  | some t =>
    rw [g] at p1
    cases t <;> try exact p1.elim
    rename_i k
    have h := q1.rdb n1.rel g
    simp only [Rdb] at h
    refine ⟨k, h, ?_⟩
    cases k with
    | false => exact iteF ⟨ρ1, Av1, n1.rel, n1.tr, p1⟩
    | true => exact iteT (p1 _ Av1 H1 (.refl n1.rel n1.tr) (by simp [RepR, Rep]))
theorem t_and1 (ha : PT X a (tT X.K X.mg W ea)) : PW X (.BoolOp .And [a] pos) (tAndsT X.K X.mg W [ea]) := (pw_and1 ha).weaken fun σ H Q ⟨ρ, Av, rl, tr, p⟩ => ⟨ρ, Av, rl, tr, by simpa only [evAnd] using p⟩
theorem t_or1 (ha : PT X a (tT X.K X.mg W ea)) : PW X (.BoolOp .Or [a] pos) (tOrsT X.K X.mg W [ea]) := (pw_or1 ha).weaken fun σ H Q ⟨ρ, Av, rl, tr, p⟩ => ⟨ρ, Av, rl, tr, by simpa only [evOr] using p⟩
theorem Res.bind_assoc {α β γ : Type} {x : Res α} {f : α → Env → Res β} {g : β → Env → Res γ} : (x.bind f).bind g = x.bind fun a ρ => (f a ρ).bind g := by cases x <;> rfl
theorem t_andC (ha : PT X a (tT X.K X.mg W ea)) (hb : PW X (.BoolOp .And (b :: bs) pos) (tAndsT X.K X.mg W (eb :: es))) : PW X (.BoolOp .And (a :: b :: bs) pos) (tAndsT X.K X.mg W (ea :: eb :: es)) := by
  refine (pw_and ha hb).weaken fun σ H Q ⟨ρ, Av, rl, tr, p⟩ => ?_
  refine ⟨ρ, Av, rl, tr, ?_⟩
  simp only [evAnd, truthR] at p ⊢
  cases e : ev ea ρ with
  | bad => rw [e] at p; exact p
  | exc c ρ1 => rw [e] at p; exact p
  | ok r ρ1 =>
    rw [e] at p
    simp only [Res.bind] at p ⊢
    cases g : r.get ρ1 with
    | none => rw [g] at p; exact p.elim
    | some t =>
      rw [g] at p
      cases t <;> try exact p.elim
      rename_i k
      simp only [Option.bind, T.truth]
      intro v Av1 H1 n1 hv
      have hv : k = v := hv
      subst hv
      cases k with
      | true =>
        exact iteT ⟨ρ1, Av1, n1.rel, n1.tr, Post.later (x := truthR (evAnd (eb :: es) ρ1)) rl p n1⟩
      | false => exact iteF (p false Av1 H1 n1 rfl)
theorem t_orC (ha : PT X a (tT X.K X.mg W ea)) (hb : PW X (.BoolOp .Or (b :: bs) pos) (tOrsT X.K X.mg W (eb :: es))) : PW X (.BoolOp .Or (a :: b :: bs) pos) (tOrsT X.K X.mg W (ea :: eb :: es)) := by
  refine (pw_or ha hb).weaken fun σ H Q ⟨ρ, Av, rl, tr, p⟩ => ?_
  refine ⟨ρ, Av, rl, tr, ?_⟩
  simp only [evOr, truthR] at p ⊢
  cases e : ev ea ρ with
  | bad => rw [e] at p; exact p
  | exc c ρ1 => rw [e] at p; exact p
  | ok r ρ1 =>
    rw [e] at p
    simp only [Res.bind] at p ⊢
    cases g : r.get ρ1 with
    | none => rw [g] at p; exact p.elim
    | some t =>
      rw [g] at p
      cases t <;> try exact p.elim
      rename_i k
      simp only [Option.bind, T.truth]
      intro v Av1 H1 n1 hv
      have hv : k = v := hv
      subst hv
      cases k with
      | false =>
        exact iteF ⟨ρ1, Av1, n1.rel, n1.tr, Post.later (x := truthR (evOr (eb :: es) ρ1)) rl p n1⟩
      | true => exact iteT (p true Av1 H1 n1 rfl)

/-! ### lists of arguments, displays -/
theorem s_args0 : PA X [] (tEs X.K X.mg W []) := pa_nil.weaken fun σ H Q ⟨ρ, Av, rl, tr, p⟩ => by
  simp only [evs] at p
  exact p [] Av H (.refl rl tr) .nil
theorem s_argsC (ha : PE X a (tE X.K X.mg W (ea))) (hr : PA X as (tEs X.K X.mg W es)) (hs : starEach (a :: as) X.env = (false, eval a X.env) :: starEach as X.env) : PA X (a :: as) (tEs X.K X.mg W (ea :: es)) := by
  refine (pa_cons ha hr hs).weaken fun σ H Q ⟨ρ, Av, rl, tr, p⟩ => ?_
  simp only [evs] at p
  refine ⟨ρ, Av, rl, tr, p.bind0.mono fun x H1 ⟨r, ρ1, Av1, _, n1, q1, p1⟩ => ⟨ρ1, Av1, n1.rel, n1.tr, (p1.later rl n1).bind0.mono fun xs H2 ⟨rs, ρ2, Av2, e2, n2, q2, _⟩ => ?_⟩⟩
  rw [e2] at p1
  exact p1 (x :: xs) Av2 H2 (n1.trans rl n2) (.cons (n2.repR n1.rel q1) (RpOk.back (rp := RepRs X.K) n1 (n1.shp.trans n2.shp) q2))
theorem s_tup {k : Nat} (h : PA X as (tEs X.K X.mg W es)) : PE X (.Tuple as k pos) (tE X.K X.mg W (.tup es)) := by
  refine (pe_tup h).weaken fun σ H Q ⟨ρ, Av, rl, tr, p⟩ => ?_
  simp only [ev] at p
  refine ⟨ρ, Av, rl, tr, p.bind0.mono fun xs H1 ⟨rs, ρ1, Av1, _, n1, q1, p1⟩ => ?_⟩
  cases g : cleans rs with
  | none => rw [g] at p1; exact p1.elim
  | some ts =>
    rw [g] at p1
    simp only at p1
    split at p1
    · rename_i hl
      have r := q1.cleans n1 tr g
      have n2 := n1.home rl
      refine ⟨by rw [line, ← r.length]; exact hl, fun q hq => ?_⟩
      have m := Made.tup n2.tr hq r
      exact p1 _ _ _ (n2.trans rl (m.nx n2.rel)) (n2.backR n2.shp (m.repR n2.rel))
    · exact p1.elim
theorem s_lst (h : PA X as (tEs X.K X.mg W es)) : PE X (.List as pos) (tE X.K X.mg W (.lst es)) := by
  refine (pe_lst h).weaken fun σ H Q ⟨ρ, Av, rl, tr, p⟩ => ?_
  simp only [ev] at p
  refine ⟨ρ, Av, rl, tr, p.bind0.mono fun xs H1 ⟨rs, ρ1, Av1, _, n1, q1, p1⟩ => ?_⟩
  cases g : cleans rs with
  | none => rw [g] at p1; exact p1.elim
  | some ts =>
    rw [g] at p1
    simp only at p1
    split at p1
    · rename_i hl
      have r := q1.cleans n1 tr g
      have n2 := n1.home rl
      refine ⟨by rw [line, ← r.length]; exact hl, fun q hq => ?_⟩
      have m := Made.lst n2.tr hq r
      exact p1 _ _ _ (n2.trans rl (m.nx n2.rel)) (n2.backR n2.shp (m.repR n2.rel))
    · exact p1.elim
theorem s_dct0 : PE X (.Dict [] [] pos) (tE X.K X.mg W (.dct0)) := by
  refine pe_dnewK.weaken fun σ H Q ⟨ρ, Av, rl, tr, p⟩ => ?_
  simp only [ev] at p
  intro q hq
  have m := Made.dct (ts := []) (vs := []) tr hq (K := X.K) (by simp only [RepD])
  exact p _ _ _ (m.nx rl) (m.repR rl)
theorem s_sub (hu : X.A.units + 1 < cLine) (ha : PE X a (tE X.K X.mg W (ea))) (hb : PE X b (tE X.K X.mg W (eb))) (hs : PlainIx b) : PE X (.Subscript a b pos) (tE X.K X.mg W (.sub ea eb)) := by
  refine (pe_ix (sub_ix hu) ha hb hs).weaken fun σ H Q ⟨ρ, Av, rl, tr, p⟩ => ?_
  simp only [ev] at p
  refine ⟨ρ, Av, rl, tr, (p.bind rl).mono fun x H1 ⟨r, ρ1, Av1, _, n1, q1, p1⟩ => ⟨ρ1, Av1, n1.rel, n1.tr, (p1.bind n1.rel).mono fun y H2 ⟨q, ρ2, Av2, _, n2, q2, p2⟩ => ?_⟩⟩
  cases g : (r.get ρ2).bind fun t => (q.get ρ2).bind fun u => subSem t u with
  | none => rw [g] at p2; exact p2.elim
  | some w =>
    rw [g] at p2
    simp only [Option.bind_eq_some_iff] at g
    obtain ⟨t, e1, u, e2, e⟩ := g
    exact ⟨t, u, w, Av2, n2.tr, (n2.repR n1.rel q1).rdb n2.rel e1, q2.rdb n2.rel e2, e, fun v hv => p2 v Av2 H2 (.refl n2.rel n2.tr) hv⟩
/-! ### slices -/
abbrev rpO : Rp (Option Int) (Option Int) := fun _ _ _ _ _ a b => a = b
instance {K : PySem.W.Frag} : RpOk K rpO := ⟨fun _ _ h => h⟩
def tO (K : PySem.W.Frag) (mg : Str → Option Value) (W : WX) (es : List E) : TO := fun σ H Q => ∃ ρ Av, Rel K Av ρ σ H ∧ Tr Av H ∧ Post K mg W rpO ρ σ Av H (evO es ρ) Q
theorem _root_.L2.PO.weaken {X : Cx} {a : Option Expr} {t t' : TO} (h : PO X a t) (i : ∀ σ H Q, t' σ H Q → t σ H Q) : PO X a t' := ⟨fun pins s σ H Q I q => h.run pins s σ H Q I (i σ H Q q)⟩
theorem s_part0 : PO X none (tO X.K X.mg W []) := po_none.weaken fun σ H Q ⟨ρ, Av, rl, tr, p⟩ => by
  simp only [evO] at p
  exact p none Av H (.refl rl tr) rfl
theorem s_part1 (ha : PE X a (tE X.K X.mg W (ea))) : PO X (some a) (tO X.K X.mg W [ea]) := (po_some ha).weaken fun σ H Q ⟨ρ, Av, rl, tr, p⟩ => by
  simp only [evO] at p
  refine ⟨ρ, Av, rl, tr, (p.bind rl).mono fun x H1 ⟨r, ρ1, Av1, _, n1, q1, p1⟩ => ?_⟩
  cases r with
  | val t =>
    cases t <;> try exact p1.elim
    simp only [RepR, Rep] at q1
    exact ⟨_, q1, p1 _ Av1 H1 (.refl n1.rel n1.tr) rfl⟩
  | fresh t => exact p1.elim
  | loc i => exact p1.elim
  | deep t => exact p1.elim
theorem s_slc {lo hi : Option Expr} {p2 : Pos} (ha : PE X a (tE X.K X.mg W (ea))) (hl : PO X lo (tO X.K X.mg W es)) (hh : PO X hi (tO X.K X.mg W fs)) : PE X (.Subscript a (.Slice lo hi none p2) pos) (tE X.K X.mg W (.slc ea es fs)) := by
  refine (pe_slice slc_sl ha hl hh).weaken fun σ H Q ⟨ρ, Av, rl, tr, p⟩ => ?_
  simp only [ev] at p
  refine ⟨ρ, Av, rl, tr, (p.bind rl).mono fun x H1 ⟨r, ρ1, Av1, _, n1, q1, p1⟩ => ⟨ρ1, Av1, n1.rel, n1.tr, (p1.bind n1.rel).mono fun l H2 ⟨l', ρ2, Av2, _, n2, q2, p2⟩ =>
    ⟨ρ2, Av2, n2.rel, n2.tr, (p2.bind n2.rel).mono fun u H3 ⟨u', ρ3, Av3, _, n3, q3, p3⟩ => ?_⟩⟩⟩
  obtain ⟨z, e, k⟩ := p3.lift
  simp only [Option.bind_eq_some_iff] at e
  obtain ⟨t, e1, e⟩ := e
  subst q2 q3
  exact ⟨t, z, Av3, n3.tr, (n3.repR n2.rel (n2.repR n1.rel q1)).rdb n3.rel e1, e, k n3.rel⟩
/-! ### a[::-1] -/
theorem rev_idx (n : Nat) : Builtin.Str.strSliceIndices none none (-1) n = (List.range n).map fun k => n - 1 - k := by
  unfold Builtin.Str.strSliceIndices sliceRange
  have h1 : ¬ ((-1 : Int) > 0) := by omega
  simp only [h1, if_false]
  have h2 : (if (n : Int) - 1 > -1 then ((n : Int) - 1 - -1 - -1 - 1) / (- -1) else 0).toNat = n := by
    rw [show (- -1 : Int) = 1 from rfl, Int.ediv_one]
    split <;> omega
  rw [h2]
  refine List.map_congr_left fun k hk => ?_
  have := List.mem_range.mp hk
  omega
theorem fm_congr {α β : Type} {f g : α → Option β} : ∀ {l : List α}, (∀ k ∈ l, f k = g k) → l.filterMap f = l.filterMap g
  | [], _ => rfl
  | x :: l, h => by
    rw [List.filterMap_cons, List.filterMap_cons, h x (by simp), fm_congr fun k hk => h k (by simp [hk])]
theorem pick_rev {α : Type} (xs : List α) : ((List.range xs.length).map fun k => xs.length - 1 - k).filterMap (fun i => xs[i]?) = xs.reverse := by
  have e : ((List.range xs.length).map fun k => xs.length - 1 - k).filterMap (fun i => xs[i]?) = (List.range xs.length).filterMap fun k => xs.reverse[k]? := by
    rw [List.filterMap_map]
    refine fm_congr fun k hk => ?_
    have := List.mem_range.mp hk
    rw [List.getElem?_reverse this]
    rfl
  rw [e]
  have h : ∀ ys : List α, (List.range ys.length).filterMap (fun k => ys[k]?) = ys := by
    intro ys
    induction ys with
    | nil => rfl
    | cons y ys ih =>
      rw [List.length_cons, List.range_succ_eq_map, List.filterMap_cons]
      simp only [List.getElem?_cons_zero, List.filterMap_map]
      congr 1
  have := h xs.reverse
  rwa [List.length_reverse] at this
/-- a text from behind -/
theorem pe_revS {e : Expr} {te : TE} {k : Nat} {p1 p2 p3 pos : Pos} (he : PE X e te) : PE X (.Subscript e (.Slice none none (some (.UnaryOp .USub (.Constant (.int 1) k p1) p2)) p3) pos) (fun σ H Q => te σ H fun x H1 => ∃ z : List Nat, x = .str (S2 z) ∧ z.length ≤ 16777216 ∧ Q (.str (S2 z.reverse)) H1) := by
  refine ⟨fun pins s σ H Q I h => ?_⟩
  refine Subscript_ (thn (he.run pins s σ H _ I h) fun v s1 ⟨x, H1, I1, r1, q1⟩ => ?_)
  obtain ⟨z, ex, hz, q⟩ := q1
  subst ex
  obtain ⟨t, rfl⟩ := r1
  have hst : PO X (some (.UnaryOp .USub (.Constant (.int 1) k p1) p2)) (tPart (tUn (rU fun i => .int (-i)) (L2.tC (.int 1)))) := po_some (pe_un un_neg pe_int)
  refine wpAny_Slice (thn (po_none.run pins s1 σ H1 (fun o H2 => o = none ∧ H2 = H1) I1 ⟨rfl, rfl⟩) fun vl s2 ⟨l, H2, I2, pl, el, e2⟩ => ?_)
  subst el e2
  refine thn (po_none.run pins s2 σ H2 (fun o H3 => o = none ∧ H3 = H2) I2 ⟨rfl, rfl⟩) fun vu s3 ⟨u, H3, I3, pu, eu, e3⟩ => ?_
  subst eu e3
  refine thn (hst.run pins s3 σ H3 (fun o H4 => o = some (-1) ∧ H4 = H3) I3 ⟨1, rfl, -1, rfl, rfl, rfl⟩) fun vs s4 ⟨o, H4, I4, ps, eo, e4⟩ => ?_
  subst eo e4
  have I5 : L2.Inv X pins σ H4 { s4 with heap := s4.heap.push { cls := .type "slice", data := .fields #[vl, vu, vs] } } := I4.kept (t' := s4.toks) fun b ob q => Heap.get?_push_of_some _ q
  cases pl
  cases pu
  cases ps with
  | int i t' =>
  show wpAny (model X.prog X.w) X.A (subscriptTail e (.Slice none none (some (.UnaryOp .USub (.Constant (.int 1) k p1) p2)) p3) (.str (S2 z) t) (.ref s4.heap.objs.size)) (EP X pins σ Q) X.xe { s4 with heap := s4.heap.push { cls := .type "slice", data := .fields #[.none, .none, .int (-1) t'] } }
  refine tail_any (ops := [.str (S2 z) t, .ref s4.heap.objs.size]) (typeIs_str _ _ _) (PySem.F.slot_str_getitem.lookup) ?_ (by with_unfolding_all rfl)
  have hsl : (s4.heap.push { cls := .type "slice", data := .fields #[.none, .none, .int (-1) t'] }).IsSlice s4.heap.objs.size none none (some (-1, t')) := ⟨_, Heap.get?_push_size _ rfl, rfl, rfl⟩
  refine wpAny_getItem_str_slice (l := none) (u := none) (st := some (-1, t')) hsl (by rfl) ?_
  have es : (slicePicked (S2 z) none none (some (-1, t'))).filterMap ((S2 z).cps[·]?) = z.reverse := by
    unfold slicePicked
    show (Builtin.Str.strSliceIndices none none (-1) (S2 z).length).filterMap ((S2 z).cps[·]?) = z.reverse
    rw [rev_idx, s2_length]
    have := pick_rev z
    simpa using this
  unfold sliceMade
  have c : ¬ (((some ((-1 : Int), t')).map (·.1)).getD 1 == 1 && (slicePicked (S2 z) none none (some (-1, t'))).length == (S2 z).length) = true := by
    simp
  rw [if_neg c, es]
  exact ⟨by rw [s2_length, line, List.length_reverse]; exact hz, .str _, H4, I5.tok _, ⟨_, rfl⟩, q⟩
theorem s_rev {k : Nat} {p1 p2 p3 : Pos} (ha : PE X a (tE X.K X.mg W (ea))) : PE X (.Subscript a (.Slice none none (some (.UnaryOp .USub (.Constant (.int 1) k p1) p2)) p3) pos) (tE X.K X.mg W (.rev ea)) := by
  refine ⟨fun pins s σ H Q I ⟨ρ, Av, rl, tr, p⟩ => ?_⟩
  simp only [ev] at p
  have run0 : ∀ (Q1 : VK), (∀ r ρ1 Av1 x H1, ev ea ρ = .ok r ρ1 → Nx X.K ρ σ Av H ρ1 Av1 H1 → RepR X.K H Av1 ρ1 σ H1 r x → Post X.K X.mg W (RepR X.K) ρ1 σ Av1 H1 (liftR ((r.get ρ1).bind revSem) ρ1) Q → Q1 x H1) → tE X.K X.mg W ea σ H Q1 :=
    fun Q1 hq => ⟨ρ, Av, rl, tr, (p.bind rl).mono fun x H1 ⟨r, ρ1, Av1, e, n1, q1, p1⟩ => hq r ρ1 Av1 x H1 e n1 q1 p1⟩
  cases e0 : ev ea ρ with
  | bad => rw [e0] at p; exact p.elim
  | exc c ρ1 => exact (pe_revL ha).run pins s σ H Q I (run0 _ fun r ρ1 Av1 x H1 e => by rw [e0] at e; cases e)
  | ok r ρ1 =>
    cases g : r.get ρ1 with
    | none => rw [e0] at p; simp only [Res.bind, g] at p; exact p.elim
    | some t =>
      cases t with
      | lst ts =>
        refine (pe_revL ha).run pins s σ H Q I (run0 _ fun r' ρ1' Av1 x H1 e n1 q1 p1 => ?_)
        rw [e0] at e; cases e
        obtain ⟨z, e, k⟩ := p1.lift
        rw [g] at e
        cases e
        have hr := q1.rdb n1.rel g
        simp only [Rdb] at hr
        obtain ⟨a', vs, rfl, h1, rr⟩ := hr
        exact ⟨a', vs, rfl, .of h1, fun p hp => k n1.rel _ _ _ (.lst n1.tr hp rr.reverse)⟩
      | str z =>
        refine (pe_revS ha).run pins s σ H Q I (run0 _ fun r' ρ1' Av1 x H1 e n1 q1 p1 => ?_)
        rw [e0] at e; cases e
        obtain ⟨y, e, k⟩ := p1.lift
        rw [g] at e
        simp only [Option.bind, revSem] at e
        split at e
        · cases e
          rename_i hl
          have hr := q1.rdb n1.rel g
          simp only [Rdb] at hr
          obtain ⟨rfl, sk⟩ := hr
          exact ⟨z, rfl, hl, k n1.rel _ _ _ (.same n1.tr (by simp only [Rep, true_and]; exact sok_sub sk fun x hx => by simpa using hx))⟩
        · cases e
      | _ => rw [e0] at p; simp only [Res.bind, g, Option.bind, revSem] at p; exact p.elim
end
end MP

namespace MP
open PySem PySem.Spec L2
open PyProof.Rows hiding St
/-! ## what a def promises -/
inductive ArgsRep (K : PySem.W.Frag) (H : Hp) (Av : Addr → Prop) : List Bool → List T → List V → Prop
  | nil : ArgsRep K H Av [] [] []
  | io {ios t ts a vs} : Av a → OwnRep K H Av a t → ArgsRep K H Av ios ts vs → ArgsRep K H Av (true :: ios) (t :: ts) (.ref a :: vs)
  | rd {ios t ts v vs} : Rep K H Av t v → ArgsRep K H Av ios ts vs → ArgsRep K H Av (false :: ios) (t :: ts) (v :: vs)
def ioOf : List Bool → List V → List Addr
  | true :: ios, .ref a :: vs => a :: ioOf ios vs
  | _ :: ios, _ :: vs => ioOf ios vs
  | _, _ => []
inductive OutsRep (K : PySem.W.Frag) (H : Hp) (Av : Addr → Prop) : List Addr → List T → Prop
  | nil : OutsRep K H Av [] []
  | cons {a as t ts} : OwnRep K H Av a t → OutsRep K H Av as ts → OutsRep K H Av (a :: as) (t :: ts)
def ResRep (K : PySem.W.Frag) (H : Hp) (Av' : Addr → Prop) (H' : Hp) (fr : Bool) (t : T) (v : V) : Prop :=
  if fr then ∃ a, v = .ref a ∧ Av' a ∧ H a = none ∧ OwnRep K H' Av' a t else Rep K H' Av' t v
/-- the same, of a def whose answer's lists are new, too -/
def ResD (K : PySem.W.Frag) (H : Hp) (Av' : Addr → Prop) (H' : Hp) (f : Fn) (fr : Bool) (t : T) (v : V) : Prop :=
  if f.deep = true then DeepF K H Av' H' (fun _ => True) t v else ResRep K H Av' H' fr t v
def spOld (K : PySem.W.Frag) (mg : Str → Option Value) (f : Fn) : Sp := fun vs H Q E => ∃ ts Av, ArgsRep K H Av f.ios ts vs ∧ Tr Av H ∧ (ioOf f.ios vs).Nodup ∧
  match f.run ts with
  | .ok t fr outs => ∀ v Av' H', (∀ b, Av b → Av' b) → (∀ b, Av' b → Av b ∨ H b = none) → Tr Av' H' → Fr (fun a => a ∈ ioOf f.ios vs) H H' → OutsRep K H' Av' (ioOf f.ios vs) outs → ResRep K H Av' H' fr t v → Q v H'
  | .exc c outs => ∀ cls Av' H', mg c = some cls → (∀ b, Av b → Av' b) → (∀ b, Av' b → Av b ∨ H b = none) → Tr Av' H' → Fr (fun a => a ∈ ioOf f.ios vs) H H' → OutsRep K H' Av' (ioOf f.ios vs) outs → E cls none H'
  | .bad => False
def spOf (K : PySem.W.Frag) (mg : Str → Option Value) (f : Fn) : Sp := fun vs H Q E => ∃ ts Av, ArgsRep K H Av f.ios ts vs ∧ Tr Av H ∧ (ioOf f.ios vs).Nodup ∧
  match f.run ts with
  | .ok t fr outs => ∀ v Av' H', (∀ b, Av b → Av' b) → (∀ b, Av' b → Av b ∨ H b = none) → Tr Av' H' → Fr (fun a => a ∈ ioOf f.ios vs) H H' → OutsRep K H' Av' (ioOf f.ios vs) outs → ResD K H Av' H' f fr t v → Q v H'
  | .exc c outs => ∀ cls Av' H', mg c = some cls → (∀ b, Av b → Av' b) → (∀ b, Av' b → Av b ∨ H b = none) → Tr Av' H' → Fr (fun a => a ∈ ioOf f.ios vs) H H' → OutsRep K H' Av' (ioOf f.ios vs) outs → E cls none H'
  | .bad => False
theorem OutsRep.less {K : PySem.W.Frag} {H : Hp} {Av Av' : Addr → Prop} (ha : ∀ b, Av' b → Av b) {as : List Addr} {ts : List T} (h : OutsRep K H Av as ts) : OutsRep K H Av' as ts := by
  induction h with
  | nil => exact .nil
  | cons o _ ih => exact .cons (o.keep (fun _ _ e _ => e) (fun b _ _ n z => n (ha b z)) rfl) ih
theorem spOf_of {K : PySem.W.Frag} {mg : Str → Option Value} {f : Fn} {vs : List V} {H : Hp} {Q : VK} {E : XK} (h : spOld K mg f vs H Q E) : spOf K mg f vs H Q E := by
  obtain ⟨ts, Av, h1, tr, h3, p⟩ := h
  refine ⟨ts, Av, h1, tr, h3, ?_⟩
  cases q : f.run ts with
  | bad => rw [q] at p; exact p
  | exc c outs => rw [q] at p; exact p
  | ok t fr outs =>
    rw [q] at p
    intro v Av' H' up nw tr' frm o res
    unfold ResD at res
    split at res
    · rename_i hd
      have hfr := f.dfr hd _ _ _ _ q
      subst hfr
      have le : ∀ b, (Av' b ∧ ∃ u, H b = some u) → Av' b := fun b h => h.1
      exact p v (fun b => Av' b ∧ ∃ u, H b = some u) H' (fun b h => ⟨up b h, tr b h⟩) (fun b h => nw b h.1) (fun b h => tr' b h.1) frm (o.less le) (res.rep le fun b e z => by
        obtain ⟨u, e2⟩ := z.2
        rw [e] at e2; cases e2)
    · exact p v Av' H' up nw tr' frm o res
section
variable {K : PySem.W.Frag} {Av Av1 Av' : Addr → Prop} {ρ ρ1 : Env} {σ : St} {H H1 H' : Hp}
theorem atom_own {t : T} {a : Addr} (h : OwnRep K H Av a t) (z : t.atom = true) : False := by cases t <;> simp_all [OwnRep, T.atom]
theorem atom_rep {t : T} {v : V} (h : Rep K H Av t v) (z : t.atom = true) : Rep K H Av' t v := by cases t <;> simp_all [Rep, T.atom]
theorem atoms_reps : ∀ {ts : List T} {vs : List V}, Reps K H Av ts vs → ts.all T.atom = true → Reps K H Av' ts vs
  | [], vs, h, _ => by simp only [Reps] at h ⊢; exact h
  | t :: ts, vs, h, z => by
    simp only [Reps] at h ⊢
    simp only [List.all_cons, Bool.and_eq_true] at z
    obtain ⟨v, r, e, h1, h2⟩ := h
    exact ⟨v, r, e, atom_rep h1 z.1, atoms_reps h2 z.2⟩
theorem atoms_own {t : T} {a : Addr} (h : OwnRep K H Av a t) (z : t.atoms = true) : OwnRep K H Av' a t := by
  cases t <;> simp only [OwnRep] at h ⊢
  · obtain ⟨vs, e, r⟩ := h
    exact ⟨vs, e, atoms_reps r z⟩
  · simp [T.atoms, T.atom] at z
abbrev NoSlot (ρ : Env) (σ : St) (a : Addr) : Prop := ¬ ∃ i, kindAt ρ i ≥ 2 ∧ σ[i]? = some (some (V.ref a))
/-- the arguments as they stand -/
inductive AR (K : PySem.W.Frag) (Av : Addr → Prop) (ρ : Env) (σ : St) (H0 H : Hp) : List Bool → List R → List V → List T → Prop
  | nil : AR K Av ρ σ H0 H [] [] [] []
  | ioL {ios rs vs ts i s a} : slotAt ρ i = some s → (s.k = 2 ∨ s.k = 3) → σ[i]? = some (some (.ref a)) → Av a → OwnRep K H Av a s.t → AR K Av ρ σ H0 H ios rs vs ts → AR K Av ρ σ H0 H (true :: ios) (.loc i :: rs) (.ref a :: vs) (s.t :: ts)
  | ioF {ios rs vs ts t a} : NoSlot ρ σ a → H0 a = none → Av a → OwnRep K H Av a t → AR K Av ρ σ H0 H ios rs vs ts → AR K Av ρ σ H0 H (true :: ios) (.fresh t :: rs) (.ref a :: vs) (t :: ts)
  | rdV {ios rs vs ts t v} : Rep K H Av t v → AR K Av ρ σ H0 H ios rs vs ts → AR K Av ρ σ H0 H (false :: ios) (.val t :: rs) (v :: vs) (t :: ts)
  | rdF {ios rs vs ts t a} : NoSlot ρ σ a → H0 a = none → Av a → OwnRep K H Av a t → AR K Av ρ σ H0 H ios rs vs ts → AR K Av ρ σ H0 H (false :: ios) (.fresh t :: rs) (.ref a :: vs) (t :: ts)
  | rdL {ios rs vs ts i s a} : slotAt ρ i = some s → s.mine = true → σ[i]? = some (some (.ref a)) → Av a → OwnRep K H Av a s.t → AR K Av ρ σ H0 H ios rs vs ts → AR K Av ρ σ H0 H (false :: ios) (.loc i :: rs) (.ref a :: vs) (s.t :: ts)
variable {H0 : Hp} {ios : List Bool} {rs : List R} {vs : List V} {ts : List T}
theorem AR.of (rl : Rel K Av ρ σ H) (h : RepRs K H0 Av ρ σ H rs vs) : ∀ {ios : List Bool} {ts : List T} {imm : Bool}, argT ρ imm ios rs = some ts → AR K Av ρ σ H0 H ios rs vs ts := by
  induction h with
  | nil =>
    intro ios ts imm e
    cases ios with
    | nil => simp [argT] at e; subst e; exact .nil
    | cons _ _ => simp [argT] at e
  | cons a _ ih =>
    rename_i r v rs vs _
    intro ios ts imm e
    cases ios with
    | nil => simp [argT] at e
    | cons io ios =>
      unfold argT at e
      simp only [Option.bind_eq_some_iff, Option.map_eq_some_iff] at e
      obtain ⟨t, e1, ts', e2, rfl⟩ := e
      have rest := ih e2
      cases io with
      | true =>
        cases r with
        | deep u => simp at e1
        | val u => simp at e1
        | fresh u =>
          simp only [Option.some.injEq] at e1
          subst e1
          obtain ⟨b, rfl, hb, ns, o, z⟩ := a
          exact .ioF ns z hb o rest
        | loc i =>
          simp only at e1
          cases q : slotAt ρ i with
          | none => rw [q] at e1; cases e1
          | some s =>
            rw [q] at e1
            have hk : (s.k = 2 ∨ s.k = 3) ∧ s.t = t := by cases s <;> simp_all [Slot.k, Slot.t]
            obtain ⟨b, e3, hb, o⟩ := rl.at q (mine_k.mpr (by omega))
            have e4 := a.2
            rw [e3] at e4; cases e4
            rw [← hk.2]
            exact .ioL q hk.1 e3 hb o rest
      | false =>
        cases r with
        | deep u => simp [R.clean] at e1
        | val u =>
          simp only [R.clean, Option.some.injEq] at e1
          subst e1
          exact .rdV a rest
        | fresh u =>
          simp only [R.clean, Option.some.injEq] at e1
          subst e1
          obtain ⟨b, rfl, hb, ns, o, z⟩ := a
          exact .rdF ns z hb o rest
        | loc i =>
          simp only at e1
          split at e1
          · simp only [R.get] at e1
            cases q : slotAt ρ i with
            | none => rw [q] at e1; cases e1
            | some s =>
              rw [q] at e1
              have hk : s.mine = true ∧ s.t = t := by cases s <;> simp_all [Slot.mine, Slot.t]
              obtain ⟨b, e3, hb, o⟩ := rl.at q hk.1
              have e4 := a.2
              rw [e3] at e4; cases e4
              rw [← hk.2]
              exact .rdL q hk.1 e3 hb o rest
          · cases e1
/-- what is not avoided any more -/
inductive Dp' : List Bool → List R → List V → Addr → Prop
  | fr {ios t rs a vs} : Dp' (false :: ios) (.fresh t :: rs) (.ref a :: vs) a
  | lc {ios i rs a vs} : Dp' (false :: ios) (.loc i :: rs) (.ref a :: vs) a
  | on {io ios r rs v vs b} : Dp' ios rs vs b → Dp' (io :: ios) (r :: rs) (v :: vs) b
theorem AR.args {D : Addr → Prop} (x : AR K Av ρ σ H0 H ios rs vs ts) : (∀ b, Dp' ios rs vs b → D b) → (∀ a ∈ ioOf ios vs, ¬ D a) → ArgsRep K H (fun b => Av b ∧ ¬ D b) ios ts vs := by
  have ha : ∀ b o, H b = some o → ¬ Av b → ¬ (Av b ∧ ¬ D b) := fun b o _ n z => n z.1
  induction x with
  | nil => intro _ _; exact .nil
  | ioL q k e hb o _ ih => intro h1 h2; exact .io ⟨hb, h2 _ (by simp [ioOf])⟩ (o.keep (fun _ _ e _ => e) ha rfl) (ih (fun b z => h1 b (.on z)) fun a z => h2 a (by simp [ioOf, z]))
  | ioF ns z hb o _ ih => intro h1 h2; exact .io ⟨hb, h2 _ (by simp [ioOf])⟩ (o.keep (fun _ _ e _ => e) ha rfl) (ih (fun b z => h1 b (.on z)) fun a z => h2 a (by simp [ioOf, z]))
  | rdV hr _ ih => intro h1 h2; exact .rd (Rep.keep (fun _ _ e _ => e) ha _ _ hr) (ih (fun b z => h1 b (.on z)) fun a z => h2 a (by simpa [ioOf] using z))
  | rdF ns z hb o _ ih => intro h1 h2; exact .rd (o.rep ha fun z => z.2 (h1 _ .fr)) (ih (fun b z => h1 b (.on z)) fun a z => h2 a (by simpa [ioOf] using z))
  | rdL q k e hb o _ ih => intro h1 h2; exact .rd (o.rep ha fun z => z.2 (h1 _ .lc)) (ih (fun b z => h1 b (.on z)) fun a z => h2 a (by simpa [ioOf] using z))
/-- where an in-and-out address comes from -/
theorem AR.io_mem (x : AR K Av ρ σ H0 H ios rs vs ts) {a : Addr} : a ∈ ioOf ios vs → Av a ∧ ((∃ i s, i ∈ ioIx ios rs ∧ slotAt ρ i = some s ∧ (s.k = 2 ∨ s.k = 3) ∧ σ[i]? = some (some (.ref a))) ∨ (NoSlot ρ σ a ∧ H0 a = none ∧ ∃ p ∈ ios.zip rs, p.1 = true ∧ p.2.isFresh = true)) := by
  induction x with
  | nil => intro h; simp [ioOf] at h
  | ioL q k e hb o _ ih =>
    intro h
    simp only [ioOf, List.mem_cons] at h
    rcases h with rfl | h
    · exact ⟨hb, .inl ⟨_, _, by simp [ioIx], q, k, e⟩⟩
    · obtain ⟨h1, h2⟩ := ih h
      refine ⟨h1, h2.imp (fun ⟨i, s, m, r⟩ => ⟨i, s, by simp [ioIx, m], r⟩) fun ⟨n, z, p, m, r⟩ => ⟨n, z, p, by simp [m], r⟩⟩
  | ioF ns z hb o _ ih =>
    intro h
    simp only [ioOf, List.mem_cons] at h
    rcases h with rfl | h
    · exact ⟨hb, .inr ⟨ns, z, _, List.mem_cons_self, rfl, rfl⟩⟩
    · obtain ⟨h1, h2⟩ := ih h
      refine ⟨h1, h2.imp (fun ⟨i, s, m, r⟩ => ⟨i, s, by simp [ioIx, m], r⟩) fun ⟨n, z, p, m, r⟩ => ⟨n, z, p, by simp [m], r⟩⟩
  | rdV hr _ ih =>
    intro h
    obtain ⟨h1, h2⟩ := ih (by simpa [ioOf] using h)
    refine ⟨h1, h2.imp (fun ⟨i, s, m, r⟩ => ⟨i, s, by simpa [ioIx] using m, r⟩) fun ⟨n, z, p, m, r⟩ => ⟨n, z, p, by simp [m], r⟩⟩
  | rdF ns z hb o _ ih =>
    intro h
    obtain ⟨h1, h2⟩ := ih (by simpa [ioOf] using h)
    refine ⟨h1, h2.imp (fun ⟨i, s, m, r⟩ => ⟨i, s, by simpa [ioIx] using m, r⟩) fun ⟨n, z, p, m, r⟩ => ⟨n, z, p, by simp [m], r⟩⟩
  | rdL q k e hb o _ ih =>
    intro h
    obtain ⟨h1, h2⟩ := ih (by simpa [ioOf] using h)
    refine ⟨h1, h2.imp (fun ⟨i, s, m, r⟩ => ⟨i, s, by simpa [ioIx] using m, r⟩) fun ⟨n, z, p, m, r⟩ => ⟨n, z, p, by simp [m], r⟩⟩
theorem AR.dp_mem (x : AR K Av ρ σ H0 H ios rs vs ts) {a : Addr} : Dp' ios rs vs a → (∃ i s, i ∈ rdIx ios rs ∧ slotAt ρ i = some s ∧ s.mine = true ∧ σ[i]? = some (some (.ref a))) ∨ (NoSlot ρ σ a ∧ H0 a = none ∧ ∃ p ∈ ios.zip rs, p.1 = false ∧ p.2.isFresh = true) := by
  induction x with
  | nil => intro h; cases h
  | ioL q k e hb o _ ih =>
    intro h
    cases h with
    | on h => exact (ih h).imp (fun ⟨i, s, m, r⟩ => ⟨i, s, by simpa [rdIx] using m, r⟩) fun ⟨n, z, p, m, r⟩ => ⟨n, z, p, by simp [m], r⟩
  | ioF ns z hb o _ ih =>
    intro h
    cases h with
    | on h => exact (ih h).imp (fun ⟨i, s, m, r⟩ => ⟨i, s, by simpa [rdIx] using m, r⟩) fun ⟨n, z, p, m, r⟩ => ⟨n, z, p, by simp [m], r⟩
  | rdV hr _ ih =>
    intro h
    cases h with
    | on h => exact (ih h).imp (fun ⟨i, s, m, r⟩ => ⟨i, s, by simpa [rdIx] using m, r⟩) fun ⟨n, z, p, m, r⟩ => ⟨n, z, p, by simp [m], r⟩
  | rdF ns z hb o _ ih =>
    intro h
    cases h with
    | fr => exact .inr ⟨ns, z, _, List.mem_cons_self, rfl, rfl⟩
    | on h => exact (ih h).imp (fun ⟨i, s, m, r⟩ => ⟨i, s, by simpa [rdIx] using m, r⟩) fun ⟨n, z, p, m, r⟩ => ⟨n, z, p, by simp [m], r⟩
  | rdL q k e hb o _ ih =>
    intro h
    cases h with
    | lc => exact .inl ⟨_, _, by simp [rdIx], q, k, e⟩
    | on h => exact (ih h).imp (fun ⟨i, s, m, r⟩ => ⟨i, s, by simp [rdIx, m], r⟩) fun ⟨n, z, p, m, r⟩ => ⟨n, z, p, by simp [m], r⟩
theorem two_fresh : ∀ {ios : List Bool} {rs : List R}, (∃ p ∈ ios.zip rs, p.1 = true ∧ p.2.isFresh = true) → (∃ p ∈ ios.zip rs, p.1 = false ∧ p.2.isFresh = true) → 2 ≤ (rs.filter R.isFresh).length := by
  have one : ∀ {ios : List Bool} {rs : List R} {b : Bool}, (∃ p ∈ ios.zip rs, p.1 = b ∧ p.2.isFresh = true) → 1 ≤ (rs.filter R.isFresh).length := by
    intro ios rs b ⟨p, m, _, h⟩
    have : p.2 ∈ rs.filter R.isFresh := List.mem_filter.mpr ⟨(List.of_mem_zip m).2, h⟩
    exact List.length_pos_of_mem this
  intro ios
  induction ios with
  | nil => intro rs ⟨p, m, _⟩; simp at m
  | cons io ios ih =>
    intro rs h1 h2
    cases rs with
    | nil => obtain ⟨p, m, _⟩ := h1; simp at m
    | cons r rs =>
      obtain ⟨p, m1, a1, b1⟩ := h1
      obtain ⟨q, m2, a2, b2⟩ := h2
      simp only [List.zip_cons_cons, List.mem_cons] at m1 m2
      rw [List.filter_cons]
      rcases m1 with rfl | m1 <;> rcases m2 with rfl | m2
      · simp_all
      · have := one ⟨q, m2, a2, b2⟩
        simp only at b1
        rw [if_pos b1, List.length_cons]
        omega
      · have := one ⟨p, m1, a1, b1⟩
        simp only at b2
        rw [if_pos b2, List.length_cons]
        omega
      · have := ih ⟨p, m1, a1, b1⟩ ⟨q, m2, a2, b2⟩
        split
        · rw [List.length_cons]; omega
        · exact this
theorem AR.apart (x : AR K Av ρ σ H0 H ios rs vs ts) (rl : Rel K Av ρ σ H) (dj : ∀ i ∈ rdIx ios rs, i ∉ ioIx ios rs) (f : frOk ios rs = true) {a : Addr} (h1 : a ∈ ioOf ios vs) (h2 : Dp' ios rs vs a) : False := by
  rcases (x.io_mem h1).2 with ⟨i, s, m, q, k, e⟩ | ⟨ns, z, fr⟩ <;> rcases x.dp_mem h2 with ⟨j, s', m', q', k', e'⟩ | ⟨ns', z', fr'⟩
  · have := rl.inj i j s s' a q q' (mine_k.mpr (by omega)) k' e e'
    subst this
    exact dj i m' m
  · exact ns' ⟨i, by rw [kindAt_some q]; omega, e⟩
  · exact ns ⟨j, by rw [kindAt_some q']; have := mine_k.mp k'; have : s'.k ≥ 1 := by cases s' <;> simp [Slot.k]
                    omega, e'⟩
  · unfold frOk at f
    simp only [Bool.or_eq_true, Bool.not_eq_true', decide_eq_true_eq] at f
    rcases f with f | f
    · obtain ⟨p, m, h3, h4⟩ := fr
      rw [List.any_eq_false] at f
      exact f p m (by simp [h3, h4])
    · have := two_fresh fr fr'
      omega
theorem AR.nodup (x : AR K Av ρ σ H0 H ios rs vs ts) (rl : Rel K Av ρ σ H) : (ioIx ios rs).Nodup → ((∀ p ∈ ios.zip rs, p.1 = true → p.2.isFresh = false) ∨ (rs.filter R.isFresh).length ≤ 1) → (ioOf ios vs).Nodup := by
  induction x with
  | nil => intro _ _; simp [ioOf]
  | ioL q k e hb o y ih =>
    intro nd f
    simp only [ioIx, List.nodup_cons] at nd
    simp only [ioOf, List.nodup_cons]
    refine ⟨fun z => ?_, ih nd.2 (f.imp (fun f p m => f p (by simp [m])) fun f => by simpa [List.filter_cons, R.isFresh] using f)⟩
    rcases (y.io_mem z).2 with ⟨j, s', m, q', k', e'⟩ | ⟨ns, _⟩
    · have := rl.inj _ j _ s' _ q q' (mine_k.mpr (by omega)) (mine_k.mpr (by omega)) e e'
      subst this
      exact nd.1 m
    · exact ns ⟨_, by rw [kindAt_some q]; omega, e⟩
  | ioF ns z hb o y ih =>
    intro nd f
    simp only [ioIx] at nd
    simp only [ioOf, List.nodup_cons]
    rcases f with f | f
    · exact absurd (f _ List.mem_cons_self rfl) (by simp [R.isFresh])
    · simp only [List.filter_cons, R.isFresh, if_true, List.length_cons] at f
      have f0 : (List.filter R.isFresh _).length = 0 := Nat.le_zero.mp (Nat.le_of_succ_le_succ f)
      refine ⟨fun z => ?_, ih nd (.inr (by rw [f0]; omega))⟩
      rcases (y.io_mem z).2 with ⟨j, s', m, q', k', e'⟩ | ⟨_, _, p, m, _, h⟩
      · exact ns ⟨j, by rw [kindAt_some q']; omega, e'⟩
      · have : p.2 ∈ List.filter R.isFresh _ := List.mem_filter.mpr ⟨(List.of_mem_zip m).2, h⟩
        have := List.length_pos_of_mem this
        omega
  | rdV hr y ih =>
    intro nd f
    simp only [ioOf]
    exact ih (by simpa [ioIx] using nd) (f.imp (fun f p m => f p (by simp [m])) fun f => by simpa [List.filter_cons, R.isFresh] using f)
  | rdF ns z hb o y ih =>
    intro nd f
    simp only [ioOf]
    refine ih (by simpa [ioIx] using nd) (f.imp (fun f p m => f p (by simp [m])) fun f => ?_)
    simp only [List.filter_cons, R.isFresh, if_true, List.length_cons] at f
    omega
  | rdL q k e hb o y ih =>
    intro nd f
    simp only [ioOf]
    exact ih (by simpa [ioIx] using nd) (f.imp (fun f p m => f p (by simp [m])) fun f => by simpa [List.filter_cons, R.isFresh] using f)
theorem reown_k {s : Slot} {t : T} (k : s.k = 2 ∨ s.k = 3) : (reown s t).k = s.k ∧ (reown s t).t = t := by cases s <;> simp_all [reown, Slot.k, Slot.t]
/-- the slots behind the call -/
theorem AR.putAt {ρ0 : Env} (x : AR K Av ρ0 σ H0 H ios rs vs ts) (rl : Rel K Av ρ0 σ H) : ∀ {outs : List T} {ρ : Env}, (ioIx ios rs).Nodup → OutsRep K H' Av' (ioOf ios vs) outs → (∀ i, kindAt ρ i = kindAt ρ0 i) → 
    (putOuts ρ ios rs outs).length = ρ.length ∧ ∀ j, (j ∉ ioIx ios rs → slotAt (putOuts ρ ios rs outs) j = slotAt ρ j) ∧
      (j ∈ ioIx ios rs → ∀ s, slotAt ρ j = some s → ∃ t a, t ∈ outs ∧ slotAt (putOuts ρ ios rs outs) j = some (reown s t) ∧ (s.k = 2 ∨ s.k = 3) ∧ σ[j]? = some (some (.ref a)) ∧ OwnRep K H' Av' a t) := by
  induction x with
  | nil => intro outs ρ _ _ _; exact ⟨by simp [putOuts], fun j => ⟨fun _ => by simp [putOuts], fun m => by simp [ioIx] at m⟩⟩
  | ioL q k e hb o y ih =>
    rename_i ios rs vs ts i s a
    intro outs ρ nd r hk
    simp only [ioIx, List.nodup_cons] at nd
    simp only [ioOf] at r
    cases r with
    | cons o' r =>
      rename_i t outs
      simp only [putOuts]
      have ki := hk i
      rw [kindAt_some q] at ki
      cases q' : slotAt ρ i with
      | none => unfold kindAt at ki; rw [q'] at ki; have ki : 0 = s.k := ki; omega
      | some s' =>
        rw [kindAt_some q'] at ki
        have k' : s'.k = 2 ∨ s'.k = 3 := by omega
        have hlt := slotAt_lt q'
        simp only
        obtain ⟨l, h⟩ := ih (ρ := ρ.set i (some (reown s' t))) nd.2 r fun j => by
          unfold kindAt
          rw [slotAt_set hlt]
          by_cases z : j = i
          · subst z; rw [if_pos rfl]; have := hk j; unfold kindAt at this; rw [q'] at this; rw [← this]; exact (reown_k k').1
          · rw [if_neg z]; exact hk j
        refine ⟨by rw [l]; simp, fun j => ⟨fun m => ?_, fun m s2 q2 => ?_⟩⟩
        · simp only [ioIx, List.mem_cons, not_or] at m
          rw [(h j).1 m.2, slotAt_set hlt, if_neg m.1]
        · simp only [ioIx, List.mem_cons] at m
          by_cases z : j = i
          · subst z
            rw [q'] at q2; cases q2
            refine ⟨t, a, List.mem_cons_self, ?_, k', e, o'⟩
            rw [(h j).1 nd.1, slotAt_set hlt, if_pos rfl]
          · have m : j ∈ ioIx ios rs := m.resolve_left z
            obtain ⟨t2, a2, m2, r2⟩ := (h j).2 m s2 (by rw [slotAt_set hlt, if_neg z]; exact q2)
            exact ⟨t2, a2, List.mem_cons_of_mem _ m2, r2⟩
  | ioF ns z hb o y ih =>
    intro outs ρ nd r hk
    simp only [ioOf] at r
    cases r with
    | cons o' r =>
      obtain ⟨l, h⟩ := ih (by simpa [ioIx] using nd) r hk
      refine ⟨by simpa [putOuts] using l, fun j => ⟨fun m => by simpa [putOuts] using (h j).1 (by simpa [ioIx] using m), fun m s q => ?_⟩⟩
      obtain ⟨t2, a2, m2, r2⟩ := (h j).2 (by simpa [ioIx] using m) s q
      exact ⟨t2, a2, List.mem_cons_of_mem _ m2, by simpa [putOuts] using r2⟩
  | rdV hr y ih =>
    intro outs ρ nd r hk
    have := ih (by simpa [ioIx] using nd) (by simpa [ioOf] using r) hk
    simpa [putOuts, ioIx] using this
  | rdF ns z hb o y ih =>
    intro outs ρ nd r hk
    have := ih (by simpa [ioIx] using nd) (by simpa [ioOf] using r) hk
    simpa [putOuts, ioIx] using this
  | rdL q k e hb o y ih =>
    intro outs ρ nd r hk
    have := ih (by simpa [ioIx] using nd) (by simpa [ioOf] using r) hk
    simpa [putOuts, ioIx] using this
end
end MP

namespace MP
open PySem PySem.Spec L2
open PyProof.Rows hiding St
section
variable {K : PySem.W.Frag} {Av Av1 Av' AvF : Addr → Prop} {ρ ρ1 : Env} {σ : St} {H H1 H' : Hp} {ios : List Bool} {rs : List R} {vs : List V} {ts outs : List T}
/-- the state behind a call: the callee avoided AvC, then Av' -/
theorem call_nx (rl : Rel K Av ρ σ H) (tr : Tr Av H) (n : Nx K ρ σ Av H ρ1 Av1 H1) (x : AR K Av1 ρ1 σ H H1 ios rs vs ts) (nd : (ioIx ios rs).Nodup)
    (fr : Fr (fun a => a ∈ ioOf ios vs) H1 H') (o : OutsRep K H' Av' (ioOf ios vs) outs) (res : Addr → Prop) (hres : ∀ b, res b → H1 b = none ∧ ∃ o, H' b = some o)
    (hF : ∀ b, AvF b ↔ Av b ∨ res b) (hAt : (∀ b, AvF b → Av' b) ∨ outs.all T.atoms = true) : Nx K ρ σ Av H (putOuts ρ1 ios rs outs) AvF H' := by
  obtain ⟨hl, hs⟩ := x.putAt n.rel (ρ := ρ1) nd o fun _ => rfl
  have shp1 : Shp ρ1 (putOuts ρ1 ios rs outs) := by
    refine ⟨hl.symm, fun j => ?_, fun j t q => ?_⟩
    rotate_left
    · by_cases m : j ∈ ioIx ios rs
      · obtain ⟨_, _, _, _, k, _⟩ := (hs j).2 m _ q
        simp [Slot.k] at k
      · rw [(hs j).1 m]; exact q
    by_cases m : j ∈ ioIx ios rs
    · cases q : slotAt ρ1 j with
      | none =>
        -- an in-and-out slot stands
        have : ∀ {ios : List Bool} {rs : List R} {vs : List V} {ts : List T}, AR K Av1 ρ1 σ H H1 ios rs vs ts → j ∈ ioIx ios rs → ∃ s, slotAt ρ1 j = some s := by
          intro ios rs vs ts x
          induction x with
          | nil => intro m; simp [ioIx] at m
          | ioL q k e hb o _ ih =>
            intro m
            simp only [ioIx, List.mem_cons] at m
            rcases m with rfl | m
            · exact ⟨_, q⟩
            · exact ih m
          | ioF _ _ _ _ _ ih => intro m; exact ih (by simpa [ioIx] using m)
          | rdV _ _ ih => intro m; exact ih (by simpa [ioIx] using m)
          | rdF _ _ _ _ _ ih => intro m; exact ih (by simpa [ioIx] using m)
          | rdL _ _ _ _ _ _ ih => intro m; exact ih (by simpa [ioIx] using m)
        obtain ⟨s, q2⟩ := this x m
        rw [q] at q2; cases q2
      | some s =>
        obtain ⟨t, a, _, q2, k, _⟩ := (hs j).2 m s q
        rw [kindAt_some q, kindAt_some q2, (reown_k k).1]
    · unfold kindAt
      rw [(hs j).1 m]
  have ioA : ∀ a, a ∈ ioOf ios vs → Av1 a := fun a m => (x.io_mem m).1
  have subF : ∀ b o, H1 b = some o → ¬ Av1 b → ¬ AvF b := fun b o e m z => by
    rcases (hF b).mp z with z | z
    · exact m (n.up b z)
    · rw [(hres b z).1] at e; cases e
  have keepF : ∀ b o, H1 b = some o → ¬ Av1 b → H' b = some o := fun b o e m => fr b o e fun z => m (ioA b z)
  have outTr : ∀ a ∈ ioOf ios vs, ∃ o, H' a = some o := fun a m => by
    have : ∀ {as : List Addr} {ts : List T}, OutsRep K H' Av' as ts → a ∈ as → ∃ o, H' a = some o := by
      intro as ts r
      induction r with
      | nil => intro m; simp at m
      | cons h _ ih =>
        intro m
        simp only [List.mem_cons] at m
        rcases m with rfl | m
        · obtain ⟨o, e, _⟩ := h.there
          exact ⟨o, e⟩
        · exact ih m
    exact this o m
  have ownAv : ∀ i s a, slotAt ρ1 i = some s → s.mine = true → σ[i]? = some (some (.ref a)) → Av a := fun i s a q m e => by
    have nh := n.home rl
    obtain ⟨b, e2, hb, _⟩ := nh.rel.at q m
    rw [e] at e2; cases e2
    exact hb
  refine ⟨n.shp.trans shp1, ⟨?_, fun j s2 q2 => ?_, fun i j s s' a q q' k k' e e' => ?_⟩, fun b z => ?_, fun b z => (hF b).mpr (.inl z), fun b z => ?_, ?_⟩
  · rw [hl]; exact n.rel.len
  · by_cases m : j ∈ ioIx ios rs
    · have kk := shp1.kind j
      rw [kindAt_some q2] at kk
      cases q : slotAt ρ1 j with
      | none => unfold kindAt at kk; rw [q] at kk; have kk : 0 = s2.k := kk; cases s2 <;> simp [Slot.k] at kk
      | some s =>
        obtain ⟨t, a, mo, q3, k, e, ow⟩ := (hs j).2 m s q
        rw [q2] at q3; cases q3
        have mi : (reown s t).mine = true := mine_k.mpr (by rw [(reown_k k).1]; omega)
        refine ⟨.ref a, e, .of mi rfl ((hF a).mpr (.inl (ownAv j s a q (mine_k.mpr (by omega)) e))) ?_⟩
        rw [(reown_k k).2]
        rcases hAt with hAt | hAt
        · exact ow.keep (fun _ _ e _ => e) (fun b o _ m z => m (hAt b z)) rfl
        · have : t.atoms = true := List.all_eq_true.mp hAt t mo
          exact atoms_own ow this
    · rw [(hs j).1 m] at q2
      obtain ⟨v, e, h⟩ := n.rel.slot j s2 q2
      refine ⟨v, e, ?_⟩
      by_cases mi : s2.mine = true
      · obtain ⟨a, rfl, ha, ow⟩ := h.at mi
        refine .of mi rfl ((hF a).mpr (.inl (ownAv j s2 a q2 mi e))) (ow.keep keepF subF ?_)
        obtain ⟨u, e1, _⟩ := ow.there
        rw [e1]
        refine fr a u e1 fun z => ?_
        rcases (x.io_mem z).2 with ⟨i, s, mm, q, k, e'⟩ | ⟨ns, _⟩
        · have := n.rel.inj i j s s2 a q q2 (mine_k.mpr (by omega)) mi e' e
          subst this
          exact m mm
        · exact ns ⟨j, by rw [kindAt_some q2]; have := mine_k.mp mi; have : s2.k ≥ 1 := by cases s2 <;> simp [Slot.k]
                          omega, e⟩
      · cases s2 <;> first | exact Rep.keep keepF subF _ _ h | (simp [Slot.mine] at mi)
  · -- apart
    have kk := shp1.kind i
    have kk' := shp1.kind j
    rw [kindAt_some q] at kk
    rw [kindAt_some q'] at kk'
    have f : ∀ i s, kindAt ρ1 i = Slot.k s → ∃ s1, slotAt ρ1 i = some s1 ∧ s1.k = s.k := fun i s kk => by
      cases q : slotAt ρ1 i with
      | none => unfold kindAt at kk; rw [q] at kk; have kk : 0 = s.k := kk; cases s <;> simp [Slot.k] at kk
      | some s1 => rw [kindAt_some q] at kk; exact ⟨s1, rfl, kk⟩
    obtain ⟨s1, p1, p2⟩ := f i s kk
    obtain ⟨s1', p1', p2'⟩ := f j s' kk'
    exact n.rel.inj i j s1 s1' a p1 p1' (mine_k.mpr (by rw [p2]; exact mine_k.mp k)) (mine_k.mpr (by rw [p2']; exact mine_k.mp k')) e e'
  · rcases (hF b).mp z with z | z
    · obtain ⟨u, e⟩ := n.tr b (n.up b z)
      by_cases m : b ∈ ioOf ios vs
      · exact outTr b m
      · exact ⟨u, fr b u e m⟩
    · exact (hres b z).2
  · rcases (hF b).mp z with z | z
    · exact .inl z
    · refine .inr (n.fr.none (hres b z).1 fun w => ?_)
      obtain ⟨u, e⟩ := n.tr b (n.up b (rl.wr w))
      rw [(hres b z).1] at e; cases e
  · intro b u e nw
    refine fr b u (n.fr b u e nw) fun m => ?_
    rcases (x.io_mem m).2 with ⟨i, s, mm, q, k, e'⟩ | ⟨_, z, _⟩
    · exact nw (n.shp.wr.mp ⟨i, by rw [kindAt_some q]; exact k, e'⟩)
    · rw [z] at e; cases e
theorem frOk_or (h : frOk ios rs = true) : (∀ p ∈ ios.zip rs, p.1 = true → p.2.isFresh = false) ∨ (rs.filter R.isFresh).length ≤ 1 := by
  unfold frOk at h
  simp only [Bool.or_eq_true, Bool.not_eq_true', decide_eq_true_eq] at h
  rcases h with h | h
  · refine .inl fun p m z => ?_
    rw [List.any_eq_false] at h
    have := h p m
    simp only [z, Bool.true_and, Bool.not_eq_true] at this
    exact this
  · exact .inr (by omega)
theorem AR.dp_tr (x : AR K Av ρ σ H H1 ios rs vs ts) {b : Addr} : Dp' ios rs vs b → (rdIx ios rs).isEmpty = true → NoSlot ρ σ b ∧ H b = none := by
  intro d e
  rcases x.dp_mem d with ⟨j, s', m', _⟩ | ⟨ns', z', _⟩
  · rw [List.isEmpty_iff] at e
    rw [e] at m'; simp at m'
  · exact ⟨ns', z'⟩
end
section
variable {X : Cx} {W : WX} {as : List Expr} {a : Expr} {es : List E} {pos p : Pos} {f : Fn} {nm : Str} {addr : Addr} {fd : FuncData} {ps : List Str} {k : Nat}
/-- a def is called -/
theorem s_call {nm' : String} (F : FnOk X.prog X.w X.K X.mg X.base (L2.CX X.prog X.w) k addr fd ps (spOf X.K X.mg f)) (hr : Room k X.A) (hg : Gl X nm) (hm : X.mg nm = some (.ref addr)) (hk : PySem.W.keepIn X.K (.ref addr) = true) (hb : Binds X.K fd ps []) (tk : Takes X W)
    (ha : PA X (a :: as) (tEs X.K X.mg W es)) (hdb : (nm == ("__debug__" : Str)) = false) (he : starEach (a :: as) X.env = (false, eval a X.env) :: starEach as X.env) (hpl : (backTo pos (starEach as X.env)).any (·.1) = false) :
    PE X (.Call (.Name nm p) (a :: as) [] pos) (tE X.K X.mg W (.call nm' f es)) := by
  refine (pe_callS F hr hg hm hk hb (fun σ => passAt tk σ) ha hdb he hpl).weaken fun σ H Q ⟨ρ, Av, rl, tr, p⟩ => ?_
  simp only [ev] at p
  refine ⟨ρ, Av, rl, tr, p.bind0.mono fun vs H1 ⟨rs, ρ1, Av1, _, n, q1, p1⟩ => ?_⟩
  unfold callRes at p1
  split at p1
  · rename_i hc
    obtain ⟨nd, dj, fk⟩ := hc
    cases g : argT ρ1 f.imm f.ios rs with
    | none => rw [g] at p1; exact p1.elim
    | some ts =>
      rw [g] at p1
      simp only at p1
      have x := AR.of n.rel q1 g
      have hio : ∀ b ∈ ioOf f.ios vs, ¬ Dp' f.ios rs vs b := fun b m d => x.apart n.rel dj fk m d
      refine spOf_of ⟨ts, fun b => Av1 b ∧ ¬ Dp' f.ios rs vs b, x.args (fun _ h => h) hio, fun b h => n.tr b h.1, x.nodup n.rel nd (frOk_or fk), ?_⟩
      cases r : f.run ts with
      | bad => rw [r] at p1; exact p1.elim
      | ok t fr outs =>
        rw [r] at p1
        simp only at p1 ⊢
        split at p1
        · rename_i hat
          simp only [Bool.or_eq_true, Bool.and_eq_true] at hat
          intro v Av' H' up nw tr' frm o res
          have at1 : ∀ b, Av b → (rdIx f.ios rs).isEmpty = true → Av' b := fun b hb e => up b ⟨n.up b hb, fun d => by
            obtain ⟨_, z⟩ := x.dp_tr d e
            obtain ⟨u, e⟩ := tr b hb
            rw [z] at e; cases e⟩
          cases fr with
          | true =>
            simp only [ResRep, if_true] at res
            obtain ⟨c, rfl, hc, hn, ow⟩ := res
            have nx := call_nx (AvF := fun b => Av b ∨ b = c) rl tr n x nd frm o (fun b => b = c) (fun b e => by subst e; exact ⟨hn, ow.there.imp fun _ h => h.1⟩) (fun b => .rfl)
              (hat.imp (fun e b hb => hb.elim (fun hb => at1 b hb e) fun z => by rw [z]; exact hc) fun h => h.2)
            refine p1 (.ref c) _ H' nx ⟨c, rfl, .inr rfl, fun z => ?_, ?_, ?_⟩
            · obtain ⟨i, ki, e⟩ := nx.shp.mn.mp z
              unfold kindAt at ki
              cases q : slotAt ρ i with
              | none => rw [q] at ki; simp at ki
              | some s =>
                rw [q] at ki
                have ki : s.k ≥ 2 := ki
                obtain ⟨b, e2, hb, _⟩ := rl.at q (mine_k.mpr (by omega))
                rw [e] at e2; cases e2
                obtain ⟨u, e3⟩ := n.tr c (n.up c hb)
                rw [hn] at e3; cases e3
            · rcases hat with hat | hat
              · exact ow.keep (fun _ _ e _ => e) (fun b u e m z => m (z.elim (fun hb => at1 b hb hat) fun z => by rw [z]; exact hc)) rfl
              · have h1 : t.atoms = true := by
                  have h0 := hat.1
                  simp only [T.okR, Bool.true_and, Bool.or_eq_true] at h0
                  exact h0.elim (fun h => (atom_own ow h).elim) id
                exact atoms_own ow h1
            · refine n.fr.none hn fun w => ?_
              obtain ⟨u, e⟩ := n.tr c (n.up c (rl.wr w))
              rw [hn] at e; cases e
          | false =>
            simp only [ResRep, Bool.false_eq_true, if_false] at res
            have nx := call_nx (AvF := Av) rl tr n x nd frm o (fun _ => False) (fun _ e => e.elim) (fun b => by simp)
              (hat.imp (fun e b hb => at1 b hb e) fun h => h.2)
            refine p1 v _ H' nx ?_
            show Rep X.K H' Av t v
            rcases hat with hat | hat
            · exact Rep.keep (fun _ _ e _ => e) (fun b u e m z => m (at1 b z hat)) _ _ res
            · exact atom_rep res (by have h0 := hat.1; simpa only [T.okR, Bool.false_and, Bool.or_false] using h0)
        · exact p1.elim
      | exc c outs =>
        rw [r] at p1
        simp only at p1 ⊢
        split at p1
        · rename_i hat
          simp only [Bool.or_eq_true] at hat
          intro cls Av' H' hm up nw tr' frm o
          have at1 : ∀ b, Av b → (rdIx f.ios rs).isEmpty = true → Av' b := fun b hb e => up b ⟨n.up b hb, fun d => by
            obtain ⟨_, z⟩ := x.dp_tr d e
            obtain ⟨u, e⟩ := tr b hb
            rw [z] at e; cases e⟩
          exact p1 cls Av H' hm (call_nx (AvF := Av) rl tr n x nd frm o (fun _ => False) (fun _ e => e.elim) (fun b => by simp) (hat.imp (fun e b hb => at1 b hb e) fun h => h))
        · exact p1.elim
  · exact p1.elim
theorem _root_.L2.pe_callS0 {X : Cx} {f : Addr} {k : Nat} {fd : FuncData} {ps : List Str} {sp : Sp} {E : St → XK} {x : Str} {p pos : Pos} (F : FnOk X.prog X.w X.K X.mg X.base (L2.CX X.prog X.w) k f fd ps sp) (hr : Room k X.A) (hg : Gl X x) (hm : X.mg x = some (.ref f)) (hk : PySem.W.keepIn X.K (.ref f) = true) (hb : Binds X.K fd ps []) (hx : ∀ σ, PassesAt (L2.CX X.prog X.w) X σ (E σ))
    (hdb : (x == ("__debug__" : Str)) = false) : PE X (.Call (.Name x p) [] [] pos) (tCallS sp E tNil) := by
  refine ⟨fun pins s σ H Q I h => ?_⟩
  refine wpAny_Call_Name_kw (ld_glob I hg hm ?_ hdb)
  exact PySem.W.callWith_K0 I.kIn hk (run_fnS F hr hb (hx σ) I .nil h)
/-- a def is called with nothing -/
theorem s_call0 {nm' : String} (F : FnOk X.prog X.w X.K X.mg X.base (L2.CX X.prog X.w) k addr fd ps (spOf X.K X.mg f)) (hr : Room k X.A) (hg : Gl X nm) (hm : X.mg nm = some (.ref addr)) (hk : PySem.W.keepIn X.K (.ref addr) = true) (hb : Binds X.K fd ps []) (tk : Takes X W)
    (hdb : (nm == ("__debug__" : Str)) = false) :
    PE X (.Call (.Name nm p) [] [] pos) (tE X.K X.mg W (.call nm' f [])) := by
  refine (L2.pe_callS0 F hr hg hm hk hb (fun σ => passAt tk σ) hdb).weaken fun σ H Q ⟨ρ, Av, rl, tr, p⟩ => ?_
  simp only [ev] at p
  have z := p.bind0 (rp := RepRs X.K)
  simp only [evs] at z
  obtain ⟨vs, hvs⟩ : ∃ vs : List V, vs = [] := ⟨_, rfl⟩
  obtain ⟨H1, hH1⟩ : ∃ H1 : Hp, H1 = H := ⟨_, rfl⟩
  obtain ⟨rs, ρ1, Av1, _, n, q1, p1⟩ := z vs Av H1 (by rw [hH1]; exact .refl rl tr) (by rw [hvs, hH1]; exact .nil)
  show spOf X.K X.mg f [] H Q _
  rw [← hvs, ← hH1]
  unfold callRes at p1
  split at p1
  · rename_i hc
    obtain ⟨nd, dj, fk⟩ := hc
    cases g : argT ρ1 f.imm f.ios rs with
    | none => rw [g] at p1; exact p1.elim
    | some ts =>
      rw [g] at p1
      simp only at p1
      have x := AR.of n.rel q1 g
      have hio : ∀ b ∈ ioOf f.ios vs, ¬ Dp' f.ios rs vs b := fun b m d => x.apart n.rel dj fk m d
      refine spOf_of ⟨ts, fun b => Av1 b ∧ ¬ Dp' f.ios rs vs b, x.args (fun _ h => h) hio, fun b h => n.tr b h.1, x.nodup n.rel nd (frOk_or fk), ?_⟩
      cases r : f.run ts with
      | bad => rw [r] at p1; exact p1.elim
      | ok t fr outs =>
        rw [r] at p1
        simp only at p1 ⊢
        split at p1
        · rename_i hat
          simp only [Bool.or_eq_true, Bool.and_eq_true] at hat
          intro v Av' H' up nw tr' frm o res
          have at1 : ∀ b, Av b → (rdIx f.ios rs).isEmpty = true → Av' b := fun b hb e => up b ⟨n.up b hb, fun d => by
            obtain ⟨_, z⟩ := x.dp_tr d e
            obtain ⟨u, e⟩ := tr b hb
            rw [z] at e; cases e⟩
          cases fr with
          | true =>
            simp only [ResRep, if_true] at res
            obtain ⟨c, rfl, hc, hn, ow⟩ := res
            have nx := call_nx (AvF := fun b => Av b ∨ b = c) rl tr n x nd frm o (fun b => b = c) (fun b e => by subst e; exact ⟨hn, ow.there.imp fun _ h => h.1⟩) (fun b => .rfl)
              (hat.imp (fun e b hb => hb.elim (fun hb => at1 b hb e) fun z => by rw [z]; exact hc) fun h => h.2)
            refine p1 (.ref c) _ H' nx ⟨c, rfl, .inr rfl, fun z => ?_, ?_, ?_⟩
            · obtain ⟨i, ki, e⟩ := nx.shp.mn.mp z
              unfold kindAt at ki
              cases q : slotAt ρ i with
              | none => rw [q] at ki; simp at ki
              | some s =>
                rw [q] at ki
                have ki : s.k ≥ 2 := ki
                obtain ⟨b, e2, hb, _⟩ := rl.at q (mine_k.mpr (by omega))
                rw [e] at e2; cases e2
                obtain ⟨u, e3⟩ := n.tr c (n.up c hb)
                rw [hn] at e3; cases e3
            · rcases hat with hat | hat
              · exact ow.keep (fun _ _ e _ => e) (fun b u e m z => m (z.elim (fun hb => at1 b hb hat) fun z => by rw [z]; exact hc)) rfl
              · have h1 : t.atoms = true := by
                  have h0 := hat.1
                  simp only [T.okR, Bool.true_and, Bool.or_eq_true] at h0
                  exact h0.elim (fun h => (atom_own ow h).elim) id
                exact atoms_own ow h1
            · refine n.fr.none hn fun w => ?_
              obtain ⟨u, e⟩ := n.tr c (n.up c (rl.wr w))
              rw [hn] at e; cases e
          | false =>
            simp only [ResRep, Bool.false_eq_true, if_false] at res
            have nx := call_nx (AvF := Av) rl tr n x nd frm o (fun _ => False) (fun _ e => e.elim) (fun b => by simp)
              (hat.imp (fun e b hb => at1 b hb e) fun h => h.2)
            refine p1 v _ H' nx ?_
            show Rep X.K H' Av t v
            rcases hat with hat | hat
            · exact Rep.keep (fun _ _ e _ => e) (fun b u e m z => m (at1 b z hat)) _ _ res
            · exact atom_rep res (by have h0 := hat.1; simpa only [T.okR, Bool.false_and, Bool.or_false] using h0)
        · exact p1.elim
      | exc c outs =>
        rw [r] at p1
        simp only at p1 ⊢
        split at p1
        · rename_i hat
          simp only [Bool.or_eq_true] at hat
          intro cls Av' H' hm up nw tr' frm o
          have at1 : ∀ b, Av b → (rdIx f.ios rs).isEmpty = true → Av' b := fun b hb e => up b ⟨n.up b hb, fun d => by
            obtain ⟨_, z⟩ := x.dp_tr d e
            obtain ⟨u, e⟩ := tr b hb
            rw [z] at e; cases e⟩
          exact p1 cls Av H' hm (call_nx (AvF := Av) rl tr n x nd frm o (fun _ => False) (fun _ e => e.elim) (fun b => by simp) (hat.imp (fun e b hb => at1 b hb e) fun h => h))
        · exact p1.elim
  · exact p1.elim
end
end MP

namespace MP
open PySem PySem.Spec L2
open PyProof.Rows hiding St
section
variable {X : Cx} {W : WX} {as : List Expr} {a o : Expr} {ea eo : E} {es : List E} {pos p apos cpos : Pos} {nm : Str} {ps : List Str} {k : Nat}
/-! ### builtins -/
theorem blt_boot (b : Blt) : bootBuiltins (b.name : Str) = some b.val := by cases b <;> decide +kernel
theorem blt_nn (b : Blt) : (b.name : Str) ≠ "__name__" := by cases b <;> decide +kernel
theorem blt_dbg (b : Blt) : ((b.name : Str) == ("__debug__" : Str)) = false := by cases b <;> decide +kernel
theorem s_blt (hc : X.calm = true) {b : Blt} (hg : Gl X (b.name : Str)) (hm : X.mg (b.name : Str) = none) (ha : PA X (a :: as) (tEs X.K X.mg W es))
    (he : starEach (a :: as) X.env = (false, eval a X.env) :: starEach as X.env) (hpl : (backTo pos (starEach as X.env)).any (·.1) = false) :
    PE X (.Call (.Name (b.name : Str) p) (a :: as) [] pos) (tE X.K X.mg W (.blt b es)) := by
  have r : PE X (.Call (.Name (b.name : Str) p) (a :: as) [] pos) (tCB (rCall X.K b.sem) (tEs X.K X.mg W es)) := by
    have hok := Blt.ok hc b
    have hv := blt_boot b
    by_cases z : b.ty = true
    · unfold Blt.val at hok hv
      rw [if_pos z] at hok hv
      exact pe_callTy hok hg hm hv ha (blt_nn b) (blt_dbg b) he hpl
    · unfold Blt.val at hok hv
      rw [if_neg z] at hok hv
      exact pe_callB hok hg hm hv ha (blt_nn b) (blt_dbg b) he hpl
  refine r.weaken fun σ H Q ⟨ρ, Av, rl, tr, p⟩ => ?_
  simp only [ev] at p
  refine ⟨ρ, Av, rl, tr, (p.bind rl).mono fun vs H1 ⟨rs, ρ1, Av1, _, n1, q1, p1⟩ => ?_⟩
  obtain ⟨z, e, k⟩ := p1.lift
  simp only [Option.bind_eq_some_iff] at e
  obtain ⟨ts, e1, e⟩ := e
  exact ⟨ts, z, Av1, n1.tr, q1.gets n1.rel e1, e, k n1.rel⟩
/-! ### changes of an own object -/
/-- an own object is written -/
theorem wrote {K : PySem.W.Frag} {Av : Addr → Prop} {ρ : Env} {σ : St} {H : Hp} {i : Nat} {s : Slot} {b : Addr} {u : HO} {t' : T} (rl : Rel K Av ρ σ H) (tr : Tr Av H) (q : slotAt ρ i = some s) (k : s.k = 2 ∨ s.k = 3) (e : σ[i]? = some (some (.ref b)))
    (h : OwnRep K (upd H b u) Av b t') : Nx K ρ σ Av H (ρ.set i (some (reown s t'))) Av (upd H b u) := by
  have hlt := slotAt_lt q
  obtain ⟨b', e2, hb, ow⟩ := rl.at q (mine_k.mpr (by omega))
  rw [e] at e2; cases e2
  have kp : ∀ c o, H c = some o → ¬ Av c → upd H b u c = some o := fun c o e n => by rw [upd_ne (fun z => n (by rw [z]; exact hb))]; exact e
  refine ⟨⟨by simp, fun j => ?_, fun j t qj => ?_⟩, ⟨by simpa using rl.len, fun j s2 q2 => ?_, fun j l s2 s3 c q2 q3 m2 m3 e2 e3 => ?_⟩, fun c hc => ?_, fun _ h => h, fun _ h => .inl h, Fr.wrote ⟨i, by rw [kindAt_some q]; exact k, e⟩⟩
  · unfold kindAt
    rw [slotAt_set hlt]
    by_cases z : j = i
    · subst z; rw [if_pos rfl, q]; exact (reown_k k).1.symm
    · rw [if_neg z]
  · rw [slotAt_set hlt]
    by_cases z : j = i
    · subst z; rw [q] at qj; cases qj; simp [Slot.k] at k
    · rw [if_neg z]; exact qj
  · rw [slotAt_set hlt] at q2
    by_cases z : j = i
    · subst z
      rw [if_pos rfl] at q2
      cases q2
      refine ⟨_, e, .of (mine_k.mpr (by rw [(reown_k k).1]; omega)) rfl hb ?_⟩
      rw [(reown_k k).2]
      exact h
    · rw [if_neg z] at q2
      obtain ⟨v, e4, h4⟩ := rl.slot j s2 q2
      refine ⟨v, e4, ?_⟩
      by_cases mi : s2.mine = true
      · obtain ⟨c, rfl, hc, oc⟩ := h4.at mi
        refine .of mi rfl hc (oc.keep kp (fun _ _ _ n => n) (upd_ne fun z2 => ?_))
        subst z2
        exact z (rl.inj j i s2 s c q2 q mi (mine_k.mpr (by omega)) e4 e)
      · cases s2 <;> first | exact Rep.keep kp (fun _ _ _ n => n) _ _ h4 | (simp [Slot.mine] at mi)
  · have f : ∀ j s2, slotAt (ρ.set i (some (reown s t'))) j = some s2 → s2.mine = true → ∃ s3, slotAt ρ j = some s3 ∧ s3.mine = true := fun j s2 q2 m2 => by
      rw [slotAt_set hlt] at q2
      by_cases z : j = i
      · subst z; exact ⟨s, q, mine_k.mpr (by omega)⟩
      · rw [if_neg z] at q2; exact ⟨s2, q2, m2⟩
    obtain ⟨a1, a2, a3⟩ := f j s2 q2 m2
    obtain ⟨b1, b2, b3⟩ := f l s3 q3 m3
    exact rl.inj j l a1 b1 c a2 b2 a3 b3 e2 e3
  · by_cases z : c = b
    · exact ⟨u, by rw [z, upd_same]⟩
    · obtain ⟨o, e4⟩ := tr c hc
      exact ⟨o, by rw [upd_ne z]; exact e4⟩
def Mut.name : Mut → Str
  | .append => "append" | .extend => "extend" | .pop => "pop" | .insert => "insert" | .reverse => "reverse" | .clear => "clear" | .setdefault => "setdefault"
/-- by values: the object at a, what it holds, what is told -/
def rMut (K : PySem.W.Frag) (m : Mut) : V → List V → Hp → VK → Prop := fun x xs H Q => ∃ b t ts t' r Av, x = .ref b ∧ Av b ∧ Tr Av H ∧ OwnRep K H Av b t ∧ (if m.reads then Paired (Rdb K H Av) ts xs else Reps K H Av ts xs) ∧ m.sem t ts = some (t', r) ∧
  ∀ v u, OwnRep K (upd H b u) Av b t' → Rep K (upd H b u) Av r v → Q v (upd H b u)
theorem wr_keep {Av : Addr → Prop} {H : Hp} {b : Addr} {u : HO} (hb : Av b) : ∀ c o, H c = some o → ¬ Av c → upd H b u c = some o := fun c o e n => by rw [upd_ne (fun z => n (by rw [z]; exact hb))]; exact e
theorem Reps.dropLast {K : PySem.W.Frag} {H : Hp} {Av : Addr → Prop} {ts : List T} {vs : List V} (r : Reps K H Av ts vs) : Reps K H Av ts.dropLast vs.dropLast := by
  rw [List.dropLast_eq_take, List.dropLast_eq_take, r.length]
  exact r.take _
def Mut.id : Mut → String
  | .append => "list.append" | .extend => "list.extend" | .pop => "list.pop" | .insert => "list.insert" | .reverse => "list.reverse" | .clear => "list.clear" | .setdefault => "dict.setdefault"
theorem Mut.ok (m : Mut) (hd : m.dict = false) : MtR X m.id (rMut X.K m) := by
  intro pins s σ H x xs v us Q I rx rs h
  obtain ⟨b, t, ts, t', r, Av, rfl, hb, tr, ow, rp, e, k⟩ := h
  cases m <;> simp only [Mut.id] <;> simp only [Mut.reads, if_true, Bool.false_eq_true, if_false] at rp
  case append =>
    cases t <;> (try (simp [Mut.sem] at e; done))
    rename_i l
    cases ts with
    | nil => simp [Mut.sem] at e
    | cons t1 ts =>
      cases ts with
      | cons _ _ => simp [Mut.sem] at e
      | nil =>
        simp only [Mut.sem] at e
        split at e
        · rename_i hl
          cases e
          simp only [OwnRep] at ow
          obtain ⟨ls, g, rr⟩ := ow
          simp only [Reps] at rp
          obtain ⟨y, _, rfl, hy, rfl⟩ := rp
          refine mt_append pins s σ H _ _ v us Q I rx rs ⟨b, ls, y, rfl, rfl, g, by rw [line, ← rr.length]; exact hl, k _ _ ?_ (by simp [Rep])⟩
          simp only [OwnRep]
          exact ⟨_, upd_same, (Reps.keep (wr_keep hb) (fun _ _ _ n => n) _ _ rr).append (.one (Rep.keep (wr_keep hb) (fun _ _ _ n => n) _ _ hy))⟩
        · cases e
  case extend =>
    cases t <;> (try (simp [Mut.sem] at e; done))
    rename_i l
    cases rp with
    | nil => simp [Mut.sem] at e
    | cons h1 rp =>
      rename_i t1 x1 ts xs
      cases rp with
      | cons h2 rp => cases t1 <;> simp [Mut.sem] at e
      | nil =>
        cases t1 <;> (try (simp [Mut.sem] at e; done))
        simp only [Mut.sem] at e
        split at e
        · rename_i hl
          cases e
          simp only [OwnRep] at ow
          obtain ⟨ls, g, rr⟩ := ow
          simp only [Rdb] at h1
          obtain ⟨c, zs, rfl, g2, r2⟩ := h1
          refine mt_extend pins s σ H _ _ v us Q I rx rs ⟨b, c, ls, zs, rfl, rfl, g, g2, by rw [line, ← rr.length, ← r2.length]; exact hl, k _ _ ?_ (by simp [Rep])⟩
          simp only [OwnRep]
          exact ⟨_, upd_same, (Reps.keep (wr_keep hb) (fun _ _ _ n => n) _ _ rr).append (Reps.keep (wr_keep hb) (fun _ _ _ n => n) _ _ r2)⟩
        · cases e
  case insert =>
    cases t <;> (try (simp [Mut.sem] at e; done))
    rename_i l
    cases ts with
    | nil => simp [Mut.sem] at e
    | cons t1 ts =>
      cases ts with
      | nil => cases t1 <;> simp [Mut.sem] at e
      | cons t2 ts =>
        cases ts with
        | cons _ _ => cases t1 <;> simp [Mut.sem] at e
        | nil =>
          cases t1 <;> (try (simp [Mut.sem] at e; done))
          rename_i i
          simp only [Mut.sem] at e
          split at e
          · rename_i hl
            cases e
            simp only [OwnRep] at ow
            obtain ⟨ls, g, rr⟩ := ow
            simp only [Reps] at rp
            obtain ⟨y1, _, rfl, hy1, y2, _, rfl, hy2, rfl⟩ := rp
            simp only [Rep] at hy1
            subst hy1
            refine mt_insert pins s σ H _ _ v us Q I rx rs ⟨b, ls, i, y2, rfl, rfl, g, by rw [line, ← rr.length]; exact hl.2.2, hl.1, hl.2.1, k _ _ ?_ (by simp [Rep])⟩
            simp only [OwnRep]
            refine ⟨_, upd_same, ?_⟩
            have r3 := Reps.keep (wr_keep hb (u := .lst (ls.take i.toNat ++ [y2] ++ ls.drop i.toNat))) (fun _ _ _ n => n) _ _ rr
            exact ((r3.take _).append (.one (Rep.keep (wr_keep hb) (fun _ _ _ n => n) _ _ hy2))).append (r3.drop _)
          · cases e
  case pop =>
    cases t <;> (try (simp [Mut.sem] at e; done))
    rename_i l
    cases ts with
    | cons t1 ts =>
      cases ts with
      | cons _ _ => cases t1 <;> simp [Mut.sem] at e
      | nil =>
        cases t1 <;> (try (simp [Mut.sem] at e; done))
        rename_i i
        simp only [Mut.sem] at e
        split at e
        · rename_i hi
          simp only [Option.map_eq_some_iff] at e
          obtain ⟨t1, e1, e⟩ := e
          cases e
          simp only [OwnRep] at ow
          obtain ⟨ls, g, rr⟩ := ow
          simp only [Reps] at rp
          obtain ⟨y1, _, rfl, hy1, rfl⟩ := rp
          simp only [Rep] at hy1
          subst hy1
          obtain ⟨y, e2, hy⟩ := rr.pick e1
          obtain ⟨j, sj, ej, jl, j1, j2⟩ := atI_get e2
          have jj : j = if 0 ≤ i then i.toNat else (i + l.length).toNat := by
            have hl := rr.length
            unfold seqIndex? at sj
            by_cases h0 : 0 ≤ i
            · rw [if_pos h0]
              have h1 : ¬ i < 0 := by omega
              simp only [h1, if_false] at sj
              split at sj
              · cases sj; rfl
              · cases sj
            · rw [if_neg h0]
              have h1 : i < 0 := by omega
              simp only [h1, if_true] at sj
              split at sj
              · cases sj; rw [hl]
              · cases sj
          refine mt_popAt pins s σ H _ _ v us Q I rx rs ⟨b, ls, i, j, y, rfl, rfl, g, hi.1, hi.2, sj, ej, k _ _ ?_ (Rep.keep (wr_keep hb) (fun _ _ _ n => n) _ _ hy)⟩
          simp only [OwnRep]
          refine ⟨_, upd_same, ?_⟩
          rw [← jj]
          have r3 := Reps.keep (wr_keep hb (u := .lst (ls.eraseIdx j))) (fun _ _ _ n => n) _ _ rr
          rw [List.eraseIdx_eq_take_drop_succ, List.eraseIdx_eq_take_drop_succ]
          rw [List.eraseIdx_eq_take_drop_succ] at r3
          exact (r3.take _).append (r3.drop _)
        · cases e
    | nil =>
      simp only [Mut.sem, Option.map_eq_some_iff] at e
      obtain ⟨t1, e1, e⟩ := e
      cases e
      simp only [OwnRep] at ow
      obtain ⟨ls, g, rr⟩ := ow
      simp only [Reps] at rp
      subst rp
      obtain ⟨y, e2, hy⟩ := rr.get e1
      refine mt_pop pins s σ H _ _ v us Q I rx rs ⟨b, ls, y, rfl, rfl, g, by rw [← rr.length]; exact e2, k _ _ ?_ (Rep.keep (wr_keep hb) (fun _ _ _ n => n) _ _ hy)⟩
      simp only [OwnRep]
      exact ⟨_, upd_same, Reps.keep (wr_keep hb) (fun _ _ _ n => n) _ _ rr.dropLast⟩
  case reverse =>
    cases t <;> (try (simp [Mut.sem] at e; done))
    rename_i l
    cases ts with
    | cons _ _ => simp [Mut.sem] at e
    | nil =>
      simp only [Mut.sem] at e
      cases e
      simp only [OwnRep] at ow
      obtain ⟨ls, g, rr⟩ := ow
      simp only [Reps] at rp
      subst rp
      refine mt_reverse pins s σ H _ _ v us Q I rx rs ⟨b, ls, rfl, rfl, g, k _ _ ?_ (by simp [Rep])⟩
      simp only [OwnRep]
      exact ⟨_, upd_same, Reps.keep (wr_keep hb) (fun _ _ _ n => n) _ _ rr.reverse⟩
  case clear =>
    cases t <;> (try (simp [Mut.sem] at e; done))
    rename_i l
    cases ts with
    | cons _ _ => simp [Mut.sem] at e
    | nil =>
      simp only [Mut.sem] at e
      cases e
      simp only [OwnRep] at ow
      obtain ⟨ls, g, rr⟩ := ow
      simp only [Reps] at rp
      subst rp
      refine mt_clear pins s σ H _ _ v us Q I rx rs ⟨b, ls, rfl, rfl, g, k _ _ ?_ (by simp [Rep])⟩
      simp only [OwnRep]
      exact ⟨_, upd_same, .nil⟩
  all_goals (cases hd)
end
end MP

namespace MP
open PySem PySem.Spec L2
open PyProof.Rows hiding St
section
variable {X : Cx} {W : WX} {as : List Expr} {a o : Expr} {ea eo : E} {es : List E} {pos p apos cpos : Pos} {nm : Str} {ps : List Str} {k : Nat}
/-! ### methods that change -/
theorem plainAs {pos : Pos} {as : List Expr} {env : PySem.Env} (h : (starEach as env).all (fun x => !x.1) = true) : (backTo pos (starEach as env)).all (fun x => !x.1) = true ∧ (backTo pos (starEach as env)).any (·.1) = false := by
  constructor
  · unfold backTo
    rw [List.all_map]
    exact h
  · unfold backTo
    rw [List.any_map, List.any_eq_false]
    intro x hx
    have := List.all_eq_true.mp h x hx
    simpa using this
theorem mut_slot (m : Mut) (hm : m.dict = false) : PySem.Slot "list" m.name m.id := by
  cases m
  · exact PySem.F.slot_list_append
  · exact PySem.F.slot_list_extend
  · exact PySem.F.slot_list_pop
  · exact PySem.F.slot_list_insert
  · exact PySem.F.slot_list_reverse
  · exact PySem.F.slot_list_clear
  · cases hm
theorem mut_type (m : Mut) (hm : m.dict = false) : typeOf (.builtin m.id) = pure (.type "method_descriptor") := by
  cases m
  · exact PySem.F.type_list_append
  · exact PySem.F.type_list_extend
  · exact PySem.F.type_list_pop
  · exact PySem.F.type_list_insert
  · exact PySem.F.type_list_reverse
  · exact PySem.F.type_list_clear
  · cases hm
theorem mut_read {m : Mut} {i : Nat} {σ : St} {H : Hp} {Q : VK} (hm : m.dict = false) (h : (tE X.K X.mg W (.mut m i es)) σ H Q) : (tVar i) σ H fun x H1 => tyV X.K "list" x H1 ∧ tEs X.K X.mg W es σ H1 fun xs H2 => rMut X.K m x xs H2 Q := by
  obtain ⟨ρ, Av, rl, tr, p⟩ := h
  simp only [ev] at p
  split at p
  · rename_i hat
    unfold mutAt at hat
    cases q : slotAt ρ i with
    | none => rw [q] at hat; cases hat
    | some s =>
      rw [q] at hat
      simp only [hm, Bool.and_eq_true, Bool.false_eq_true, if_false] at hat
      obtain ⟨b, e, hb, ow⟩ := rl.at q hat.1
      refine ⟨.ref b, e, ?_, ρ, Av, rl, tr, p.bind0.mono fun xs H2 ⟨rs, ρ1, Av1, _, n, q1, p1⟩ => ?_⟩
      · cases ht : s.t <;> rw [ht] at hat ow <;> simp [T.isLst] at hat
        simp only [OwnRep] at ow
        obtain ⟨ls, g, _⟩ := ow
        exact .inl ⟨rfl, ls, .of g⟩
      · unfold mutRes at p1
        have nh := n.home rl
        have go : ∀ s' t ts t' r, slotAt ρ1 i = some s' → (s'.k = 2 ∨ s'.k = 3) → s'.t = t → (if m.reads then gets ρ1 rs else cleans rs) = some ts → m.sem t ts = some (t', r) →
            Post X.K X.mg W (RepR X.K) ρ σ Av H (.ok (.val r) (ρ1.set i (some (reown s' t')))) Q → rMut X.K m (.ref b) xs H2 Q := fun s' t ts t' r q' k' et e1 e2 p2 => by
          obtain ⟨b', e3, hb', ow'⟩ := nh.rel.at q' (mine_k.mpr (by omega))
          rw [e] at e3; cases e3
          refine ⟨b, t, ts, t', r, Av, rfl, hb', nh.tr, et ▸ ow', ?_, e2, fun v u ho hr => ?_⟩
          · by_cases z : m.reads = true
            · rw [if_pos z] at e1 ⊢
              have pr := q1.gets n.rel e1
              have : ∀ {ts : List T} {xs : List V}, Paired (Rdb X.K H2 Av1) ts xs → Paired (Rdb X.K H2 Av) ts xs := by
                intro ts xs h
                induction h with
                | nil => exact .nil
                | cons h1 _ ih =>
                  refine .cons ?_ ih
                  rename_i t0 x0 _ _ _
                  have ha : ∀ c o, H2 c = some o → ¬ Av1 c → ¬ Av c := fun c o _ m z => m (n.up c z)
                  cases t0 <;> simp only [Rdb] at h1 ⊢
                  case lst => obtain ⟨a, vs, h2, h3, h4⟩ := h1; exact ⟨a, vs, h2, h3, Reps.keep (fun _ _ e _ => e) ha _ _ h4⟩
                  case tup => obtain ⟨a, vs, h2, h5, h3, h4⟩ := h1; exact ⟨a, vs, h2, ha a _ h3 h5, h3, Reps.keep (fun _ _ e _ => e) ha _ _ h4⟩
                  case dct => obtain ⟨a, vs, h2, h3, h4⟩ := h1; exact ⟨a, vs, h2, h3, RepD.keep (fun _ _ e _ => e) ha _ _ h4⟩
                  case exc =>
                    simp only [Rep] at h1 ⊢
                    obtain ⟨a, D, h2, h5, h3, h4⟩ := h1; exact ⟨a, D, h2, ha a _ h3 h5, h3, h4⟩
                  all_goals exact h1
              exact this pr
            · rw [if_neg z] at e1 ⊢
              exact q1.cleans n tr e1
          · have nx := wrote (t' := t') nh.rel nh.tr q' k' e ho
            exact p2 v Av _ (nh.trans rl nx) hr
        cases q' : slotAt ρ1 i with
        | none => rw [q'] at p1; exact p1.elim
        | some s' =>
          rw [q'] at p1
          cases e1 : (if m.reads then gets ρ1 rs else cleans rs) with
          | none => rw [e1] at p1; cases s' <;> exact p1.elim
          | some ts =>
            rw [e1] at p1
            cases s' with
            | shr t => exact p1.elim
            | lck t => exact p1.elim
            | own t =>
              simp only at p1
              cases e2 : m.sem t ts with
              | none => rw [e2] at p1; exact p1.elim
              | some w => rw [e2] at p1; exact go (.own t) t ts w.1 w.2 q' (.inl rfl) rfl e1 e2 p1
            | io t =>
              simp only at p1
              cases e2 : m.sem t ts with
              | none => rw [e2] at p1; exact p1.elim
              | some w => rw [e2] at p1; exact go (.io t) t ts w.1 w.2 q' (.inr rfl) rfl e1 e2 p1
  · exact p.elim
theorem s_mut {m : Mut} {i : Nat} (hm : m.dict = false) (ho : PE X (.Name nm p) (tVar i)) (ha : PA X (a :: as) (tEs X.K X.mg W es)) (hline : (apos.endLine == cpos.line) = true) (hst : (starEach (a :: as) X.env).all (fun x => !x.1) = true) (hlen : (a :: as).length < 30)
    (he : starEach (a :: as) X.env = (false, eval a X.env) :: starEach as X.env) :
    PE X (.Call (.Attribute (.Name nm p) m.name apos) (a :: as) [] cpos) (tE X.K X.mg W (.mut m i es)) := by
  have hst2 : (starEach as X.env).all (fun x => !x.1) = true := by rw [he, List.all_cons] at hst; exact (Bool.and_eq_true_iff.mp hst).2
  refine (pe_bm PySem.F.plainAttrs_list (mut_slot m hm) (mut_type m hm) (Mut.ok m hm) ho ha rfl ?_ hline he (plainAs hst2).2).weaken fun σ H Q h => mut_read hm h
  rw [(plainAs hst).1]
  simp only [keywordEach, backToKw, List.map_nil, List.all_nil, Bool.true_and, List.length_nil, List.isEmpty_nil, if_true, decide_eq_true_eq]
  omega
theorem s_mut0 {m : Mut} {i : Nat} (hm : m.dict = false) (ho : PE X (.Name nm p) (tVar i)) (hline : (apos.endLine == cpos.line) = true) :
    PE X (.Call (.Attribute (.Name nm p) m.name apos) [] [] cpos) (tE X.K X.mg W (.mut m i [])) := by
  refine (pe_bm0 PySem.F.plainAttrs_list (mut_slot m hm) (mut_type m hm) (Mut.ok m hm) ho rfl hline).weaken fun σ H Q h => ?_
  obtain ⟨v, e, ty, h⟩ := mut_read hm h
  refine ⟨v, e, ty, ?_⟩
  obtain ⟨ρ, Av, rl, tr, p⟩ := h
  simp only [evs] at p
  exact p [] Av H (.refl rl tr) .nil
/-! ### join -/
theorem join_s2 (s : List Nat) : ∀ xs : List (List Nat), Str.join (S2 s) (xs.map S2) = S2 (joinL s xs)
  | [] => rfl
  | [x] => rfl
  | x :: y :: r => by
    have ih := join_s2 s (y :: r)
    simp only [List.map_cons] at ih ⊢
    show S2 x ++ S2 s ++ Str.join (S2 s) (S2 y :: r.map S2) = S2 (x ++ s ++ joinL s (y :: r))
    rw [ih, s2_append, s2_append]
theorem sok_join {s : List Nat} (hs : sok s = true) : ∀ {xs : List (List Nat)}, (∀ x ∈ xs, sok x = true) → sok (joinL s xs) = true
  | [], _ => rfl
  | [x], h => h x (by simp)
  | x :: y :: r, h => sok_append (sok_append (h x (by simp)) hs) (sok_join hs fun z hz => h z (by simp [hz]))
theorem s_join (hc : X.calm = true) (ho : PE X o (tE X.K X.mg W (eo))) (ha : PA X [a] (tEs X.K X.mg W [ea])) (hbase : attributeBase o "join" X.env (eval o X.env) = eval o X.env) (hline : (apos.endLine == cpos.line) = true) (hst : (starEach [a] X.env).all (fun x => !x.1) = true)
    (he : starEach [a] X.env = (false, eval a X.env) :: starEach [] X.env) :
    PE X (.Call (.Attribute o "join" apos) [a] [] cpos) (tE X.K X.mg W (.meth .join eo [ea])) := by
  have hst2 : (starEach [] X.env).all (fun x => !x.1) = true := rfl
  refine (pe_bm PySem.F.plainAttrs_str PySem.F.slot_str_join PySem.F.type_str_join mt_join ho ha hbase ?_ hline he (plainAs hst2).2).weaken fun σ H Q ⟨ρ, Av, rl, tr, p⟩ => ?_
  · rw [(plainAs hst).1]; rfl
  · simp only [ev] at p
    refine ⟨ρ, Av, rl, tr, (p.bind rl).mono fun x H1 ⟨r, ρ1, Av1, _, n1, q1, p1⟩ => ?_⟩
    split at p1
    · rename_i hp
      cases g : r.get ρ1 with
      | none => rw [g] at hp; cases hp
      | some t =>
        rw [g] at hp
        cases t <;> (try (cases hp; done))
        rename_i s
        have h := q1.rdb n1.rel g
        simp only [Rdb] at h
        obtain ⟨rfl, sk⟩ := h
        have rv : r = .val (.str s) := by
          cases r with
          | val t => cases g; rfl
          | fresh t =>
            cases g
            obtain ⟨_, _, _, _, o, _⟩ := q1
            simp [OwnRep] at o
          | loc i =>
            obtain ⟨_, _, _, o⟩ := q1.own n1.rel g
            simp [OwnRep] at o
          | deep t => cases g
        subst rv
        refine ⟨rfl, ρ1, Av1, n1.rel, n1.tr, (p1.bind n1.rel).mono fun xs H2 ⟨rs, ρ2, Av2, _, n2, q2, p2⟩ => ?_⟩
        obtain ⟨z, e, k⟩ := p2.lift
        simp only [R.get, Option.bind_some, Option.bind_eq_some_iff] at e
        obtain ⟨ts, e1, e⟩ := e
        have pr := q2.gets n2.rel e1
        match ts, xs, pr, e with
        | [], _, _, e => simp [Mth.sem] at e
        | _ :: _ :: _, _, _, e => simp [Mth.sem] at e
        | [.non], _, _, e => simp [Mth.sem] at e
        | [.bl _], _, _, e => simp [Mth.sem] at e
        | [.int _], _, _, e => simp [Mth.sem] at e
        | [.str _], _, _, e => simp [Mth.sem] at e
        | [.tup _], _, _, e => simp [Mth.sem] at e
        | [.ro _], _, _, e => simp [Mth.sem] at e
        | [.dct _], _, _, e => simp [Mth.sem] at e
        | [.exc _], _, _, e => simp [Mth.sem] at e
        | [.lst l], _, .cons h1 .nil, e =>
            simp only [Mth.sem, Option.bind_eq_some_iff] at e
            obtain ⟨ys, e2, e⟩ := e
            split at e
            · rename_i hl
              cases e
              simp only [Rdb] at h1
              obtain ⟨b, vs, rfl, g2, rr⟩ := h1
              rw [of_strs? e2] at rr
              obtain ⟨ev, so⟩ := rr.strs
              have em : vs = (ys.map S2).map V.str := by rw [ev, List.map_map]; rfl
              refine ⟨S2 s, b, ys.map S2, rfl, rfl, .inl (.of (by rw [g2, em])), ?_, k n2.rel _ _ _ (.same n2.tr ?_)⟩
              · rw [List.map_map, List.length_map, s2_length]
                have : ((fun x : Str => x.length) ∘ S2) = List.length := by funext z; exact s2_length z
                rw [this]
                exact hl
              · simp only [Rep]
                refine ⟨?_, sok_join sk so⟩
                rw [TL.join_eq, join_s2]
            · cases e
    · exact p1.elim
/-! ### isinstance -/
theorem kit_isa (a b : Tn) (h : b ≠ .non) : kitB a.name b.name = some (a.isa b) := by
  cases a <;> cases b <;> first | (exact absurd rfl h) | decide +kernel
theorem Rdb.all {K : PySem.W.Frag} {H H' : Hp} {Av : Addr → Prop} {t : T} {v : V} (h : Rdb K H Av t v) (k : ∀ b o, H b = some o → H' b = some o) : Rdb K H' Av t v := by
  cases t <;> simp only [Rdb] at h ⊢
  case lst => obtain ⟨a, vs, e, g, r⟩ := h; exact ⟨a, vs, e, k _ _ g, Reps.keep (fun b o e _ => k b o e) (fun _ _ _ n => n) _ _ r⟩
  case tup => obtain ⟨a, vs, e, n, g, r⟩ := h; exact ⟨a, vs, e, n, k _ _ g, Reps.keep (fun b o e _ => k b o e) (fun _ _ _ n => n) _ _ r⟩
  case dct => obtain ⟨a, vs, e, g, r⟩ := h; exact ⟨a, vs, e, g.imp (k _ _) (fun ⟨o, x⟩ => ⟨o, k _ _ x⟩), RepD.keep (fun b o e _ => k b o e) (fun _ _ _ n => n) _ _ r⟩
  case ro =>
    obtain ⟨a, e, x⟩ := h
    refine ⟨a, e, ?_⟩
    rcases x with (x | ⟨o, x⟩) | x
    · exact .inl (.inl (k _ _ x))
    · exact .inl (.inr ⟨o, k _ _ x⟩)
    · exact .inr x
  case exc =>
    simp only [Rep] at h ⊢
    obtain ⟨a, D, e, n, g, r⟩ := h; exact ⟨a, D, e, n, k _ _ g, r⟩
  all_goals exact h
theorem ty_of {K : PySem.W.Frag} {H : Hp} {Av : Addr → Prop} {t : T} {v : V} {y : Tn} (h : Rdb K H Av t v) (e : t.ty = some y) : TyX K H v (.type y.name) := by
  cases t <;> simp only [T.ty, Option.some.injEq] at e <;> (try (cases e; done)) <;> simp only [Rdb] at h <;> (try subst e)
  case non => subst h; exact .base .non
  case bl => subst h; exact .base (.bl _)
  case int => subst h; exact .base (.int _)
  case str => obtain ⟨rfl, _⟩ := h; exact .base (.str _)
  case lst => obtain ⟨a, vs, rfl, g, _⟩ := h; exact .base (.lst g)
  case tup => obtain ⟨a, vs, rfl, _, g, _⟩ := h; exact .base (.tup g)
  case dct =>
    obtain ⟨a, vs, rfl, g, _⟩ := h
    rcases g with g | ⟨o, g⟩
    · exact .base (.dK g)
    · exact .fDict g
theorem ty_boot (y : Tn) (h : y ≠ .non) : bootBuiltins (y.name : Str) = some (.type y.name) := by cases y <;> first | (exact absurd rfl h) | decide +kernel
theorem ty_nn (y : Tn) : (y.name : Str) ≠ "__name__" := by cases y <;> decide +kernel
theorem ty_dbg (y : Tn) : ((y.name : Str) == ("__debug__" : Str)) = false := by cases y <;> decide +kernel
theorem boot_isi : bootBuiltins "isinstance" = some (.builtin "isinstance") := by decide +kernel
theorem pe_ty {y : Tn} (h : y ≠ .non) (hg : Gl X (y.name : Str)) (hm : X.mg (y.name : Str) = none) : PE X (.Name (y.name : Str) pos) (L2.tC (.ty y.name)) :=
  pe_bltn hg hm (ty_boot y h) rfl (ty_nn y) (ty_dbg y)
theorem isi_read {y : Tn} (h : y ≠ .non) {σ : St} {H : Hp} {Q : VK} (hh : (tE X.K X.mg W (.isi ea [y])) σ H Q) : (tE X.K X.mg W (ea)) σ H fun x H1 => rIsi X.K [x, .ty y.name] H1 Q := by
  obtain ⟨ρ, Av, rl, tr, p⟩ := hh
  simp only [ev] at p
  refine ⟨ρ, Av, rl, tr, (p.bind rl).mono fun x H1 ⟨r, ρ1, Av1, _, n1, q1, p1⟩ => ?_⟩
  obtain ⟨z, e, k⟩ := p1.bool n1.tr n1.rel
  simp only [Option.bind_eq_some_iff, isiSem, Option.map_eq_some_iff] at e
  obtain ⟨t, e1, w, e2, rfl⟩ := e
  exact ⟨x, _, _, _, _, rfl, .ty _, ty_of (q1.rdb n1.rel e1) e2, kit_ty (kit_isa w y h), by simpa using k⟩
theorem s_isi {y : Tn} (h : y ≠ .non) (hg : Gl X "isinstance") (hm : X.mg "isinstance" = none) (hgy : Gl X (y.name : Str)) (hmy : X.mg (y.name : Str) = none) (ha : PE X a (tE X.K X.mg W (ea))) {py : Pos}
    (he : starEach [a, .Name (y.name : Str) py] X.env = [(false, eval a X.env), (false, eval (.Name (y.name : Str) py) X.env)]) :
    PE X (.Call (.Name "isinstance" p) [a, .Name (y.name : Str) py] [] pos) (tE X.K X.mg W (.isi ea [y])) := by
  have he2 : starEach [.Name (y.name : Str) py] X.env = [(false, eval (.Name (y.name : Str) py) X.env)] := rfl
  exact (pe_callB call_isi hg hm boot_isi (pa_cons ha (pa_cons (pe_ty h hgy hmy) pa_nil he2) (by rw [he, he2])) (by decide) (by decide) (by rw [he, he2]) rfl).weaken fun σ H Q hh => isi_read h hh
theorem kitAny_isa {K : PySem.W.Frag} (a : Tn) : ∀ ys : List Tn, (∀ y ∈ ys, y ≠ .non) → PySem.W.kitAny K (.type a.name) (ys.map fun y => Value.type y.name) = some (ys.any fun b => a.isa b)
  | [], _ => rfl
  | y :: ys, h => by
    simp only [List.map_cons, List.any_cons]
    refine kitAny_cons (kit_ty (kit_isa a y (h y (by simp)))) (fun e => ?_) fun e => by rw [e, Bool.true_or]
    rw [e, Bool.false_or]
    exact kitAny_isa a ys fun z hz => h z (by simp [hz])
theorem cls_tys : ∀ ys : List Tn, Paired ClsV (ys.map fun y => V.ty y.name) (ys.map fun y => Value.type y.name)
  | [] => .nil
  | y :: ys => .cons (.ty _) (cls_tys ys)
def tTys (ys : List Tn) : TA := fun _ H Q => Q (ys.map fun y => V.ty y.name) H
/-- the names of types, one behind the other -/
theorem pa_tys : ∀ {ys : List Tn} {ns : List Expr}, ns.length = ys.length → (∀ (i : Nat) (y : Tn) (n : Expr), ys[i]? = some y → ns[i]? = some n → y ≠ .non ∧ Gl X (y.name : Str) ∧ X.mg (y.name : Str) = none ∧ ∃ q, n = .Name (y.name : Str) q) → PA X ns (tTys ys)
  | [], [], _, _ => pa_nil.weaken fun σ H Q h => h
  | y :: ys, n :: ns, hl, h => by
    obtain ⟨h1, h2, h3, q, rfl⟩ := h 0 y n rfl rfl
    exact (pa_cons (pe_ty h1 h2 h3) (pa_tys (by simpa using hl) fun i y n e e' => h (i + 1) y n (by simpa using e) (by simpa using e')) rfl).weaken fun σ H Q hh => hh
  | [], _ :: _, hl, _ => by simp at hl
  | _ :: _, [], hl, _ => by simp at hl
theorem s_isiT {ys : List Tn} {ns : List Expr} {kk : Nat} {pt : Pos} (hys : ys.length ≤ 100) (hl : ns.length = ys.length) (h : ∀ (i : Nat) (y : Tn) (n : Expr), ys[i]? = some y → ns[i]? = some n → y ≠ .non ∧ Gl X (y.name : Str) ∧ X.mg (y.name : Str) = none ∧ ∃ q, n = .Name (y.name : Str) q)
    (hg : Gl X "isinstance") (hm : X.mg "isinstance" = none) (ha : PE X a (tE X.K X.mg W (ea)))
    (he : starEach [a, .Tuple ns kk pt] X.env = [(false, eval a X.env), (false, eval (.Tuple ns kk pt) X.env)]) :
    PE X (.Call (.Name "isinstance" p) [a, .Tuple ns kk pt] [] pos) (tE X.K X.mg W (.isi ea ys)) := by
  have he2 : starEach [.Tuple ns kk pt] X.env = [(false, eval (.Tuple ns kk pt) X.env)] := rfl
  refine (pe_callB call_isiT hg hm boot_isi (pa_cons ha (pa_cons (pe_tup (pa_tys hl h)) pa_nil he2) (by rw [he, he2])) (by decide) (by decide) (by rw [he, he2]) rfl).weaken fun σ H Q ⟨ρ, Av, rl, tr, p⟩ => ?_
  simp only [ev] at p
  refine ⟨ρ, Av, rl, tr, (p.bind rl).mono fun x H1 ⟨r, ρ1, Av1, _, n1, q1, p1⟩ => ?_⟩
  cases g : r.get ρ1 with
  | none => rw [g] at p1; exact p1.elim
  | some t =>
    rw [g] at p1
    cases g2 : t.ty with
    | none => simp only [Option.bind, isiSem, g2] at p1; exact p1.elim
    | some w =>
      simp only [Option.bind, isiSem, g2, Option.map] at p1
      refine ⟨by rw [line, List.length_map]; omega, fun c hc => ?_⟩
      have hr := q1.rdb n1.rel g
      have m := Made.tup (K := X.K) (ts := ([] : List T)) (vs := []) n1.tr hc .nil
      have ty := ty_of hr g2
      have ty2 : TyX X.K (upd H1 c (.tup (ys.map fun y => V.ty y.name))) x (.type w.name) := ty_of (hr.all (laid_keep hc)) g2
      refine ⟨x, c, _, _, _, _, rfl, upd_same, cls_tys ys, ty2, kitAny_isa w ys fun y hy => ?_, ?_⟩
      · obtain ⟨i, hi⟩ := List.mem_iff_getElem?.mp hy
        have : i < ns.length := by rw [hl]; exact (List.getElem?_eq_some_iff.mp hi).1
        exact (h i y ns[i] hi (List.getElem?_eq_getElem this)).1
      · have m2 : Made X.K Av1 H1 (.val (.bl (ys.any fun b => w.isa b))) (.bl (ys.any fun b => w.isa b)) Av1 (upd H1 c (.tup (ys.map fun y => V.ty y.name))) :=
          ⟨laid_keep hc, fun _ h => h, fun _ h => .inl h, n1.tr.laid, by simp [Rep]⟩
        exact p1 _ _ _ (m2.nx n1.rel) (m2.repR n1.rel)
end
end MP

namespace MP
open PySem PySem.Spec L2
open PyProof.Rows hiding St
section
variable {X : Cx} {W : WX} {as : List Expr} {a b o : Expr} {ea eb eo : E} {es : List E} {pos p apos cpos : Pos} {nm : Str} {ps : List Str} {k : Nat}
/-! ## methods that read -/
theorem tEs_one {σ : St} {H : Hp} {Q : List V → Hp → Prop} (h : tEs X.K X.mg W [ea] σ H Q) : (tE X.K X.mg W (ea)) σ H fun v H1 => Q [v] H1 := by
  obtain ⟨ρ, Av, rl, tr, p⟩ := h
  refine ⟨ρ, Av, rl, tr, ?_⟩
  simp only [evs] at p
  refine (p.bind0).mono fun v H1 ⟨r, ρ1, Av1, _, n1, q1, p1⟩ => ?_
  exact p1 [v] Av1 H1 n1 (.cons q1 .nil)
theorem tEs_two {σ : St} {H : Hp} {Q : List V → Hp → Prop} (h : tEs X.K X.mg W [ea, eb] σ H Q) : (tE X.K X.mg W (ea)) σ H fun v H1 => (tE X.K X.mg W (eb)) σ H1 fun w H2 => Q [v, w] H2 := by
  obtain ⟨ρ, Av, rl, tr, p⟩ := h
  refine ⟨ρ, Av, rl, tr, ?_⟩
  simp only [evs, Res.bind_assoc] at p
  cases e1 : ev ea ρ with
  | bad => rw [e1] at p; exact p.elim
  | exc c ρ1 => rw [e1] at p; exact p
  | ok r ρ1 =>
    rw [e1] at p
    intro v Av1 H1 n1 q1
    refine ⟨ρ1, Av1, n1.rel, n1.tr, ?_⟩
    simp only [Res.bind] at p
    cases e2 : ev eb ρ1 with
    | bad => rw [e2] at p; exact p.elim
    | exc c ρ2 => rw [e2] at p; exact fun cls Av2 H2 m n2 => p cls Av2 H2 m (n1.trans rl n2)
    | ok r2 ρ2 =>
      rw [e2] at p
      intro w Av2 H2 n2 q2
      exact p [v, w] Av2 H2 (n1.trans rl n2) (.cons (n2.repR n1.rel q1) (.cons (n1.backR (n1.shp.trans n2.shp) q2) .nil))
theorem meth_readAt {m : Mth} {σ : St} {H : Hp} {Q : VK} {ρ : Env} {Av : Addr → Prop} (rl : Rel X.K Av ρ σ H) (tr : Tr Av H) (p : Post X.K X.mg W (RepR X.K) ρ σ Av H (ev (.meth m eo es) ρ) Q) :
    Post X.K X.mg W (RepR X.K) ρ σ Av H (ev eo ρ) fun x H1 => (∃ t1 Av1 r ρ1, ev eo ρ = .ok r ρ1 ∧ r.get ρ1 = some t1 ∧ m.pre (some t1) = true ∧ Rdb X.K H1 Av1 t1 x) ∧ tEs X.K X.mg W es σ H1 fun xs H2 => ∃ t ts z Av2, Tr Av2 H2 ∧ Rdb X.K H2 Av2 t x ∧ Paired (Rdb X.K H2 Av2) ts xs ∧ m.sem t ts = some z ∧ ∀ v Av' H', Made X.K Av2 H2 z v Av' H' → Q v H' := by
  simp only [ev] at p
  refine (p.bind rl).mono fun x H1 ⟨r, ρ1, Av1, e0, n1, q1, p1⟩ => ?_
  split at p1
  · rename_i hp
    cases g : r.get ρ1 with
    | none => rw [g] at hp; cases m <;> cases hp
    | some t1 =>
      rw [g] at hp
      refine ⟨⟨t1, Av1, r, ρ1, e0, g, hp, q1.rdb n1.rel g⟩, ρ1, Av1, n1.rel, n1.tr, (p1.bind n1.rel).mono fun xs H2 ⟨rs, ρ2, Av2, _, n2, q2, p2⟩ => ?_⟩
      obtain ⟨z, e, k⟩ := p2.lift
      simp only [Option.bind_eq_some_iff] at e
      obtain ⟨t, e1, ts, e2, e⟩ := e
      exact ⟨t, ts, z, Av2, n2.tr, (n2.repR n1.rel q1).rdb n2.rel e1, q2.gets n2.rel e2, e, k n2.rel⟩
  · exact p1.elim
theorem meth_read {m : Mth} {σ : St} {H : Hp} {Q : VK} (h : (tE X.K X.mg W (.meth m eo es)) σ H Q) : (tE X.K X.mg W (eo)) σ H fun x H1 => (∃ t1 Av1, m.pre (some t1) = true ∧ Rdb X.K H1 Av1 t1 x) ∧ tEs X.K X.mg W es σ H1 fun xs H2 => ∃ t ts z Av2, Tr Av2 H2 ∧ Rdb X.K H2 Av2 t x ∧ Paired (Rdb X.K H2 Av2) ts xs ∧ m.sem t ts = some z ∧ ∀ v Av' H', Made X.K Av2 H2 z v Av' H' → Q v H' := by
  obtain ⟨ρ, Av, rl, tr, p⟩ := h
  exact ⟨ρ, Av, rl, tr, (meth_readAt rl tr p).mono fun x H1 ⟨⟨t1, Av1, _, _, _, _, hp, h⟩, q⟩ => ⟨⟨t1, Av1, hp, h⟩, q⟩⟩
def Mth.name : Mth → String
  | .join => "join" | .count => "count" | .index => "index" | .find => "find" | .startswith => "startswith" | .endswith => "endswith" | .get => "get" | .upper => "upper" | .split => "split"
theorem rdb_rep {K : PySem.W.Frag} {H : Hp} {Av : Addr → Prop} {t : T} {v : V} (h : Rdb K H Av t v) (a : t.atom = true) : Rep K H Av t v := by
  cases t <;> simp only [T.atom, Bool.false_eq_true] at a <;> exact h
theorem rdb_k {K : PySem.W.Frag} {H : Hp} {Av : Addr → Prop} {t : T} {k : Kt} {v : V} (e : t.k? = some k) (h : Rdb K H Av t v) : v = vK k ∧ kok k = true ∧ t = tOfK k :=
  rep_tK e (rdb_rep h (by cases t <;> first | rfl | (simp [T.k?] at e)))
theorem getT_some {K : PySem.W.Frag} {H : Hp} {Av : Addr → Prop} {kvs : List (Kt × T)} {ws : List (Key × V)} (r : RepD K H Av kvs ws) {k : Kt} {t : T} (e : getT kvs k = some t) : ∃ v, valV ws (keyOf k) = some v ∧ Rep K H Av t v := (valV_find k r).1 t e
theorem getT_none {K : PySem.W.Frag} {H : Hp} {Av : Addr → Prop} {kvs : List (Kt × T)} {ws : List (Key × V)} (r : RepD K H Av kvs ws) {k : Kt} (e : getT kvs k = none) : valV ws (keyOf k) = none := by
  have h := (valV_find k r).2
  unfold getT at e
  rw [Option.map_eq_none_iff] at e
  rw [e] at h
  simpa using h.symm
theorem isD_of {K : PySem.W.Frag} {H : Hp} {Av : Addr → Prop} {t : T} {v : V} (h : Rdb K H Av t v) (p : Mth.get.pre (some t) = true) : ∃ a, v = .ref a ∧ IsD H a := by
  cases t <;> simp only [Mth.pre, Bool.false_eq_true] at p
  simp only [Rdb] at h
  obtain ⟨a, ws, rfl, g, _⟩ := h
  exact ⟨a, rfl, .inl ⟨ws, g⟩⟩
theorem s_get1 (hu : X.A.units + 1 < cLine) (ho : PE X o (tE X.K X.mg W (eo))) (ha : PE X a (tE X.K X.mg W (ea))) (m : M1 X o "get" apos a cpos) : PE X (.Call (.Attribute o "get" apos) [a] [] cpos) (tE X.K X.mg W (.meth .get eo [ea])) := by
  refine (pe_dget1 hu ho ha m).weaken fun σ H Q h => ?_
  obtain ⟨ρ, Av, rl, tr, p⟩ := meth_read h
  refine ⟨ρ, Av, rl, tr, p.mono fun x H1 ⟨⟨t1, Av1, hp, r1⟩, q⟩ => ?_⟩
  obtain ⟨c, rfl, hd⟩ := isD_of r1 hp
  refine ⟨c, rfl, hd, ?_⟩
  obtain ⟨ρ, Av, rl, tr, p⟩ := tEs_one q
  refine ⟨ρ, Av, rl, tr, p.mono fun y H2 ⟨t, ts, z, Av2, tr2, ht, pr, e, k⟩ => ?_⟩
  cases pr with
  | cons h1 pr =>
    cases pr
    rename_i t2
    cases t <;> (try (simp [Mth.sem] at e; done))
    rename_i kvs
    simp only [Mth.sem, Option.map_eq_some_iff] at e
    obtain ⟨kk, e1, rfl⟩ := e
    simp only [Rdb] at ht
    obtain ⟨c', ws, ec, g, rr⟩ := ht
    cases ec
    obtain ⟨rfl, hk, rfl⟩ := rdb_k e1 h1
    refine ⟨valV ws (keyOf kk), .inl ⟨ws, keyOf kk, g, (kV_key kk).symm, rfl⟩, ?_⟩
    cases e3 : getT kvs kk with
    | none =>
      rw [e3] at k
      rw [getT_none rr e3]
      exact k _ _ _ (.same tr2 (by simp [Rep]))
    | some t =>
      rw [e3] at k
      obtain ⟨v, e4, h4⟩ := getT_some rr e3
      rw [e4]
      exact k _ _ _ (.same tr2 h4)
theorem s_get2 (hu : X.A.units + 1 < cLine) (ho : PE X o (tE X.K X.mg W (eo))) (ha : PE X a (tE X.K X.mg W (ea))) (hb : PE X b (tE X.K X.mg W (eb))) (m : M2 X o "get" apos a b cpos) : PE X (.Call (.Attribute o "get" apos) [a, b] [] cpos) (tE X.K X.mg W (.meth .get eo [ea, eb])) := by
  refine (pe_dget2 hu ho ha hb m).weaken fun σ H Q h => ?_
  obtain ⟨ρ, Av, rl, tr, p⟩ := meth_read h
  refine ⟨ρ, Av, rl, tr, p.mono fun x H1 ⟨⟨t1, Av1, hp, r1⟩, q⟩ => ?_⟩
  obtain ⟨c, rfl, hd⟩ := isD_of r1 hp
  refine ⟨c, rfl, hd, ?_⟩
  obtain ⟨ρ, Av, rl, tr, p⟩ := tEs_two q
  refine ⟨ρ, Av, rl, tr, p.mono fun y H2 ⟨ρ2, Av2, rl2, tr2, p2⟩ => ⟨ρ2, Av2, rl2, tr2, p2.mono fun z H3 ⟨t, ts, zz, Av3, tr3, ht, pr, e, k⟩ => ?_⟩⟩
  cases pr with
  | cons h1 pr =>
    cases pr with
    | cons h2 pr =>
      cases pr
      rename_i t2 t3
      cases t <;> (try (simp [Mth.sem] at e; done))
      rename_i kvs
      simp only [Mth.sem] at e
      split at e
      · rename_i hat
        simp only [Option.map_eq_some_iff] at e
        obtain ⟨kk, e1, rfl⟩ := e
        simp only [Rdb] at ht
        obtain ⟨c', ws, ec, g, rr⟩ := ht
        cases ec
        obtain ⟨rfl, hk, rfl⟩ := rdb_k e1 h1
        refine ⟨valV ws (keyOf kk), .inl ⟨ws, keyOf kk, g, (kV_key kk).symm, rfl⟩, ?_⟩
        cases e3 : getT kvs kk with
        | none =>
          rw [e3] at k
          rw [getT_none rr e3]
          exact k _ _ _ (.same tr3 (rdb_rep h2 hat))
        | some t =>
          rw [e3] at k
          obtain ⟨v, e4, h4⟩ := getT_some rr e3
          rw [e4]
          exact k _ _ _ (.same tr3 h4)
      · cases e
/-! ### of texts -/
theorem str_of {K : PySem.W.Frag} {H : Hp} {Av : Addr → Prop} {t : T} {v : V} (h : Rdb K H Av t v) {m : Mth} (p : m.pre (some t) = true) (hm : m = .find ∨ m = .startswith ∨ m = .endswith ∨ m = .upper ∨ m = .split ∨ m = .join) : ∃ s, v = .str s := by
  cases t <;> (try (rcases hm with rfl | rfl | rfl | rfl | rfl | rfl <;> cases p; done)) <;> simp only [Rdb] at h
  exact ⟨_, h.1⟩
theorem s_find (ho : PE X o (tE X.K X.mg W (eo))) (ha : PA X [a] (tEs X.K X.mg W [ea])) (hbase : attributeBase o "find" X.env (eval o X.env) = eval o X.env) (hline : (apos.endLine == cpos.line) = true) (hst : (starEach [a] X.env).all (fun x => !x.1) = true)
    (he : starEach [a] X.env = (false, eval a X.env) :: starEach [] X.env) :
    PE X (.Call (.Attribute o "find" apos) [a] [] cpos) (tE X.K X.mg W (.meth .find eo [ea])) := by
  have hst2 : (starEach [] X.env).all (fun x => !x.1) = true := rfl
  refine (pe_bm PySem.F.plainAttrs_str PySem.F.slot_str_find PySem.F.type_str_find mt_find ho ha hbase ?_ hline he (plainAs hst2).2).weaken fun σ H Q h => ?_
  · rw [(plainAs hst).1]; rfl
  · obtain ⟨ρ, Av, rl, tr, p⟩ := meth_read h
    refine ⟨ρ, Av, rl, tr, p.mono fun x H1 ⟨⟨t1, Av1, hp, r1⟩, q⟩ => ?_⟩
    obtain ⟨s, rfl⟩ := str_of r1 hp (.inl rfl)
    refine ⟨rfl, ?_⟩
    obtain ⟨ρ, Av, rl, tr, p⟩ := q
    refine ⟨ρ, Av, rl, tr, p.mono fun xs H2 ⟨t, ts, z, Av2, tr2, ht, pr, e, k⟩ => ?_⟩
    match t, ts, pr, e, ht with
    | .str u, [.str w], .cons h1 .nil, e, ht =>
      simp only [Mth.sem, Option.some.injEq] at e
      subst e
      simp only [Rdb] at ht h1
      obtain ⟨e1, _⟩ := ht
      cases e1
      obtain ⟨rfl, _⟩ := h1
      exact ⟨_, _, rfl, rfl, by rw [findL_eq]; exact k _ _ _ (.same tr2 (by simp [Rep]))⟩
    | .str u, [], _, e, _ => simp [Mth.sem] at e
    | .str u, _ :: _ :: _, _, e, _ => simp [Mth.sem] at e
    | .str u, [.non], _, e, _ => simp [Mth.sem] at e
    | .str u, [.bl _], _, e, _ => simp [Mth.sem] at e
    | .str u, [.int _], _, e, _ => simp [Mth.sem] at e
    | .str u, [.lst _], _, e, _ => simp [Mth.sem] at e
    | .str u, [.tup _], _, e, _ => simp [Mth.sem] at e
    | .str u, [.ro _], _, e, _ => simp [Mth.sem] at e
    | .str u, [.dct _], _, e, _ => simp [Mth.sem] at e
    | .str u, [.exc _], _, e, _ => simp [Mth.sem] at e
    | .non, _, _, e, _ => simp [Mth.sem] at e
    | .bl _, _, _, e, _ => simp [Mth.sem] at e
    | .int _, _, _, e, _ => simp [Mth.sem] at e
    | .lst _, _, _, e, _ => simp [Mth.sem] at e
    | .tup _, _, _, e, _ => simp [Mth.sem] at e
    | .ro _, _, _, e, _ => simp [Mth.sem] at e
    | .dct _, _, _, e, _ => simp [Mth.sem] at e
    | .exc _, _, _, e, _ => simp [Mth.sem] at e
theorem s_startswith (ho : PE X o (tE X.K X.mg W (eo))) (ha : PA X [a, b] (tEs X.K X.mg W [ea, eb])) (hbase : attributeBase o "startswith" X.env (eval o X.env) = eval o X.env) (hline : (apos.endLine == cpos.line) = true) (hst : (starEach [a, b] X.env).all (fun x => !x.1) = true)
    (he : starEach [a, b] X.env = (false, eval a X.env) :: starEach [b] X.env) :
    PE X (.Call (.Attribute o "startswith" apos) [a, b] [] cpos) (tE X.K X.mg W (.meth .startswith eo [ea, eb])) := by
  have hst2 : (starEach [b] X.env).all (fun x => !x.1) = true := by rw [he, List.all_cons] at hst; exact (Bool.and_eq_true_iff.mp hst).2
  refine (pe_bm PySem.F.plainAttrs_str PySem.F.slot_str_startswith PySem.F.type_str_startswith mt_startswith3 ho ha hbase ?_ hline he (plainAs hst2).2).weaken fun σ H Q h => ?_
  · rw [(plainAs hst).1]; rfl
  · obtain ⟨ρ, Av, rl, tr, p⟩ := meth_read h
    refine ⟨ρ, Av, rl, tr, p.mono fun x H1 ⟨⟨t1, Av1, hp, r1⟩, q⟩ => ?_⟩
    obtain ⟨s, rfl⟩ := str_of r1 hp (.inr (.inl rfl))
    refine ⟨rfl, ?_⟩
    obtain ⟨ρ, Av, rl, tr, p⟩ := q
    refine ⟨ρ, Av, rl, tr, p.mono fun xs H2 ⟨t, ts, z, Av2, tr2, ht, pr, e, k⟩ => ?_⟩
    unfold Mth.sem at e
    split at e <;> (try (simp at *; done)) <;> (try (exfalso; simp_all; done))
    rename_i u w i heq
    split at e
    · rename_i hi
      cases e
      cases pr with
      | cons h1 pr =>
        cases pr with
        | cons h2 pr =>
          cases pr
          simp only [Rdb] at ht h1 h2
          obtain ⟨e1, _⟩ := ht
          cases e1
          obtain ⟨rfl, _⟩ := h1
          subst h2
          refine ⟨_, _, _, rfl, rfl, ?_⟩
          have es : Txt.startswith3 (S2 u) (S2 w) i = startsL u w i := by
            unfold Txt.startswith3 startsL
            have ef : fromIndex (S2 u).length i = i.toNat := by
              unfold fromIndex
              rw [if_neg (by omega)]
              omega
            rw [ef]
            by_cases hl : i.toNat + w.length ≤ u.length
            · rw [sub_s2 u w hl]; simp [Str.length]
            · simp [Str.length, hl]
          rw [es]
          exact k _ _ _ (.same tr2 (by simp [Rep]))
    · cases e
theorem idx_pd {n : Nat} {t : T} (f : t.flat n = true) : ∀ (ts : List T) (i : Nat), T.flats n ts = true → (ts.findIdx? fun u => T.eqv u t) = some i → ∃ z, (T.pds ts)[i]? = some z ∧ PyData.eqv z t.pd = true ∧ ∀ (m : Nat) z', m < i → (T.pds ts)[m]? = some z' → PyData.eqv z' t.pd = false := by
  intro ts i fs e
  rw [List.findIdx?_eq_some_iff_getElem] at e
  obtain ⟨h, e1, e2⟩ := e
  rw [pds_map]
  have fa : ∀ u ∈ ts, u.flat n = true := by rw [flats_all, List.all_eq_true] at fs; exact fs
  refine ⟨ts[i].pd, by simp [h], by rw [eqv_pd n _ _ (fa _ (List.getElem_mem h)) f]; exact e1, fun m z' hm ez => ?_⟩
  rw [List.getElem?_map, Option.map_eq_some_iff] at ez
  obtain ⟨u, eu, rfl⟩ := ez
  obtain ⟨hm2, rfl⟩ := List.getElem?_eq_some_iff.mp eu
  rw [eqv_pd n _ _ (fa _ (List.getElem_mem hm2)) f]
  simpa using e2 m hm
theorem evs_len2 {es : List E} {ρ ρ' : Env} {rs : List R} (h : evs es ρ = .ok rs ρ') : rs.length = es.length := by
  induction es generalizing ρ rs with
  | nil => simp only [evs] at h; cases h; rfl
  | cons e es ih =>
    simp only [evs] at h
    obtain ⟨r, ρ1, _, h⟩ := Res.bind_ok h
    obtain ⟨rs2, ρ2, h2, h⟩ := Res.bind_ok h
    cases h
    simp [ih h2]
/-- xs.index(y), row.index(y) -/
theorem s_index (hu : X.A.units + 65 < cLine) (ho : PE X o (tE X.K X.mg W (eo))) (ha : PA X [a] (tEs X.K X.mg W [ea])) (hbase : attributeBase o "index" X.env (eval o X.env) = eval o X.env) (hline : (apos.endLine == cpos.line) = true) (hst : (starEach [a] X.env).all (fun x => !x.1) = true)
    (he : starEach [a] X.env = (false, eval a X.env) :: starEach [] X.env) :
    PE X (.Call (.Attribute o "index" apos) [a] [] cpos) (tE X.K X.mg W (.meth .index eo [ea])) := by
  have hst2 : (starEach [] X.env).all (fun x => !x.1) = true := rfl
  have few : ((backTo cpos (starEach [a] X.env)).all (fun x => !x.1) && (backToKw cpos (keywordEach [] X.env)).all (fun x => x.1.isSome) && decide (([a] : List Expr).length + ([] : List Keyword).length + (if ([] : List Keyword).isEmpty then 0 else 1) < 30)) = true := by
    rw [(plainAs hst).1]; rfl
  refine ⟨fun pins s σ H Q I h => ?_⟩
  obtain ⟨ρ, Av, rl, tr, p⟩ := h
  have hm := meth_readAt rl tr p
  have list : (∀ r ρ1 t1, ev eo ρ = .ok r ρ1 → r.get ρ1 = some t1 → ∃ l, t1 = .lst l) → wpAny (model X.prog X.w) X.A (eval (.Call (.Attribute o "index" apos) [a] [] cpos) X.env) (EP X pins σ Q) X.xe s := fun hl => by
    refine (pe_bm PySem.F.plainAttrs_list PySem.F.slot_list_index PySem.F.type_list_index (mt_indexD hu) ho ha hbase few hline he (plainAs hst2).2).run pins s σ H Q I ⟨ρ, Av, rl, tr, hm.mono fun x H1 ⟨⟨t1, Av1, r, ρ1, e0, g, hp, h1⟩, q⟩ => ?_⟩
    obtain ⟨l, rfl⟩ := hl r ρ1 t1 e0 g
    simp only [Rdb] at h1
    obtain ⟨c, vs, rfl, g1, _⟩ := h1
    refine ⟨.inl ⟨rfl, vs, .of g1⟩, ?_⟩
    obtain ⟨ρ2, Av2, rl2, tr2, p2⟩ := q
    refine ⟨ρ2, Av2, rl2, tr2, p2.mono fun xs H2 ⟨t, ts, z, Av3, tr3, ht, pr, e, k⟩ => ?_⟩
    unfold Mth.sem at e
    split at e <;> (try (simp at *; done)) <;> (try (exfalso; simp_all; done))
    · rename_i ts' u heq
      split at e
      · rename_i hk
        simp only [Bool.and_eq_true] at hk
        rw [Option.map_eq_some_iff] at e
        obtain ⟨i, e1, rfl⟩ := e
        cases pr with
        | cons h1 pr =>
          cases pr
          obtain ⟨z, z1, z2, z3⟩ := idx_pd hk.1 _ _ hk.2 e1
          obtain ⟨d1, s1⟩ := shaped_of (n := 28) (by omega) hk.1 h1
          obtain ⟨d2, s2⟩ := shaped_of (n := 29) (t := .lst ts') (by omega) (by simpa [T.flat] using hk.2) ht
          simp only [T.pd] at d2 s2
          exact ⟨c, _, _, _, i, z, rfl, rfl, d2, d1, s2, s1, z1, z2, z3, k _ _ _ (.same tr3 (by simp [Rep]))⟩
      · cases e
    · simp only [Rdb] at ht
      cases ht.1
  cases e0 : ev eo ρ with
  | bad => exact list (fun r ρ1 t1 e => by rw [e0] at e; cases e)
  | exc c ρ1 => exact list (fun r ρ1 t1 e => by rw [e0] at e; cases e)
  | ok r ρ1 =>
    cases g : r.get ρ1 with
    | none => exact list (fun r' ρ1' t1 e e' => by rw [e0] at e; cases e; rw [g] at e'; cases e')
    | some t1 =>
      by_cases hl : ∃ l, t1 = .lst l
      · exact list (fun r' ρ1' t1' e e' => by rw [e0] at e; cases e; rw [g] at e'; cases e'; exact hl)
      · refine (pe_bm PySem.F.plainAttrs_str PySem.F.slot_str_index PySem.F.type_str_index mt_sindex ho ha hbase few hline he (plainAs hst2).2).run pins s σ H Q I ⟨ρ, Av, rl, tr, hm.mono fun x H1 ⟨⟨t2, Av1, r', ρ1', e0', g', hp, h1⟩, q⟩ => ?_⟩
        rw [e0] at e0'; cases e0'
        rw [g] at g'; cases g'
        have : ∃ s, x = .str s := by
          cases t1 <;> (try (cases hp; done))
          · simp only [Rdb] at h1; exact ⟨_, h1.1⟩
          · exact absurd ⟨_, rfl⟩ hl
        obtain ⟨s0, rfl⟩ := this
        refine ⟨rfl, ?_⟩
        obtain ⟨ρ2, Av2, rl2, tr2, p2⟩ := q
        refine ⟨ρ2, Av2, rl2, tr2, p2.mono fun xs H2 ⟨t, ts, z, Av3, tr3, ht, pr, e, k⟩ => ?_⟩
        unfold Mth.sem at e
        split at e <;> (try (simp at *; done)) <;> (try (exfalso; simp_all; done))
        · simp only [Rdb] at ht
          obtain ⟨_, _, z, _⟩ := ht
          cases z
        · rename_i u w heq
          rw [Option.map_eq_some_iff] at e
          obtain ⟨i, e1, rfl⟩ := e
          cases pr with
          | cons h9 pr =>
            cases pr
            simp only [Rdb] at ht h9
            obtain ⟨e2, _⟩ := ht
            cases e2
            obtain ⟨rfl, _⟩ := h9
            exact ⟨_, _, i, [], rfl, rfl, by rw [occ_firstL, e1]; rfl, k _ _ _ (.same tr3 (by simp [Rep]))⟩
/-- an own dict's item, or else it is laid -/
theorem s_setd {i : Nat} (ho : PE X (.Name nm p) (tVar i)) (ha : PE X a (tE X.K X.mg W (ea))) (hb : PE X b (tE X.K X.mg W (eb))) (m : M2 X (.Name nm p) "setdefault" apos a b cpos) : PE X (.Call (.Attribute (.Name nm p) "setdefault" apos) [a, b] [] cpos) (tE X.K X.mg W (.mut .setdefault i [ea, eb])) := by
  refine (pe_dsetd ho ha hb m).weaken fun σ H Q h => ?_
  obtain ⟨ρ, Av, rl, tr, p⟩ := h
  simp only [ev] at p
  split at p
  · rename_i hat
    unfold mutAt at hat
    cases q : slotAt ρ i with
    | none => rw [q] at hat; cases hat
    | some s =>
      rw [q] at hat
      simp only [Mut.dict, Bool.and_eq_true, if_true] at hat
      obtain ⟨b', e, hb', ow⟩ := rl.at q hat.1
      refine ⟨.ref b', e, b', rfl, ?_, ?_⟩
      · cases ht : s.t <;> rw [ht] at hat ow <;> simp [T.isDct] at hat
        simp only [OwnRep] at ow
        obtain ⟨ls, g, _⟩ := ow
        exact .inl ⟨ls, .inl g⟩
      have h2 : tEs X.K X.mg W [ea, eb] σ H fun xs H2 => ∃ (t : T) (u : T × T) (t' r : T) (w z : V), xs = [w, z] ∧ Tr Av H2 ∧ Av b' ∧ OwnRep X.K H2 Av b' t ∧ Rep X.K H2 Av u.1 w ∧ Rep X.K H2 Av u.2 z ∧ Mut.setdefault.sem t [u.1, u.2] = some (t', r) ∧
          ∀ v ho, OwnRep X.K (upd H2 b' ho) Av b' t' → Rep X.K (upd H2 b' ho) Av r v → Q v (upd H2 b' ho) := by
        refine ⟨ρ, Av, rl, tr, p.bind0.mono fun xs H2 ⟨rs, ρ1, Av1, e0, n, q1, p1⟩ => ?_⟩
        unfold mutRes at p1
        have nh := n.home rl
        have hlen := evs_len2 e0
        match rs, hlen, q1 with
        | [r1, r2], _, .cons (v := w) q2 (.cons (v := z) q3 .nil) =>
          have go : ∀ s' t ts t' r, slotAt ρ1 i = some s' → (s'.k = 2 ∨ s'.k = 3) → s'.t = t → cleans [r1, r2] = some ts → Mut.setdefault.sem t ts = some (t', r) →
              Post X.K X.mg W (RepR X.K) ρ σ Av H (.ok (.val r) (ρ1.set i (some (reown s' t')))) Q → ∃ (t : T) (u : T × T) (t' r : T) (w' z' : V), [w, z] = [w', z'] ∧ Tr Av H2 ∧ Av b' ∧ OwnRep X.K H2 Av b' t ∧ Rep X.K H2 Av u.1 w' ∧ Rep X.K H2 Av u.2 z' ∧ Mut.setdefault.sem t [u.1, u.2] = some (t', r) ∧
          ∀ v ho, OwnRep X.K (upd H2 b' ho) Av b' t' → Rep X.K (upd H2 b' ho) Av r v → Q v (upd H2 b' ho) := fun s' t ts t' r q' k' et e1 e2 p2 => by
            obtain ⟨b2, e3, hb2, ow'⟩ := nh.rel.at q' (mine_k.mpr (by omega))
            rw [e] at e3; cases e3
            have rr := RepRs.cleans n tr (.cons q2 (.cons q3 .nil)) e1
            simp only [cleans, Option.bind_eq_some_iff, Option.map_eq_some_iff] at e1
            obtain ⟨u1, _, us, ⟨u2, _, us2, e5, rfl⟩, rfl⟩ := e1
            cases e5
            simp only [Reps] at rr
            obtain ⟨w', _, ew, h1, z', _, ez, h3, ee⟩ := rr
            cases ew; cases ez; cases ee
            exact ⟨t, (u1, u2), t', r, _, _, rfl, nh.tr, hb2, et ▸ ow', h1, h3, e2, fun v ho hown hr => p2 v Av _ (nh.trans rl (wrote (t' := t') nh.rel nh.tr q' k' e hown)) hr⟩
          simp only [Mut.reads, Bool.false_eq_true, if_false] at p1
          cases q' : slotAt ρ1 i with
          | none => rw [q'] at p1; exact p1.elim
          | some s' =>
            rw [q'] at p1
            cases e1 : cleans [r1, r2] with
            | none => rw [e1] at p1; cases s' <;> exact p1.elim
            | some ts =>
              rw [e1] at p1
              cases s' with
              | shr t => exact p1.elim
              | lck t => exact p1.elim
              | own t =>
                simp only at p1
                cases e2 : Mut.setdefault.sem t ts with
                | none => rw [e2] at p1; exact p1.elim
                | some w => rw [e2] at p1; exact go (.own t) t ts w.1 w.2 q' (.inl rfl) rfl e1 e2 p1
              | io t =>
                simp only at p1
                cases e2 : Mut.setdefault.sem t ts with
                | none => rw [e2] at p1; exact p1.elim
                | some w => rw [e2] at p1; exact go (.io t) t ts w.1 w.2 q' (.inr rfl) rfl e1 e2 p1
      obtain ⟨ρ, Av', rl, tr, p⟩ := tEs_two h2
      refine ⟨ρ, Av', rl, tr, p.mono fun w H2 ⟨ρ2, Av2, rl2, tr2, p2⟩ => ⟨ρ2, Av2, rl2, tr2, p2.mono fun z H3 ⟨t, u, t', r, w', z', exs, trr, hb3, ow, h1, h3, e2, fin⟩ => ?_⟩⟩
      cases exs
      cases t <;> (try (simp [Mut.sem] at e2; done))
      rename_i kvs
      simp only [Mut.sem, Option.bind_eq_some_iff] at e2
      obtain ⟨kk, e4, e2⟩ := e2
      obtain ⟨rfl, hkk, eu⟩ := rep_tK e4 h1
      simp only [OwnRep] at ow
      obtain ⟨ws, g, rd⟩ := ow
      have kp : ∀ (ho : HO), ∀ c o, H3 c = some o → ¬ Av c → upd H3 b' ho c = some o := fun ho => wr_keep hb3
      have same : upd H3 b' (.dK ws) = H3 := by
        funext c
        by_cases z : c = b'
        · rw [z, upd_same]; exact g.symm
        · rw [upd_ne z]
      have sz : kvs.length = ws.length := by
        have := congrArg List.length rd.keysK
        simpa using this.symm
      cases e3 : getT kvs kk with
      | some t =>
        rw [e3] at e2
        simp only at e2
        split at e2
        rotate_left
        · cases e2
        rename_i hsz
        cases e2
        obtain ⟨v, e5, h5⟩ := getT_some rd e3
        refine ⟨ws, keyOf kk, g, (kV_key kk).symm, by rw [line, ← sz]; exact hsz, fun v' ev' => ?_, fun en => by rw [e5] at en; cases en⟩
        · rw [e5] at ev'; cases ev'
          have := fin v (.dK ws) (by rw [same]; simp only [OwnRep]; exact ⟨ws, g, rd⟩) (by rw [same]; exact h5)
          rw [same] at this
          exact this
      | none =>
        rw [e3] at e2
        simp only at e2
        split at e2
        · rename_i hsz
          cases e2
          have e5 := getT_none rd e3
          refine ⟨ws, keyOf kk, g, (kV_key kk).symm, by rw [line, ← sz]; exact hsz, fun v' ev' => (by rw [e5] at ev'; cases ev'), fun _ => ?_⟩
          have rd2 := RepD.put (h3) hkk rd
          refine fin _ _ ?_ ?_
          · simp only [OwnRep]
            exact ⟨_, upd_same, RepD.keep (kp _) (fun _ _ _ n => n) _ _ rd2⟩
          · exact Rep.keep (kp _) (fun _ _ _ n => n) _ _ h3
        · cases e2
  · exact p.elim
end
end MP

namespace MP
open PySem PySem.Spec L2
open PyProof.Rows hiding St
open PySem.W (minD dataLt min_list_default min_list_data AlikeAll)
/-! ## expressions of more than one node -/
theorem reads_strs {h : Heap} : ∀ {vs : List Value} {xs : List (List Nat)}, Vals (xs.map fun s => V.str (S2 s)) vs → ∃ as, ReadsAll h vs (xs.map fun s => PyData.str (S2 s)) as
  | _, [], .nil => ⟨[], .nil⟩
  | _, x :: xs, .cons r t => by
    obtain ⟨as, ih⟩ := reads_strs t
    obtain ⟨tk, rfl⟩ := (show ∃ t, _ = Value.str (S2 x) t from r)
    exact ⟨_, .cons (.str _ _) ih⟩
theorem minD_s2 : ∀ (xs : List (List Nat)) (x : List Nat), minD (.str (S2 x)) (xs.map fun s => PyData.str (S2 s)) = .str (S2 (xs.foldl (fun m y => if y < m then y else m) x))
  | [], x => rfl
  | y :: xs, x => by
    have e : dataLt (.str (S2 y)) (.str (S2 x)) = decide (y < x) := by
      show PyProof.Rows.lexLt itemOrd [Sum.inr y] [Sum.inr x] = _
      show (decide (y < x) || (!decide (x < y) && false)) = _
      simp
    show minD (if dataLt (.str (S2 y)) (.str (S2 x)) = true then .str (S2 y) else .str (S2 x)) (xs.map fun s => PyData.str (S2 s)) = _
    rw [e]
    simp only [decide_eq_true_eq, List.foldl_cons]
    split
    · rw [minD_s2 xs y]
    · rw [minD_s2 xs x]
theorem min_mem : ∀ (xs : List (List Nat)) (x : List Nat), xs.foldl (fun m y => if y < m then y else m) x ∈ x :: xs
  | [], x => by simp
  | y :: xs, x => by
    simp only [List.foldl_cons]
    split
    · exact List.mem_cons_of_mem _ (min_mem xs y)
    · have := min_mem xs x
      rcases List.mem_cons.mp this with h | h
      · rw [h]; simp
      · exact List.mem_cons_of_mem _ (List.mem_cons_of_mem _ h)
def bootmin : bootBuiltins "min" = some (.builtin "min") := by decide +kernel
section
variable {X : Cx} {W : WX} {as : List Expr} {a b o : Expr} {ea eb eo : E} {es : List E} {pos p p2 apos cpos : Pos} {nm : Str} {ps : List Str} {k : Nat}
theorem spec_read {k : Spk} {σ : St} {H : Hp} {Q : VK} (h : (tE X.K X.mg W (.spec k es)) σ H Q) : tEs X.K X.mg W es σ H fun xs H1 => ∃ ts z Av1, Tr Av1 H1 ∧ Paired (Rdb X.K H1 Av1) ts xs ∧ k.sem ts = some z ∧ ∀ v Av' H', Made X.K Av1 H1 z v Av' H' → Q v H' := by
  obtain ⟨ρ, Av, rl, tr, p⟩ := h
  simp only [ev] at p
  refine ⟨ρ, Av, rl, tr, (p.bind rl).mono fun xs H1 ⟨rs, ρ1, Av1, _, n1, q1, p1⟩ => ?_⟩
  obtain ⟨z, e, k⟩ := p1.lift
  simp only [Option.bind_eq_some_iff] at e
  obtain ⟨ts, e1, e⟩ := e
  exact ⟨ts, z, Av1, n1.tr, q1.gets n1.rel e1, e, k n1.rel⟩
theorem reps_range {K : PySem.W.Frag} {H : Hp} {Av : Addr → Prop} (i j : Int) : Reps K H Av (rangeT i j) (rgV i j) := by
  unfold rangeT rgV
  generalize List.range (j - i).toNat = l
  induction l with
  | nil => exact .nil
  | cons a l ih => exact .cons (by simp [Rep]) ih
theorem rgOk {i j : Int} (h : rangeOk i j = true) : RgOk i j := by
  simp only [rangeOk, small62, Bool.and_eq_true, decide_eq_true_eq] at h
  exact ⟨h.1.1.1, h.1.1.2, h.1.2.1, h.1.2.2, h.2⟩
theorem s_lrange1 (hc : X.calm = true) (hg : Gl X "list") (hm : X.mg "list" = none) (hg2 : Gl X "range") (hm2 : X.mg "range" = none) (ha : PE X a (tE X.K X.mg W (ea))) (hs : starEach [a] X.env = [(false, eval a X.env)]) :
    PE X (.Call (.Name "list" p) [.Call (.Name "range" p2) [a] [] apos] [] pos) (tE X.K X.mg W (.spec .lrange1 [ea])) := by
  refine (pe_listRg hc hg hm (prg_1 hg2 hm2 ha hs)).weaken fun σ H Q h => ?_
  obtain ⟨ρ, Av, rl, tr, p⟩ := tEs_one (spec_read h)
  refine ⟨ρ, Av, rl, tr, p.mono fun v H1 ⟨ts, z, Av1, tr1, pr, e, k⟩ => ?_⟩
  cases pr with
  | cons h1 pr =>
    cases pr
    rename_i t
    cases t <;> (try (simp [Spk.sem] at e; done))
    simp only [Spk.sem] at e
    split at e
    · rename_i hr
      cases e
      simp only [Rdb] at h1
      subst h1
      exact ⟨_, rfl, rgOk hr, fun q hq => k _ _ _ (.lst tr1 hq (reps_range _ _))⟩
    · cases e
theorem s_lrange2 (hc : X.calm = true) (hg : Gl X "list") (hm : X.mg "list" = none) (hg2 : Gl X "range") (hm2 : X.mg "range" = none) (ha : PE X a (tE X.K X.mg W (ea))) (hb : PE X b (tE X.K X.mg W (eb))) (hs : starEach [a, b] X.env = [(false, eval a X.env), (false, eval b X.env)]) (hs2 : starEach [b] X.env = [(false, eval b X.env)]) :
    PE X (.Call (.Name "list" p) [.Call (.Name "range" p2) [a, b] [] apos] [] pos) (tE X.K X.mg W (.spec .lrange2 [ea, eb])) := by
  refine (pe_listRg hc hg hm (prg_2 hg2 hm2 ha hb (by rw [hs, hs2]) (by rw [hs2]; rfl) (by rw [hs2]; rfl))).weaken fun σ H Q h => ?_
  obtain ⟨ρ, Av, rl, tr, p⟩ := tEs_two (spec_read h)
  refine ⟨ρ, Av, rl, tr, p.mono fun v H1 ⟨ρ2, Av2, rl2, tr2, p2⟩ => ⟨ρ2, Av2, rl2, tr2, p2.mono fun w H2 ⟨ts, z, Av1, tr1, pr, e, k⟩ => ?_⟩⟩
  cases pr with
  | cons h1 pr =>
    cases pr with
    | cons h2 pr =>
      cases pr
      rename_i t t2
      cases t <;> (try (simp [Spk.sem] at e; done))
      cases t2 <;> (try (simp [Spk.sem] at e; done))
      simp only [Spk.sem] at e
      split at e
      · rename_i hr
        cases e
        simp only [Rdb] at h1 h2
        subst h1 h2
        exact ⟨_, _, rfl, rfl, rgOk hr, fun q hq => k _ _ _ (.lst tr1 hq (reps_range _ _))⟩
      · cases e
theorem cr_minNone (hc : X.calm = true) (hu : X.A.units + 65 < cLine) : CallRK X (.builtin "min") [Str.ofString "default"] (fun vs zs H Q => ∃ (a : Addr) (xs : List (List Nat)), vs = [.ref a] ∧ zs = [.non] ∧ SqL X.K H a (xs.map fun s => V.str (S2 s)) ∧ Q (match minS xs with
    | some m => .str (S2 m)
    | none => .non) H) := by
  intro pins s σ H vs zs us ws Q I r rz h
  obtain ⟨a, xs, rfl, rfl, hs, q⟩ := h
  obtain rfl := Vals.ref1 r
  obtain ⟨w1, rfl, e1⟩ := vals1 rz
  obtain rfl : w1 = Value.none := e1
  obtain ⟨its, rv, hl, hz⟩ := I.list hs
  obtain ⟨as, hr⟩ := reads_strs (h := s.heap) rv
  have hd : ∀ ys : List (List Nat), PyData.depthAll (ys.map fun s => PyData.str (S2 s)) ≤ 1 := by
    intro ys
    induction ys with
    | nil => simp [PyData.depthAll]
    | cons y ys ih => simp only [List.map_cons, PyData.depthAll, PyData.depth]; omega
  refine min_list_default (I.ok.hd hc) hl.isList hr ⟨fun x hx y hy => ?_, fun x hx => ?_⟩ (by have := hd xs; omega) (fun e h' tk hk => ?_) fun y ys i v h' tk bs e _ hv hk => ?_
  · obtain ⟨_, _, rfl⟩ := List.mem_map.mp hx
    obtain ⟨_, _, rfl⟩ := List.mem_map.mp hy
    rfl
  · obtain ⟨_, _, rfl⟩ := List.mem_map.mp hx
    exact fun z => nomatch z
  · cases xs with
    | nil => exact ⟨.non, H, I.kept hk, rfl, q⟩
    | cons => simp at e
  · cases xs with
    | nil => simp at e
    | cons x xs =>
      simp only [List.map_cons, List.cons.injEq] at e
      obtain ⟨rfl, rfl⟩ := e
      rw [minD_s2] at hv
      generalize hm : xs.foldl (fun m y => if y < m then y else m) x = m at hv
      cases hv
      refine ⟨.str (S2 m), H, I.kept hk, ⟨_, rfl⟩, ?_⟩
      simp only [minS, hm] at q
      exact q
theorem s_minNone {kp np : Pos} {j : Nat} (hc : X.calm = true) (hu : X.A.units + 65 < cLine) (hg : Gl X "min") (hm : X.mg "min" = none) (ha : PA X [a] (tEs X.K X.mg W [ea])) (hs : starEach [a] X.env = [(false, eval a X.env)]) :
    PE X (.Call (.Name "min" p) [a] [⟨some "default", .Constant .none j np, kp⟩] pos) (tE X.K X.mg W (.spec .minNone [ea])) := by
  refine (pe_callBK (cr_minNone hc hu) hg hm bootmin ha (pk_cons pe_non pk_nil) (by decide) (by decide) (by rw [hs]; rfl) (by rw [hs]; rfl)).weaken fun σ H Q h => ?_
  obtain ⟨ρ, Av, rl, tr, p⟩ := spec_read h
  refine ⟨ρ, Av, rl, tr, p.mono fun vs H1 ⟨ts, z, Av1, tr1, pr, e, k⟩ => ?_⟩
  cases pr with
  | nil => simp [Spk.sem] at e
  | @cons t v _ _ h1 pr =>
    cases pr with
    | cons _ _ => cases t <;> simp [Spk.sem] at e
    | nil =>
      cases t <;> (try (simp [Spk.sem] at e; done))
      rename_i l
      simp only [Spk.sem, Option.map_eq_some_iff] at e
      obtain ⟨xs, e1, rfl⟩ := e
      simp only [Rdb] at h1
      obtain ⟨c, vs, rfl, g, rr⟩ := h1
      rw [of_strs? e1] at rr
      obtain ⟨rfl, so⟩ := rr.strs
      refine ⟨c, xs, rfl, rfl, .of g, ?_⟩
      cases hm : minS xs with
      | none => rw [hm] at k; exact k _ _ _ (.same tr1 (by simp [Rep]))
      | some m =>
        rw [hm] at k
        refine k _ _ _ (.same tr1 ?_)
        simp only [Rep, true_and]
        cases xs with
        | nil => simp [minS] at hm
        | cons x xs =>
          simp only [minS, Option.some.injEq] at hm
          subst hm
          exact so _ (min_mem xs x)
theorem cr_minOf (hc : X.calm = true) (hu : X.A.units + 65 < cLine) : CallR X (.builtin "min") (fun vs H Q => ∃ (a : Addr) (x : List Nat) (xs : List (List Nat)), vs = [.ref a] ∧ SqL X.K H a ((x :: xs).map fun s => V.str (S2 s)) ∧ Q (.str (S2 (xs.foldl (fun m y => if y < m then y else m) x))) H) := by
  intro pins s σ H vs us Q I r h
  obtain ⟨a, x, xs, rfl, hs, q⟩ := h
  obtain rfl := Vals.ref1 r
  obtain ⟨its, rv, hl, hz⟩ := I.list hs
  obtain ⟨as, hr⟩ := reads_strs (h := s.heap) rv
  have hd : ∀ ys : List (List Nat), PyData.depthAll (ys.map fun s => PyData.str (S2 s)) ≤ 1 := by
    intro ys
    induction ys with
    | nil => simp [PyData.depthAll]
    | cons y ys ih => simp only [List.map_cons, PyData.depthAll, PyData.depth]; omega
  have al : AlikeAll ((x :: xs).map fun s => PyData.str (S2 s)) := ⟨fun x hx y hy => by
    obtain ⟨_, _, rfl⟩ := List.mem_map.mp hx
    obtain ⟨_, _, rfl⟩ := List.mem_map.mp hy
    rfl, fun x hx => by
    obtain ⟨_, _, rfl⟩ := List.mem_map.mp hx
    exact fun z => nomatch z⟩
  have hd2 := hd (x :: xs)
  simp only [List.map_cons] at hr al hd2
  refine min_list_data (I.ok.hd hc) hl.isList hr al (by omega) fun i v h' tk bs _ hv hk => ?_
  rw [minD_s2] at hv
  generalize hm : xs.foldl (fun m y => if y < m then y else m) x = m at hv q
  cases hv
  exact ⟨.str (S2 m), H, I.kept hk, ⟨_, rfl⟩, q⟩
theorem s_minOf (hc : X.calm = true) (hu : X.A.units + 65 < cLine) (hg : Gl X "min") (hm : X.mg "min" = none) (ha : PA X [a] (tEs X.K X.mg W [ea])) (hs : starEach [a] X.env = [(false, eval a X.env)]) :
    PE X (.Call (.Name "min" p) [a] [] pos) (tE X.K X.mg W (.spec .minOf [ea])) := by
  refine (pe_callB (cr_minOf hc hu) hg hm bootmin ha (by decide) (by decide) (by rw [hs]; rfl) rfl).weaken fun σ H Q h => ?_
  obtain ⟨ρ, Av, rl, tr, p⟩ := spec_read h
  refine ⟨ρ, Av, rl, tr, p.mono fun vs H1 ⟨ts, z, Av1, tr1, pr, e, k⟩ => ?_⟩
  cases pr with
  | nil => simp [Spk.sem] at e
  | @cons t v _ _ h1 pr =>
    cases pr with
    | cons _ _ => cases t <;> simp [Spk.sem] at e
    | nil =>
      cases t <;> (try (simp [Spk.sem] at e; done))
      rename_i l
      simp only [Spk.sem, Option.bind_eq_some_iff, Option.map_eq_some_iff] at e
      obtain ⟨xs, e1, m, e2, rfl⟩ := e
      simp only [Rdb] at h1
      obtain ⟨c, vs, rfl, g, rr⟩ := h1
      rw [of_strs? e1] at rr
      obtain ⟨rfl, so⟩ := rr.strs
      cases xs with
      | nil => simp [minS] at e2
      | cons x xs =>
        refine ⟨c, x, xs, rfl, .of g, ?_⟩
        simp only [minS, Option.some.injEq] at e2
        subst e2
        refine k _ _ _ (.same tr1 ?_)
        simp only [Rep, true_and]
        exact so _ (min_mem xs x)
end
end MP

namespace MP
open PySem PySem.Spec L2
open PyProof.Rows hiding St
/-! ## isinstance, an exception's class asked for -/
def ClV (mg : Str → Option Value) (d : String) (u : Value) : Prop := (d = "ValueError" ∧ mg (d : Str) = none ∧ u = .type "ValueError") ∨ ∃ D, mg (d : Str) = some (.ref D) ∧ u = .ref D
structure IsxAt (K : PySem.W.Frag) (mg : Str → Option Value) (xs : List String) (tys : List Tn) (d : String) (u : Value) : Prop where
  cl : ClV mg d u
  ex : ∀ c ∈ xs, ∃ D, PySem.W.nsIn K mainGlobals (c : Str) = some (some (.ref D)) ∧ L2.ExcC K D ∧ PySem.W.kitOne K (.ref D) u = some (subX c d)
  ty : ∀ y ∈ tys, PySem.W.kitOne K (.type y.name) u = some false
def IsxOk (K : PySem.W.Frag) (mg : Str → Option Value) (cs xs : List String) (tys : List Tn) : Prop := mg ("isinstance" : Str) = none ∧ ∀ d ∈ cs, ∃ u, IsxAt K mg xs tys d u
theorem boot_ve : bootBuiltins "ValueError" = some (.type "ValueError") := by decide +kernel
section
variable {X : Cx} {W : WX} {a : Expr} {ea : E} {pos p : Pos}
theorem pe_cl {d : String} {u : Value} (h : ClV X.mg d u) (hg : Gl X (d : Str)) (hd : ((d : Str) == ("__debug__" : Str)) = false) {q : Pos} : ∃ v, (∀ w, RelV v w → w = u) ∧ RelV v u ∧ PE X (.Name (d : Str) q) (L2.tC v) := by
  rcases h with ⟨rfl, hm, rfl⟩ | ⟨D, hm, rfl⟩
  · exact ⟨.ty "ValueError", fun w r => r, rfl, pe_bltn hg hm boot_ve rfl (by decide) hd⟩
  · exact ⟨.ref D, fun w r => r, rfl, pe_glob hg hm rfl hd⟩
theorem isx_kit {cs xs : List String} {tys : List Tn} {t : T} {b : Bool} {H : Hp} {Av : Addr → Prop} {x : V} (h : Rdb X.K H Av t x) (e : isxSem t cs xs tys = some b) (us : List Value) (z : cs ≠ []) (hu : Paired (IsxAt X.K X.mg xs tys) cs us) :
    ∃ tv, ((∃ a D, x = .ref a ∧ tv = .ref D ∧ H a = some (ExT (.ref D) a) ∧ L2.ExcC X.K D) ∨ TyX X.K H x tv) ∧ PySem.W.kitAny X.K tv us = some b := by
  have other : ∀ y, t.ty = some y → y ∈ tys → b = false → ∃ tv, ((∃ a D, x = .ref a ∧ tv = .ref D ∧ H a = some (ExT (.ref D) a) ∧ L2.ExcC X.K D) ∨ TyX X.K H x tv) ∧ PySem.W.kitAny X.K tv us = some b := fun y e1 m e2 => by
    subst e2
    refine ⟨_, .inr (ty_of h e1), ?_⟩
    clear e z
    induction hu with
    | nil => rfl
    | cons h1 _ ih => exact kitAny_cons (h1.ty y m) (fun _ => ih) fun z => nomatch z
  cases t <;> simp only [isxSem, T.ty, Option.bind_some, Option.bind_none] at e
  case exc c =>
    split at e
    · rename_i m
      cases e
      simp only [Rdb, Rep] at h
      obtain ⟨a, D, rfl, _, ha, hn⟩ := h
      have C : L2.ExcC X.K D := by
        cases hu with
        | nil => exact absurd rfl z
        | cons h1 _ => obtain ⟨D', q1, q2, _⟩ := h1.ex c m; rw [hn] at q1; cases q1; exact q2
      refine ⟨.ref D, .inl ⟨a, D, rfl, rfl, ha, C⟩, ?_⟩
      clear z other
      induction hu with
      | nil => rfl
      | @cons d u ds us h1 _ ih =>
        obtain ⟨D', q1, _, q3⟩ := h1.ex c m
        rw [hn] at q1; cases q1
        rw [List.any_cons]
        exact kitAny_cons q3 (fun z => by rw [z, Bool.false_or]; exact ih) fun z => by rw [z, Bool.true_or]
    · cases e
  all_goals first
    | cases e; done
    | (split at e
       · rename_i m; cases e; exact other _ rfl m rfl
       · cases e)
/-- the names of classes -/
def tCls (vs : List V) : TA := fun _ H Q => Q vs H
theorem pa_cls {xs : List String} {tys : List Tn} : ∀ {cs : List String} {ns : List Expr}, ns.length = cs.length → (∀ (i : Nat) (d : String) (n : Expr), cs[i]? = some d → ns[i]? = some n → (∃ u, IsxAt X.K X.mg xs tys d u) ∧ Gl X (d : Str) ∧ ((d : Str) == ("__debug__" : Str)) = false ∧ ∃ q, n = .Name (d : Str) q) →
    ∃ vs us, (∀ ws, Vals vs ws → ws = us) ∧ Paired (IsxAt X.K X.mg xs tys) cs us ∧ vs.length = cs.length ∧ PA X ns (tCls vs)
  | [], [], _, _ => ⟨[], [], fun ws r => by cases r; rfl, .nil, rfl, pa_nil.weaken fun σ H Q h => h⟩
  | d :: cs, n :: ns, hl, h => by
    obtain ⟨⟨u, hu⟩, h2, h3, q, rfl⟩ := h 0 d n rfl rfl
    obtain ⟨vs, us, i1, i2, i3, i4⟩ := pa_cls (cs := cs) (ns := ns) (by simpa using hl) fun i y n e e' => h (i + 1) y n (by simpa using e) (by simpa using e')
    obtain ⟨v, j1, j2, j3⟩ := pe_cl (q := q) hu.cl h2 h3
    refine ⟨v :: vs, u :: us, fun ws r => ?_, .cons hu i2, by simp [i3], (pa_cons j3 i4 rfl).weaken fun σ H Q hh => hh⟩
    cases r with
    | cons r1 r2 => rw [j1 _ r1, i1 _ r2]
  | [], _ :: _, hl, _ => by simp at hl
  | _ :: _, [], hl, _ => by simp at hl
theorem s_isx {xs : List String} {tys : List Tn} {d : String} {u : Value} (hi : IsxAt X.K X.mg xs tys d u) (hg : Gl X "isinstance") (hm : X.mg "isinstance" = none) (hd : Gl X (d : Str)) (hd2 : ((d : Str) == ("__debug__" : Str)) = false) (ha : PE X a (tE X.K X.mg W (ea))) {py : Pos}
    (he : starEach [a, .Name (d : Str) py] X.env = [(false, eval a X.env), (false, eval (.Name (d : Str) py) X.env)]) :
    PE X (.Call (.Name "isinstance" p) [a, .Name (d : Str) py] [] pos) (tE X.K X.mg W (.isx ea [d] xs tys)) := by
  have he2 : starEach [.Name (d : Str) py] X.env = [(false, eval (.Name (d : Str) py) X.env)] := rfl
  obtain ⟨v, j1, j2, j3⟩ := pe_cl (q := py) hi.cl hd hd2
  refine (pe_callB call_isX hg hm boot_isi (pa_cons ha (pa_cons j3 pa_nil he2) (by rw [he, he2])) (by decide) (by decide) (by rw [he, he2]) rfl).weaken fun σ H Q ⟨ρ, Av, rl, tr, p⟩ => ?_
  simp only [ev] at p
  refine ⟨ρ, Av, rl, tr, (p.bind rl).mono fun x H1 ⟨r, ρ1, Av1, _, n1, q1, p1⟩ => ?_⟩
  obtain ⟨z, e, k⟩ := p1.bool n1.tr n1.rel
  simp only [Option.bind_eq_some_iff] at e
  obtain ⟨t, e1, e2⟩ := e
  obtain ⟨tv, h1, h2⟩ := isx_kit (q1.rdb n1.rel e1) e2 [u] (by simp) (.cons hi .nil)
  refine ⟨x, v, tv, u, z, rfl, j1, h1, ?_, k⟩
  unfold PySem.W.kitAny at h2
  cases g : PySem.W.kitOne X.K tv u with
  | none => rw [g] at h2; cases h2
  | some b => rw [g] at h2; cases b <;> (unfold PySem.W.kitAny at h2; exact h2)
theorem s_isxT {cs xs : List String} {tys : List Tn} {ns : List Expr} {kk : Nat} {pt : Pos} (hcs : cs ≠ []) (hys : cs.length ≤ 100) (hl : ns.length = cs.length) (h : ∀ (i : Nat) (d : String) (n : Expr), cs[i]? = some d → ns[i]? = some n → (∃ u, IsxAt X.K X.mg xs tys d u) ∧ Gl X (d : Str) ∧ ((d : Str) == ("__debug__" : Str)) = false ∧ ∃ q, n = .Name (d : Str) q)
    (hg : Gl X "isinstance") (hm : X.mg "isinstance" = none) (ha : PE X a (tE X.K X.mg W (ea)))
    (he : starEach [a, .Tuple ns kk pt] X.env = [(false, eval a X.env), (false, eval (.Tuple ns kk pt) X.env)]) :
    PE X (.Call (.Name "isinstance" p) [a, .Tuple ns kk pt] [] pos) (tE X.K X.mg W (.isx ea cs xs tys)) := by
  have he2 : starEach [.Tuple ns kk pt] X.env = [(false, eval (.Tuple ns kk pt) X.env)] := rfl
  obtain ⟨vs, us, i1, i2, i3, i4⟩ := pa_cls hl h
  refine (pe_callB call_isXT hg hm boot_isi (pa_cons ha (pa_cons (pe_tup i4) pa_nil he2) (by rw [he, he2])) (by decide) (by decide) (by rw [he, he2]) rfl).weaken fun σ H Q ⟨ρ, Av, rl, tr, p⟩ => ?_
  simp only [ev] at p
  refine ⟨ρ, Av, rl, tr, (p.bind rl).mono fun x H1 ⟨r, ρ1, Av1, _, n1, q1, p1⟩ => ?_⟩
  refine ⟨by rw [line, i3]; omega, fun c hc => ?_⟩
  cases e0 : (r.get ρ1).bind fun t => isxSem t cs xs tys with
  | none => rw [e0] at p1; exact p1.elim
  | some z =>
    rw [e0] at p1
    simp only [Option.bind_eq_some_iff] at e0
    obtain ⟨t, e1, e2⟩ := e0
    have hr := (q1.rdb n1.rel e1).all (laid_keep (o := .tup vs) hc)
    obtain ⟨tv, h1, h2⟩ := isx_kit hr e2 us hcs i2
    refine ⟨x, c, vs, tv, us, z, rfl, upd_same, i1, h1, h2, ?_⟩
    have m2 : Made X.K Av1 H1 (.val (.bl z)) (.bl z) Av1 (upd H1 c (.tup vs)) := ⟨laid_keep hc, fun _ h => h, fun _ h => .inl h, n1.tr.laid, by simp [Rep]⟩
    exact p1 _ _ _ (m2.nx n1.rel) (m2.repR n1.rel)
end
end MP

namespace MP
open PySem PySem.Spec L2
open PyProof.Rows hiding St
/-! ## xs.count(y), s.endswith(t) -/
section
variable {X : Cx} {W : WX} {a o : Expr} {ea eo : E} {apos cpos : Pos}
/-- l.count(x): how many are equal -/
def rCountD (K : PySem.W.Frag) : V → List V → Hp → VK → Prop := fun x xs H Q => ∃ (a : Addr) (y : V) (d : PyData) (ds : List PyData), x = V.ref a ∧ xs = [y] ∧ Dp K H (V.ref a) (.list ds) ∧ Dp K H y d ∧
  SeqAt.shaped (.list ds) = true ∧ SeqAt.shaped d = true ∧ Q (.int ((ds.countP fun z => PyData.eqv z d : Nat) : Int)) H
theorem mt_countD (hu : X.A.units + 65 < cLine) : MtR X "list.count" (rCountD X.K) := by
  intro pins s σ H x xs v us Q I rx rxs h
  obtain ⟨a, y, d, ds, rfl, rfl, hl, hy, sl, sd, q⟩ := h
  cases rx
  cases rxs with
  | cons ry rt =>
    rename_i uy ut
    cases rt
    obtain ⟨bs, r1⟩ := Dp.reads I d y uy hy ry
    have lx : PyData.canLayAll0 ds = true := SeqAt.canLay_of_shaped sl
    have room : X.A.units + 1 + min (PyData.depthAll ds) d.depth < cLine := room_in_shaped sd hu
    cases hl with
    | lst hs ha =>
      obtain ⟨its, rv, ⟨⟨cls, dd, data, sls⟩, n, ho, hc, hdn, hdt⟩, hlen⟩ := I.list hs
      simp only at hc hdt
      subst hc hdt
      obtain ⟨as, h4⟩ := Dp.readsAll I ds _ its ha rv
      have hmap : its.map (SeqAt.readOf s.heap) = ds := SeqAt.readsAll_map ds its as lx h4
      refine call_meets PySem.F.slot_list_count ⟨_, ho, rfl⟩ PySem.F.entry_list_count (PySem.F.args_list_count_2 _ _)
        (SeqAt.list_countAt a its.toArray n dd sls uy (fun u => PyData.eqv (SeqAt.readOf s.heap u) d)) ⟨ho, SeqAt.items_eqAt (vs := its.toArray) (show ReadsAll s.heap its.toArray.toList ds as from h4) r1 lx (SeqAt.canLay_of_shaped sd) room, ?_⟩
      have ec : its.toArray.toList.countP (fun u => PyData.eqv (SeqAt.readOf s.heap u) d) = ds.countP fun z => PyData.eqv z d := by
        rw [← hmap, List.countP_map]; rfl
      refine ⟨.int ((ds.countP fun z => PyData.eqv z d : Nat) : Int), H, I.tok _, ⟨s.toks, ?_⟩, q⟩
      show Value.int ((its.toArray.toList.countP (fun u => PyData.eqv (SeqAt.readOf s.heap u) d) : Nat) : Int) s.toks = _
      rw [ec]
theorem count_pd {n : Nat} {u : T} (f : u.flat n = true) (ts : List T) (h : T.flats n ts = true) : ((T.pds ts).countP fun z => PyData.eqv z u.pd) = countT ts u := by
  rw [pds_map, List.countP_map]
  unfold countT
  have fa : ∀ u ∈ ts, u.flat n = true := by rw [flats_all, List.all_eq_true] at h; exact h
  exact List.countP_congr fun t ht => by show PyData.eqv t.pd u.pd = true ↔ _; rw [eqv_pd n _ _ (fa t ht) f]
theorem s_count (hu : X.A.units + 65 < cLine) (ho : PE X o (tE X.K X.mg W (eo))) (ha : PA X [a] (tEs X.K X.mg W [ea])) (hbase : attributeBase o "count" X.env (eval o X.env) = eval o X.env) (hline : (apos.endLine == cpos.line) = true) (hst : (starEach [a] X.env).all (fun x => !x.1) = true)
    (he : starEach [a] X.env = (false, eval a X.env) :: starEach [] X.env) : PE X (.Call (.Attribute o "count" apos) [a] [] cpos) (tE X.K X.mg W (.meth .count eo [ea])) := by
  have hst2 : (starEach [] X.env).all (fun x => !x.1) = true := rfl
  have few : ((backTo cpos (starEach [a] X.env)).all (fun x => !x.1) && (backToKw cpos (keywordEach [] X.env)).all (fun x => x.1.isSome) && decide (([a] : List Expr).length + ([] : List Keyword).length + (if ([] : List Keyword).isEmpty then 0 else 1) < 30)) = true := by
    rw [(plainAs hst).1]; rfl
  refine (pe_bm PySem.F.plainAttrs_list PySem.F.slot_list_count PySem.F.type_list_count (mt_countD hu) ho ha hbase few hline he (plainAs hst2).2).weaken fun σ H Q h => ?_
  obtain ⟨ρ, Av, rl, tr, p⟩ := meth_read h
  refine ⟨ρ, Av, rl, tr, p.mono fun x H1 ⟨⟨t1, Av1, hp, h1⟩, q⟩ => ?_⟩
  cases t1 <;> (try (cases hp; done))
  rename_i l
  simp only [Rdb] at h1
  obtain ⟨c, vs, rfl, g1, _⟩ := h1
  refine ⟨.inl ⟨rfl, vs, .of g1⟩, ?_⟩
  obtain ⟨ρ2, Av2, rl2, tr2, p2⟩ := q
  refine ⟨ρ2, Av2, rl2, tr2, p2.mono fun xs H2 ⟨t, ts, z, Av3, tr3, ht, pr, e, k⟩ => ?_⟩
  unfold Mth.sem at e
  split at e <;> (try (simp at *; done)) <;> (try (exfalso; simp_all; done))
  rename_i ts' u heq
  split at e
  · rename_i hk
    simp only [Bool.and_eq_true] at hk
    cases e
    cases pr with
    | cons h9 pr =>
      cases pr
      obtain ⟨d1, s1⟩ := shaped_of (n := 28) (by omega) hk.1 h9
      obtain ⟨d2, s2⟩ := shaped_of (n := 29) (t := .lst ts') (by omega) (by simpa [T.flat] using hk.2) ht
      simp only [T.pd] at d2 s2
      refine ⟨c, _, _, _, rfl, rfl, d2, d1, s2, s1, ?_⟩
      rw [count_pd hk.1 _ hk.2]
      exact k _ _ _ (.same tr3 (by simp [Rep]))
  · cases e
theorem s_endswith (ho : PE X o (tE X.K X.mg W (eo))) (ha : PA X [a] (tEs X.K X.mg W [ea])) (hbase : attributeBase o "endswith" X.env (eval o X.env) = eval o X.env) (hline : (apos.endLine == cpos.line) = true) (hst : (starEach [a] X.env).all (fun x => !x.1) = true)
    (he : starEach [a] X.env = (false, eval a X.env) :: starEach [] X.env) : PE X (.Call (.Attribute o "endswith" apos) [a] [] cpos) (tE X.K X.mg W (.meth .endswith eo [ea])) := by
  have hst2 : (starEach [] X.env).all (fun x => !x.1) = true := rfl
  refine (pe_bm PySem.F.plainAttrs_str PySem.F.slot_str_endswith PySem.F.type_str_endswith mt_endswith ho ha hbase ?_ hline he (plainAs hst2).2).weaken fun σ H Q h => ?_
  · rw [(plainAs hst).1]; rfl
  · obtain ⟨ρ, Av, rl, tr, p⟩ := meth_read h
    refine ⟨ρ, Av, rl, tr, p.mono fun x H1 ⟨⟨t1, Av1, hp, r1⟩, q⟩ => ?_⟩
    obtain ⟨s, rfl⟩ := str_of r1 hp (.inr (.inr (.inl rfl)))
    refine ⟨rfl, ?_⟩
    obtain ⟨ρ, Av, rl, tr, p⟩ := q
    refine ⟨ρ, Av, rl, tr, p.mono fun xs H2 ⟨t, ts, z, Av2, tr2, ht, pr, e, k⟩ => ?_⟩
    unfold Mth.sem at e
    split at e <;> (try (simp at *; done)) <;> (try (exfalso; simp_all; done))
    rename_i u w heq
    cases e
    cases pr with
    | cons h1 pr =>
      cases pr
      simp only [Rdb] at ht h1
      obtain ⟨e1, _⟩ := ht
      cases e1
      obtain ⟨rfl, _⟩ := h1
      refine ⟨_, _, rfl, rfl, ?_⟩
      have es : Txt.endswith (S2 u) (S2 w) = endsL u w := by
        unfold Txt.endswith endsL
        by_cases hl : w.length ≤ u.length
        · rw [s2_length, s2_length, sub_s2 u w (by omega)]; simp
        · simp [Str.length, hl]
      rw [es]
      exact k _ _ _ (.same tr2 (by simp [Rep]))
end
end MP

namespace MP
open PySem PySem.Spec L2
open PyProof.Rows hiding St
/-! ## a range of any size is walked -/
theorem turn_long {P : Program} {w : World} {K : PySem.W.Frag} {tg : Expr} (it : Addr) (lo : Int) (n : Nat) : Turn P w K tg (Itr lo n) [it] it (fun i h => IsLongIter h it (lo + (i : Nat) * 1) ((n : Int) - (i : Nat)) 1) where
  mem := by simp
  obj := fun i h st b hb => by
    have e : b = it := by simpa using hb
    subst e
    exact ⟨_, st, fun v z => by
      have z' : Data.fields _ = Data.cell v := z
      cases z'⟩
  keep := fun i h h' st k => k it (by simp) _ st
  item := by
    intro X hP hw hK hc i pins s σ H E I hf st hg
    subst hP hw hK
    obtain ⟨f0, f1, f2, f3, f4, f5⟩ := hf it (by simp)
    have W := Walks.longrange (prog := X.prog) (w := X.w) (I.ok.hd hc) it lo 1 n
    refine W.item i s _ _ hg st fun v h' tk hv st' kk => ?_
    obtain ⟨t, rfl⟩ := hv
    have I1 : Inv X pins σ H { s with heap := h', toks := tk } := I.turned (fun b o hb e => kk b o (by simpa using hb) e) f0 f1 f3 f4 f5
    refine ⟨_, rfl, go_of (s := { s with heap := h', toks := tk }) (n := "longrange_iterator") st' rfl rfl (by decide) ⟨.int (lo + i), H, I1, ⟨t, ?_⟩, ⟨rfl, rfl⟩, st', fun b hb => (hf b hb).1⟩⟩
    rw [Int.mul_one]
  done := by
    intro X hP hw hK hc i pins s σ H E I hf st hg
    subst hP hw hK
    obtain ⟨f0, f1, f2, f3, f4, f5⟩ := hf it (by simp)
    exact wpAny_pyNext_long_end (I.ok.hd hc) st (by have : n ≤ i := hg; omega) fun h' eb => ⟨rfl, I.turned (t' := s.toks) (fun b o hb e => eb b o hb e) f0 f1 f3 f4 f5⟩
  self := fun _ _ _ _ _ st h => wpAny_pyIter_longiter st h
section
variable {X : Cx} {tg : Expr}
theorem range_itA {pins : List (Addr × Obj)} {σ : St} {H : Hp} {s : Shared} {R : It → Hp → Prop} {E : Value → Shared → Prop} {lo hi : Int} {t u v : Tok} {tk : Nat} (I : Inv X pins σ H s)
    (q : R (Itr lo (hi - lo).toNat) H) : wpAny (model X.prog X.w) X.A (pyIter (.ref s.heap.objs.size)) (PIE X pins σ tg R) E { s with heap := s.heap.push { cls := .type "range", data := .fields #[.int lo t, .int hi u, .int 1 v] }, toks := tk } := by
  have e2 : (((hi - lo).toNat : Nat) : Int) - ((0 : Nat) : Int) = Builtin.Range.rangeSize lo hi 1 := by rw [rangeSize_one]; split <;> omega
  have e1 : lo + ((0 : Nat) : Int) * 1 = lo := by simp
  have I1 : Inv X pins σ H { s with heap := s.heap.push { cls := .type "range", data := .fields #[.int lo t, .int hi u, .int 1 v] }, toks := tk } := I.kept fun b o e => Heap.get?_push_of_some _ e
  by_cases hs : Builtin.Range.small lo hi 1 = true
  · refine wpAny_pyIter_range (IsRange.new ..) hs ?_
    refine ⟨(s.heap.push { cls := .type "range", data := .fields #[.int lo t, .int hi u, .int 1 v] }).objs.size, [(s.heap.push { cls := .type "range", data := .fields #[.int lo t, .int hi u, .int 1 v] }).objs.size], _, _, H, rfl,
      I1.kept (t' := tk) fun b o e => Heap.get?_push_of_some _ e, turn_range _ lo (hi - lo).toNat, ?_, fun b hb => ?_, q⟩
    · show IsRangeIter _ _ (lo + ((0 : Nat) : Int) * 1) ((((hi - lo).toNat : Nat) : Int) - ((0 : Nat) : Int)) 1
      rw [e1, e2]
      exact Heap.get?_push_size _ rfl
    · have e : b = (s.heap.push { cls := .type "range", data := .fields #[.int lo t, .int hi u, .int 1 v] }).objs.size := by simpa using hb
      subst e
      exact I1.fpOk (Nat.le_refl _) (I1.hok.fresh (Nat.le_refl _))
  · refine wpAny_pyIter_longrange (IsRange.new ..) (by simpa using hs) ?_
    refine ⟨(s.heap.push { cls := .type "range", data := .fields #[.int lo t, .int hi u, .int 1 v] }).objs.size, [(s.heap.push { cls := .type "range", data := .fields #[.int lo t, .int hi u, .int 1 v] }).objs.size], _, _, H, rfl,
      I1.kept (t' := tk) fun b o e => Heap.get?_push_of_some _ e, turn_long _ lo (hi - lo).toNat, ?_, fun b hb => ?_, q⟩
    · show IsLongIter _ _ (lo + ((0 : Nat) : Int) * 1) ((((hi - lo).toNat : Nat) : Int) - ((0 : Nat) : Int)) 1
      rw [e1, e2]
      exact Heap.get?_push_size _ rfl
    · have e : b = (s.heap.push { cls := .type "range", data := .fields #[.int lo t, .int hi u, .int 1 v] }).objs.size := by simpa using hb
      subst e
      exact I1.fpOk (Nat.le_refl _) (I1.hok.fresh (Nat.le_refl _))
def iRng1A (ta : TA) : TI := fun σ H R => ta σ H fun vs H1 => ∃ j : Int, vs = [.int j] ∧ R (Itr 0 j.toNat) H1
def iRng2A (ta : TA) : TI := fun σ H R => ta σ H fun vs H1 => ∃ i j : Int, vs = [.int i, .int j] ∧ R (Itr i (j - i).toNat) H1
theorem pi_range1A {a : Expr} {ta : TA} {p pos : Pos} (hg : Gl X "range") (hm : X.mg "range" = none) (ha : PA X [a] ta) (hs : starEach [a] X.env = [(false, eval a X.env)] := by rfl) : PI X tg (.Call (.Name "range" p) [a] [] pos) (iRng1A ta) := by
  refine ⟨fun pins s σ H R I h => ?_⟩
  refine Call_ (ld_blt I hg hm boot_range (PyProof.Rows.callWith_type1 (thn (ha.run pos pins s σ H _ I h) fun us s1 ⟨vs, H1, I1, r1, q1⟩ => ?_) hs rfl))
  obtain ⟨j, e, q⟩ := q1
  subst e
  cases r1 with
  | cons r rr =>
    cases rr
    obtain ⟨t, rfl⟩ := r
    exact call_range_1 (range_itA I1 (by simpa using q))
theorem pi_range2A {a b : Expr} {ta : TA} {p pos : Pos} (hg : Gl X "range") (hm : X.mg "range" = none) (ha : PA X [a, b] ta) (hs : starEach [a, b] X.env = [(false, eval a X.env), (false, eval b X.env)] := by rfl) (hs2 : starEach [b] X.env = [(false, eval b X.env)] := by rfl) :
    PI X tg (.Call (.Name "range" p) [a, b] [] pos) (iRng2A ta) := by
  refine ⟨fun pins s σ H R I h => ?_⟩
  refine Call_ (ld_blt I hg hm boot_range (PyProof.Rows.callWith_type1 (thn (ha.run pos pins s σ H _ I h) fun us s1 ⟨vs, H1, I1, r1, q1⟩ => ?_) (by rw [hs, hs2]) (by rw [hs2]; rfl)))
  obtain ⟨i, j, e, q⟩ := q1
  subst e
  cases r1 with
  | cons r rr =>
    cases rr with
    | cons r' rr =>
      cases rr
      obtain ⟨t, rfl⟩ := r
      obtain ⟨t', rfl⟩ := r'
      exact call_range_2 (range_itA I1 q)
end
end MP

namespace MP
open PySem PySem.Spec L2
open PyProof.Rows hiding St
/-! ## what is walked -/
/-- J gives the items, as long as what they come from can be read -/
structure JOk (K : PySem.W.Frag) (J : It) (ts : List T) (vs : List V) (items : List T) (G : Hp → Prop) : Prop where
  go : ∀ i H Av, Tr Av H → Paired (Rdb K H Av) ts vs → G H → i < items.length → J.go i H
  stop : ∀ i H Av, Tr Av H → Paired (Rdb K H Av) ts vs → G H → items.length ≤ i → J.stop i H
  yld : ∀ i H Av x H' t, Tr Av H → Paired (Rdb K H Av) ts vs → G H → items[i]? = some t → J.yld i H x H' → Made K Av H (.val t) x Av H'
section
variable {X : Cx} {W : WX} {as : List Expr} {a b o tg : Expr} {ea eb eo : E} {es : List E} {pos p apos cpos tpos : Pos}
theorem _root_.L2.PI.weaken {X : Cx} {tg a : Expr} {t t' : TI} (h : PI X tg a t) (i : ∀ σ H Q, t' σ H Q → t σ H Q) : PI X tg a t' := ⟨fun pins s σ H Q I q => h.run pins s σ H Q I (i σ H Q q)⟩
/-- the reading of what is walked -/
def tI (K : PySem.W.Frag) (mg : Str → Option Value) (W : WX) (k : ItK) (es : List E) : TI := fun σ H R => ∃ ρ Av, Rel K Av ρ σ H ∧ Tr Av H ∧
  match evs es ρ with
  | .ok rs ρ1 => ∃ ts items, gets ρ1 rs = some ts ∧ iterSem k ts = some items ∧ ∀ J vs Av1 H1 G, Nx K ρ σ Av H ρ1 Av1 H1 → RepRs K H Av1 ρ1 σ H1 rs vs → G H1 → (∀ Hc, (∀ b o, H1 b = some o → ¬ Av1 b → Hc b = some o) → G Hc) → JOk K J ts vs items G → R J H1
  | .exc c ρ1 => ∀ cls Av1 H1, mg c = some cls → Nx K ρ σ Av H ρ1 Av1 H1 → W cls none σ H1
  | .bad => False
theorem evs_length : ∀ {es : List E} {ρ ρ' : Env} {rs : List R}, evs es ρ = .ok rs ρ' → rs.length = es.length
  | [], ρ, ρ', rs, h => by simp only [evs] at h; cases h; rfl
  | e :: es, ρ, ρ', rs, h => by
    simp only [evs] at h
    obtain ⟨r, ρ1, _, h⟩ := Res.bind_ok h
    obtain ⟨rs2, ρ2, h2, h⟩ := Res.bind_ok h
    cases h
    simp [evs_length h2]
theorem gets_length {ρ : Env} : ∀ {rs : List R} {ts : List T}, gets ρ rs = some ts → ts.length = rs.length
  | [], ts, h => by simp [gets] at h; subst h; rfl
  | r :: rs, ts, h => by
    simp only [gets, Option.bind_eq_some_iff, Option.map_eq_some_iff] at h
    obtain ⟨t, _, ts', h2, rfl⟩ := h
    simp [gets_length h2]
/-- as a wish about the arguments -/
theorem tI.args {k : ItK} {σ : St} {H : Hp} {R : It → Hp → Prop} (h : tI X.K X.mg W k es σ H R) :
    tEs X.K X.mg W es σ H fun vs H1 => ∃ ts items Av1, ts.length = es.length ∧ Tr Av1 H1 ∧ Paired (Rdb X.K H1 Av1) ts vs ∧ iterSem k ts = some items ∧ ∀ J, JOk X.K J ts vs items (fun _ => True) → R J H1 := by
  obtain ⟨ρ, Av, rl, tr, p⟩ := h
  refine ⟨ρ, Av, rl, tr, ?_⟩
  cases e : evs es ρ with
  | bad => rw [e] at p; exact p.elim
  | exc c ρ1 => rw [e] at p; exact p
  | ok rs ρ1 =>
    rw [e] at p
    obtain ⟨ts, items, e1, e2, k⟩ := p
    exact fun vs Av1 H1 n q => ⟨ts, items, Av1, (gets_length e1).trans (evs_length e), n.tr, q.gets n.rel e1, e2, fun J hj => k J vs Av1 H1 _ n q trivial (fun _ _ => trivial) hj⟩
/-- one argument -/
theorem tI.arg {k : ItK} {σ : St} {H : Hp} {R : It → Hp → Prop} (h : tI X.K X.mg W k [ea] σ H R) :
    (tE X.K X.mg W (ea)) σ H fun v H1 => ∃ t items Av1, Tr Av1 H1 ∧ Rdb X.K H1 Av1 t v ∧ iterSem k [t] = some items ∧ ∀ J, JOk X.K J [t] [v] items (fun _ => True) → R J H1 := by
  obtain ⟨ρ, Av, rl, tr, p⟩ := h
  refine ⟨ρ, Av, rl, tr, ?_⟩
  have e : evs [ea] ρ = (ev ea ρ).bind fun r ρ => .ok [r] ρ := by
    simp only [evs]
    cases ev ea ρ <;> rfl
  rw [e] at p
  cases e0 : ev ea ρ with
  | bad => rw [e0] at p; exact p.elim
  | exc c ρ1 => rw [e0] at p; exact p
  | ok r ρ1 =>
    rw [e0] at p
    obtain ⟨ts, items, e1, e2, k⟩ := p
    simp only [gets, Option.bind_eq_some_iff, Option.map_eq_some_iff] at e1
    obtain ⟨t, e3, _, e4, rfl⟩ := e1
    cases e4
    exact fun v Av1 H1 n q => ⟨t, items, Av1, n.tr, q.rdb n.rel e3, e2, fun J hj => k J [v] Av1 H1 _ n (.cons q .nil) trivial (fun _ _ => trivial) hj⟩
theorem sq_inj {K : PySem.W.Frag} {H : Hp} {a : Addr} {vs xs : List V} (h : H a = some (.lst vs)) (hk : K.lookup a = none ∨ True) (h2 : Rd H a (.lst xs)) : xs = vs := by
  rcases h2 with h2 | ⟨o, h2⟩
  · rw [h] at h2; cases h2; rfl
  · rw [h] at h2; cases h2
/-- by a place -/
theorem Reps.at {K : PySem.W.Frag} {H : Hp} {Av : Addr → Prop} {ts : List T} {vs : List V} (r : Reps K H Av ts vs) {i : Nat} {t : T} {x : V} (e : ts[i]? = some t) (e2 : vs[i]? = some x) : Rep K H Av t x := by
  obtain ⟨v, e3, h⟩ := r.get e
  rw [e2] at e3; cases e3
  exact h
/-- a list, walked -/
theorem jok_list {G : Hp → Prop} {K : PySem.W.Frag} {a : Addr} {ts : List T} : JOk K (Itl K a) [.lst ts] [.ref a] ts G where
  go := fun i H Av tr p _ hi => by
    cases p with
    | cons h _ =>
      simp only [Rdb] at h
      obtain ⟨b, vs, e, g, r⟩ := h
      cases e
      exact ⟨vs, vs[i]'(by rw [← r.length]; exact hi), .of g, by simp [← r.length, hi]⟩
  stop := fun i H Av tr p _ hi => by
    cases p with
    | cons h _ =>
      simp only [Rdb] at h
      obtain ⟨b, vs, e, g, r⟩ := h
      cases e
      exact ⟨vs, .of g, by rw [← r.length]; exact hi⟩
  yld := fun i H Av x H' t tr p _ e y => by
    cases p with
    | cons h _ =>
      simp only [Rdb] at h
      obtain ⟨b, vs, e2, g, r⟩ := h
      cases e2
      obtain ⟨rfl, y⟩ := y
      exact .same tr (r.at e (y vs (.of g)))
theorem jok_ro {G : Hp → Prop} {K : PySem.W.Frag} {a : Addr} {ns : List Int} : JOk K (Itl K a) [.ro ns] [.ref a] (ns.map T.int) G where
  go := fun i H Av tr p _ hi => by
    cases p with
    | cons h _ =>
      simp only [Rdb] at h
      obtain ⟨b, e, g⟩ := h
      cases e
      simp only [List.length_map] at hi
      exact ⟨_, .int ns[i], g, by simp [hi]⟩
  stop := fun i H Av tr p _ hi => by
    cases p with
    | cons h _ =>
      simp only [Rdb] at h
      obtain ⟨b, e, g⟩ := h
      cases e
      exact ⟨_, g, by simpa using hi⟩
  yld := fun i H Av x H' t tr p _ e y => by
    cases p with
    | cons h _ =>
      simp only [Rdb] at h
      obtain ⟨b, e2, g⟩ := h
      cases e2
      obtain ⟨rfl, y⟩ := y
      have := y _ g
      rw [List.getElem?_map, Option.map_eq_some_iff] at e this
      obtain ⟨n, e3, rfl⟩ := e
      obtain ⟨m, e4, rfl⟩ := this
      rw [e3] at e4; cases e4
      exact .same tr (by simp [Rep])
theorem jok_tup {G : Hp → Prop} {K : PySem.W.Frag} {a : Addr} {ts : List T} : JOk K (Itt K a) [.tup ts] [.ref a] ts G where
  go := fun i H Av tr p _ hi => by
    cases p with
    | cons h _ =>
      simp only [Rdb] at h
      obtain ⟨b, vs, e, _, g, r⟩ := h
      cases e
      exact ⟨vs, vs[i]'(by rw [← r.length]; exact hi), .of g, by simp [← r.length, hi]⟩
  stop := fun i H Av tr p _ hi => by
    cases p with
    | cons h _ =>
      simp only [Rdb] at h
      obtain ⟨b, vs, e, _, g, r⟩ := h
      cases e
      exact ⟨vs, .of g, by rw [← r.length]; exact hi⟩
  yld := fun i H Av x H' t tr p _ e y => by
    cases p with
    | cons h _ =>
      simp only [Rdb] at h
      obtain ⟨b, vs, e2, _, g, r⟩ := h
      cases e2
      obtain ⟨rfl, y⟩ := y
      exact .same tr (r.at e (y vs (.of g)))
theorem jok_str {G : Hp → Prop} {K : PySem.W.Frag} {s : List Nat} (sk : sok s = true) : JOk K (Its (S2 s)) [.str s] [.str (S2 s)] (s.map fun c => T.str [c]) G where
  go := fun i H Av tr p _ hi => by show i < (S2 s).cps.size; simpa using hi
  stop := fun i H Av tr p _ hi => by show (S2 s).cps.size ≤ i; simpa using hi
  yld := fun i H Av x H' t tr p _ e y => by
    obtain ⟨rfl, c, e2, rfl⟩ := y
    rw [List.getElem?_map, Option.map_eq_some_iff] at e
    obtain ⟨d, e3, rfl⟩ := e
    have e2 : s[i]? = some c := by simpa using e2
    rw [e3] at e2; cases e2
    refine .same tr ?_
    simp only [Rep, true_and]
    exact sok_sub sk (by simpa using List.mem_of_getElem? e3)
theorem jok_range {G : Hp → Prop} {K : PySem.W.Frag} {lo : Int} {n : Nat} {ts : List T} {vs : List V} : JOk K (Itr lo n) ts vs ((List.range n).map fun (k : Nat) => T.int (lo + (k : Int))) G where
  go := fun i H Av tr p _ hi => by show i < n; simpa using hi
  stop := fun i H Av tr p _ hi => by show n ≤ i; simpa using hi
  yld := fun i H Av x H' t tr p _ e y => by
    obtain ⟨rfl, rfl⟩ := y
    rw [List.getElem?_map, Option.map_eq_some_iff] at e
    obtain ⟨d, e3, rfl⟩ := e
    obtain ⟨h, rfl⟩ := List.getElem?_eq_some_iff.mp e3
    refine .same tr ?_
    simp [Rep]
theorem jok_enum {G : Hp → Prop} {K : PySem.W.Frag} {a : Addr} {ts : List T} : JOk K (Ite K a) [.lst ts] [.ref a] (ts.zipIdx.map fun p => T.tup [.int p.2, p.1]) G where
  go := fun i H Av tr p _ hi => by
    cases p with
    | cons h _ =>
      simp only [Rdb] at h
      obtain ⟨b, vs, e, g, r⟩ := h
      cases e
      simp only [List.length_map, List.length_zipIdx] at hi
      exact ⟨vs, vs[i]'(by rw [← r.length]; exact hi), .of g, by simp [← r.length, hi]⟩
  stop := fun i H Av tr p _ hi => by
    cases p with
    | cons h _ =>
      simp only [Rdb] at h
      obtain ⟨b, vs, e, g, r⟩ := h
      cases e
      simp only [List.length_map, List.length_zipIdx] at hi
      exact ⟨vs, .of g, by rw [← r.length]; exact hi⟩
  yld := fun i H Av x H' t tr p _ e y => by
    cases p with
    | cons h _ =>
      simp only [Rdb] at h
      obtain ⟨b, vs, e2, g, r⟩ := h
      cases e2
      obtain ⟨q, x2, rfl, nq, rfl, y⟩ := y
      rw [List.getElem?_map, Option.map_eq_some_iff] at e
      obtain ⟨⟨d, j⟩, e3, rfl⟩ := e
      rw [List.getElem?_zipIdx, Option.map_eq_some_iff] at e3
      obtain ⟨d', e4, e5⟩ := e3
      cases e5
      simp only [Nat.zero_add]
      exact .tup tr nq (.cons (by simp [Rep]) (.one (r.at e4 (y vs (.of g)))))
theorem jok_zip {G : Hp → Prop} {K : PySem.W.Frag} {a b : Addr} {ts us : List T} : JOk K (Itz K a b) [.lst ts, .lst us] [.ref a, .ref b] (ts.zipWith (fun t u => T.tup [t, u]) us) G where
  go := fun i H Av tr p _ hi => by
    cases p with
    | cons h p =>
      cases p with
      | cons h2 _ =>
        simp only [Rdb] at h h2
        obtain ⟨_, vs, e, g, r⟩ := h
        cases e
        obtain ⟨_, ws, e, g2, r2⟩ := h2
        cases e
        simp only [List.length_zipWith] at hi
        have i1 : i < vs.length := by rw [← r.length]; omega
        have i2 : i < ws.length := by rw [← r2.length]; omega
        exact ⟨vs, ws, vs[i], ws[i], .of g, .of g2, by simp [i1], by simp [i2]⟩
  stop := fun i H Av tr p _ hi => by
    cases p with
    | cons h p =>
      cases p with
      | cons h2 _ =>
        simp only [Rdb] at h h2
        obtain ⟨_, vs, e, g, r⟩ := h
        cases e
        obtain ⟨_, ws, e, g2, r2⟩ := h2
        cases e
        simp only [List.length_zipWith] at hi
        exact ⟨vs, ws, .of g, .of g2, by rw [← r.length, ← r2.length]; omega⟩
  yld := fun i H Av x H' t tr p _ e y => by
    cases p with
    | cons h p =>
      cases p with
      | cons h2 _ =>
        simp only [Rdb] at h h2
        obtain ⟨_, vs, e1, g, r⟩ := h
        cases e1
        obtain ⟨_, ws, e1, g2, r2⟩ := h2
        cases e1
        obtain ⟨q, x1, x2, rfl, nq, rfl, y1, y2⟩ := y
        rw [List.getElem?_zipWith] at e
        cases a1 : ts[i]? with
        | none => rw [a1] at e; cases e
        | some t1 =>
          cases a2 : us[i]? with
          | none => rw [a1, a2] at e; cases e
          | some t2 =>
            rw [a1, a2] at e
            cases e
            exact .tup tr nq (.cons (r.at a1 (y1 vs (.of g))) (.one (r2.at a2 (y2 ws (.of g2)))))
theorem jok_zipT {G : Hp → Prop} {K : PySem.W.Frag} {a b : Addr} {ts us : List T} : JOk K (RZ.ItzT K a b) [.tup ts, .tup us] [.ref a, .ref b] (ts.zipWith (fun t u => T.tup [t, u]) us) G where
  go := fun i H Av tr p _ hi => by
    cases p with
    | cons h p =>
      cases p with
      | cons h2 _ =>
        simp only [Rdb, Rep] at h h2
        obtain ⟨_, vs, e, _, g, r⟩ := h
        cases e
        obtain ⟨_, ws, e, _, g2, r2⟩ := h2
        cases e
        simp only [List.length_zipWith] at hi
        have i1 : i < vs.length := by rw [← r.length]; omega
        have i2 : i < ws.length := by rw [← r2.length]; omega
        exact ⟨vs, ws, vs[i], ws[i], .of g, .of g2, by simp [i1], by simp [i2]⟩
  stop := fun i H Av tr p _ hi => by
    cases p with
    | cons h p =>
      cases p with
      | cons h2 _ =>
        simp only [Rdb, Rep] at h h2
        obtain ⟨_, vs, e, _, g, r⟩ := h
        cases e
        obtain ⟨_, ws, e, _, g2, r2⟩ := h2
        cases e
        simp only [List.length_zipWith] at hi
        exact ⟨vs, ws, .of g, .of g2, by rw [← r.length, ← r2.length]; omega⟩
  yld := fun i H Av x H' t tr p _ e y => by
    cases p with
    | cons h p =>
      cases p with
      | cons h2 _ =>
        simp only [Rdb, Rep] at h h2
        obtain ⟨_, vs, e1, _, g, r⟩ := h
        cases e1
        obtain ⟨_, ws, e1, _, g2, r2⟩ := h2
        cases e1
        obtain ⟨q, x1, x2, rfl, nq, rfl, y1, y2⟩ := y
        rw [List.getElem?_zipWith] at e
        cases a1 : ts[i]? with
        | none => rw [a1] at e; cases e
        | some t1 =>
          cases a2 : us[i]? with
          | none => rw [a1, a2] at e; cases e
          | some t2 =>
            rw [a1, a2] at e
            cases e
            exact .tup tr nq (.cons (r.at a1 (y1 vs (.of g))) (.one (r2.at a2 (y2 ws (.of g2)))))
theorem jok_rev {G : Hp → Prop} {K : PySem.W.Frag} {a : Addr} {ts : List T} : JOk K (Itv K a ts.length) [.lst ts] [.ref a] ts.reverse G where
  go := fun i H Av tr p _ hi => by
    cases p with
    | cons h _ =>
      simp only [Rdb] at h
      obtain ⟨b, vs, e, g, r⟩ := h
      cases e
      simp only [List.length_reverse] at hi
      have h2 : ts.length - 1 - i < vs.length := by rw [← r.length]; omega
      exact ⟨hi, vs, vs[ts.length - 1 - i], .of g, by simp [h2]⟩
  stop := fun i H Av tr p _ hi => by show ts.length ≤ i; simpa using hi
  yld := fun i H Av x H' t tr p _ e y => by
    cases p with
    | cons h _ =>
      simp only [Rdb] at h
      obtain ⟨b, vs, e2, g, r⟩ := h
      cases e2
      obtain ⟨rfl, y⟩ := y
      have hi : i < ts.length := by
        have := (List.getElem?_eq_some_iff.mp e).1
        simpa using this
      rw [List.getElem?_reverse hi] at e
      exact .same tr (r.at e (y vs (.of g)))
/-- for .. in a list, a tuple, a text -/
theorem i_val (ha : PE X a (tE X.K X.mg W (ea))) : PI X tg a (tI X.K X.mg W .val [ea]) := by
  refine ⟨fun pins s σ H R I h => ?_⟩
  have h0 := h
  obtain ⟨ρ, Av, rl, tr, p⟩ := h0
  have hq := h.arg
  -- which kind it is is known ahead
  cases e0 : ev ea ρ with
  | bad => simp only [evs, e0, Res.bind] at p
  | exc c ρ1 =>
    refine (pi_list ha).run pins s σ H R I ⟨ρ, Av, rl, tr, ?_⟩
    simp only [evs, e0, Res.bind] at p
    rw [e0]; exact p
  | ok r ρ1 =>
    simp only [evs, e0, Res.bind] at p
    obtain ⟨ts, items, e1, e2, k⟩ := p
    simp only [gets, Option.bind_eq_some_iff, Option.map_eq_some_iff] at e1
    obtain ⟨t, e3, _, e4, rfl⟩ := e1
    cases e4
    have run0 : ∀ (Q1 : VK), (∀ Av1 v H1, Nx X.K ρ σ Av H ρ1 Av1 H1 → Rdb X.K H1 Av1 t v → (∀ J, JOk X.K J [t] [v] items (fun _ => True) → R J H1) → Q1 v H1) → tE X.K X.mg W ea σ H Q1 := fun Q1 hq =>
      ⟨ρ, Av, rl, tr, by rw [e0]; exact fun v Av1 H1 n q => hq Av1 v H1 n (q.rdb n.rel e3) fun J hj => k J [v] Av1 H1 _ n (.cons q .nil) trivial (fun _ _ => trivial) hj⟩
    cases t <;> simp only [iterSem] at e2 <;> (try (cases e2; done))
    case str z =>
      cases e2
      refine (pi_str ha).run pins s σ H R I (run0 _ fun Av1 v H1 n h k => ?_)
      simp only [Rdb] at h
      obtain ⟨rfl, sk⟩ := h
      exact ⟨_, rfl, k _ (jok_str sk)⟩
    case lst z =>
      cases e2
      refine (pi_list ha).run pins s σ H R I (run0 _ fun Av1 v H1 n h k => ?_)
      simp only [Rdb] at h
      obtain ⟨b, vs, rfl, g, r⟩ := h
      exact ⟨b, rfl, ⟨vs, .of g⟩, k _ jok_list⟩
    case tup z =>
      cases e2
      refine (pi_tup ha).run pins s σ H R I (run0 _ fun Av1 v H1 n h k => ?_)
      simp only [Rdb] at h
      obtain ⟨b, vs, rfl, _, g, r⟩ := h
      exact ⟨b, rfl, ⟨vs, .of g⟩, k _ jok_tup⟩
    case ro z =>
      cases e2
      refine (pi_list ha).run pins s σ H R I (run0 _ fun Av1 v H1 n h k => ?_)
      simp only [Rdb] at h
      obtain ⟨b, rfl, g⟩ := h
      exact ⟨b, rfl, ⟨_, g⟩, k _ jok_ro⟩
theorem i_range1 (hg : Gl X "range") (hm : X.mg "range" = none) (ha : PA X [a] (tEs X.K X.mg W [ea])) (hs : starEach [a] X.env = [(false, eval a X.env)]) : PI X tg (.Call (.Name "range" p) [a] [] pos) (tI X.K X.mg W .range [ea]) := by
  refine (pi_range1A hg hm ha hs).weaken fun σ H R h => ?_
  obtain ⟨ρ, Av, rl, tr, q⟩ := h.args
  refine ⟨ρ, Av, rl, tr, q.mono fun vs H1 ⟨ts, items, Av1, hl, tr1, pr, e, k⟩ => ?_⟩
  cases pr with
  | nil => simp at hl
  | @cons t v _ _ h1 pr =>
    cases pr with
    | cons h2 _ => simp at hl
    | nil =>
      cases t <;> simp only [iterSem] at e <;> (try (cases e; done))
      rename_i j
      cases e
      simp only [Rdb] at h1
      subst h1
      refine ⟨j, rfl, k _ ?_⟩
      have := @jok_range (fun _ => True) X.K 0 j.toNat [.int j] [.int j]
      simpa using this
theorem i_range2 (hg : Gl X "range") (hm : X.mg "range" = none) (ha : PA X [a, b] (tEs X.K X.mg W [ea, eb])) (hs : starEach [a, b] X.env = [(false, eval a X.env), (false, eval b X.env)]) (hs2 : starEach [b] X.env = [(false, eval b X.env)]) :
    PI X tg (.Call (.Name "range" p) [a, b] [] pos) (tI X.K X.mg W .range [ea, eb]) := by
  refine (pi_range2A hg hm ha hs hs2).weaken fun σ H R h => ?_
  obtain ⟨ρ, Av, rl, tr, q⟩ := h.args
  refine ⟨ρ, Av, rl, tr, q.mono fun vs H1 ⟨ts, items, Av1, hl, tr1, pr, e, k⟩ => ?_⟩
  cases pr with
  | nil => simp at hl
  | @cons t v _ _ h1 pr =>
    cases pr with
    | nil => simp at hl
    | @cons t2 v2 _ _ h2 pr =>
      cases pr with
      | cons h3 _ => simp at hl
      | nil =>
        cases t <;> cases t2 <;> simp only [iterSem] at e <;> (try (cases e; done))
        rename_i i j
        cases e
        simp only [Rdb] at h1 h2
        subst h1 h2
        exact ⟨i, j, rfl, k _ jok_range⟩
theorem i_enum {elts : List Expr} {kk : Nat} (hg : Gl X "enumerate") (hm : X.mg "enumerate" = none) (ha : PA X [a] (tEs X.K X.mg W [ea])) (hs : starEach [a] X.env = [(false, eval a X.env)]) :
    PI X (.Tuple elts kk tpos) (.Call (.Name "enumerate" p) [a] [] pos) (tI X.K X.mg W .enum [ea]) := by
  refine (pi_enum hg hm ha hs).weaken fun σ H R h => ?_
  obtain ⟨ρ, Av, rl, tr, q⟩ := h.args
  refine ⟨ρ, Av, rl, tr, q.mono fun vs H1 ⟨ts, items, Av1, hl, tr1, pr, e, k⟩ => ?_⟩
  cases pr with
  | nil => simp at hl
  | @cons t v _ _ h1 pr =>
    cases pr with
    | cons h2 _ => simp at hl
    | nil =>
      cases t <;> simp only [iterSem] at e <;> (try (cases e; done))
      cases e
      simp only [Rdb] at h1
      obtain ⟨b, vs, rfl, g, r⟩ := h1
      exact ⟨b, vs, rfl, .of g, k _ jok_enum⟩
theorem i_zip {elts : List Expr} {kk : Nat} (hg : Gl X "zip") (hm : X.mg "zip" = none) (ha : PA X [a, b] (tEs X.K X.mg W [ea, eb])) (hs : starEach [a, b] X.env = [(false, eval a X.env), (false, eval b X.env)]) (hs2 : starEach [b] X.env = [(false, eval b X.env)]) :
    PI X (.Tuple elts kk tpos) (.Call (.Name "zip" p) [a, b] [] pos) (tI X.K X.mg W .zip [ea, eb]) := by
  refine (RZ.pi_zipA hg hm ha (by rw [hs, hs2]) (by rw [hs2]; rfl)).weaken fun σ H R h => ?_
  obtain ⟨ρ, Av, rl, tr, q⟩ := h.args
  refine ⟨ρ, Av, rl, tr, q.mono fun vs H1 ⟨ts, items, Av1, hl, tr1, pr, e, k⟩ => ?_⟩
  cases pr with
  | nil => simp at hl
  | @cons t v _ _ h1 pr =>
    cases pr with
    | nil => simp at hl
    | @cons t2 v2 _ _ h2 pr =>
      cases pr with
      | cons h3 _ => simp at hl
      | nil =>
        cases t <;> cases t2 <;> simp only [iterSem] at e <;> (try (cases e; done))
        · cases e
          simp only [Rdb] at h1 h2
          obtain ⟨b, vs, rfl, g, r⟩ := h1
          obtain ⟨c, ws, rfl, g2, r2⟩ := h2
          exact ⟨b, c, vs, ws, rfl, .inl ⟨.of g, .of g2, k _ jok_zip⟩⟩
        · cases e
          simp only [Rdb, Rep] at h1 h2
          obtain ⟨b, vs, rfl, _, g, r⟩ := h1
          obtain ⟨c, ws, rfl, _, g2, r2⟩ := h2
          exact ⟨b, c, vs, ws, rfl, .inr ⟨.of g, .of g2, k _ jok_zipT⟩⟩
theorem i_rev (hg : Gl X "reversed") (hm : X.mg "reversed" = none) (ha : PA X [a] (tEs X.K X.mg W [ea])) (hs : starEach [a] X.env = [(false, eval a X.env)]) :
    PI X tg (.Call (.Name "reversed" p) [a] [] pos) (tI X.K X.mg W .reversed [ea]) := by
  refine (pi_reversed hg hm ha hs).weaken fun σ H R h => ?_
  obtain ⟨ρ, Av, rl, tr, q⟩ := h.args
  refine ⟨ρ, Av, rl, tr, q.mono fun vs H1 ⟨ts, items, Av1, hl, tr1, pr, e, k⟩ => ?_⟩
  cases pr with
  | nil => simp at hl
  | @cons t v _ _ h1 pr =>
    cases pr with
    | cons h2 _ => simp at hl
    | nil =>
      cases t <;> simp only [iterSem] at e <;> (try (cases e; done))
      cases e
      simp only [Rdb] at h1
      obtain ⟨b, vs, rfl, g, r⟩ := h1
      refine ⟨b, vs, rfl, .of g, k _ ?_⟩
      rw [← r.length]
      exact jok_rev
theorem jok_down {G : Hp → Prop} {K : PySem.W.Frag} {hi : Int} {n : Nat} {ts : List T} {vs : List V} : JOk K (Itc hi (-1) n) ts vs ((List.range n).map fun (k : Nat) => T.int (hi - (k : Int))) G where
  go := fun i H Av tr p _ h => by show i < n; simpa using h
  stop := fun i H Av tr p _ h => by show n ≤ i; simpa using h
  yld := fun i H Av x H' t tr p _ e y => by
    obtain ⟨rfl, rfl⟩ := y
    rw [List.getElem?_map, Option.map_eq_some_iff] at e
    obtain ⟨d, e3, rfl⟩ := e
    obtain ⟨h, rfl⟩ := List.getElem?_eq_some_iff.mp e3
    refine .same tr ?_
    simp only [Rep, List.getElem_range]
    congr 1
    omega
theorem i_range3 {c : Expr} {ec : E} (hg : Gl X "range") (hm : X.mg "range" = none) (ha : PA X [a, b, c] (tEs X.K X.mg W [ea, eb, ec])) (hs : starEach [a, b, c] X.env = [(false, eval a X.env), (false, eval b X.env), (false, eval c X.env)]) (hs2 : starEach [b, c] X.env = [(false, eval b X.env), (false, eval c X.env)]) (hs3 : starEach [c] X.env = [(false, eval c X.env)]) :
    PI X tg (.Call (.Name "range" p) [a, b, c] [] pos) (tI X.K X.mg W .range [ea, eb, ec]) := by
  refine (pi_range3 hg hm ha (by rw [hs, hs2]) (by rw [hs2]; rfl)).weaken fun σ H R h => ?_
  obtain ⟨ρ, Av, rl, tr, q⟩ := h.args
  refine ⟨ρ, Av, rl, tr, q.mono fun vs H1 ⟨ts, items, Av1, hl, tr1, pr, e, k⟩ => ?_⟩
  cases pr with
  | nil => simp at hl
  | @cons t v _ _ h1 pr =>
    cases pr with
    | nil => simp at hl
    | @cons t2 v2 _ _ h2 pr =>
      cases pr with
      | nil => simp at hl
      | @cons t3 v3 _ _ h3 pr =>
        cases pr with
        | cons h4 _ => simp at hl
        | nil =>
          cases t <;> cases t2 <;> cases t3 <;> simp only [iterSem] at e <;> (try (cases e; done))
          rename_i i j cc
          split at e
          · rename_i hj
            cases e
            simp only [small62, decide_eq_true_eq, Bool.and_eq_true] at hj
            simp only [Rdb] at h1 h2 h3
            subst h1 h2 h3
            obtain ⟨rfl, hi, hj⟩ : cc = -1 ∧ (-(2 ^ 62) ≤ i ∧ i < 2 ^ 62) ∧ (-(2 ^ 62) ≤ j ∧ j < 2 ^ 62) := by omega
            exact ⟨i, j, -1, _, rfl, .neg hi.1 hi.2 hj.1 hj.2, k _ jok_down⟩
          · cases e
theorem i_revrange (hg : Gl X "reversed") (hm : X.mg "reversed" = none) (hg2 : Gl X "range") (hm2 : X.mg "range" = none) (ha : PE X a (tE X.K X.mg W (ea))) (hs : starEach [a] X.env = [(false, eval a X.env)]) {p2 pos2 : Pos} :
    PI X tg (.Call (.Name "reversed" p) [.Call (.Name "range" p2) [a] [] pos2] [] pos) (tI X.K X.mg W .revrange [ea]) := by
  refine (pi_revR hg hm (prg_1 hg2 hm2 ha hs)).weaken fun σ H R h => ?_
  obtain ⟨ρ, Av, rl, tr, q⟩ := h.arg
  refine ⟨ρ, Av, rl, tr, q.mono fun v H1 ⟨t, items, Av1, tr1, h1, e, k⟩ => ?_⟩
  cases t <;> simp only [iterSem] at e <;> (try (cases e; done))
  rename_i j
  split at e
  · rename_i hj
    cases e
    simp only [small62, decide_eq_true_eq] at hj
    simp only [Rdb] at h1
    subst h1
    refine ⟨j, rfl, by decide, by decide, hj.1, hj.2, k _ ?_⟩
    have := @jok_down (fun _ => True) X.K (0 + (((j - 0).toNat : Nat) : Int) - 1) (j - 0).toNat [.int j] [.int j]
    have e2 : ((List.range (j - 0).toNat).map fun (k : Nat) => T.int (0 + (((j - 0).toNat : Nat) : Int) - 1 - (k : Int))) = ((List.range j.toNat).map fun (k : Nat) => T.int (k : Int)).reverse := by
      rw [Int.sub_zero]
      apply List.ext_getElem
      · simp
      · intro i h1 h2
        simp only [List.getElem_map, List.getElem_range, List.getElem_reverse, List.length_map, List.length_range]
        congr 1
        simp at h1
        omega
    rw [← e2]
    exact this
  · cases e
end
end MP

namespace MP
open PySem PySem.Spec L2
open PyProof.Rows hiding St
/-! ## targets -/
mutual
def Tg.slots : Tg → List Nat
  | .n i => [i]
  | .t ts => Tg.slotsL ts
def Tg.slotsL : List Tg → List Nat
  | [] => []
  | x :: xs => Tg.slots x ++ Tg.slotsL xs
end
section
variable {K : PySem.W.Frag} {Av : Addr → Prop} {ρ ρ' : Env} {σ σ' : St} {H : Hp}
/-- behind a store to names: what else is as it was -/
structure Bound (K : PySem.W.Frag) (Av : Addr → Prop) (ρ : Env) (σ : St) (H : Hp) (is : List Nat) (ρ' : Env) (σ' : St) : Prop where
  rel : Rel K Av ρ' σ' H
  len : ρ'.length = ρ.length
  out : ∀ j, j ∉ is → slotAt ρ' j = slotAt ρ j ∧ σ'[j]? = σ[j]?
  lenS : σ'.length = σ.length
  low : ∀ j, kindAt ρ' j ≥ 2 → slotAt ρ' j = slotAt ρ j ∧ σ'[j]? = σ[j]?
  held : ∀ j, kindAt ρ j ≥ 3 → slotAt ρ' j = slotAt ρ j ∧ σ'[j]? = σ[j]?
theorem Bound.refl (r : Rel K Av ρ σ H) : Bound K Av ρ σ H [] ρ σ := ⟨r, rfl, fun _ _ => ⟨rfl, rfl⟩, rfl, fun _ _ => ⟨rfl, rfl⟩, fun _ _ => ⟨rfl, rfl⟩⟩
theorem Bound.trans {is js : List Nat} {ρ1 ρ2 : Env} {σ1 σ2 : St} (a : Bound K Av ρ σ H is ρ1 σ1) (b : Bound K Av ρ1 σ1 H js ρ2 σ2) : Bound K Av ρ σ H (is ++ js) ρ2 σ2 where
  rel := b.rel
  len := b.len.trans a.len
  out := fun j h => by
    simp only [List.mem_append, not_or] at h
    obtain ⟨h1, h2⟩ := b.out j h.2
    obtain ⟨h3, h4⟩ := a.out j h.1
    exact ⟨h1.trans h3, h2.trans h4⟩
  lenS := b.lenS.trans a.lenS
  low := fun j h => by
    obtain ⟨h1, h2⟩ := b.low j h
    obtain ⟨h3, h4⟩ := a.low j (by unfold kindAt at h ⊢; rw [← h1]; exact h)
    exact ⟨h1.trans h3, h2.trans h4⟩
  held := fun j h => by
    obtain ⟨h3, h4⟩ := a.held j h
    obtain ⟨h1, h2⟩ := b.held j (by unfold kindAt at h ⊢; rw [h3]; exact h)
    exact ⟨h1.trans h3, h2.trans h4⟩
theorem setS_some {i : Nat} {s : Slot} (h : setS ρ i s = some ρ') : i < ρ.length ∧ ρ' = ρ.set i (some s) ∧ kindAt ρ i < 3 := by
  unfold setS at h
  split at h
  · cases h
  · cases h
  · rename_i q1 q2
    split at h
    · rename_i hl
      cases h
      refine ⟨hl, rfl, ?_⟩
      unfold kindAt
      cases q : slotAt ρ i with
      | none => simp
      | some s' =>
        cases s' with
        | shr t => simp [Slot.k]
        | own t => simp [Slot.k]
        | io t => exact absurd q (q1 t)
        | lck t => exact absurd q (q2 t)
    · cases h
theorem set_bound {i : Nat} {t : T} {v : V} (r : Rel K Av ρ σ H) (hr : Rep K H Av t v) (h : setS ρ i (.shr t) = some ρ') : Bound K Av ρ σ H [i] ρ' (σ.set i (some v)) := by
  obtain ⟨hl, rfl, hk⟩ := setS_some h
  have hs : i < σ.length := by rw [← r.len]; exact hl
  refine ⟨⟨by simpa using r.len, fun j s q => ?_, fun j l s s' a q q' m m' e e' => ?_⟩, by simp, fun j hj => ?_, by simp, fun j hj => ?_, fun j hj => ?_⟩
  · rw [slotAt_set hl] at q
    by_cases z : j = i
    · subst z; rw [if_pos rfl] at q; cases q
      exact ⟨v, List.getElem?_set_self hs, hr⟩
    · rw [if_neg z] at q
      obtain ⟨w, e, h2⟩ := r.slot j s q
      exact ⟨w, by rw [List.getElem?_set_ne (Ne.symm z)]; exact e, h2⟩
  · have f : ∀ j s, slotAt (ρ.set i (some (.shr t))) j = some s → s.mine = true → j ≠ i ∧ slotAt ρ j = some s := fun j s q m => by
      rw [slotAt_set hl] at q
      by_cases z : j = i
      · rw [if_pos z] at q; cases q; cases m
      · rw [if_neg z] at q; exact ⟨z, q⟩
    obtain ⟨z1, q1⟩ := f j s q m
    obtain ⟨z2, q2⟩ := f l s' q' m'
    rw [List.getElem?_set_ne (Ne.symm z1)] at e
    rw [List.getElem?_set_ne (Ne.symm z2)] at e'
    exact r.inj j l s s' a q1 q2 m m' e e'
  · have z : j ≠ i := by simpa using hj
    rw [slotAt_set hl, if_neg z, List.getElem?_set_ne (Ne.symm z)]
    exact ⟨rfl, rfl⟩
  · by_cases z : j = i
    · subst z
      unfold kindAt at hj
      rw [slotAt_set hl, if_pos rfl] at hj
      simp [Slot.k] at hj
    · rw [slotAt_set hl, if_neg z, List.getElem?_set_ne (Ne.symm z)]
      exact ⟨rfl, rfl⟩
  · have z : j ≠ i := fun z => by rw [z] at hj; omega
    rw [slotAt_set hl, if_neg z, List.getElem?_set_ne (Ne.symm z)]
    exact ⟨rfl, rfl⟩
/-- the written part's reading of a target -/
def tG (K : PySem.W.Frag) (tg : Tg) : TG := fun v σ H Q => ∃ ρ Av t ρ', Rel K Av ρ σ H ∧ Tr Av H ∧ Rep K H Av t v ∧ bindTg tg t ρ = some ρ' ∧ ∀ σ', Bound K Av ρ σ H tg.slots ρ' σ' → Q σ' H
def tGs (K : PySem.W.Frag) (tgs : List Tg) : TGs := fun vs σ H Q => ∃ ρ Av ts ρ', Rel K Av ρ σ H ∧ Tr Av H ∧ Reps K H Av ts vs ∧ bindTgs tgs ts ρ = some ρ' ∧ ∀ σ', Bound K Av ρ σ H (Tg.slotsL tgs) ρ' σ' → Q σ' H
end
/-- the names that may be stored to -/
def TgNames (X : Cx) (sc0 : Scope) : Prop := ∀ x, (sc0.names.lookup x = some .local ∨ sc0.names.lookup x = some .cell) → Loc X.env.scope x ∧ (X.fn x = true ∨ X.env.scope.names.lookup x = some .local)
mutual
def ckTg (N : List Str) (sc0 : Scope) : Tg → Expr → Bool
  | .n i, .Name x _ => decide (N[i]? = some x) && (decide (sc0.names.lookup x = some .local) || decide (sc0.names.lookup x = some .cell))
  | .t ts, .Tuple es _ _ => ckTgs N sc0 ts es
  | _, _ => false
def ckTgs (N : List Str) (sc0 : Scope) : List Tg → List Expr → Bool
  | [], [] => true
  | t :: ts, e :: es => ckTg N sc0 t e && ckTgs N sc0 ts es
  | _, _ => false
end
section
variable {X : Cx} {sc0 : Scope}
theorem _root_.L2.PG.weaken {a : Expr} {t t' : TG} (h : PG X a t) (i : ∀ v σ H Q, t' v σ H Q → t v σ H Q) : PG X a t' := ⟨fun pins s σ H v u Q I r q => h.run pins s σ H v u Q I r (i v σ H Q q)⟩
theorem _root_.L2.PGs.weaken {a : List Expr} {t t' : TGs} (h : PGs X a t) (i : ∀ v σ H Q, t' v σ H Q → t v σ H Q) : PGs X a t' := ⟨fun pins s σ H v u Q I r q => h.run pins s σ H v u Q I r (i v σ H Q q)⟩
theorem ckTgs_len (N : List Str) : ∀ {ts : List Tg} {es : List Expr}, ckTgs N sc0 ts es = true → ts.length = es.length
  | [], [], _ => rfl
  | t :: ts, e :: es, h => by
    simp only [ckTgs, Bool.and_eq_true] at h
    simp [ckTgs_len N h.2]
  | [], _ :: _, h => by simp [ckTgs] at h
  | _ :: _, [], h => by simp [ckTgs] at h
theorem ckTg_star (N : List Str) {t : Tg} {e : Expr} (h : ckTg N sc0 t e = true) (env : PySem.Env) (es : List Expr) : assignEach (e :: es) env = (false, assign e env) :: assignEach es env := by
  cases t <;> cases e <;> simp [ckTg] at h <;> rfl
theorem assign_len (N : List Str) (env : PySem.Env) : ∀ {ts : List Tg} {es : List Expr}, ckTgs N sc0 ts es = true → (assignEach es env).length = es.length ∧ (assignEach es env).findIdx? (·.1) = none
  | [], [], _ => ⟨rfl, rfl⟩
  | t :: ts, e :: es, h => by
    simp only [ckTgs, Bool.and_eq_true] at h
    obtain ⟨h1, h2⟩ := assign_len N env h.2
    rw [ckTg_star N h.1]
    refine ⟨by simp [h1], ?_⟩
    rw [List.findIdx?_cons]
    simp [h2]
  | [], _ :: _, h => by simp [ckTgs] at h
  | _ :: _, [], h => by simp [ckTgs] at h
mutual
theorem g_tg (hc : X.calm = true) (hN : X.N.Nodup) (hT : TgNames X sc0) : ∀ (t : Tg) (e : Expr), ckTg X.N sc0 t e = true → PG X e (tG X.K t)
  | .n i, .Name x p, h => by
    simp only [ckTg, Bool.and_eq_true, Bool.or_eq_true, decide_eq_true_eq] at h
    obtain ⟨hl, hf⟩ := hT x h.2
    refine (pg_name hN h.1 hl hf).weaken fun v σ H Q ⟨ρ, Av, t, ρ', rl, tr, hr, e, k⟩ => ?_
    simp only [bindTg] at e
    exact k _ (set_bound rl hr e)
  | .t ts, .Tuple es kk p, h => by
    simp only [ckTg] at h
    obtain ⟨h1, h2⟩ := assign_len X.N X.env h
    refine (pg_tup hc (g_tgs hc hN hT ts es h) h1 h2).weaken fun v σ H Q ⟨ρ, Av, t, ρ', rl, tr, hr, e, k⟩ => ?_
    cases t <;> simp only [bindTg] at e <;> (try (cases e; done))
    rename_i us
    simp only [Rep] at hr
    obtain ⟨a, vs, rfl, n, g, rr⟩ := hr
    have : ∀ {tgs : List Tg} {us : List T} {ρ ρ' : Env}, bindTgs tgs us ρ = some ρ' → tgs.length = us.length := by
      intro tgs
      induction tgs with
      | nil => intro us ρ ρ' h; cases us <;> simp [bindTgs] at h ⊢
      | cons t tgs ih =>
        intro us ρ ρ' h
        cases us with
        | nil => simp [bindTgs] at h
        | cons u us =>
          simp only [bindTgs, Option.bind_eq_some_iff] at h
          obtain ⟨_, _, h⟩ := h
          simp [ih h]
    exact ⟨a, vs, rfl, .of g, by rw [← rr.length, ← this e, ckTgs_len X.N h], ρ, Av, us, ρ', rl, tr, rr, e, fun σ' b => k σ' (by simpa [Tg.slots] using b)⟩
  | .n _, .BoolOp .., h | .n _, .NamedExpr .., h | .n _, .BinOp .., h | .n _, .UnaryOp .., h | .n _, .Lambda .., h | .n _, .IfExp .., h | .n _, .Dict .., h | .n _, .Set .., h | .n _, .ListComp .., h | .n _, .SetComp .., h
  | .n _, .DictComp .., h | .n _, .GeneratorExp .., h | .n _, .Await .., h | .n _, .Yield .., h | .n _, .YieldFrom .., h | .n _, .Compare .., h | .n _, .Call .., h | .n _, .FormattedValue .., h | .n _, .JoinedStr .., h
  | .n _, .Constant .., h | .n _, .Attribute .., h | .n _, .Subscript .., h | .n _, .Starred .., h | .n _, .List .., h | .n _, .Tuple .., h | .n _, .Slice .., h => by simp [ckTg] at h
  | .t _, .BoolOp .., h | .t _, .NamedExpr .., h | .t _, .BinOp .., h | .t _, .UnaryOp .., h | .t _, .Lambda .., h | .t _, .IfExp .., h | .t _, .Dict .., h | .t _, .Set .., h | .t _, .ListComp .., h | .t _, .SetComp .., h
  | .t _, .DictComp .., h | .t _, .GeneratorExp .., h | .t _, .Await .., h | .t _, .Yield .., h | .t _, .YieldFrom .., h | .t _, .Compare .., h | .t _, .Call .., h | .t _, .FormattedValue .., h | .t _, .JoinedStr .., h
  | .t _, .Constant .., h | .t _, .Attribute .., h | .t _, .Subscript .., h | .t _, .Starred .., h | .t _, .List .., h | .t _, .Name .., h | .t _, .Slice .., h => by simp [ckTg] at h
theorem g_tgs (hc : X.calm = true) (hN : X.N.Nodup) (hT : TgNames X sc0) : ∀ (ts : List Tg) (es : List Expr), ckTgs X.N sc0 ts es = true → PGs X es (tGs X.K ts)
  | [], [], h => pgs_nil.weaken fun vs σ H Q ⟨ρ, Av, ts, ρ', rl, tr, hr, e, k⟩ => by
    cases ts with
    | nil => simp only [bindTgs] at e; cases e; simp only [Reps] at hr; exact ⟨hr, k σ (.refl rl)⟩
    | cons _ _ => simp [bindTgs] at e
  | t :: tgs, e :: es, h => by
    simp only [ckTgs, Bool.and_eq_true] at h
    refine (pgs_cons (g_tg hc hN hT t e h.1) (g_tgs hc hN hT tgs es h.2) (by rw [ckTg_star X.N h.1]; rfl)).weaken fun vs σ H Q ⟨ρ, Av, ts, ρ', rl, tr, hr, e, k⟩ => ?_
    cases ts with
    | nil => simp [bindTgs] at e
    | cons u us =>
      simp only [bindTgs, Option.bind_eq_some_iff] at e
      obtain ⟨ρ1, e1, e2⟩ := e
      simp only [Reps] at hr
      obtain ⟨v, r, rfl, h1, h2⟩ := hr
      exact ⟨v, r, rfl, ρ, Av, u, ρ1, rl, tr, h1, e1, fun σ1 b1 => ⟨ρ1, Av, us, ρ', b1.rel, tr, h2, e2, fun σ2 b2 => k σ2 (by simpa [Tg.slotsL] using b1.trans b2)⟩⟩
  | [], _ :: _, h => by simp [ckTgs] at h
  | _ :: _, [], h => by simp [ckTgs] at h
end
end
end MP

namespace MP
open PySem PySem.Spec L2
open PyProof.Rows hiding St
/-! ## list comprehensions -/
theorem slotAt_setO {ρ : Env} {i j : Nat} {s : Option Slot} (h : i < ρ.length) : slotAt (ρ.set i s) j = if j = i then s else slotAt ρ j := by
  unfold slotAt
  by_cases e : j = i
  · subst e
    rw [List.getElem?_set_self h, if_pos rfl]; cases s <;> rfl
  · rw [List.getElem?_set_ne (Ne.symm e), if_neg e]
theorem slotAt_ge {ρ : Env} {i : Nat} (h : ρ.length ≤ i) : slotAt ρ i = none := by
  unfold slotAt; rw [List.getElem?_eq_none h]; rfl
theorem backR_at {ρ0 ρ : Env} (hl : ρ0.length = ρ.length) : ∀ (is : List Nat), (backR ρ0 ρ is).length = ρ.length ∧ ∀ j, slotAt (backR ρ0 ρ is) j = if j ∈ is then slotAt ρ0 j else slotAt ρ j
  | [] => ⟨rfl, fun j => by simp [backR]⟩
  | i :: is => by
    obtain ⟨h1, h2⟩ := backR_at hl is
    refine ⟨by simp [backR, h1], fun j => ?_⟩
    simp only [backR]
    by_cases hi : i < ρ.length
    · rw [slotAt_setO (by rw [h1]; exact hi)]
      by_cases z : j = i
      · subst z; rw [if_pos rfl, if_pos (by simp)]; rfl
      · rw [if_neg z, h2 j]; simp [z]
    · rw [List.set_eq_of_length_le (by rw [h1]; omega), h2 j]
      by_cases z : j = i
      · subst z
        rw [slotAt_ge (ρ := ρ0) (by omega), slotAt_ge (ρ := ρ) (by omega)]; simp
      · simp [z]
theorem wipeR_at {ρ : Env} : ∀ (is : List Nat), (wipeR ρ is).length = ρ.length ∧ ∀ j, slotAt (wipeR ρ is) j = if j ∈ is then none else slotAt ρ j
  | [] => ⟨rfl, fun j => by simp [wipeR]⟩
  | i :: is => by
    obtain ⟨h1, h2⟩ := wipeR_at (ρ := ρ) is
    refine ⟨by simp [wipeR, h1], fun j => ?_⟩
    simp only [wipeR]
    rw [slotAt_none, h2 j]
    by_cases z : j = i
    · subst z; simp
    · simp [z]
theorem wipe_at {σ : St} : ∀ (is : List Nat) (j : Nat), j ∉ is → (wipe σ is)[j]? = σ[j]?
  | [], j, _ => rfl
  | i :: is, j, h => by
    simp only [List.mem_cons, not_or] at h
    unfold wipe
    rw [List.getElem?_set_ne (Ne.symm h.1), wipe_at is j h.2]
theorem wipe_in {σ : St} : ∀ (is : List Nat) (j : Nat), j ∈ is → j < σ.length → (wipe σ is)[j]? = some none
  | i :: is, j, h, hl => by
    unfold wipe
    by_cases z : i = j
    · subst z; rw [List.getElem?_set_self (by rw [wipe_length]; exact hl)]
    · rw [List.getElem?_set_ne z]
      exact wipe_in is j ((List.mem_cons.mp h).resolve_left fun e => z e.symm) hl
theorem wipe_eq {σ σ' : St} {is : List Nat} (hl : σ'.length = σ.length) (h : ∀ j, j ∉ is → σ'[j]? = σ[j]?) : wipe σ' is = wipe σ is := by
  apply List.ext_getElem?
  intro j
  by_cases m : j ∈ is
  · by_cases hj : j < σ.length
    · rw [wipe_in is j m hj, wipe_in is j m (by omega)]
    · rw [List.getElem?_eq_none (by rw [wipe_length]; omega), List.getElem?_eq_none (by rw [wipe_length]; omega)]
  · rw [wipe_at is j m, wipe_at is j m, h j m]
section
variable {K : PySem.W.Frag} {Av Av1 AvD : Addr → Prop} {ρ ρ1 : Env} {σ : St} {H H0 H1 : Hp} {rs : List R} {vs : List V}
theorem Rel.wiped (r : Rel K Av ρ σ H) (is : List Nat) : Rel K Av (wipeR ρ is) (wipe σ is) H := by
  obtain ⟨h1, h2⟩ := wipeR_at (ρ := ρ) is
  refine ⟨by rw [h1, wipe_length]; exact r.len, fun j s q => ?_, fun i j s s' a q q' m m' e e' => ?_⟩
  · rw [h2 j] at q
    split at q
    · cases q
    · rename_i hj
      rw [wipe_at is j hj]
      exact r.slot j s q
  · rw [h2] at q q'
    split at q
    · cases q
    · split at q'
      · cases q'
      · rename_i hi hj
        rw [wipe_at is _ hi] at e
        rw [wipe_at is _ hj] at e'
        exact r.inj i j s s' a q q' m m' e e'
def Slot.lockd (s : Slot) : Slot := if s.mine then .lck s.t else s
theorem lockAll_at : ∀ {rs : List R} {vs : List V} {ρ : Env}, (∀ i, i ∈ rs.flatMap R.ix → kindAt ρ i ≥ 2) → (lockAll ρ rs).length = ρ.length ∧ ∀ j, slotAt (lockAll ρ rs) j = if j ∈ rs.flatMap R.ix then (slotAt ρ j).map Slot.lockd else slotAt ρ j
  | [], _, ρ, _ => ⟨rfl, fun j => by simp [lockAll]⟩
  | r :: rs, vs, ρ, h => by
    simp only [lockAll]
    cases r with
    | val t =>
      have := lockAll_at (rs := rs) (vs := vs) (ρ := ρ) (fun i hi => h i (by simp [R.ix] at hi ⊢; exact hi))
      simpa [R.lock, R.ix] using this
    | fresh t =>
      have := lockAll_at (rs := rs) (vs := vs) (ρ := ρ) (fun i hi => h i (by simp [R.ix] at hi ⊢; exact hi))
      simpa [R.lock, R.ix] using this
    | deep t =>
      have := lockAll_at (rs := rs) (vs := vs) (ρ := ρ) (fun i hi => h i (by simp [R.ix] at hi ⊢; exact hi))
      simpa [R.lock, R.ix] using this
    | loc i =>
      have hk := h i (by simp [R.ix])
      cases q : slotAt ρ i with
      | none => unfold kindAt at hk; rw [q] at hk; simp at hk
      | some s =>
        rw [kindAt_some q] at hk
        have hm : s.mine = true := mine_k.mpr (by omega)
        have hlt := slotAt_lt q
        have e : R.lock ρ (.loc i) = ρ.set i (some (.lck s.t)) := by simp [R.lock, q, hm]
        rw [e]
        obtain ⟨l, k⟩ := lockAll_at (rs := rs) (vs := vs) (ρ := ρ.set i (some (.lck s.t))) (fun j hj => by
          unfold kindAt
          rw [slotAt_set hlt]
          by_cases z : j = i
          · subst z; rw [if_pos rfl]; simp [Slot.k]
          · rw [if_neg z]; exact h j (by rw [List.flatMap_cons]; exact List.mem_append_right _ hj))
        refine ⟨by rw [l]; simp, fun j => ?_⟩
        rw [k j, slotAt_set hlt]
        simp only [List.flatMap_cons, R.ix, List.singleton_append, List.mem_cons]
        by_cases z : j = i
        · subst z
          rw [if_pos rfl, q]
          have e1 : (some (Slot.lck s.t)).map Slot.lockd = some (Slot.lck s.t) := rfl
          have e2 : (some s).map Slot.lockd = some (Slot.lck s.t) := by simp [Slot.lockd, hm]
          rw [e1, e2]
          simp
        · simp only [z, false_or, if_false]
/-- locked -/
theorem Rel.locked (r : Rel K Av ρ σ H) (h : ∀ i, i ∈ rs.flatMap R.ix → kindAt ρ i ≥ 2) : Rel K Av (lockAll ρ rs) σ H ∧ (∀ b, WrK (lockAll ρ rs) σ b → WrK ρ σ b) ∧ (lockAll ρ rs).length = ρ.length := by
  obtain ⟨l, k⟩ := lockAll_at (vs := []) h
  have mi : ∀ s : Slot, s.lockd.mine = s.mine ∧ s.lockd.t = s.t := fun s => by cases s <;> simp [Slot.lockd, Slot.mine, Slot.t]
  refine ⟨⟨by rw [l]; exact r.len, fun j s q => ?_, fun i j s s' a q q' m m' e e' => ?_⟩, fun b ⟨i, hk, e⟩ => ?_, l⟩
  · rw [k j] at q
    split at q
    · simp only [Option.map_eq_some_iff] at q
      obtain ⟨s0, q, rfl⟩ := q
      obtain ⟨v, e, h2⟩ := r.slot j s0 q
      refine ⟨v, e, ?_⟩
      by_cases m : s0.mine = true
      · obtain ⟨a, e2, ha, o⟩ := h2.at m
        exact .of (by rw [(mi s0).1]; exact m) e2 ha (by rw [(mi s0).2]; exact o)
      · have : s0.lockd = s0 := by simp [Slot.lockd, m]
        rw [this]; exact h2
    · exact r.slot j s q
  · have f : ∀ j s, slotAt (lockAll ρ rs) j = some s → s.mine = true → ∃ s0, slotAt ρ j = some s0 ∧ s0.mine = true := fun j s q m => by
      rw [k j] at q
      split at q
      · simp only [Option.map_eq_some_iff] at q
        obtain ⟨s0, q, rfl⟩ := q
        exact ⟨s0, q, by rw [← (mi s0).1]; exact m⟩
      · exact ⟨s, q, m⟩
    obtain ⟨a1, a2, a3⟩ := f i s q m
    obtain ⟨b1, b2, b3⟩ := f j s' q' m'
    exact r.inj i j a1 b1 a a2 b2 a3 b3 e e'
  · refine ⟨i, ?_, e⟩
    unfold kindAt at hk ⊢
    rw [k i] at hk
    by_cases hm : i ∈ rs.flatMap R.ix
    · rw [if_pos hm] at hk
      have := h i hm
      cases q : slotAt ρ i with
      | none => rw [q] at hk; simp at hk
      | some s =>
        rw [kindAt_some q] at this
        rw [q] at hk
        simp only [Option.map_some, Slot.lockd, mine_k.mpr (show s.k ≠ 1 by omega), if_true, Slot.k] at hk
        omega
    · rw [if_neg hm] at hk
      exact hk
/-- the sources of a walk, further on -/
theorem src_at (rl : Rel K Av1 ρ1 σ H1) (q : RepRs K H0 Av1 ρ1 σ H1 rs vs) {ts : List T} (g : gets ρ1 rs = some ts) {ρc : Env} {Hc : Hp} (hlk : ∀ i, i ∈ rs.flatMap R.ix → kindAt ρ1 i ≥ 2)
    (shp : ∀ i t, slotAt (lockAll ρ1 rs) i = some (.lck t) → slotAt ρc i = some (.lck t)) (rc : Rel K AvD ρc σ Hc) (up : ∀ b o, H1 b = some o → ¬ Av1 b → ¬ AvD b) (fr : Fr (WrK (lockAll ρ1 rs) σ) H1 Hc) : Paired (Rdb K Hc AvD) ts vs := by
  obtain ⟨_, lk⟩ := lockAll_at (vs := []) hlk
  have wr1 : ∀ b, WrK (lockAll ρ1 rs) σ b → Av1 b := fun b w => rl.wr ((rl.locked hlk).2.1 b w)
  have kp : ∀ b o, H1 b = some o → ¬ Av1 b → Hc b = some o := fun b o e n => fr b o e fun w => n (wr1 b w)
  have : ∀ {rs' : List R} {vs : List V}, RepRs K H0 Av1 ρ1 σ H1 rs' vs → (∀ i, i ∈ rs'.flatMap R.ix → i ∈ rs.flatMap R.ix) → ∀ {ts : List T}, gets ρ1 rs' = some ts → Paired (Rdb K Hc AvD) ts vs := by
    intro rs' vs h
    induction h with
    | nil => intro _ ts e; simp [gets] at e; subst e; exact .nil
    | cons a _ ih =>
      rename_i r v rs' vs' _
      intro sub ts e
      simp only [gets, Option.bind_eq_some_iff, Option.map_eq_some_iff] at e
      obtain ⟨t, e1, ts', e2, rfl⟩ := e
      refine .cons ?_ (ih (fun i hi => sub i (by simp only [List.flatMap_cons, List.mem_append]; exact .inr hi)) e2)
      cases r with
      | val u =>
        cases e1
        exact (Rep.keep kp up _ _ a).rdb
      | fresh u =>
        cases e1
        obtain ⟨b, rfl, hb, ns, o, _⟩ := a
        obtain ⟨u, eu, _⟩ := o.there
        refine (o.keep kp up ((fr b u eu fun ⟨i, hk, e⟩ => ns ?_).trans eu.symm)).rdb
        obtain ⟨j, hk2, e2⟩ := (rl.locked hlk).2.1 b ⟨i, hk, e⟩
        exact ⟨j, by omega, e2⟩
      | deep u => cases e1
      | loc i =>
        have mi : i ∈ rs.flatMap R.ix := sub i (by simp [R.ix])
        simp only [R.get] at e1
        cases q1 : slotAt ρ1 i with
        | none => rw [q1] at e1; cases e1
        | some s =>
          rw [q1] at e1
          have hm : s.mine = true ∧ s.t = t := by cases s <;> simp_all [Slot.mine, Slot.t]
          have q2 : slotAt (lockAll ρ1 rs) i = some (.lck t) := by rw [lk i, if_pos mi, q1]; simp [Slot.lockd, hm.1, hm.2]
          obtain ⟨b, e3, _, o⟩ := rc.at (shp i t q2) rfl
          have e4 := a.2
          rw [e3] at e4; cases e4
          exact o.rdb
  exact this q (fun i hi => hi) g
theorem reprs_ix (q : RepRs K H0 Av1 ρ1 σ H1 rs vs) : ∀ i, i ∈ rs.flatMap R.ix → kindAt ρ1 i ≥ 2 := by
  induction q with
  | nil => intro i h; simp at h
  | cons a _ ih =>
    intro i h
    simp only [List.flatMap_cons, List.mem_append] at h
    rcases h with h | h
    · rename_i r _ _ _ _
      cases r with
      | val t => simp [R.ix] at h
      | fresh t => simp [R.ix] at h
      | deep t => simp [R.ix] at h
      | loc j => simp only [R.ix, List.mem_singleton] at h; subst h; exact a.1
    · exact ih i h
end
end MP

namespace MP
open PySem PySem.Spec L2
open PyProof.Rows hiding St
section
variable {K : PySem.W.Frag} {Av Av1 AvD : Addr → Prop} {ρ ρ1 ρ2 ρ4 ρc : Env} {σ σ2 : St} {H H0 H1 H' H4 Hc : Hp} {rs : List R} {vs : List V} {ws is : List Nat} {D : Addr}
theorem kind_slot {i : Nat} (h : kindAt ρ i ≥ 2) : ∃ s, slotAt ρ i = some s ∧ s.mine = true ∧ s.k = kindAt ρ i := by
  unfold kindAt at h
  cases q : slotAt ρ i with
  | none => rw [q] at h; simp at h
  | some s => rw [q] at h; have h : s.k ≥ 2 := h; exact ⟨s, rfl, mine_k.mpr (by omega), by unfold kindAt; rw [q]⟩
theorem mine_kind {i : Nat} {s : Slot} (q : slotAt ρ i = some s) (m : s.mine = true) : kindAt ρ i ≥ 2 := by
  rw [kindAt_some q]
  have := mine_k.mp m
  have : s.k ≥ 1 := by cases s <;> simp [Slot.k]
  omega
/-- behind a block, back in the def's slots -/
theorem back_nx (rc : Rel K AvD ρc σ Hc) (mk : ∀ b o, Hc b = some o → H' b = some o) (bd : Bound K AvD (wipeR ρc ws) (wipe σ ws) H' is ρ2 σ2) (sub : ∀ i ∈ is, i ∈ ws) (n : Nx K ρ2 σ2 AvD H' ρ4 AvD H4) :
    Nx K ρc σ AvD Hc (backR ρc ρ4 ws) AvD H4 := by
  obtain ⟨wl, wa⟩ := wipeR_at (ρ := ρc) ws
  have l4 : ρc.length = ρ4.length := by rw [← n.shp.len, bd.len, wl]
  obtain ⟨bl, ba⟩ := backR_at l4 ws
  have out : ∀ j, j ∉ ws → slotAt ρ2 j = slotAt ρc j ∧ σ2[j]? = σ[j]? := fun j hj => by
    obtain ⟨h1, h2⟩ := bd.out j fun z => hj (sub j z)
    rw [wa j, if_neg hj] at h1
    rw [wipe_at ws j hj] at h2
    exact ⟨h1, h2⟩
  have low : ∀ j, kindAt ρ2 j ≥ 2 → j ∉ ws := fun j hj z => by
    obtain ⟨h1, _⟩ := bd.low j hj
    rw [wa j, if_pos z] at h1
    unfold kindAt at hj
    rw [h1] at hj; simp at hj
  have wr : ∀ b, WrK ρ2 σ2 b → ∃ j, j ∉ ws ∧ (kindAt ρc j = 2 ∨ kindAt ρc j = 3) ∧ σ[j]? = some (some (.ref b)) := fun b ⟨j, hk, e⟩ => by
    have hj := low j (by omega)
    obtain ⟨h1, h2⟩ := out j hj
    refine ⟨j, hj, ?_, by rw [← h2]; exact e⟩
    unfold kindAt at hk ⊢
    rw [← h1]; exact hk
  have kd : ∀ j, kindAt ρc j = kindAt (backR ρc ρ4 ws) j := fun j => by
    unfold kindAt
    rw [ba j]
    by_cases hj : j ∈ ws
    · rw [if_pos hj]
    · rw [if_neg hj]
      have := n.shp.kind j
      unfold kindAt at this
      rw [← this, (out j hj).1]
  have kp : ∀ b o, Hc b = some o → ¬ AvD b → H4 b = some o := fun b o e m => n.fr b o (mk b o e) fun w => m (bd.rel.wr w)
  refine ⟨⟨by rw [bl, l4], kd, fun j t q => ?_⟩, ⟨by rw [bl, ← l4]; exact rc.len, fun j s q => ?_, fun i j s s' a q q' m m' e e' => ?_⟩, n.tr, fun _ h => h, fun _ h => .inl h, fun b o e w => ?_⟩
  · rw [ba j]
    by_cases hj : j ∈ ws
    · rw [if_pos hj]; exact q
    · rw [if_neg hj]; exact n.shp.lck j t (by rw [(out j hj).1]; exact q)
  · rw [ba j] at q
    by_cases hj : j ∈ ws
    · rw [if_pos hj] at q
      obtain ⟨v, e, h⟩ := rc.slot j s q
      refine ⟨v, e, ?_⟩
      by_cases mi : s.mine = true
      · obtain ⟨a, rfl, ha, o⟩ := h.at mi
        obtain ⟨u, eu, _⟩ := o.there
        refine .of mi rfl ha (o.keep kp (fun _ _ _ m => m) ((n.fr a u (mk a u eu) fun w => ?_).trans eu.symm))
        obtain ⟨l, hl, hk, e2⟩ := wr a w
        obtain ⟨s2, q2, m2, _⟩ := kind_slot (ρ := ρc) (i := l) (by omega)
        have := rc.inj l j s2 s a q2 q m2 mi e2 e
        subst this
        exact hl hj
      · cases s <;> first | exact Rep.keep kp (fun _ _ _ m => m) _ _ h | (simp [Slot.mine] at mi)
    · rw [if_neg hj] at q
      obtain ⟨v, e, h⟩ := n.rel.slot j s q
      exact ⟨v, by rw [← (out j hj).2]; exact e, h⟩
  · have f : ∀ j s, slotAt (backR ρc ρ4 ws) j = some s → s.mine = true → ∃ s2, slotAt ρc j = some s2 ∧ s2.mine = true := fun j s q m => by
      obtain ⟨s2, q2, m2, _⟩ := kind_slot (ρ := ρc) (i := j) (by rw [kd j]; exact mine_kind q m)
      exact ⟨s2, q2, m2⟩
    obtain ⟨a1, a2, a3⟩ := f i s q m
    obtain ⟨b1, b2, b3⟩ := f j s' q' m'
    exact rc.inj i j a1 b1 a a2 b2 a3 b3 e e'
  · exact n.fr b o (mk b o e) fun w2 => w (let ⟨j, _, hk, e2⟩ := wr b w2; ⟨j, hk, e2⟩)
/-- the new list grows -/
theorem Rel.grown (r : Rel K AvD ρc σ Hc) (hD : AvD D) (no : ∀ j, kindAt ρc j ≥ 2 → σ[j]? ≠ some (some (.ref D))) {u : HO} : Rel K AvD ρc σ (upd Hc D u) := by
  refine ⟨r.len, fun j s q => ?_, r.inj⟩
  obtain ⟨v, e, h⟩ := r.slot j s q
  refine ⟨v, e, ?_⟩
  by_cases mi : s.mine = true
  · obtain ⟨a, rfl, ha, o⟩ := h.at mi
    exact .of mi rfl ha (o.keep (wr_keep hD) (fun _ _ _ m => m) (upd_ne fun z => no j (mine_kind q mi) (by rw [← z]; exact e)))
  · cases s <;> first | exact Rep.keep (wr_keep hD) (fun _ _ _ m => m) _ _ h | (simp [Slot.mine] at mi)
/-- behind the loop, unlocked -/
theorem unlock_nx (rl : Rel K Av ρ σ H) (n : Nx K ρ σ Av H ρ1 Av1 H1) (hlk : ∀ i, i ∈ rs.flatMap R.ix → kindAt ρ1 i ≥ 2) (sh : Shp (lockAll ρ1 rs) ρc) (rc : Rel K AvD ρc σ Hc) (trc : Tr AvD Hc)
    (fc : Fr (WrK (lockAll ρ1 rs) σ) H1 Hc) (hD : H1 D = none) (hA : ∀ b, AvD b ↔ Av1 b ∨ b = D) : Nx K ρ σ Av H (backR ρ1 ρc (rs.flatMap R.ix)) (fun b => Av b ∨ b = D) Hc := by
  obtain ⟨_, lk⟩ := lockAll_at (vs := []) hlk
  obtain ⟨rlk, wlk, llk⟩ := n.rel.locked hlk
  have l4 : ρ1.length = ρc.length := by rw [← sh.len, llk]
  obtain ⟨bl, ba⟩ := backR_at l4 (rs.flatMap R.ix)
  have kd : ∀ j, kindAt ρ1 j = kindAt (backR ρ1 ρc (rs.flatMap R.ix)) j := fun j => by
    unfold kindAt
    rw [ba j]
    by_cases hj : j ∈ rs.flatMap R.ix
    · rw [if_pos hj]
    · rw [if_neg hj]
      have := sh.kind j
      unfold kindAt at this
      rw [lk j, if_neg hj] at this
      exact this
  have nh := n.home rl
  have ownAv : ∀ i a, kindAt ρ1 i ≥ 2 → σ[i]? = some (some (.ref a)) → Av a := fun i a hk e => by
    obtain ⟨s, q, m, _⟩ := kind_slot hk
    obtain ⟨b, e2, hb, _⟩ := nh.rel.at q m
    rw [e] at e2; cases e2
    exact hb
  have sub : ∀ b, (Av b ∨ b = D) → AvD b := fun b z => (hA b).mpr (z.imp (n.up b) id)
  have ha : ∀ b o, Hc b = some o → ¬ AvD b → ¬ (Av b ∨ b = D) := fun b o _ m z => m (sub b z)
  have s1 : Shp ρ1 (backR ρ1 ρc (rs.flatMap R.ix)) := ⟨by rw [bl, l4], kd, fun j t q => by
    rw [ba j]
    by_cases hj : j ∈ rs.flatMap R.ix
    · rw [if_pos hj]; exact q
    · rw [if_neg hj]; exact sh.lck j t (by rw [lk j, if_neg hj]; exact q)⟩
  have noD : ∀ b, b = D → H b = none := fun b z => by
    subst z
    refine n.fr.none hD fun w => ?_
    obtain ⟨u, e⟩ := n.tr b (n.up b (rl.wr w))
    rw [hD] at e; cases e
  refine ⟨n.shp.trans s1, ⟨by rw [bl, ← l4]; exact n.rel.len, fun j s q => ?_, fun i j s s' a q q' m m' e e' => ?_⟩, fun b z => trc b (sub b z), fun _ h => .inl h, fun b z => z.imp id (noD b), ?_⟩
  · have hq := q
    rw [ba j] at q
    by_cases hj : j ∈ rs.flatMap R.ix
    · rw [if_pos hj] at q
      have hk := hlk j hj
      obtain ⟨s', q', m, _⟩ := kind_slot hk
      rw [q] at q'; cases q'
      have q2 : slotAt (lockAll ρ1 rs) j = some (.lck s.t) := by rw [lk j, if_pos hj, q]; simp [Slot.lockd, m]
      obtain ⟨a, e, _, o⟩ := rc.at (sh.lck j _ q2) rfl
      exact ⟨_, e, .of m rfl (.inl (ownAv j a hk e)) (OwnRep.keep (fun _ _ e _ => e) ha o rfl)⟩
    · rw [if_neg hj] at q
      obtain ⟨v, e, h⟩ := rc.slot j s q
      refine ⟨v, e, ?_⟩
      by_cases mi : s.mine = true
      · obtain ⟨a, rfl, _, o⟩ := h.at mi
        exact .of mi rfl (.inl (ownAv j a (by rw [kd j]; exact mine_kind hq mi) e)) (o.keep (fun _ _ e _ => e) ha rfl)
      · cases s <;> first | exact Rep.keep (fun _ _ e _ => e) ha _ _ h | (simp [Slot.mine] at mi)
  · have f : ∀ j s, slotAt (backR ρ1 ρc (rs.flatMap R.ix)) j = some s → s.mine = true → ∃ s2, slotAt ρ1 j = some s2 ∧ s2.mine = true := fun j s q m => by
      obtain ⟨s2, q2, m2, _⟩ := kind_slot (ρ := ρ1) (i := j) (by rw [kd j]; exact mine_kind q m)
      exact ⟨s2, q2, m2⟩
    obtain ⟨a1, a2, a3⟩ := f i s q m
    obtain ⟨b1, b2, b3⟩ := f j s' q' m'
    exact n.rel.inj i j a1 b1 a a2 b2 a3 b3 e e'
  · exact n.fr.trans (fc.mono fun b w => n.shp.wr.mp (wlk b w))
end
abbrev W0 : WX := fun _ _ _ _ => False
theorem compLoop_noexc {tg : Tg} {ws : List Nat} {cond : Env → Res Bool} {elt : Env → Res R} : ∀ {items : List T} {ρ ρ' : Env} {acc : List T} {c : String}, compLoop tg ws cond elt items ρ acc ≠ .exc c ρ'
  | [], _, _, _, _ => fun h => by simp [compLoop] at h
  | x :: xs, ρ, ρ', acc, c => fun h => by
    simp only [compLoop] at h
    split at h
    · cases h
    · split at h
      · split at h
        · split at h
          · exact compLoop_noexc h
          · cases h
        · cases h
      · exact compLoop_noexc h
      · cases h
section
variable {X : Cx} {W : WX} {elt : E} {tg : Tg} {k : ItK} {es cond : List E} {own : List (String × Nat)}
theorem r_core {ρ ρ1 ρe : Env} {Av Av1 : Addr → Prop} {σ : St} {H H1 : Hp} {Q : VK} {rs : List R} {ts items tsf : List T} {vs : List V} {J : It} {G : Hp → Prop} {ws : List Nat} (htg : ∀ i ∈ tg.slots, i ∈ ws) (rl : Rel X.K Av ρ σ H) (n : Nx X.K ρ σ Av H ρ1 Av1 H1) (q : RepRs X.K H Av1 ρ1 σ H1 rs vs)
    (g1 : gets ρ1 rs = some ts) (hsz : items.length ≤ 16777216) (hG : G H1) (st : ∀ Hc, (∀ b o, H1 b = some o → ¬ Av1 b → Hc b = some o) → G Hc) (jok : JOk X.K J ts vs items G)
    (ec : compLoop tg ws (fun ρ => evC cond ρ) (fun ρ => ev elt ρ) items (lockAll ρ1 rs) [] = .ok tsf ρe)
    (p : Post X.K X.mg W (RepR X.K) ρ σ Av H (.ok (.fresh (.lst tsf)) (backR ρ1 ρe (rs.flatMap R.ix))) Q) :
    tLc (fun _ _ R => R J H1) (tG X.K tg) (tC X.K X.mg W0 cond) (tE X.K X.mg W0 elt) ws σ H Q := by
  intro D hD
  have gst : ∀ {Hc}, Fr (WrK (lockAll ρ1 rs) σ) H1 Hc → G Hc := fun {Hc} fc => st Hc fun b o e m => fc b o e fun w => m (n.rel.wr ((n.rel.locked (reprs_ix q)).2.1 b w))
  have hlk := reprs_ix q
  obtain ⟨rlk, wlk, llk⟩ := n.rel.locked hlk
  generalize hA : (fun b => Av1 b ∨ b = D) = AvD
  have hA' : ∀ b, AvD b ↔ Av1 b ∨ b = D := fun b => by rw [← hA]
  have up1 : ∀ b o, H1 b = some o → ¬ Av1 b → ¬ AvD b := fun b o e m z => ((hA' b).mp z).elim m fun z => by rw [z, hD] at e; cases e
  have nD : ∀ {ρc : Env}, Shp (lockAll ρ1 rs) ρc → ∀ j, kindAt ρc j ≥ 2 → σ[j]? ≠ some (some (.ref D)) := fun {ρc} sh j hk e => by
    obtain ⟨s, qs, m, _⟩ := kind_slot (ρ := lockAll ρ1 rs) (i := j) (by rw [sh.kind j]; exact hk)
    obtain ⟨b, e2, _, o⟩ := rlk.at qs m
    rw [e] at e2; cases e2
    obtain ⟨u, eu, _⟩ := o.there
    rw [hD] at eu; cases eu
  refine ⟨fun i m Hc => m = items.length - i ∧ i ≤ items.length ∧ ∃ ρc acc accv, Rel X.K AvD ρc σ Hc ∧ Tr AvD Hc ∧ Hc D = some (.lst accv) ∧ Reps X.K Hc AvD acc accv ∧ acc.length ≤ i ∧ Shp (lockAll ρ1 rs) ρc ∧
    Fr (WrK (lockAll ρ1 rs) σ) H1 Hc ∧ compLoop tg ws (fun ρ => evC cond ρ) (fun ρ => ev elt ρ) (items.drop i) ρc acc = .ok tsf ρe, ⟨items.length, by simp, Nat.zero_le _, lockAll ρ1 rs, [], [], ?_⟩, ?_⟩
  · have m0 := Made.lst (K := X.K) (ts := []) (vs := []) n.tr hD .nil
    have nx0 := m0.nx rlk
    rw [hA] at nx0
    exact ⟨nx0.rel, nx0.tr, upd_same, .nil, Nat.le_refl _, .refl, nx0.fr, by simpa using ec⟩
  · rintro i m Hc ⟨rfl, hi, ρc, acc, accv, rc, trc, gD, ra, la, sh, fc, evq⟩
    have src := src_at n.rel q g1 hlk sh.lck rc up1 fc
    have DA : AvD D := (hA' D).mpr (.inr rfl)
    by_cases hlt : i < items.length
    · right
      refine ⟨jok.go i Hc AvD trc src (gst fc) hlt, fun H' => i + 1 ≤ items.length ∧ ∃ ρc acc accv, Rel X.K AvD ρc σ H' ∧ Tr AvD H' ∧ H' D = some (.lst accv) ∧ Reps X.K H' AvD acc accv ∧ acc.length ≤ i + 1 ∧ Shp (lockAll ρ1 rs) ρc ∧
        Fr (WrK (lockAll ρ1 rs) σ) H1 H' ∧ compLoop tg ws (fun ρ => evC cond ρ) (fun ρ => ev elt ρ) (items.drop (i + 1)) ρc acc = .ok tsf ρe, fun H' w => ⟨items.length - (i + 1), by omega, rfl, w⟩, fun x H' y => ?_⟩
      have mk := jok.yld i Hc AvD x H' items[i] trc src (gst fc) (List.getElem?_eq_getElem hlt) y
      have nx0 := mk.nx rc
      rw [List.drop_eq_getElem_cons hlt] at evq
      simp only [compLoop] at evq
      cases eb : bindTg tg items[i] (wipeR ρc ws) with
      | none => rw [eb] at evq; cases evq
      | some ρ2 =>
        rw [eb] at evq
        simp only at evq
        refine ⟨wipeR ρc ws, AvD, items[i], ρ2, nx0.rel.wiped ws, nx0.tr, mk.rep, eb, fun σ2 bd => ⟨?_, ρ2, AvD, bd.rel, nx0.tr, ?_⟩⟩
        · refine wipe_eq (by rw [bd.lenS, wipe_length]) fun j hj => ?_
          rw [(bd.out j fun z => hj (htg j z)).2, wipe_at ws j hj]
        -- what a turn leaves
        have next : ∀ {ρn : Env} {Hn : Hp}, Nx X.K ρ2 σ2 AvD H' ρn AvD Hn → Nx X.K ρc σ AvD Hc (backR ρc ρn ws) AvD Hn ∧ Hn D = some (.lst accv) := fun {ρn Hn} nn => by
          have nb := back_nx rc mk.keep bd htg nn
          refine ⟨nb, nb.fr D _ gD fun w => ?_⟩
          obtain ⟨j, hk, e⟩ := w
          exact nD sh j (by omega) e
        have frn : ∀ {ρn : Env} {Hn : Hp}, Nx X.K ρc σ AvD Hc (backR ρc ρn ws) AvD Hn → Fr (WrK (lockAll ρ1 rs) σ) H1 Hn := fun nb => fc.trans (nb.fr.mono fun b w => sh.wr.mp w)
        cases ecd : evC cond ρ2 with
        | bad => rw [ecd] at evq; cases evq
        | exc c ρ3 => rw [ecd] at evq; cases evq
        | ok b ρ3 =>
          rw [ecd] at evq
          intro b' Av3 H3 n3 hb
          have hb : b = b' := hb
          subst hb
          have n3h := n3.home bd.rel
          cases b with
          | false =>
            refine iteF ⟨hlt, backR ρc ρ3 ws, acc, accv, ?_⟩
            obtain ⟨nb, gn⟩ := next n3h
            exact ⟨nb.rel, nb.tr, gn, nb.reps rc ra, by omega, sh.trans nb.shp, frn nb, evq⟩
          | true =>
            simp only at evq
            refine iteT ⟨ρ3, AvD, n3h.rel, n3h.tr, ?_⟩
            cases eel : ev elt ρ3 with
            | bad => rw [eel] at evq; cases evq
            | exc c ρ4 => rw [eel] at evq; cases evq
            | ok r ρ4 =>
              rw [eel] at evq
              simp only at evq
              cases ecl : r.clean with
              | none => rw [ecl] at evq; cases evq
              | some t' =>
                rw [ecl] at evq
                simp only at evq
                intro yv Av4 H4 n4 qr
                have ty := n4.cleanR n3h.tr qr ecl
                have n4h := n4.home n3h.rel
                obtain ⟨nb, gn⟩ := next (n3h.trans bd.rel n4h)
                have ra' := nb.reps rc ra
                refine ⟨accv, gn, by rw [← ra.length, line]; omega, hlt, backR ρc ρ4 ws, acc ++ [t'], accv ++ [yv], nb.rel.grown DA (fun j hk e => nD (sh.trans nb.shp) j hk e), nb.tr.laid, upd_same, ?_, by simp; omega, sh.trans nb.shp, ?_, evq⟩
                · exact (Reps.keep (wr_keep DA) (fun _ _ _ m => m) _ _ ra').append (.one (Rep.keep (wr_keep DA) (fun _ _ _ m => m) _ _ ty))
                · intro b o e w
                  rw [upd_ne fun z => by rw [z, hD] at e; cases e]
                  exact frn nb b o e w
    · left
      have ei : i = items.length := by omega
      subst ei
      refine ⟨jok.stop _ Hc AvD trc src (gst fc) (Nat.le_refl _), ?_⟩
      rw [List.drop_length] at evq
      simp only [compLoop] at evq
      cases evq
      have nx := unlock_nx rl n hlk sh rc trc fc hD hA'
      refine p (.ref D) _ Hc nx ⟨D, rfl, .inr rfl, fun z => ?_, ?_, ?_⟩
      · obtain ⟨j, hk, e⟩ := nx.shp.mn.mp z
        obtain ⟨s, qs, m, _⟩ := kind_slot hk
        obtain ⟨b, e2, hb, _⟩ := rl.at qs m
        rw [e] at e2; cases e2
        obtain ⟨u, eu⟩ := n.tr D (n.up D hb)
        rw [hD] at eu; cases eu
      · simp only [OwnRep]
        refine ⟨accv, gD, Reps.keep (fun _ _ e _ => e) (fun b o e m z => m ((hA' b).mpr (z.imp (n.up b) id))) _ _ ra⟩
      · refine n.fr.none hD fun w => ?_
        obtain ⟨u, eu⟩ := n.tr D (n.up D (rl.wr w))
        rw [hD] at eu; cases eu
theorem r_comp {σ : St} {H : Hp} {Q : VK} (htg : ∀ i ∈ tg.slots, i ∈ own.map (·.2)) (h : tE X.K X.mg W (.comp elt tg k es cond own) σ H Q) :
    tLc (tI X.K X.mg W k es) (tG X.K tg) (tC X.K X.mg W0 cond) (tE X.K X.mg W0 elt) (own.map (·.2)) σ H Q := by
  obtain ⟨ρ, Av, rl, tr, p⟩ := h
  simp only [ev] at p
  refine ⟨ρ, Av, rl, tr, ?_⟩
  cases e0 : evs es ρ with
  | bad => rw [e0] at p; exact p.elim
  | exc c ρ1 => rw [e0] at p; exact p
  | ok rs ρ1 =>
    rw [e0] at p
    simp only [Res.bind] at p
    cases g : (gets ρ1 rs).bind (iterSem k) with
    | none => rw [g] at p; exact p.elim
    | some items =>
      rw [g] at p
      simp only at p
      split at p
      · rename_i hsz
        simp only [Option.bind_eq_some_iff] at g
        obtain ⟨ts, g1, g2⟩ := g
        generalize hws : own.map (·.2) = ws at p htg ⊢
        cases ec : compLoop tg ws (fun ρ => evC cond ρ) (fun ρ => ev elt ρ) items (lockAll ρ1 rs) [] with
        | bad => rw [ec] at p; exact p.elim
        | exc c ρe => exact (compLoop_noexc ec).elim
        | ok tsf ρe =>
          rw [ec] at p
          simp only at p
          exact ⟨ts, items, g1, g2, fun J vs Av1 H1 G n q hG st jok => r_core htg rl n q g1 hsz hG st jok ec p⟩
      · exact p.elim
end
end MP

namespace MP
open PySem PySem.Spec L2
open PyProof.Rows hiding St
/-! ## a dict is locked while it is walked -/
section
variable {K : PySem.W.Frag} {Av Av' : Addr → Prop} {ρ ρ' : Env} {σ σ' : St} {H H' H0 : Hp}
/-- all stays, but that dicts may be locked -/
def Lk (H H' : Hp) : Prop := ∀ b o, H b = some o → H' b = some o ∨ ∃ ws od, o = .dK ws ∧ H' b = some (.frz od (.dK ws))
/-- all stays, but that dicts may be unlocked -/
def Ulk (H H' : Hp) : Prop := ∀ b o, H b = some o → H' b = some o ∨ ∃ ws od, o = .frz od (.dK ws) ∧ H' b = some (.dK ws)
theorem lk_of {d : Addr} {ws : List (Key × V)} (od : Obj) (h : H d = some (.dK ws)) : Lk H (upd H d (.frz od (.dK ws))) := fun b o e => by
  by_cases z : b = d
  · subst z; rw [h] at e; cases e; exact .inr ⟨ws, od, rfl, upd_same⟩
  · exact .inl (by rw [upd_ne z]; exact e)
theorem ulk_of {d : Addr} {ws : List (Key × V)} {od : Obj} (h : H d = some (.frz od (.dK ws))) : Ulk H (upd H d (.dK ws)) := fun b o e => by
  by_cases z : b = d
  · subst z; rw [h] at e; cases e; exact .inr ⟨ws, od, rfl, upd_same⟩
  · exact .inl (by rw [upd_ne z]; exact e)
def Both (H H' : Hp) : Prop := Lk H H' ∨ Ulk H H'
theorem Both.lst (h : Both H H') {b : Addr} {xs : List V} (e : H b = some (.lst xs)) : H' b = some (.lst xs) := by
  rcases h with h | h
  · rcases h b _ e with h | ⟨_, _, z, _⟩
    · exact h
    · cases z
  · rcases h b _ e with h | ⟨_, _, z, _⟩
    · exact h
    · cases z
theorem Both.tup (h : Both H H') {b : Addr} {xs : List V} (e : H b = some (.tup xs)) : H' b = some (.tup xs) := by
  rcases h with h | h
  · rcases h b _ e with h | ⟨_, _, z, _⟩
    · exact h
    · cases z
  · rcases h b _ e with h | ⟨_, _, z, _⟩
    · exact h
    · cases z
theorem Both.exT (h : Both H H') {b : Addr} {cls : Value} (e : H b = some (ExT cls b)) : H' b = some (ExT cls b) := by
  rcases h with h | h
  · rcases h b _ e with h | ⟨_, _, z, _⟩
    · exact h
    · unfold ExT at z; cases z
  · rcases h b _ e with h | ⟨_, _, z, _⟩
    · exact h
    · unfold ExT at z; cases z
theorem Both.frzL (h : Both H H') {b : Addr} {o : Obj} {xs : List V} (e : H b = some (.frz o (.lst xs))) : H' b = some (.frz o (.lst xs)) := by
  rcases h with h | h
  · rcases h b _ e with h | ⟨_, _, z, _⟩
    · exact h
    · cases z
  · rcases h b _ e with h | ⟨_, _, z, _⟩
    · exact h
    · cases z
theorem Both.rdK (h : Both H H') {b : Addr} {ws : List (Key × V)} (e : Rd H b (.dK ws)) : Rd H' b (.dK ws) := by
  rcases e with e | ⟨o, e⟩
  · rcases h with h | h
    · rcases h b _ e with h | ⟨_, od, z, h⟩
      · exact .inl h
      · cases z; exact .inr ⟨od, h⟩
    · rcases h b _ e with h | ⟨_, _, z, _⟩
      · exact .inl h
      · cases z
  · rcases h with h | h
    · rcases h b _ e with h | ⟨_, od, z, h⟩
      · exact .inr ⟨o, h⟩
      · cases z
    · rcases h b _ e with h | ⟨_, _, z, h⟩
      · exact .inr ⟨o, h⟩
      · cases z; exact .inl h
theorem Both.ro (h : Both H H') {a : Addr} {xs : List V} (r : RoAt K H Av a xs) : RoAt K H' Av a xs := by
  rcases r with ⟨x | ⟨o, x⟩, n⟩ | r
  · exact .inl ⟨.inl (h.lst x), n⟩
  · exact .inl ⟨.inr ⟨o, h.frzL x⟩, n⟩
  · exact .inr r
mutual
theorem Both.rep (h : Both H H') : ∀ (t : T) (v : V), Rep K H Av t v → Rep K H' Av t v
  | .non, v, r => r
  | .bl _, v, r => r
  | .int _, v, r => r
  | .str _, v, r => r
  | .lst ts, v, r => by
    simp only [Rep] at r ⊢
    obtain ⟨a, vs, e, n, x, r⟩ := r
    exact ⟨a, vs, e, n, h.lst x, Both.reps h ts vs r⟩
  | .tup ts, v, r => by
    simp only [Rep] at r ⊢
    obtain ⟨a, vs, e, n, x, r⟩ := r
    exact ⟨a, vs, e, n, h.tup x, Both.reps h ts vs r⟩
  | .ro ns, v, r => by
    simp only [Rep] at r ⊢
    obtain ⟨a, e, x⟩ := r
    exact ⟨a, e, h.ro x⟩
  | .dct kvs, v, r => by
    simp only [Rep] at r ⊢
    obtain ⟨a, vs, e, n, x, r⟩ := r
    exact ⟨a, vs, e, n, h.rdK x, Both.repd h kvs vs r⟩
  | .exc _, v, r => by
    simp only [Rep] at r ⊢
    obtain ⟨a, D, e, n, x, q⟩ := r
    exact ⟨a, D, e, n, h.exT x, q⟩
theorem Both.reps (h : Both H H') : ∀ (ts : List T) (vs : List V), Reps K H Av ts vs → Reps K H' Av ts vs
  | [], vs, r => by simp only [Reps] at r ⊢; exact r
  | t :: ts, vs, r => by
    simp only [Reps] at r ⊢
    obtain ⟨v, q, e, h1, h2⟩ := r
    exact ⟨v, q, e, Both.rep h t v h1, Both.reps h ts q h2⟩
theorem Both.repd (h : Both H H') : ∀ (ts : List (Kt × T)) (vs : List (Key × V)), RepD K H Av ts vs → RepD K H' Av ts vs
  | [], vs, r => by simp only [RepD] at r ⊢; exact r
  | (k, t) :: ts, vs, r => by
    simp only [RepD] at r ⊢
    obtain ⟨v, q, e, h1, h2⟩ := r
    exact ⟨v, q, e, ⟨Both.rep h t v h1.1, h1.2⟩, Both.repd h ts q h2⟩
end
theorem Both.own (h : Both H H') {a : Addr} {t : T} (he : H' a = H a) (r : OwnRep K H Av a t) : OwnRep K H' Av a t := by
  cases t <;> simp only [OwnRep] at r ⊢
  · obtain ⟨vs, x, r⟩ := r
    exact ⟨vs, he.trans x, Both.reps h _ _ r⟩
  · obtain ⟨vs, x, r⟩ := r
    exact ⟨vs, he.trans x, Both.repd h _ _ r⟩
theorem Both.drep (h : Both H H') : ∀ {ts : List T} {vs : List V} {bs : List Addr}, (∀ b ∈ bs, H' b = H b) → DRep K H Av ts vs bs → DRep K H' Av ts vs bs
  | [], _, _, _, r => r
  | t :: ts, vs, bs, hb, r => by
    simp only [DRep] at r ⊢
    obtain ⟨v, q, rfl, ⟨b, bs', rfl, rfl, o, d⟩ | ⟨o, l, d⟩⟩ := r
    · exact ⟨_, q, rfl, .inl ⟨b, bs', rfl, rfl, h.own (hb b (by simp)) o, Both.drep h (fun c hc => hb c (by simp [hc])) d⟩⟩
    · exact ⟨v, q, rfl, .inr ⟨h.rep _ _ o, l, Both.drep h hb d⟩⟩
theorem Both.deepF {d : Addr} {H0 H1 : Hp} {P : Addr → Prop} (nd : ¬ Av d) (h : Both H H') (he : ∀ b, b ≠ d → H' b = H b) (h0 : ∀ b, b ≠ d → H1 b = H0 b) {t : T} {v : V} (q : DeepF K H0 Av H P t v) : DeepF K H1 Av H' P t v := by
  cases t with
  | tup ts =>
    obtain ⟨a, vs, bs, e, na, ea, n, hb, r⟩ := q
    have ne : ∀ b ∈ bs, b ≠ d := fun b m z => nd (z ▸ (hb b m).1)
    exact ⟨a, vs, bs, e, na, h.tup ea, n, fun b m => ⟨(hb b m).1, (hb b m).2.1, by rw [h0 b (ne b m)]; exact (hb b m).2.2⟩, h.drep (fun b m => he b (ne b m)) r⟩
  | _ => exact h.rep _ _ q
theorem Both.rel (h : Both H H') {d : Addr} (nd : ¬ Av d) (he : ∀ a, a ≠ d → H' a = H a) (r : Rel K Av ρ σ H) : Rel K Av ρ σ H' := by
  refine ⟨r.len, fun i s e => ?_, r.inj⟩
  obtain ⟨v, e2, q⟩ := r.slot i s e
  refine ⟨v, e2, ?_⟩
  by_cases mi : s.mine = true
  · obtain ⟨a, rfl, ha, o⟩ := q.at mi
    exact .of mi rfl ha (h.own (he a fun z => nd (z ▸ ha)) o)
  · cases s <;> first | exact h.rep _ _ q | (simp [Slot.mine] at mi)
theorem tr_upd {d : Addr} {o : HO} (tr : Tr Av H) : Tr Av (upd H d o) := tr.laid
/-- a step in the lock, seen from without -/
theorem unlock_step {d : Addr} {ws : List (Key × V)} {od : Obj} (rl : Rel K Av ρ σ H) (tr : Tr Av H) (nd : ¬ Av d) (hd : H d = some (.dK ws)) (n : Nx K ρ σ Av (upd H d (.frz od (.dK ws))) ρ' Av' H') :
    H' d = some (.frz od (.dK ws)) ∧ Nx K ρ σ Av H ρ' Av' (upd H' d (.dK ws)) := by
  have f : H' d = some (.frz od (.dK ws)) := n.fr d _ upd_same fun w => nd (rl.wr w)
  have nd' : ¬ Av' d := fun z => (n.nw d z).elim nd fun z => by rw [upd_same] at z; cases z
  refine ⟨f, n.shp, (Both.rel (.inr (ulk_of f)) nd' (fun a z => upd_ne z) n.rel), tr_upd n.tr, n.up, fun b h => (n.nw b h).imp id fun z => ?_, fun b o e w => ?_⟩
  · by_cases e : b = d
    · rw [e, upd_same] at z; cases z
    · rw [upd_ne e] at z; exact z
  · by_cases z : b = d
    · subst z; rw [hd] at e; cases e; exact upd_same
    · rw [upd_ne z]
      exact n.fr b o (by rw [upd_ne z]; exact e) w
end
section
variable {K : PySem.W.Frag} {mg : Str → Option Value} {W : WX} {ρ : Env} {σ : St} {Av : Addr → Prop} {H : Hp}
/-- what is promised of a step holds of one in the lock -/
theorem lock_fresh {d : Addr} {ws : List (Key × V)} {od : Obj} {t : T} {ρ' : Env} {Q : VK} (rl : Rel K Av ρ σ H) (tr : Tr Av H) (nd : ¬ Av d) (hd : H d = some (.dK ws)) (p : Post K mg W (RepR K) ρ σ Av H (.ok (.fresh t) ρ') Q) :
    Post K mg W (RepR K) ρ σ Av (upd H d (.frz od (.dK ws))) (.ok (.fresh t) ρ') fun v H' => H' d = some (.frz od (.dK ws)) ∧ Q v (upd H' d (.dK ws)) := by
  intro v Av' H' n q
  obtain ⟨f, n2⟩ := unlock_step rl tr nd hd n
  refine ⟨f, p v Av' _ n2 ?_⟩
  obtain ⟨a, e, ha, w, o, z⟩ := q
  have nd' : ¬ Av' d := fun z => (n.nw d z).elim nd fun z => by rw [upd_same] at z; cases z
  have ad : a ≠ d := fun z => nd' (z ▸ ha)
  exact ⟨a, e, ha, w, (Both.own (.inr (ulk_of f)) (upd_ne ad) o), by rw [upd_ne ad] at z; exact z⟩
end
theorem rep_k' {K : PySem.W.Frag} {t : T} {k : Key} {H0 H : Hp} {Av0 Av : Addr → Prop} (h : Rep K H0 Av0 t (kV k)) : Rep K H Av t (kV k) := by
  cases k <;> cases t <;> simp only [Rep, kV] at h ⊢ <;> first | exact h | exact absurd h (by rintro ⟨_, z, _⟩; exact V.noConfusion z) | exact absurd h (by rintro ⟨_, _, z, _⟩; exact V.noConfusion z)
theorem jok_keys {K : PySem.W.Frag} {d : Addr} {o : Obj} {kvs : List (Kt × T)} {ws : List (Key × V)} {H0 : Hp} {Av0 : Addr → Prop} (rd : RepD K H0 Av0 kvs ws) : JOk K (Itk d o ws) [] [] (keysT kvs) (fun H => H d = some (.frz o (.dK ws))) := by
  have hl : (keysT kvs).length = ws.length := by
    have := congrArg List.length rd.keysK
    simpa [keysT] using this.symm
  refine ⟨fun i H Av tr p g hi => ⟨g, by omega⟩, fun i H Av tr p g hi => ⟨g, by omega⟩, fun i H Av x H' t tr p g e y => ?_⟩
  obtain ⟨rfl, k, v, e2, rfl⟩ := y
  refine .same tr ?_
  have r := reps_keys rd
  rw [← rd.keys'] at r
  obtain ⟨w, e3, h⟩ := r.get e
  rw [List.getElem?_map, e2] at e3
  cases e3
  exact rep_k' h
section
variable {X : Cx} {W : WX} {elt : E} {tg : Tg} {i : Nat} {cond : List E} {own : List (String × Nat)}
/-- [elt for tg in d if cond]: d a shared dict -/
theorem r_compK {σ : St} {H : Hp} {Q : VK} (htg : ∀ i ∈ tg.slots, i ∈ own.map (·.2)) (h : tE X.K X.mg W (.compK elt tg i cond own) σ H Q) :
    tLockE (tLc (iKeys (tVar i)) (tG X.K tg) (tC X.K X.mg W0 cond) (tE X.K X.mg W0 elt) (own.map (·.2))) σ H Q ∨ tLc (iKeys (tVar i)) (tG X.K tg) (tC X.K X.mg W0 cond) (tE X.K X.mg W0 elt) (own.map (·.2)) σ H Q := by
  obtain ⟨ρ, Av, rl, tr, p⟩ := h
  simp only [ev] at p
  cases e0 : keysAt ρ i with
  | none => rw [e0] at p; exact p.elim
  | some items =>
    rw [e0] at p
    simp only at p
    unfold keysAt at e0
    split at e0
    · rename_i kvs qs
      split at e0
      · rename_i hsz
        cases e0
        obtain ⟨v, ev, hr⟩ := rl.slot i _ qs
        simp only [SlotRep, Rep] at hr
        obtain ⟨d, ws, rfl, nd, x, rd⟩ := hr
        generalize hws : own.map (·.2) = wss at p htg ⊢
        cases ec : compLoop tg wss (fun ρ => evC cond ρ) (fun ρ => MP.ev elt ρ) (keysT kvs) ρ [] with
        | bad => rw [ec] at p; exact p.elim
        | exc c ρe => exact (compLoop_noexc ec).elim
        | ok tsf ρe =>
          rw [ec] at p
          simp only [Res.bind] at p
          have hlen : (keysT kvs).length ≤ 16777216 := by simpa [keysT] using hsz
          rcases x with x | ⟨od, x⟩
          · left
            refine ⟨d, .dK ws, x, trivial, fun od => ?_⟩
            have rl2 : Rel X.K Av ρ σ (upd H d (.frz od (.dK ws))) := Both.rel (.inl (lk_of od x)) nd (fun a z => upd_ne z) rl
            have tr2 : Tr Av (upd H d (.frz od (.dK ws))) := tr_upd tr
            have p2 := lock_fresh (od := od) (mg := X.mg) (W := W) rl tr nd x p
            exact ⟨.ref d, ev, d, od, rfl, .inl ⟨ws, upd_same, r_core (rs := []) (ts := []) (vs := []) (G := fun H => H d = some (.frz od (.dK ws))) htg rl2 (.refl rl2 tr2) .nil rfl hlen upd_same (fun Hc k => k d _ upd_same nd) (jok_keys rd) ec p2⟩⟩
          · right
            exact ⟨.ref d, ev, d, od, rfl, .inl ⟨ws, x, r_core (rs := []) (ts := []) (vs := []) (G := fun H => H d = some (.frz od (.dK ws))) htg rl (.refl rl tr) .nil rfl hlen x (fun Hc k => k d _ x nd) (jok_keys rd) ec p⟩⟩
      · cases e0
    · cases e0
end
end MP

namespace MP
open PySem PySem.Spec L2
open PyProof.Rows hiding St
def visB (sc : Scope) (x : Str) : Bool := decide (sc.names.lookup x = some .local) || decide (sc.names.lookup x = some .cell) || decide (sc.names.lookup x = some .free)
def gloB (sc : Scope) (x : Str) : Bool := decide (sc.names.lookup x = some .globalImplicit) && !(x == ("__debug__" : Str))
def plainB : Expr → Bool
  | .Starred .. => false
  | .Set .. => false
  | .Slice .. => false
  | _ => true
def Spk.bis : Spk → List String
  | .lrange1 | .lrange2 => ["list", "range"]
  | .minNone => ["min"]
  | .minOf => ["min"]
  | .disp => []
  | .sortset => ["sorted", "set"]
  | .lenset => ["len", "set"]
/-- the pairs of a display, one behind the other -/
def inter : List (Option Expr) → List Expr → Option (List Expr)
  | [], [] => some []
  | some k :: ks, v :: vs => (inter ks vs).map fun r => k :: v :: r
  | _, _ => none
/-- the parts of an expression of more than one node -/
def Spk.shape (sc : Scope) : Spk → Expr → Option (List Expr)
  | .lrange1, .Call (.Name x _) [.Call (.Name y _) [a] [] _] [] _ => if decide (x = ("list" : Str)) && gloB sc x && (decide (y = ("range" : Str)) && gloB sc y) then some [a] else none
  | .lrange2, .Call (.Name x _) [.Call (.Name y _) [a, b] [] _] [] _ => if decide (x = ("list" : Str)) && gloB sc x && (decide (y = ("range" : Str)) && gloB sc y) then some [a, b] else none
  | .minNone, .Call (.Name x _) [a] [⟨some k, .Constant .none _ _, _⟩] _ => if decide (x = ("min" : Str)) && gloB sc x && decide (k = ("default" : Str)) then some [a] else none
  | .minOf, .Call (.Name x _) [a] [] _ => if decide (x = ("min" : Str)) && gloB sc x then some [a] else none
  | .sortset, .Call (.Name x _) [.Call (.Name y _) [a] [] _] [] _ => if decide (x = ("sorted" : Str)) && gloB sc x && (decide (y = ("set" : Str)) && gloB sc y) then some [a] else none
  | .lenset, .Call (.Name x _) [.Call (.Name y _) [a] [] _] [] _ => if decide (x = ("len" : Str)) && gloB sc x && (decide (y = ("set" : Str)) && gloB sc y) then some [a] else none
  | .disp, .Dict keys values _ => if keys.all (·.isSome) && decide (keys.length = values.length) && !keys.isEmpty && decide (keys.length ≤ 15) then inter keys values else none
  | _, _ => none
/-- what a context has, an except suite's, too -/
structure GdH (X : Cx) (N : List Str) (sc : Scope) (k : Nat) : Prop where
  nodup : X.N.Nodup
  n : X.N = N
  sc : X.env.scope = sc
  un : X.A.units + 200 < cLine
structure Gd (X : Cx) (N : List Str) (sc : Scope) (k : Nat) : Prop extends GdH X N sc k where
  calm : X.calm = true
  room : Room k X.A
theorem Gd.mk' {X : Cx} {N : List Str} {sc : Scope} {k : Nat} (c : X.calm = true) (d : X.N.Nodup) (e : X.N = N) (s : X.env.scope = sc) (r : Room k X.A) : Gd X N sc k := ⟨⟨d, e, s, by have := r.un; omega⟩, c, r⟩
/-- the two ways to ask -/
def PB (X : Cx) (W : WX) (e : E) (a : Expr) : Prop := PE X a (tE X.K X.mg W e) ∧ PT X a (tT X.K X.mg W e)
def PBs (X : Cx) (W : WX) : List E → List Expr → Prop
  | [], as => as = []
  | e :: es, as => ∃ a r, as = a :: r ∧ plainB a = true ∧ PB X W e a ∧ PBs X W es r
/-- a form beside the core's -/
def Spk.opt : Spk → Bool
  | .sortset | .lenset => true
  | _ => false
def SpkOk (k : Spk) : Prop := ∀ {X : Cx} {W : WX} {N : List Str} {sc : Scope} {kk : Nat} {es : List E} {e : Expr} {as : List Expr}, Gd X N sc kk → k.shape sc e = some as → PBs X W es as → (∀ x ∈ k.bis, X.mg (x : Str) = none) → PE X e (tE X.K X.mg W (.spec k es))
/-! ## a checked expression is worth what the evaluator says -/
inductive Need where
  | fn (nm : String) (f : Fn) | glob (x : String) (t : T) | bi (x : String) | exc (c : String) | isx (cs xs : List String) (tys : List Tn) | spk (k : Spk) | tryx (xs : List String)
def NeedOk (P : Program) (w : World) (K : PySem.W.Frag) (mg : Str → Option Value) (base : Heap) (k : Nat) : Need → Prop
  | .fn nm f => ∃ addr fd ps, FnOk P w K mg base (L2.CX P w) k addr fd ps (spOf K mg f) ∧ mg (nm : Str) = some (.ref addr) ∧ PySem.W.keepIn K (.ref addr) = true ∧ Binds K fd ps []
  | .glob x t => ∃ v u, mg (x : Str) = some u ∧ RelV v u ∧ ∀ H Av, Rep K H Av t v
  | .bi x => mg (x : Str) = none
  | .exc c => ∃ (C : Addr) (bmB : List Value) (B newId initId : String), PySem.ExcBaseFacts B newId initId bmB ∧ PySem.W.excIn K C bmB newId = true ∧ mg (c : Str) = some (.ref C) ∧ PySem.W.keepIn K (.ref C) = true ∧
      PySem.W.subIn K (.ref C) (.type "BaseException") = some true ∧ PySem.W.typeIn K (.ref C) = some (.type "type")
  | .isx cs xs tys => IsxOk K mg cs xs tys
  | .spk k => SpkOk k
  | .tryx xs => ∃ DM, mg ("MarkError" : Str) = some (.ref DM) ∧ ∀ c ∈ xs, ∃ D, mg (c : Str) = some (.ref D) ∧ PySem.W.nsIn K mainGlobals (c : Str) = some (some (.ref D)) ∧ PySem.W.exmOne K (.ref D) (.ref DM) = some true
def ItK.bi : ItK → String
  | .enum => "enumerate"
  | .zip => "zip"
  | .reversed => "reversed"
  | .revrange => "reversed"
  | _ => "range"
mutual
def needs : E → List Need
  | .glob x t => [.glob x t]
  | .un _ a => needs a
  | .bin _ a b => needs a ++ needs b
  | .cmp _ a b => needs a ++ needs b
  | .cmp2 _ _ a b c => needs a ++ needs b ++ needs c
  | .and_ es => needsL es
  | .or_ es => needsL es
  | .ite c a b => needs c ++ needs a ++ needs b
  | .tup es => needsL es
  | .lst es => needsL es
  | .sub a i => needs a ++ needs i
  | .slc a lo hi => needs a ++ needsL lo ++ needsL hi
  | .rev a => needs a
  | .call nm f args => .fn nm f :: needsL args
  | .blt b args => .bi b.name :: needsL args
  | .meth _ o args => needs o ++ needsL args
  | .mut _ _ args => needsL args
  | .isi a tys => .bi "isinstance" :: (tys.map fun t => Need.bi t.name) ++ needs a
  | .comp elt _ k its cond _ => .bi k.bi :: .bi "range" :: needsL its ++ needsL cond ++ needs elt
  | .spec k args => k.bis.map Need.bi ++ (if k.opt then [.spk k] else []) ++ needsL args
  | .isx a cs xs tys => .isx cs xs tys :: needs a
  | .cmp3 _ _ _ a b c d => needs a ++ needs b ++ needs c ++ needs d
  | .compK elt _ _ cond _ => needsL cond ++ needs elt
  | _ => []
def needsL : List E → List Need
  | [] => []
  | e :: es => needs e ++ needsL es
end
def nameOk (N : List Str) (sc : Scope) (i : Nat) (x : Str) : Bool := decide (N[i]? = some x) && visB sc x && !(x == ("__debug__" : Str)) && !(x == ("__classdict__" : Str))
def baseB : Expr → Bool
  | .Call _ [] _ _ => false
  | _ => true
def constOk : T → Const → Bool
  | .non, .none => true
  | .bl b, .bool c => b == c
  | .int i, .int j => decide (i = j)
  | .str s, .str x => decide (x = S2 s) && sok s
  | _, _ => false
def ckTys (sc : Scope) : List Tn → List Expr → Bool
  | [], [] => true
  | y :: ys, .Name x _ :: ns => decide (x = (y.name : Str)) && decide (y ≠ .non) && gloB sc x && ckTys sc ys ns
  | _, _ => false
def ckCls (sc : Scope) : List String → List Expr → Bool
  | [], [] => true
  | y :: ys, .Name x _ :: ns => decide (x = (y : Str)) && gloB sc x && ckCls sc ys ns
  | _, _ => false
/-- what stands in a for's iterable -/
def itArgs (sc : Scope) : ItK → Expr → Expr → Option (List Expr)
  | .val, _, it => some [it]
  | .range, _, .Call (.Name x _) [a] [] _ => if decide (x = ("range" : Str)) && gloB sc x then some [a] else none
  | .range, _, .Call (.Name x _) [a, b] [] _ => if decide (x = ("range" : Str)) && gloB sc x then some [a, b] else none
  | .range, _, .Call (.Name x _) [a, b, c] [] _ => if decide (x = ("range" : Str)) && gloB sc x then some [a, b, c] else none
  | .revrange, _, .Call (.Name x _) [.Call (.Name y _) [a] [] _] [] _ => if decide (x = ("reversed" : Str)) && gloB sc x && (decide (y = ("range" : Str)) && gloB sc y) then some [a] else none
  | .enum, .Tuple _ _ _, .Call (.Name x _) [a] [] _ => if decide (x = ("enumerate" : Str)) && gloB sc x then some [a] else none
  | .zip, .Tuple _ _ _, .Call (.Name x _) [a, b] [] _ => if decide (x = ("zip" : Str)) && gloB sc x then some [a, b] else none
  | .reversed, _, .Call (.Name x _) [a] [] _ => if decide (x = ("reversed" : Str)) && gloB sc x then some [a] else none
  | _, _, _ => none
def Mth.okArgs : Mth → Nat → Bool
  | .join, 1 | .find, 1 | .index, 1 | .get, 1 | .get, 2 | .startswith, 2 | .count, 1 | .endswith, 1 => true
  | _, _ => false
mutual
def ckE (N : List Str) : Scope → E → Expr → Bool
  | _, .lit t, e => (match e with
    | .Constant c _ _ => constOk t c
    | _ => false)
  | sc, .glob x t, e => (match e with
    | .Name y _ => decide (y = (x : Str)) && gloB sc y
    | _ => false)
  | sc, .var i, e => (match e with
    | .Name x _ => nameOk N sc i x
    | _ => false)
  | sc, .un .neg a, e => (match e with
    | .UnaryOp .USub x _ => ckE N sc a x
    | _ => false)
  | sc, .un .not a, e => (match e with
    | .UnaryOp .Not x _ => ckE N sc a x
    | _ => false)
  | sc, .bin op a b, e => (match e with
    | .BinOp x o y _ => decide (o = op.ast) && ckE N sc a x && ckE N sc b y
    | _ => false)
  | sc, .cmp op a b, e => (match e with
    | .Compare x [o] [y] _ => decide (o = op.ast) && ckE N sc a x && ckE N sc b y && !(behindInMarks op.ast y)
    | _ => false)
  | sc, .cmp2 o1 o2 a b c, e => (match e with
    | .Compare x [p1, p2] [y, z] _ => decide (p1 = o1.ast) && decide (p2 = o2.ast) && ckE N sc a x && ckE N sc b y && ckE N sc c z && !(lastMarks [o1.ast, o2.ast] [y, z])
    | _ => false)
  | sc, .and_ es, e => (match e with
    | .BoolOp .And xs _ => ckEs N sc es xs && !xs.isEmpty
    | _ => false)
  | sc, .or_ es, e => (match e with
    | .BoolOp .Or xs _ => ckEs N sc es xs && !xs.isEmpty
    | _ => false)
  | sc, .ite c a b, e => (match e with
    | .IfExp x y z _ => ckE N sc c x && ckE N sc a y && ckE N sc b z
    | _ => false)
  | sc, .tup es, e => (match e with
    | .Tuple xs _ _ => ckEs N sc es xs
    | _ => false)
  | sc, .lst es, e => (match e with
    | .List xs _ => ckEs N sc es xs
    | _ => false)
  | _, .dct0, e => (match e with
    | .Dict [] [] _ => true
    | _ => false)
  | sc, .sub a i, e => (match e with
    | .Subscript x y _ => ckE N sc a x && ckE N sc i y && plainB y
    | _ => false)
  | sc, .slc a lo hi, e => (match e with
    | .Subscript x (.Slice l h none _) _ => ckE N sc a x && ckO N sc lo l && ckO N sc hi h
    | _ => false)
  | sc, .rev a, e => (match e with
    | .Subscript x (.Slice none none (some (.UnaryOp .USub (.Constant (.int 1) _ _) _)) _) _ => ckE N sc a x
    | _ => false)
  | sc, .call nm _ es, e => (match e with
    | .Call (.Name x _) (a :: as) [] _ => decide (x = (nm : Str)) && gloB sc x && ckEs N sc es (a :: as)
    | .Call (.Name x _) [] [] _ => decide (x = (nm : Str)) && gloB sc x && es.isEmpty
    | _ => false)
  | sc, .blt b es, e => (match e with
    | .Call (.Name x _) (a :: as) [] _ => decide (x = (b.name : Str)) && gloB sc x && ckEs N sc es (a :: as)
    | _ => false)
  | sc, .meth m o es, e => (match e with
    | .Call (.Attribute x at_ p) ys [] q => decide (at_ = (m.name : Str)) && m.okArgs ys.length && ckE N sc o x && ckEs N sc es ys && baseB x && (p.endLine == q.line)
    | _ => false)
  | sc, .mut m i es, e => (match e with
    | .Call (.Attribute (.Name x _) at_ p) xs [] q => decide (at_ = (m.name : Str)) && (!m.dict || decide (xs.length = 2)) && nameOk N sc i x && (p.endLine == q.line) && ckEs N sc es xs && decide (xs.length < 30)
    | _ => false)
  | sc, .isi a tys, e => (match e with
    | .Call (.Name f _) [x, .Name y _] [] _ => decide (f = ("isinstance" : Str)) && gloB sc f && ckE N sc a x && plainB x && ckTys sc tys [.Name y default]
    | .Call (.Name f _) [x, .Tuple ns _ _] [] _ => decide (f = ("isinstance" : Str)) && gloB sc f && ckE N sc a x && plainB x && ckTys sc tys ns && decide (tys.length ≤ 100)
    | _ => false)
  | sc, .comp elt tg k es cond own, e => (match e with
    | .ListComp x [⟨t, it, ifs, 0⟩] scope _ => blkC N sc scope (own.map fun p => ((p.1 : Str), p.2)) && ckTg N scope tg t && (tg.slots.all fun i => decide (i ∈ own.map (·.2))) &&
        (match itArgs sc k t it with
        | some as => ckEs N sc es as
        | none => false) && plainB it && ckEs N (relS scope sc) cond ifs && decide (ifs.length ≤ 1) && ckE N (relS scope sc) elt x
    | _ => false)
  | sc, .spec k es, e => (match k.shape sc e with
    | some as => ckEs N sc es as
    | none => false)
  | sc, .compK elt tg i cond own, e => (match e with
    | .ListComp x [⟨t, .Name nm _, ifs, 0⟩] scope _ => blkC N sc scope (own.map fun p => ((p.1 : Str), p.2)) && ckTg N scope tg t && (tg.slots.all fun i => decide (i ∈ own.map (·.2))) &&
        nameOk N sc i nm && ckEs N (relS scope sc) cond ifs && decide (ifs.length ≤ 1) && ckE N (relS scope sc) elt x
    | _ => false)
  | sc, .isx a cs _ _, e => (match e with
    | .Call (.Name f _) [x, .Name y _] [] _ => decide (f = ("isinstance" : Str)) && gloB sc f && ckE N sc a x && plainB x && ckCls sc cs [.Name y default]
    | .Call (.Name f _) [x, .Tuple ns _ _] [] _ => decide (f = ("isinstance" : Str)) && gloB sc f && ckE N sc a x && plainB x && ckCls sc cs ns && decide (cs.length ≤ 100) && !cs.isEmpty
    | _ => false)
  | sc, .cmp3 o1 o2 o3 a b c d, e => (match e with
    | .Compare x [p1, p2, p3] [y, z, w] _ => decide (p1 = o1.ast) && decide (p2 = o2.ast) && decide (p3 = o3.ast) && ckE N sc a x && ckE N sc b y && ckE N sc c z && ckE N sc d w && !(lastMarks [o1.ast, o2.ast, o3.ast] [y, z, w])
    | _ => false)
def ckEs (N : List Str) : Scope → List E → List Expr → Bool
  | _, [], xs => xs.isEmpty
  | sc, e :: es, xs => (match xs with
    | y :: ys => plainB y && ckE N sc e y && ckEs N sc es ys
    | [] => false)
def ckO (N : List Str) : Scope → List E → Option Expr → Bool
  | _, [], x => x.isNone
  | sc, [e], x => (match x with
    | some y => ckE N sc e y
    | none => false)
  | _, _ :: _ :: _, _ => false
end
theorem GdH.hu {X : Cx} {N : List Str} {sc : Scope} {k : Nat} (g : GdH X N sc k) : X.A.units + 65 < cLine := by have := g.un; omega
theorem GdH.hu1 {X : Cx} {N : List Str} {sc : Scope} {k : Nat} (g : GdH X N sc k) : X.A.units + 1 < cLine := by have := g.un; omega
theorem GdH.vis {X : Cx} {N : List Str} {sc : Scope} {k : Nat} (g : GdH X N sc k) {x : Str} (h : visB sc x = true) : Vis X.env.scope x := by
  simp only [visB, Bool.or_eq_true, decide_eq_true_eq] at h
  rw [g.sc]; exact or_assoc.mp h
theorem GdH.gl {X : Cx} {N : List Str} {sc : Scope} {k : Nat} (g : GdH X N sc k) {x : Str} (h : gloB sc x = true) : Gl X x ∧ (x == ("__debug__" : Str)) = false := by
  simp only [gloB, Bool.and_eq_true, decide_eq_true_eq, Bool.not_eq_true'] at h
  exact ⟨by show X.env.scope.names.lookup x = _; rw [g.sc]; exact h.1, h.2⟩
theorem GdH.nm {X : Cx} {N : List Str} {sc : Scope} {k : Nat} (g : GdH X N sc k) {i : Nat} {x : Str} {p : Pos} (h : nameOk N sc i x = true) : PE X (.Name x p) (tVar i) := by
  simp only [nameOk, Bool.and_eq_true, decide_eq_true_eq, Bool.not_eq_true'] at h
  exact pe_var (by rw [g.n]; exact h.1.1.1) (g.vis h.1.1.2) h.1.2 h.2
theorem star_plain {a : Expr} {as : List Expr} {env : PySem.Env} (h : plainB a = true) : starEach (a :: as) env = (false, eval a env) :: starEach as env := by
  cases a <;> first | rfl | (simp [plainB] at h)
theorem star_all {N : List Str} {sc : Scope} {env : PySem.Env} : ∀ {es : List E} {as : List Expr}, ckEs N sc es as = true → (starEach as env).all (fun x => !x.1) = true
  | [], as, h => by simp only [ckEs, List.isEmpty_iff] at h; subst h; rfl
  | e :: es, [], h => by simp [ckEs] at h
  | e :: es, a :: as, h => by
    simp only [ckEs, Bool.and_eq_true] at h
    rw [star_plain h.1.1]
    simpa using star_all h.2
theorem base_plain {o : Expr} {at_ : Str} {env : PySem.Env} {wh : Sem Value} (h : baseB o = true) : attributeBase o at_ env wh = wh := by
  cases o <;> first | rfl | skip
  rename_i f as ks p
  cases as with
  | nil => simp [baseB] at h
  | cons a as => cases f <;> rfl
theorem plain_ix {b : Expr} (h : plainB b = true) : PlainIx b := fun o i => by
  cases b <;> first | rfl | (simp [plainB] at h)
theorem plain_fold {b : Expr} (h : plainB b = true) (env : PySem.Env) (x : Value) : foldedSetIterable b env x = pure x := by
  cases b <;> first | rfl | (simp [plainB] at h)
theorem _root_.L2.PTs.weaken {X : Cx} {a : List Expr} {t t' : TT} (h : PTs X a t) (i : ∀ σ H Q, t' σ H Q → t σ H Q) : PTs X a t' := ⟨fun pins s σ H Q I q => h.run pins s σ H Q I (i σ H Q q)⟩
end MP

namespace MP
open PySem PySem.Spec L2
open PyProof.Rows hiding St
section
variable {X : Cx} {W : WX} {a b c : Expr} {ea eb ec : E} {pos : Pos}
theorem pt_ite (hc : PT X c (tT X.K X.mg W ec)) (ha : PT X a (tT X.K X.mg W ea)) (hb : PT X b (tT X.K X.mg W eb)) : PT X (.IfExp c a b pos) (tT X.K X.mg W (.ite ec ea eb)) := by
  have r : PT X (.IfExp c a b pos) (fun σ H Q => tT X.K X.mg W ec σ H fun k H1 => if k = true then tT X.K X.mg W ea σ H1 Q else tT X.K X.mg W eb σ H1 Q) := by
    refine ⟨fun pins s σ H Q I h => ?_⟩
    show wpAny _ _ (isTrue (.IfExp c a b pos) X.env _) _ _ _
    unfold PySem.isTrue
    refine wpAny_bind (thn (hc.run pins s σ H _ I h) fun d s1 ⟨H1, I1, q1⟩ => ?_)
    cases d with
    | true => exact ha.run pins s1 σ H1 Q I1 q1
    | false => exact hb.run pins s1 σ H1 Q I1 q1
  refine r.weaken fun σ H Q ⟨ρ, Av, rl, tr, p⟩ => ?_
  have e : truthR (ev (.ite ec ea eb) ρ) = (truthR (ev ec ρ)).bind fun k ρ => if k = true then truthR (ev ea ρ) else truthR (ev eb ρ) := by
    simp only [ev, truthR]
    cases ev ec ρ with
    | ok r ρ1 =>
      simp only [Res.bind]
      cases (r.get ρ1).bind T.truth with
      | none => rfl
      | some k => cases k <;> rfl
    | exc c ρ1 => rfl
    | bad => rfl
  rw [e] at p
  refine ⟨ρ, Av, rl, tr, (p.bind rl).mono fun x H1 ⟨r, ρ1, Av1, _, n1, q1, p1⟩ => ?_⟩
  subst q1
  cases r with
  | true => exact iteT ⟨ρ1, Av1, n1.rel, n1.tr, p1⟩
  | false => exact iteF ⟨ρ1, Av1, n1.rel, n1.tr, p1⟩
end
def plainTB : Expr → Bool
  | .UnaryOp .Not _ _ => false
  | .BoolOp .. => false
  | .IfExp .. => false
  | .Compare .. => false
  | _ => true
theorem plain_t {a : Expr} {env : PySem.Env} (h : plainTB a = true) :
    ∀ whole, isTrue a env whole = (do let v ← whole; standAt a.pos; holding [v] (truthy v)) := by
  cases a <;> first | (intro w; rfl) | (cases h; done) | skip
  rename_i op x p
  cases op <;> first | (intro w; rfl) | (cases h; done)
theorem PBs.pa {X : Cx} {W : WX} : ∀ {es : List E} {as : List Expr}, PBs X W es as → PA X as (tEs X.K X.mg W es)
  | [], as, h => by cases h; exact s_args0
  | e :: es, as, h => by
    obtain ⟨a, r, rfl, hp, h1, h2⟩ := h
    exact s_argsC h1.1 h2.pa (star_plain hp)
theorem PBs.one {X : Cx} {W : WX} {es : List E} {a : Expr} (h : PBs X W es [a]) : ∃ e, es = [e] ∧ PB X W e a ∧ starEach [a] X.env = [(false, eval a X.env)] := by
  cases es with
  | nil => cases h
  | cons e es =>
    obtain ⟨a', r, e1, hp, h1, h2⟩ := h
    cases e1
    cases es with
    | nil => exact ⟨e, rfl, h1, star_plain hp⟩
    | cons _ _ => obtain ⟨_, _, e2, _⟩ := h2; cases e2
theorem PBs.two {X : Cx} {W : WX} {es : List E} {a b : Expr} (h : PBs X W es [a, b]) : ∃ e f, es = [e, f] ∧ PB X W e a ∧ PB X W f b ∧ starEach [a, b] X.env = [(false, eval a X.env), (false, eval b X.env)] ∧ starEach [b] X.env = [(false, eval b X.env)] := by
  cases es with
  | nil => cases h
  | cons e es =>
    obtain ⟨a', r, e1, hp, h1, h2⟩ := h
    cases e1
    obtain ⟨f, rfl, h3, h4⟩ := h2.one
    exact ⟨e, f, rfl, h1, h3, by rw [star_plain hp, h4], h4⟩
theorem PBs.and {X : Cx} {W : WX} {pos : Pos} : ∀ {es : List E} {as : List Expr}, PBs X W es as → as ≠ [] → PB X W (.and_ es) (.BoolOp .And as pos) := by
  have go : ∀ (es : List E) (as : List Expr), PBs X W es as → as ≠ [] → PE X (.BoolOp .And as pos) (tAnds X.K X.mg W es) ∧ PW X (.BoolOp .And as pos) (tAndsT X.K X.mg W es) := by
    intro es
    induction es with
    | nil => intro as h n; exact absurd h n
    | cons e es ih =>
      intro as h n
      obtain ⟨a, r, rfl, hp, h1, h2⟩ := h
      cases es with
      | nil => cases h2; exact ⟨s_and1 h1.1, t_and1 h1.2⟩
      | cons f es =>
        obtain ⟨i1, i2⟩ := ih r h2 (by obtain ⟨_, _, e, _⟩ := h2; rw [e]; exact List.cons_ne_nil _ _)
        obtain ⟨b, r2, rfl, _⟩ := h2
        exact ⟨s_andC h1.1 i1, t_andC h1.2 i2⟩
  intro es as h n
  obtain ⟨h1, h2⟩ := go es as h n
  exact ⟨h1.weaken fun σ H Q ⟨ρ, Av, rl, tr, p⟩ => ⟨ρ, Av, rl, tr, by simpa only [ev] using p⟩, h2.pt.weaken fun σ H Q ⟨ρ, Av, rl, tr, p⟩ => ⟨ρ, Av, rl, tr, by simpa only [ev] using p⟩⟩
theorem PBs.or {X : Cx} {W : WX} {pos : Pos} : ∀ {es : List E} {as : List Expr}, PBs X W es as → as ≠ [] → PB X W (.or_ es) (.BoolOp .Or as pos) := by
  have go : ∀ (es : List E) (as : List Expr), PBs X W es as → as ≠ [] → PE X (.BoolOp .Or as pos) (tOrs X.K X.mg W es) ∧ PW X (.BoolOp .Or as pos) (tOrsT X.K X.mg W es) := by
    intro es
    induction es with
    | nil => intro as h n; exact absurd h n
    | cons e es ih =>
      intro as h n
      obtain ⟨a, r, rfl, hp, h1, h2⟩ := h
      cases es with
      | nil => cases h2; exact ⟨s_or1 h1.1, t_or1 h1.2⟩
      | cons f es =>
        obtain ⟨i1, i2⟩ := ih r h2 (by obtain ⟨_, _, e, _⟩ := h2; rw [e]; exact List.cons_ne_nil _ _)
        obtain ⟨b, r2, rfl, _⟩ := h2
        exact ⟨s_orC h1.1 i1, t_orC h1.2 i2⟩
  intro es as h n
  obtain ⟨h1, h2⟩ := go es as h n
  exact ⟨h1.weaken fun σ H Q ⟨ρ, Av, rl, tr, p⟩ => ⟨ρ, Av, rl, tr, by simpa only [ev] using p⟩, h2.pt.weaken fun σ H Q ⟨ρ, Av, rl, tr, p⟩ => ⟨ρ, Av, rl, tr, by simpa only [ev] using p⟩⟩
/-- what a context has -/
structure Has (X : Cx) (k : Nat) (ns : List Need) : Prop where
  ok : ∀ n ∈ ns, NeedOk X.prog X.w X.K X.mg X.base k n
theorem Has.l {X : Cx} {k : Nat} {a b : List Need} (h : Has X k (a ++ b)) : Has X k a := ⟨fun n m => h.ok n (List.mem_append.mpr (.inl m))⟩
theorem Has.r {X : Cx} {k : Nat} {a b : List Need} (h : Has X k (a ++ b)) : Has X k b := ⟨fun n m => h.ok n (List.mem_append.mpr (.inr m))⟩
theorem Has.tl {X : Cx} {k : Nat} {a : Need} {b : List Need} (h : Has X k (a :: b)) : Has X k b := ⟨fun n m => h.ok n (List.mem_cons_of_mem _ m)⟩
theorem Has.hd {X : Cx} {k : Nat} {a : Need} {b : List Need} (h : Has X k (a :: b)) : NeedOk X.prog X.w X.K X.mg X.base k a := h.ok a (by simp)
theorem tys_ok {X : Cx} {N : List Str} {sc : Scope} {k : Nat} (g : GdH X N sc k) : ∀ {ys : List Tn} {ns : List Expr}, ckTys sc ys ns = true → Has X k (ys.map fun t => Need.bi t.name) → ns.length = ys.length ∧
    ∀ (i : Nat) (y : Tn) (n : Expr), ys[i]? = some y → ns[i]? = some n → y ≠ .non ∧ Gl X (y.name : Str) ∧ X.mg (y.name : Str) = none ∧ ∃ q, n = .Name (y.name : Str) q
  | [], [], _, _ => ⟨rfl, by simp⟩
  | y :: ys, n :: ns, h, hn => by
    cases n <;> simp only [ckTys, Bool.and_eq_true, decide_eq_true_eq, Bool.false_eq_true] at h
    rename_i x p
    obtain ⟨⟨⟨rfl, h2⟩, h3⟩, h4⟩ := h
    obtain ⟨i1, i2⟩ := tys_ok g h4 hn.tl
    refine ⟨by simp [i1], fun i y' n' e e' => ?_⟩
    cases i with
    | zero => cases e; cases e'; exact ⟨h2, (g.gl h3).1, hn.hd, _, rfl⟩
    | succ i => exact i2 i y' n' (by simpa using e) (by simpa using e')
  | [], _ :: _, h, _ => by simp [ckTys] at h
  | _ :: _, [], h, _ => by simp [ckTys] at h
theorem cls_ok {X : Cx} {N : List Str} {sc : Scope} {k : Nat} {xs : List String} {tys : List Tn} (g : GdH X N sc k) : ∀ {cs : List String} {ns : List Expr}, ckCls sc cs ns = true → (∀ d ∈ cs, ∃ u, IsxAt X.K X.mg xs tys d u) → ns.length = cs.length ∧
    ∀ (i : Nat) (d : String) (n : Expr), cs[i]? = some d → ns[i]? = some n → (∃ u, IsxAt X.K X.mg xs tys d u) ∧ Gl X (d : Str) ∧ ((d : Str) == ("__debug__" : Str)) = false ∧ ∃ q, n = .Name (d : Str) q
  | [], [], _, _ => ⟨rfl, by simp⟩
  | y :: ys, n :: ns, h, hn => by
    cases n <;> simp only [ckCls, Bool.and_eq_true, decide_eq_true_eq, Bool.false_eq_true] at h
    rename_i x p
    obtain ⟨⟨rfl, h3⟩, h4⟩ := h
    obtain ⟨i1, i2⟩ := cls_ok g h4 fun d m => hn d (List.mem_cons_of_mem _ m)
    refine ⟨by simp [i1], fun i y' n' e e' => ?_⟩
    cases i with
    | zero => cases e; cases e'; exact ⟨hn y (by simp), (g.gl h3).1, (g.gl h3).2, _, rfl⟩
    | succ i => exact i2 i y' n' (by simpa using e) (by simpa using e')
  | [], _ :: _, h, _ => by simp [ckCls] at h
  | _ :: _, [], h, _ => by simp [ckCls] at h
end MP

namespace MP
open PySem PySem.Spec L2
open PyProof.Rows hiding St
/-! ## a dict's display -/
def tPs (K : PySem.W.Frag) (mg : Str → Option Value) (W : WX) : List E → List (TE × TE)
  | a :: b :: r => (tE K mg W a, tE K mg W b) :: tPs K mg W r
  | _ => []
section
variable {X : Cx} {W : WX}
theorem tPs_read : ∀ {n : Nat} {es : List E} {σ : St} {H : Hp} {Q : List V → Hp → Prop}, es.length = 2 * n → tEs X.K X.mg W es σ H Q → tPairs (tPs X.K X.mg W es) σ H fun ps H1 => Q (ps.flatMap fun p => [p.1, p.2]) H1
  | 0, es, σ, H, Q, hl, h => by
    cases es with
    | cons _ _ => simp at hl
    | nil =>
      obtain ⟨ρ, Av, rl, tr, p⟩ := h
      simp only [evs] at p
      exact p [] Av H (.refl rl tr) .nil
  | n + 1, es, σ, H, Q, hl, h => by
    match es, hl with
    | [], hl => simp at hl
    | [_], hl => simp at hl; omega
    | a :: b :: r, hl =>
      obtain ⟨ρ, Av, rl, tr, p⟩ := h
      simp only [evs, Res.bind_assoc] at p
      refine ⟨ρ, Av, rl, tr, ?_⟩
      cases e1 : ev a ρ with
      | bad => rw [e1] at p; exact p.elim
      | exc c ρ1 => rw [e1] at p; exact p
      | ok r1 ρ1 =>
        rw [e1] at p
        intro v Av1 H1 n1 q1
        refine ⟨ρ1, Av1, n1.rel, n1.tr, ?_⟩
        simp only [Res.bind] at p
        cases e2 : ev b ρ1 with
        | bad => rw [e2] at p; exact p.elim
        | exc c ρ2 => rw [e2] at p; exact fun cls Av2 H2 m n2 => p cls Av2 H2 m (n1.trans rl n2)
        | ok r2 ρ2 =>
          rw [e2] at p
          intro w Av2 H2 n2 q2
          simp only at p
          have n12 := n1.trans rl n2
          refine tPs_read (n := n) (es := r) (σ := σ) (H := H2) (Q := fun xs H3 => Q (v :: w :: xs) H3) (by simp at hl; omega) ⟨ρ2, Av2, n2.rel, n2.tr, ?_⟩
          · cases e3 : evs r ρ2 with
            | bad => rw [e3] at p; exact p.elim
            | exc c ρ3 => rw [e3] at p; exact fun cls Av3 H3 m n3 => p cls Av3 H3 m (n12.trans rl n3)
            | ok rs ρ3 =>
              rw [e3] at p
              intro xs Av3 H3 n3 q3
              exact p (v :: w :: xs) Av3 H3 (n12.trans rl n3) (.cons (n3.repR n2.rel (n2.repR n1.rel q1)) (.cons (n3.repR n2.rel (n1.backR (n1.shp.trans n2.shp) q2)) (RpOk.back (rp := RepRs X.K) n12 (n12.shp.trans n3.shp) q3)))
def unflat : List V → List (V × V)
  | x :: y :: r => (x, y) :: unflat r
  | _ => []
theorem unflat_flat : ∀ ps : List (V × V), unflat (ps.flatMap fun p => [p.1, p.2]) = ps
  | [] => rfl
  | p :: ps => by
    simp only [List.flatMap_cons, List.cons_append, List.nil_append, unflat, unflat_flat ps]
theorem flat_of : ∀ {n : Nat} {xs : List V}, xs.length = 2 * n → ∃ ps : List (V × V), xs = ps.flatMap fun p => [p.1, p.2]
  | 0, xs, h => by
    cases xs with
    | nil => exact ⟨[], rfl⟩
    | cons _ _ => simp at h
  | n + 1, xs, h => by
    match xs, h with
    | [], h => simp at h
    | [_], h => simp at h; omega
    | x :: y :: r, h =>
      obtain ⟨ps, rfl⟩ := flat_of (n := n) (xs := r) (by simp at h; omega)
      exact ⟨(x, y) :: ps, rfl⟩
theorem kvsOf_at {K : PySem.W.Frag} {H : Hp} {Av : Addr → Prop} : ∀ {n : Nat} {ts : List T} {kvs : List (Kt × T)} {ps : List (V × V)}, ts.length = 2 * n → Paired (Rdb K H Av) ts (ps.flatMap fun p => [p.1, p.2]) → kvsOf ts = some kvs → ∃ ws : List (Key × V), ps = ws.map (fun kv => (kV kv.1, kv.2)) ∧ RepD K H Av kvs ws ∧ ws.length = n
  | 0, ts, kvs, ps, hl, pr, e => by
    cases ts with
    | cons _ _ => simp at hl
    | nil =>
      simp only [kvsOf, Option.some.injEq] at e
      subst e
      cases ps with
      | nil => exact ⟨[], rfl, .nil', rfl⟩
      | cons p ps => simp at pr; cases pr
  | n + 1, ts, kvs, ps, hl, pr, e => by
    match ts, hl with
    | [], hl => simp at hl
    | [_], hl => simp at hl; omega
    | k :: t :: r, hl =>
      simp only [kvsOf, Option.bind_eq_some_iff] at e
      obtain ⟨kk, e1, e⟩ := e
      split at e
      · rename_i hat
        simp only [Option.map_eq_some_iff] at e
        obtain ⟨kvs2, e2, rfl⟩ := e
        cases ps with
        | nil => simp at pr; cases pr
        | cons p ps =>
          obtain ⟨x, y⟩ := p
          simp only [List.flatMap_cons, List.cons_append, List.nil_append] at pr
          cases pr with
          | cons h1 pr =>
            cases pr with
            | cons h2 pr =>
              obtain ⟨ws, rfl, rd, hn⟩ := kvsOf_at (n := n) (by simp at hl; omega) pr e2
              obtain ⟨rfl, hk, _⟩ := rdb_k e1 h1
              refine ⟨(keyOf kk, y) :: ws, by simp only [List.map_cons, kV_key], ?_, by simp [hn]⟩
              simp only [RepD]
              exact ⟨y, ws, rfl, ⟨rdb_rep h2 hat, hk⟩, rd⟩
      · cases e
theorem pbs_pps {pos : Pos} : ∀ {keys : List (Option Expr)} {values as : List Expr} {es : List E}, inter keys values = some as → PBs X W es as → PPs X pos keys values (tPs X.K X.mg W es) ∧ es.length = 2 * keys.length
  | [], [], as, es, e, h => by
    simp only [inter, Option.some.injEq] at e
    subst e
    cases es with
    | nil => exact ⟨pps_nil, rfl⟩
    | cons _ _ => obtain ⟨_, _, z, _⟩ := h; cases z
  | some k :: ks, v :: vs, as, es, e, h => by
    simp only [inter, Option.map_eq_some_iff] at e
    obtain ⟨r, e, rfl⟩ := e
    cases es with
    | nil => cases h
    | cons a es =>
      obtain ⟨k', r', e1, _, h1, h⟩ := h
      cases e1
      cases es with
      | nil => cases h
      | cons b es =>
        obtain ⟨v', r'', e2, _, h2, h⟩ := h
        cases e2
        obtain ⟨i1, i2⟩ := pbs_pps e h
        exact ⟨pps_cons h1.1 h2.1 i1, by simp [i2]; omega⟩
  | [], _ :: _, _, _, e, _ => by simp [inter] at e
  | some _ :: _, [], _, _, e, _ => by simp [inter] at e
  | none :: _, _, _, _, e, _ => by simp [inter] at e
theorem s_disp {pos : Pos} {keys : List (Option Expr)} {values as : List Expr} {es : List E} (e : inter keys values = some as) (hall : keys.all (·.isSome) = true) (hl : keys.length = values.length) (h0 : keys ≠ []) (h15 : keys.length ≤ 15) (h : PBs X W es as) :
    PE X (.Dict keys values pos) (tE X.K X.mg W (.spec .disp es)) := by
  obtain ⟨pp, hn⟩ := pbs_pps (pos := pos) e h
  refine (pe_disp pp hall hl h0 h15).weaken fun σ H Q hh => ?_
  obtain ⟨ρ, Av, rl, tr, p⟩ := hh
  simp only [ev] at p
  intro d hd
  have m0 := Made.dct (K := X.K) (ts := []) (vs := []) tr hd .nil'
  have n0 := m0.nx rl
  have np : ¬ Av d := tr.not hd
  have eg : (fun (ps : List (V × V)) (H2 : Hp) => H2 d = some (.dK []) ∧ ∃ kvs : List (Key × V), ps = kvs.map (fun kv => (kV kv.1, kv.2)) ∧ kvs.length ≤ 15 ∧ Q (.ref d) (upd H2 d (.dK (mergeK [] kvs)))) =
      fun ps H2 => (fun (xs : List V) (H2 : Hp) => H2 d = some (.dK []) ∧ ∃ kvs : List (Key × V), unflat xs = kvs.map (fun kv => (kV kv.1, kv.2)) ∧ kvs.length ≤ 15 ∧ Q (.ref d) (upd H2 d (.dK (mergeK [] kvs)))) (ps.flatMap fun p => [p.1, p.2]) H2 := by
    funext ps H2
    simp only [unflat_flat]
  rw [eg]
  refine tPs_read (X := X) (W := W) (n := keys.length) (Q := fun (xs : List V) (H2 : Hp) => H2 d = some (.dK []) ∧ ∃ kvs : List (Key × V), unflat xs = kvs.map (fun kv => (kV kv.1, kv.2)) ∧ kvs.length ≤ 15 ∧ Q (.ref d) (upd H2 d (.dK (mergeK [] kvs)))) hn ?_
  · refine ⟨ρ, _, n0.rel, n0.tr, ?_⟩
    cases e1 : evs es ρ with
    | bad => rw [e1] at p; exact p.elim
    | exc c ρ1 => rw [e1] at p; exact fun cls Av1 H1 m n1 => p cls Av1 H1 m (n0.trans rl n1)
    | ok rs ρ1 =>
      rw [e1] at p
      intro xs Av1 H1 n1 q1
      have f : H1 d = some (.dK []) := n1.fr d _ upd_same fun w => np (rl.wr w)
      refine ⟨f, ?_⟩
      simp only [Res.bind] at p
      cases e2 : (gets ρ1 rs).bind Spk.disp.sem with
      | none => rw [e2] at p; exact p.elim
      | some z =>
        rw [e2] at p
        simp only [Option.bind_eq_some_iff] at e2
        obtain ⟨ts, e2, e3⟩ := e2
        simp only [Spk.sem] at e3
        split at e3
        rotate_left
        · cases e3
        simp only [Option.map_eq_some_iff] at e3
        obtain ⟨kvs, e3, rfl⟩ := e3
        have pr := q1.gets n1.rel e2
        have hl2 : ts.length = 2 * keys.length := by rw [gets_length e2, evs_len2 e1, hn]
        obtain ⟨ps, rfl⟩ := flat_of (n := keys.length) (xs := xs) (by rw [← pr.length, hl2])
        obtain ⟨ws, rfl, rd, hw⟩ := kvsOf_at hl2 pr e3
        refine ⟨ws, unflat_flat _, by omega, ?_⟩
        have ad : Av1 d := n1.up d (.inr rfl)
        have no : ∀ j, kindAt ρ1 j ≥ 2 → σ[j]? ≠ some (some (.ref d)) := fun j hk ej => by
          obtain ⟨s, qs, m, _⟩ := kind_slot (ρ := ρ) (i := j) (by rw [n1.shp.kind j]; exact hk)
          obtain ⟨b, e2, hb, _⟩ := rl.at qs m
          rw [ej] at e2; cases e2
          exact np hb
        have rg := n1.rel.grown ad no (u := .dK (mergeK [] ws))
        have kp := wr_keep (u := HO.dK (mergeK [] ws)) ad (H := H1)
        refine p (.ref d) Av1 _ ⟨n1.shp, rg, n1.tr.laid, fun b h => n1.up b (.inl h), fun b h => ?_, fun b o eb w => ?_⟩ ⟨d, rfl, ad, fun ⟨j, hk, ej⟩ => no j hk ej, ?_, hd⟩
        · rcases n1.nw b h with (h | rfl) | h
          · exact .inl h
          · exact .inr hd
          · by_cases zz : b = d
            · rw [zz, upd_same] at h; cases h
            · rw [upd_ne zz] at h; exact .inr h
        · have zz : b ≠ d := fun zz => by rw [zz, hd] at eb; cases eb
          rw [upd_ne zz]
          exact n1.fr b o (by rw [upd_ne zz]; exact eb) w
        · simp only [OwnRep]
          exact ⟨_, upd_same, RepD.keep kp (fun _ _ _ n => n) _ _ (RepD.merge rd .nil')⟩
end
end MP

namespace MP
open PySem PySem.Spec L2
open PyProof.Rows hiding St
theorem const_sound {X : Cx} {W : WX} {t : T} {c : Const} {j : Nat} {p : Pos} (h : constOk t c = true) : PE X (.Constant c j p) (tE X.K X.mg W (.lit t)) := by
  cases t <;> cases c <;> simp only [constOk, Bool.false_eq_true] at h
  · exact s_lit pe_non fun H Av => by simp [Rep]
  · simp only [beq_iff_eq] at h; subst h; exact s_lit pe_bl fun H Av => by simp [Rep]
  · simp only [decide_eq_true_eq] at h; subst h; exact s_lit pe_int fun H Av => by simp [Rep]
  · simp only [Bool.and_eq_true, decide_eq_true_eq] at h
    obtain ⟨rfl, h2⟩ := h
    exact s_lit pe_str fun H Av => by simp [Rep, h2]
theorem PB.of {X : Cx} {W : WX} {e : E} {a : Expr} (h : PE X a (tE X.K X.mg W e)) (p : plainTB a = true) : PB X W e a := ⟨h, t_plain h (plain_t p)⟩
theorem PBs.three {X : Cx} {W : WX} {es : List E} {a b c : Expr} (h : PBs X W es [a, b, c]) : ∃ e f g, es = [e, f, g] ∧ PB X W e a ∧ PB X W f b ∧ PB X W g c ∧ starEach [a, b, c] X.env = [(false, eval a X.env), (false, eval b X.env), (false, eval c X.env)] ∧ starEach [b, c] X.env = [(false, eval b X.env), (false, eval c X.env)] ∧ starEach [c] X.env = [(false, eval c X.env)] := by
  cases es with
  | nil => cases h
  | cons e es =>
    obtain ⟨a', r, e1, hp, h1, h2⟩ := h
    cases e1
    obtain ⟨f, g, rfl, h3, h4, h5, h6⟩ := h2.two
    exact ⟨e, f, g, rfl, h1, h3, h4, by rw [star_plain hp, h5], h5, h6⟩
/-- methods -/
theorem meth_sound {X : Cx} {W : WX} {N : List Str} {sc : Scope} {kk : Nat} {m : Mth} {o : E} {es : List E} {x : Expr} {ys : List Expr} {p q : Pos} (g : Gd X N sc kk) (hm : m.okArgs ys.length = true) (ho : PE X x (tE X.K X.mg W o)) (h : PBs X W es ys) (hst : (starEach ys X.env).all (fun x => !x.1) = true) (h3 : baseB x = true) (h4 : (p.endLine == q.line) = true) :
    PE X (.Call (.Attribute x (m.name : Str) p) ys [] q) (tE X.K X.mg W (.meth m o es)) := by
  have few1 : ∀ {a : Expr}, (starEach [a] X.env).all (fun x => !x.1) = true → ((backTo q (starEach [a] X.env)).all (fun x => !x.1) && (backToKw q (keywordEach [] X.env)).all (fun x => x.1.isSome) && decide (([a] : List Expr).length + ([] : List Keyword).length + (if ([] : List Keyword).isEmpty then 0 else 1) < 30)) = true := fun hst => by
    rw [(plainAs hst).1]; rfl
  have few2 : ∀ {a b : Expr}, (starEach [a, b] X.env).all (fun x => !x.1) = true → ((backTo q (starEach [a, b] X.env)).all (fun x => !x.1) && (backToKw q (keywordEach [] X.env)).all (fun x => x.1.isSome) && decide (([a, b] : List Expr).length + ([] : List Keyword).length + (if ([] : List Keyword).isEmpty then 0 else 1) < 30)) = true := fun hst => by
    rw [(plainAs hst).1]; rfl
  match m, ys, hm, h, hst with
  | .join, [a], _, h, hst =>
    have pa := h.pa
    obtain ⟨e, rfl, i1, i2⟩ := h.one
    exact s_join g.calm ho pa (base_plain h3) h4 hst i2
  | .find, [a], _, h, hst =>
    have pa := h.pa
    obtain ⟨e, rfl, i1, i2⟩ := h.one
    exact s_find ho pa (base_plain h3) h4 hst i2
  | .index, [a], _, h, hst =>
    have pa := h.pa
    obtain ⟨e, rfl, i1, i2⟩ := h.one
    exact s_index g.hu ho pa (base_plain h3) h4 hst i2
  | .get, [a], _, h, hst =>
    obtain ⟨e, rfl, i1, i2⟩ := h.one
    exact s_get1 g.hu1 ho i1.1 ⟨base_plain h3, few1 hst, h4, by rw [i2]; rfl⟩
  | .get, [a, b], _, h, hst =>
    obtain ⟨e, f, rfl, i1, i2, i3, i4⟩ := h.two
    exact s_get2 g.hu1 ho i1.1 i2.1 ⟨base_plain h3, few2 hst, h4, by rw [i3]; rfl⟩
  | .count, [a], _, h, hst =>
    have pa := h.pa
    obtain ⟨e, rfl, i1, i2⟩ := h.one
    exact s_count g.hu ho pa (base_plain h3) h4 hst i2
  | .endswith, [a], _, h, hst =>
    have pa := h.pa
    obtain ⟨e, rfl, i1, i2⟩ := h.one
    exact s_endswith ho pa (base_plain h3) h4 hst i2
  | .startswith, [a, b], _, h, hst =>
    have pa := h.pa
    obtain ⟨e, f, rfl, i1, i2, i3, i4⟩ := h.two
    exact s_startswith ho pa (base_plain h3) h4 hst (by rw [i3, i4])
/-- expressions of more than one node -/
theorem spec_sound {X : Cx} {W : WX} {N : List Str} {sc : Scope} {kk : Nat} {k : Spk} {es : List E} {e : Expr} {as : List Expr} (g : Gd X N sc kk) (hs : k.shape sc e = some as) (h : PBs X W es as) (hn : ∀ x ∈ k.bis, X.mg (x : Str) = none) (hx : k.opt = true → SpkOk k) : PE X e (tE X.K X.mg W (.spec k es)) := by
  by_cases ho : k.opt = true
  · exact hx ho g hs h hn
  unfold Spk.shape at hs
  split at hs <;> (try (exact absurd rfl ho))
  · simp only [Option.ite_none_right_eq_some, Option.some.injEq, Bool.and_eq_true, decide_eq_true_eq] at hs
    obtain ⟨⟨⟨rfl, hc⟩, rfl, hc2⟩, rfl⟩ := hs
    obtain ⟨e, rfl, i1, i2⟩ := h.one
    exact s_lrange1 g.calm (g.gl hc).1 (hn "list" (by simp [Spk.bis])) (g.gl hc2).1 (hn "range" (by simp [Spk.bis])) i1.1 i2
  · simp only [Option.ite_none_right_eq_some, Option.some.injEq, Bool.and_eq_true, decide_eq_true_eq] at hs
    obtain ⟨⟨⟨rfl, hc⟩, rfl, hc2⟩, rfl⟩ := hs
    obtain ⟨e, f, rfl, i1, i2, i3, i4⟩ := h.two
    exact s_lrange2 g.calm (g.gl hc).1 (hn "list" (by simp [Spk.bis])) (g.gl hc2).1 (hn "range" (by simp [Spk.bis])) i1.1 i2.1 i3 i4
  · simp only [Option.ite_none_right_eq_some, Option.some.injEq, Bool.and_eq_true, decide_eq_true_eq] at hs
    obtain ⟨⟨⟨rfl, hc⟩, rfl⟩, rfl⟩ := hs
    have pa := h.pa
    obtain ⟨e, rfl, i1, i2⟩ := h.one
    exact s_minNone g.calm g.hu (g.gl hc).1 (hn "min" (by simp [Spk.bis])) pa i2
  · simp only [Option.ite_none_right_eq_some, Option.some.injEq, Bool.and_eq_true, decide_eq_true_eq] at hs
    obtain ⟨⟨rfl, hc⟩, rfl⟩ := hs
    have pa := h.pa
    obtain ⟨e, rfl, i1, i2⟩ := h.one
    exact s_minOf g.calm g.hu (g.gl hc).1 (hn "min" (by simp [Spk.bis])) pa i2
  · simp only [Option.ite_none_right_eq_some, Bool.and_eq_true, decide_eq_true_eq, Bool.not_eq_true', List.isEmpty_eq_false_iff] at hs
    exact s_disp hs.2 hs.1.1.1.1 hs.1.1.1.2 hs.1.1.2 hs.1.2 h
  · cases hs
theorem spec_plain {sc : Scope} {k : Spk} {e : Expr} {as : List Expr} (hs : k.shape sc e = some as) : plainTB e = true := by
  unfold Spk.shape at hs
  split at hs <;> first | rfl | cases hs
theorem it_sound {X : Cx} {W : WX} {N : List Str} {sc : Scope} {kk : Nat} {k : ItK} {es : List E} {t it : Expr} {as : List Expr} (g : Gd X N sc kk) (e : itArgs sc k t it = some as) (h : PBs X W es as)
    (hn : NeedOk X.prog X.w X.K X.mg X.base kk (.bi k.bi)) (hn2 : NeedOk X.prog X.w X.K X.mg X.base kk (.bi "range")) : PI X t it (tI X.K X.mg W k es) := by
  cases k
  case val =>
    simp only [itArgs, Option.some.injEq] at e
    subst e
    obtain ⟨e1, rfl, h1, _⟩ := h.one
    exact i_val h1.1
  case range =>
    unfold itArgs at e
    split at e <;> (try contradiction)
    · rename_i hk
      simp only [Option.ite_none_right_eq_some, Option.some.injEq, Bool.and_eq_true, decide_eq_true_eq] at e
      obtain ⟨⟨rfl, hc⟩, rfl⟩ := e
      obtain ⟨e1, rfl, h1, hs⟩ := h.one
      exact i_range1 (g.gl hc).1 hn h.pa hs
    · rename_i hk
      simp only [Option.ite_none_right_eq_some, Option.some.injEq, Bool.and_eq_true, decide_eq_true_eq] at e
      obtain ⟨⟨rfl, hc⟩, rfl⟩ := e
      obtain ⟨e1, e2, rfl, h1, h2, hs, hs2⟩ := h.two
      exact i_range2 (g.gl hc).1 hn h.pa hs hs2
    · rename_i hk
      simp only [Option.ite_none_right_eq_some, Option.some.injEq, Bool.and_eq_true, decide_eq_true_eq] at e
      obtain ⟨⟨rfl, hc⟩, rfl⟩ := e
      obtain ⟨e1, e2, e3, rfl, h1, h2, h3, hs, hs2, hs3⟩ := h.three
      exact i_range3 (g.gl hc).1 hn h.pa hs hs2 hs3
  case enum =>
    unfold itArgs at e
    split at e <;> (try contradiction)
    · rename_i hk
      simp only [Option.ite_none_right_eq_some, Option.some.injEq, Bool.and_eq_true, decide_eq_true_eq] at e
      obtain ⟨⟨rfl, hc⟩, rfl⟩ := e
      obtain ⟨e1, rfl, h1, hs⟩ := h.one
      exact i_enum (g.gl hc).1 hn h.pa hs
  case zip =>
    unfold itArgs at e
    split at e <;> (try contradiction)
    · rename_i hk
      simp only [Option.ite_none_right_eq_some, Option.some.injEq, Bool.and_eq_true, decide_eq_true_eq] at e
      obtain ⟨⟨rfl, hc⟩, rfl⟩ := e
      obtain ⟨e1, e2, rfl, h1, h2, hs, hs2⟩ := h.two
      exact i_zip (g.gl hc).1 hn h.pa hs hs2
  case reversed =>
    unfold itArgs at e
    split at e <;> (try contradiction)
    · rename_i hk
      simp only [Option.ite_none_right_eq_some, Option.some.injEq, Bool.and_eq_true, decide_eq_true_eq] at e
      obtain ⟨⟨rfl, hc⟩, rfl⟩ := e
      obtain ⟨e1, rfl, h1, hs⟩ := h.one
      exact i_rev (g.gl hc).1 hn h.pa hs
  case revrange =>
    unfold itArgs at e
    split at e <;> (try contradiction)
    · rename_i hk
      simp only [Option.ite_none_right_eq_some, Option.some.injEq, Bool.and_eq_true, decide_eq_true_eq] at e
      obtain ⟨⟨⟨rfl, hc⟩, rfl, hc2⟩, rfl⟩ := e
      obtain ⟨e1, rfl, h1, hs⟩ := h.one
      exact i_revrange (g.gl hc).1 hn (g.gl hc2).1 hn2 h1.1 hs
theorem blk_names {X : Cx} {s : Shared} {H : Hp} {scope : Scope} {cl : List (Str × Addr)} {C : Addr} {fp : List Addr} : TgNames (X.blk s H scope (compEnvC scope cl C X.env) fp) scope := by
  intro x h
  have k : ∀ {q : NameKind}, q ≠ .free → scope.names.lookup x = some q → (relS scope X.env.scope).names.lookup x = some q := fun hq e => lookup_relS_keep hq e
  refine ⟨h.imp (fun e => k (by decide) e) (fun e => k (by decide) e), ?_⟩
  rcases h with e | e
  · exact .inr (k (by decide) e)
  · refine .inl ?_
    show (scope.names.lookup x == some .cell) = true
    rw [e]; rfl
mutual
theorem ev_sound {N : List Str} {kk : Nat} : ∀ (e : E) (sc : Scope) (X : Cx) (W : WX) (a : Expr), ckE N sc e a = true → Gd X N sc kk → Takes X W → Has X kk (needs e) → PB X W e a
  | .lit t, sc, X, W, a, h, g, tk, hn => by
    simp only [ckE] at h
    split at h
    · exact .of (const_sound h) rfl
    · cases h
  | .glob x t, sc, X, W, a, h, g, tk, hn => by
    simp only [ckE] at h
    split at h
    · simp only [Bool.and_eq_true, decide_eq_true_eq] at h
      obtain ⟨rfl, h2⟩ := h
      obtain ⟨v, u, h3, h4, h5⟩ := hn.hd
      refine .of ?_ rfl
      refine (s_lit (t := t) (pe_glob (g.gl h2).1 h3 h4 (g.gl h2).2) h5).weaken fun σ H Q q => q
    · cases h
  | .var i, sc, X, W, a, h, g, tk, hn => by
    simp only [ckE] at h
    split at h
    · exact .of (s_var (x := default) (g.nm h)) rfl
    · cases h
  | .un .neg a, sc, X, W, b, h, g, tk, hn => by
    simp only [ckE] at h
    split at h
    · exact .of (s_neg (ev_sound a sc X W _ h g tk hn).1) rfl
    · cases h
  | .un .not a, sc, X, W, b, h, g, tk, hn => by
    simp only [ckE] at h
    split at h
    · have i := ev_sound a sc X W _ h g tk hn
      exact ⟨s_not i.1, t_not i.2⟩
    · cases h
  | .bin op a b, sc, X, W, c, h, g, tk, hn => by
    simp only [ckE] at h
    split at h
    · simp only [Bool.and_eq_true, decide_eq_true_eq] at h
      obtain ⟨⟨rfl, h1⟩, h2⟩ := h
      exact .of (s_bin (ev_sound a sc X W _ h1 g tk hn.l).1 (ev_sound b sc X W _ h2 g tk hn.r).1) rfl
    · cases h
  | .cmp op a b, sc, X, W, c, h, g, tk, hn => by
    simp only [ckE] at h
    split at h
    · simp only [Bool.and_eq_true, decide_eq_true_eq, Bool.not_eq_true'] at h
      obtain ⟨⟨⟨rfl, h1⟩, h2⟩, h3⟩ := h
      have i := ev_sound a sc X W _ h1 g tk hn.l
      have j := ev_sound b sc X W _ h2 g tk hn.r
      exact ⟨s_cmp g.hu i.1 j.1 h3, t_cmp g.hu i.1 j.1 h3⟩
    · cases h
  | .cmp2 o1 o2 a b c, sc, X, W, d, h, g, tk, hn => by
    simp only [ckE] at h
    split at h
    · simp only [Bool.and_eq_true, decide_eq_true_eq, Bool.not_eq_true'] at h
      obtain ⟨⟨⟨⟨⟨rfl, rfl⟩, h1⟩, h2⟩, h3⟩, h4⟩ := h
      have i := ev_sound a sc X W _ h1 g tk hn.l.l
      have j := ev_sound b sc X W _ h2 g tk hn.l.r
      have k := ev_sound c sc X W _ h3 g tk hn.r
      exact ⟨s_cmp2 g.hu i.1 j.1 k.1 h4, t_cmp2 g.hu i.1 j.1 k.1 h4⟩
    · cases h
  | .and_ es, sc, X, W, a, h, g, tk, hn => by
    simp only [ckE] at h
    split at h
    · simp only [Bool.and_eq_true, Bool.not_eq_true', List.isEmpty_eq_false_iff] at h
      exact (evs_sound es sc X W _ h.1 g tk hn).and h.2
    · cases h
  | .or_ es, sc, X, W, a, h, g, tk, hn => by
    simp only [ckE] at h
    split at h
    · simp only [Bool.and_eq_true, Bool.not_eq_true', List.isEmpty_eq_false_iff] at h
      exact (evs_sound es sc X W _ h.1 g tk hn).or h.2
    · cases h
  | .ite c a b, sc, X, W, d, h, g, tk, hn => by
    simp only [ckE] at h
    split at h
    · simp only [Bool.and_eq_true] at h
      obtain ⟨⟨h1, h2⟩, h3⟩ := h
      have i := ev_sound c sc X W _ h1 g tk hn.l.l
      have j := ev_sound a sc X W _ h2 g tk hn.l.r
      have k := ev_sound b sc X W _ h3 g tk hn.r
      exact ⟨s_ite i.2 j.1 k.1, pt_ite i.2 j.2 k.2⟩
    · cases h
  | .tup es, sc, X, W, a, h, g, tk, hn => by
    simp only [ckE] at h
    split at h
    · exact .of (s_tup (evs_sound es sc X W _ h g tk hn).pa) rfl
    · cases h
  | .lst es, sc, X, W, a, h, g, tk, hn => by
    simp only [ckE] at h
    split at h
    · exact .of (s_lst (evs_sound es sc X W _ h g tk hn).pa) rfl
    · cases h
  | .dct0, sc, X, W, a, h, g, tk, hn => by
    simp only [ckE] at h
    split at h
    · exact .of s_dct0 rfl
    · cases h
  | .sub a i, sc, X, W, b, h, g, tk, hn => by
    simp only [ckE] at h
    split at h
    · simp only [Bool.and_eq_true] at h
      obtain ⟨⟨h1, h2⟩, h3⟩ := h
      exact .of (s_sub g.hu1 (ev_sound a sc X W _ h1 g tk hn.l).1 (ev_sound i sc X W _ h2 g tk hn.r).1 (plain_ix h3)) rfl
    · cases h
  | .slc a lo hi, sc, X, W, b, h, g, tk, hn => by
    simp only [ckE] at h
    split at h
    · simp only [Bool.and_eq_true] at h
      obtain ⟨⟨h1, h2⟩, h3⟩ := h
      exact .of (s_slc (ev_sound a sc X W _ h1 g tk hn.l.l).1 (evO_sound lo sc X W _ h2 g tk hn.l.r) (evO_sound hi sc X W _ h3 g tk hn.r)) rfl
    · cases h
  | .rev a, sc, X, W, b, h, g, tk, hn => by
    simp only [ckE] at h
    split at h
    · exact .of (s_rev (ev_sound a sc X W _ h g tk hn).1) rfl
    · cases h
  | .call nm f es, sc, X, W, a, h, g, tk, hn => by
    simp only [ckE] at h
    split at h
    · simp only [Bool.and_eq_true, decide_eq_true_eq] at h
      obtain ⟨⟨rfl, h2⟩, h3⟩ := h
      obtain ⟨addr, fd, ps, F, hm, hk, hb⟩ := hn.hd
      have i := evs_sound es sc X W _ h3 g tk hn.tl
      obtain ⟨e, es', rfl⟩ : ∃ e es', es = e :: es' := by
        cases es with
        | nil => cases i
        | cons e es => exact ⟨e, es, rfl⟩
      obtain ⟨a, as, e1, hp, i1, i2⟩ := i
      cases e1
      have st := star_all (env := X.env) h3
      rw [star_plain hp, List.all_cons] at st
      exact .of (s_call F g.room (g.gl h2).1 hm hk hb tk (s_argsC i1.1 i2.pa (star_plain hp)) (g.gl h2).2 (star_plain hp) (plainAs (Bool.and_eq_true_iff.mp st).2).2) rfl
    · simp only [Bool.and_eq_true, decide_eq_true_eq] at h
      obtain ⟨⟨rfl, h2⟩, h3⟩ := h
      obtain ⟨addr, fd, ps, F, hm, hk, hb⟩ := hn.hd
      have he : es = [] := List.isEmpty_iff.mp h3
      subst he
      exact .of (s_call0 F g.room (g.gl h2).1 hm hk hb tk (g.gl h2).2) rfl
    · cases h
  | .blt b es, sc, X, W, a, h, g, tk, hn => by
    simp only [ckE] at h
    split at h
    · simp only [Bool.and_eq_true, decide_eq_true_eq] at h
      obtain ⟨⟨rfl, h2⟩, h3⟩ := h
      have i := evs_sound es sc X W _ h3 g tk hn.tl
      obtain ⟨e, es', rfl⟩ : ∃ e es', es = e :: es' := by
        cases es with
        | nil => cases i
        | cons e es => exact ⟨e, es, rfl⟩
      obtain ⟨a, as, e1, hp, i1, i2⟩ := i
      cases e1
      have st := star_all (env := X.env) h3
      rw [star_plain hp, List.all_cons] at st
      exact .of (s_blt g.calm (g.gl h2).1 hn.hd (s_argsC i1.1 i2.pa (star_plain hp)) (star_plain hp) (plainAs (Bool.and_eq_true_iff.mp st).2).2) rfl
    · cases h
  | .meth m o es, sc, X, W, a, h, g, tk, hn => by
    simp only [ckE] at h
    split at h
    · simp only [Bool.and_eq_true, decide_eq_true_eq] at h
      obtain ⟨⟨⟨⟨⟨rfl, h0⟩, h1⟩, h2⟩, h3⟩, h4⟩ := h
      exact .of (meth_sound g h0 (ev_sound o sc X W _ h1 g tk hn.l).1 (evs_sound es sc X W _ h2 g tk hn.r) (star_all h2) h3 h4) rfl
    · cases h
  | .mut m i es, sc, X, W, a, h, g, tk, hn => by
    simp only [ckE] at h
    split at h
    · simp only [Bool.and_eq_true, decide_eq_true_eq, Bool.or_eq_true, Bool.not_eq_true'] at h
      obtain ⟨⟨⟨⟨⟨rfl, h1⟩, h2⟩, h3⟩, h4⟩, h5⟩ := h
      have i := evs_sound es sc X W _ h4 g tk hn
      rcases h1 with h1 | h1
      · cases es with
        | nil =>
          cases i
          exact .of (s_mut0 h1 (g.nm h2) h3) rfl
        | cons e es =>
          have st := star_all (env := X.env) h4
          obtain ⟨a, as, rfl, hp, i1, i2⟩ := i
          exact .of (s_mut h1 (g.nm h2) (s_argsC i1.1 i2.pa (star_plain hp)) h3 st h5 (star_plain hp)) rfl
      · rename_i xs q
        by_cases hd : m.dict = false
        · cases es with
          | nil => cases i; simp at h1
          | cons e es =>
            have st := star_all (env := X.env) h4
            obtain ⟨a, as, rfl, hp, i1, i2⟩ := i
            exact .of (s_mut hd (g.nm h2) (s_argsC i1.1 i2.pa (star_plain hp)) h3 st h5 (star_plain hp)) rfl
        · have em : m = .setdefault := by cases m <;> first | rfl | (exact absurd rfl hd)
          subst em
          match xs, h1, h4, i with
          | [a, b], _, h4, i =>
            have hst := star_all (env := X.env) h4
            obtain ⟨e, f, rfl, i1, i2, i3, i4⟩ := i.two
            refine .of (s_setd (g.nm h2) i1.1 i2.1 ⟨base_plain rfl, ?_, h3, by rw [i3]; rfl⟩) rfl
            rw [(plainAs hst).1]; rfl
    · cases h
  | .isi a tys, sc, X, W, b, h, g, tk, hn => by
    simp only [ckE] at h
    split at h
    · simp only [Bool.and_eq_true, decide_eq_true_eq] at h
      obtain ⟨⟨⟨⟨rfl, h1⟩, h2⟩, h3⟩, h4⟩ := h
      have i := ev_sound a sc X W _ h2 g tk hn.r
      obtain ⟨l, t⟩ := tys_ok g.toGdH h4 hn.l.tl
      match tys, l, t with
      | [y], _, t =>
        obtain ⟨t1, t2, t3, q, t4⟩ := t 0 y _ rfl rfl
        cases t4
        exact .of (s_isi t1 (g.gl h1).1 hn.hd t2 t3 i.1 (star_plain h3)) rfl
    · simp only [Bool.and_eq_true, decide_eq_true_eq] at h
      obtain ⟨⟨⟨⟨⟨rfl, h1⟩, h2⟩, h3⟩, h4⟩, h5⟩ := h
      have i := ev_sound a sc X W _ h2 g tk hn.r
      obtain ⟨l, t⟩ := tys_ok g.toGdH h4 hn.l.tl
      exact .of (s_isiT h5 l t (g.gl h1).1 hn.hd i.1 (star_plain h3)) rfl
    · cases h
  | .comp elt tg k es cond own, sc, X, W, a, h, g, tk, hn => by
    simp only [ckE] at h
    split at h
    · rename_i x t it ifs scope p
      simp only [Bool.and_eq_true, decide_eq_true_eq, List.all_eq_true] at h
      obtain ⟨⟨⟨⟨⟨⟨⟨h1, h2⟩, h3⟩, h4⟩, h5⟩, h6⟩, h7⟩, h8⟩ := h
      split at h4
      · rename_i as hit
        have i := evs_sound es sc X W _ h4 g tk hn.l.l.tl.tl
        have hb := blkOk_by h1
        rw [← g.n, ← g.sc] at hb
        have hgd : ∀ (s : Shared) (H : Hp) (C : Addr) (cl : List (Str × Addr)) (fp : List Addr), Gd (X.blk s H scope (compEnvC scope cl C X.env) fp) N (relS scope sc) kk := fun s H C cl fp =>
          .mk' g.calm g.nodup g.n (by rw [← g.sc]; rfl) g.room
        have hhas : ∀ (s : Shared) (H : Hp) (C : Addr) (cl : List (Str × Addr)) (fp : List Addr) (l : List Need), Has X kk l → Has (X.blk s H scope (compEnvC scope cl C X.env) fp) kk l := fun s H C cl fp l z => ⟨z.ok⟩
        have hsn : (own.map fun p => ((p.1 : Str), p.2)).map (·.2) = own.map (·.2) := by rw [List.map_map]; rfl
        refine .of ?_ rfl
        refine (pe_lc (g := tG X.K tg) (tt := tC X.K X.mg W0 cond) (te := tE X.K X.mg W0 elt) g.calm g.nodup (it_sound g hit i hn.l.l.hd hn.l.l.tl.hd) hb (fun s H C cl fp => ?_) (fun s H C cl fp => ?_) (fun s H C cl fp => ?_) (plain_fold h5 X.env)).weaken fun σ H Q q => ?_
        · refine g_tg (X := X.blk s H scope (compEnvC scope cl C X.env) fp) (sc0 := scope) g.calm g.nodup blk_names tg t (by show ckTg X.N scope tg t = true; rw [g.n]; exact h2)
        · have j := evs_sound cond (relS scope sc) (X.blk s H scope (compEnvC scope cl C X.env) fp) W0 ifs h6 (hgd s H C cl fp) takes0 (hhas s H C cl fp _ hn.l.r)
          cases cond with
          | nil =>
            cases j
            exact pts_nil.weaken fun σ H Q ⟨ρ, Av, rl, tr, p⟩ => p true Av H (.refl rl tr) rfl
          | cons c cs =>
            obtain ⟨b, r, rfl, _, j1, j2⟩ := j
            cases r with
            | cons _ _ => simp at h7
            | nil =>
              cases cs with
              | cons _ _ => obtain ⟨_, _, z, _⟩ := j2; cases z
              | nil => exact (pts_one j1.2).weaken fun σ H Q ⟨ρ, Av, rl, tr, p⟩ => ⟨ρ, Av, rl, tr, by simpa only [evC] using p⟩
        · exact (ev_sound elt (relS scope sc) (X.blk s H scope (compEnvC scope cl C X.env) fp) W0 x h8 (hgd s H C cl fp) takes0 (hhas s H C cl fp _ hn.r)).1
        · rw [hsn]
          exact r_comp (fun i hi => h3 i hi) q
      · cases h4
    · cases h
  | .spec k es, sc, X, W, a, h, g, tk, hn => by
    simp only [ckE] at h
    split at h
    · rename_i as hs
      exact .of (spec_sound g hs (evs_sound es sc X W _ h g tk hn.r) (fun x hx => hn.l.l.ok (.bi x) (List.mem_map.mpr ⟨x, hx, rfl⟩)) fun ho => hn.l.r.ok (.spk k) (by rw [if_pos ho]; simp)) (spec_plain hs)
    · cases h
  | .compK elt tg ii cond own, sc, X, W, a, h, g, tk, hn => by
    simp only [ckE] at h
    split at h
    · rename_i x t nm np ifs scope p
      simp only [Bool.and_eq_true, decide_eq_true_eq, List.all_eq_true] at h
      obtain ⟨⟨⟨⟨⟨⟨h1, h2⟩, h3⟩, h4⟩, h6⟩, h7⟩, h8⟩ := h
      have hb := blkOk_by h1
      rw [← g.n, ← g.sc] at hb
      have hgd : ∀ (s : Shared) (H : Hp) (C : Addr) (cl : List (Str × Addr)) (fp : List Addr), Gd (X.blk s H scope (compEnvC scope cl C X.env) fp) N (relS scope sc) kk := fun s H C cl fp =>
        .mk' g.calm g.nodup g.n (by rw [← g.sc]; rfl) g.room
      have hhas : ∀ (s : Shared) (H : Hp) (C : Addr) (cl : List (Str × Addr)) (fp : List Addr) (l : List Need), Has X kk l → Has (X.blk s H scope (compEnvC scope cl C X.env) fp) kk l := fun s H C cl fp l z => ⟨z.ok⟩
      have hsn : (own.map fun p => ((p.1 : Str), p.2)).map (·.2) = own.map (·.2) := by rw [List.map_map]; rfl
      refine .of ?_ rfl
      have base : PE X (.ListComp x [⟨t, .Name nm np, ifs, 0⟩] scope p) (tLc (iKeys (tVar ii)) (tG X.K tg) (tC X.K X.mg W0 cond) (tE X.K X.mg W0 elt) ((own.map fun p => ((p.1 : Str), p.2)).map (·.2))) := by
        refine pe_lc g.calm g.nodup (pi_keys (g.nm h4)) hb (fun s H C cl fp => ?_) (fun s H C cl fp => ?_) (fun s H C cl fp => ?_) (plain_fold rfl X.env)
        · refine g_tg (X := X.blk s H scope (compEnvC scope cl C X.env) fp) (sc0 := scope) g.calm g.nodup blk_names tg t (by show ckTg X.N scope tg t = true; rw [g.n]; exact h2)
        · have j := evs_sound cond (relS scope sc) (X.blk s H scope (compEnvC scope cl C X.env) fp) W0 ifs h6 (hgd s H C cl fp) takes0 (hhas s H C cl fp _ hn.l)
          cases cond with
          | nil =>
            cases j
            exact pts_nil.weaken fun σ H Q ⟨ρ, Av, rl, tr, p⟩ => p true Av H (.refl rl tr) rfl
          | cons c cs =>
            obtain ⟨b, r, rfl, _, j1, j2⟩ := j
            cases r with
            | cons _ _ => simp at h7
            | nil =>
              cases cs with
              | cons _ _ => obtain ⟨_, _, z, _⟩ := j2; cases z
              | nil => exact (pts_one j1.2).weaken fun σ H Q ⟨ρ, Av, rl, tr, p⟩ => ⟨ρ, Av, rl, tr, by simpa only [evC] using p⟩
        · exact (ev_sound elt (relS scope sc) (X.blk s H scope (compEnvC scope cl C X.env) fp) W0 x h8 (hgd s H C cl fp) takes0 (hhas s H C cl fp _ hn.r)).1
      rw [hsn] at base
      exact ⟨fun pins s σ H Q I q => (r_compK (fun i hi => h3 i hi) q).elim ((pe_lock base).run pins s σ H Q I) (base.run pins s σ H Q I)⟩
    · cases h
  | .isx a cs xs tys, sc, X, W, b, h, g, tk, hn => by
    simp only [ckE] at h
    obtain ⟨m0, hx⟩ := hn.hd
    split at h
    · simp only [Bool.and_eq_true, decide_eq_true_eq] at h
      obtain ⟨⟨⟨⟨rfl, h1⟩, h2⟩, h3⟩, h4⟩ := h
      have i := ev_sound a sc X W _ h2 g tk hn.tl
      obtain ⟨l, t⟩ := cls_ok g.toGdH h4 hx
      match cs, l, t with
      | [y], _, t =>
        obtain ⟨⟨u, t1⟩, t2, t3, q, t4⟩ := t 0 y _ rfl rfl
        cases t4
        exact .of (s_isx t1 (g.gl h1).1 m0 t2 t3 i.1 (star_plain h3)) rfl
    · simp only [Bool.and_eq_true, decide_eq_true_eq, Bool.not_eq_true', List.isEmpty_eq_false_iff] at h
      obtain ⟨⟨⟨⟨⟨⟨rfl, h1⟩, h2⟩, h3⟩, h4⟩, h5⟩, h6⟩ := h
      have i := ev_sound a sc X W _ h2 g tk hn.tl
      obtain ⟨l, t⟩ := cls_ok g.toGdH h4 hx
      exact .of (s_isxT h6 h5 l t (g.gl h1).1 m0 i.1 (star_plain h3)) rfl
    · cases h
  | .cmp3 o1 o2 o3 a b c d, sc, X, W, e, h, g, tk, hn => by
    simp only [ckE] at h
    split at h
    · simp only [Bool.and_eq_true, decide_eq_true_eq, Bool.not_eq_true'] at h
      obtain ⟨⟨⟨⟨⟨⟨⟨rfl, rfl⟩, rfl⟩, h1⟩, h2⟩, h3⟩, h4⟩, h5⟩ := h
      have i := ev_sound a sc X W _ h1 g tk hn.l.l.l
      have j := ev_sound b sc X W _ h2 g tk hn.l.l.r
      have k := ev_sound c sc X W _ h3 g tk hn.l.r
      have l := ev_sound d sc X W _ h4 g tk hn.r
      exact ⟨s_cmp3 g.hu i.1 j.1 k.1 l.1 h5, t_cmp3 g.hu i.1 j.1 k.1 l.1 h5⟩
    · cases h
theorem evs_sound {N : List Str} {kk : Nat} : ∀ (es : List E) (sc : Scope) (X : Cx) (W : WX) (as : List Expr), ckEs N sc es as = true → Gd X N sc kk → Takes X W → Has X kk (needsL es) → PBs X W es as
  | [], sc, X, W, as, h, g, tk, hn => by simp only [ckEs, List.isEmpty_iff] at h; exact h
  | e :: es, sc, X, W, as, h, g, tk, hn => by
    simp only [ckEs] at h
    split at h
    · simp only [Bool.and_eq_true] at h
      exact ⟨_, _, rfl, h.1.1, ev_sound e sc X W _ h.1.2 g tk hn.l, evs_sound es sc X W _ h.2 g tk hn.r⟩
    · cases h
theorem evO_sound {N : List Str} {kk : Nat} : ∀ (es : List E) (sc : Scope) (X : Cx) (W : WX) (a : Option Expr), ckO N sc es a = true → Gd X N sc kk → Takes X W → Has X kk (needsL es) → PO X a (tO X.K X.mg W es)
  | [], sc, X, W, a, h, g, tk, hn => by
    simp only [ckO, Option.isNone_iff_eq_none] at h
    subst h; exact s_part0
  | [e], sc, X, W, a, h, g, tk, hn => by
    simp only [ckO] at h
    split at h
    · exact s_part1 (ev_sound e sc X W _ h g tk hn.l).1
    · cases h
  | _ :: _ :: _, sc, X, W, a, h, g, tk, hn => by simp [ckO] at h
end
end MP

namespace MP
open PySem PySem.Spec L2
open PyProof.Rows hiding St
/-! ## from statement to statement -/
def OwnAt (ρ : Env) (σ : St) (b : Addr) : Prop := ∃ j, kindAt ρ j = 2 ∧ σ[j]? = some (some (V.ref b))
structure Sx (K : PySem.W.Frag) (ρ : Env) (σ : St) (Av : Addr → Prop) (H : Hp) (ρ' : Env) (σ' : St) (Av' : Addr → Prop) (H' : Hp) : Prop where
  rel : Rel K Av' ρ' σ' H'
  tr : Tr Av' H'
  len : ρ.length = ρ'.length
  hold : ∀ i, kindAt ρ i ≥ 3 → kindAt ρ' i = kindAt ρ i ∧ σ'[i]? = σ[i]?
  lck : ∀ i t, slotAt ρ i = some (.lck t) → slotAt ρ' i = some (.lck t)
  low : ∀ i, kindAt ρ' i ≥ 3 → kindAt ρ i = kindAt ρ' i
  own : ∀ b, OwnAt ρ' σ' b → OwnAt ρ σ b ∨ H b = none
  up : ∀ b, Av b → Av' b ∨ OwnAt ρ σ b
  nw : ∀ b, Av' b → Av b ∨ H b = none
  all : ∀ b o, H b = some o → ∃ o', H' b = some o'
  fr : Fr (WrK ρ σ) H H'
section
variable {K : PySem.W.Frag} {Av Av1 Av2 Av' : Addr → Prop} {ρ ρ1 ρ2 ρ' : Env} {σ σ1 σ2 σ' : St} {H H1 H2 H' H0 : Hp}
theorem Sx.refl (r : Rel K Av ρ σ H) (t : Tr Av H) : Sx K ρ σ Av H ρ σ Av H := ⟨r, t, rfl, fun _ _ => ⟨rfl, rfl⟩, fun _ _ h => h, fun _ _ => rfl, fun _ h => .inl h, fun _ h => .inl h, fun _ h => .inl h, fun _ _ h => ⟨_, h⟩, .refl⟩
theorem Sx.nn (a : Sx K ρ σ Av H ρ' σ' Av' H') {b : Addr} (h : H' b = none) : H b = none := by
  cases q : H b with
  | none => rfl
  | some o => obtain ⟨o', e⟩ := a.all b o q; rw [h] at e; cases e
theorem Sx.wr (a : Sx K ρ σ Av H ρ' σ' Av' H') {b : Addr} (w : WrK ρ' σ' b) : WrK ρ σ b ∨ H b = none := by
  obtain ⟨i, k, e⟩ := w
  rcases k with k | k
  · rcases a.own b ⟨i, k, e⟩ with ⟨j, k2, e2⟩ | h
    · exact .inl ⟨j, .inl k2, e2⟩
    · exact .inr h
  · have k2 := a.low i (by omega)
    exact .inl ⟨i, .inr (by omega), by rw [← (a.hold i (by omega)).2]; exact e⟩
theorem Sx.trans (t : Tr Av H) (a : Sx K ρ σ Av H ρ1 σ1 Av1 H1) (b : Sx K ρ1 σ1 Av1 H1 ρ2 σ2 Av2 H2) : Sx K ρ σ Av H ρ2 σ2 Av2 H2 where
  rel := b.rel
  tr := b.tr
  len := a.len.trans b.len
  hold := fun i h => by
    obtain ⟨h1, h2⟩ := a.hold i h
    obtain ⟨h3, h4⟩ := b.hold i (by omega)
    exact ⟨h3.trans h1, h4.trans h2⟩
  lck := fun i t h => b.lck i t (a.lck i t h)
  low := fun i h => by
    have h1 := b.low i h
    have h2 := a.low i (by omega)
    omega
  own := fun c h => by
    rcases b.own c h with h | h
    · exact a.own c h
    · exact .inr (a.nn h)
  up := fun c h => by
    rcases a.up c h with h1 | h1
    · rcases b.up c h1 with h2 | h2
      · exact .inl h2
      · rcases a.own c h2 with h3 | h3
        · exact .inr h3
        · obtain ⟨o, e⟩ := t c h
          rw [h3] at e; cases e
    · exact .inr h1
  nw := fun c h => by
    rcases b.nw c h with h | h
    · exact a.nw c h
    · exact .inr (a.nn h)
  all := fun c o h => by
    obtain ⟨o1, h1⟩ := a.all c o h
    exact b.all c o1 h1
  fr := fun c o h n => b.fr c o (a.fr c o h n) fun w => by
    rcases a.wr w with h1 | h1
    · exact n h1
    · rw [h] at h1; cases h1
theorem Nx.sx (r : Rel K Av ρ σ H) (n : Nx K ρ σ Av H ρ' Av' H') : Sx K ρ σ Av H ρ' σ Av' H' where
  rel := n.rel
  tr := n.tr
  len := n.shp.len
  hold := fun i _ => ⟨(n.shp.kind i).symm, rfl⟩
  lck := n.shp.lck
  low := fun i _ => n.shp.kind i
  own := fun b ⟨j, k, e⟩ => .inl ⟨j, (n.shp.kind j).trans k, e⟩
  up := fun b h => .inl (n.up b h)
  nw := n.nw
  all := fun b o h => by
    by_cases w : WrK ρ σ b
    · obtain ⟨i, k, e⟩ := n.shp.wr.mpr w
      obtain ⟨s, q, m, _⟩ := kind_slot (ρ := ρ') (i := i) (by omega)
      obtain ⟨c, e2, _, o⟩ := n.rel.at q m
      rw [e] at e2; cases e2
      obtain ⟨u, eu, _⟩ := o.there
      exact ⟨u, eu⟩
    · exact ⟨o, n.fr b o h w⟩
  fr := n.fr
theorem Sx.rep (r : Rel K Av ρ σ H) (n : Sx K ρ σ Av H ρ' σ' Av' H') {t : T} {v : V} (h : Rep K H Av t v) : Rep K H' Av' t v :=
  Rep.keep (fun b o e q => n.fr b o e fun w => q (r.wr w)) (fun b o e q z => (n.nw b z).elim q fun z => by rw [e] at z; cases z) t v h
theorem Sx.ownr (r : Rel K Av ρ σ H) (n : Sx K ρ σ Av H ρ' σ' Av' H') {t : T} {a : Addr} (w : ¬ WrK ρ σ a) (h : OwnRep K H Av a t) : OwnRep K H' Av' a t := by
  obtain ⟨o, e, _⟩ := h.there
  exact h.keep (fun b o e q => n.fr b o e fun w => q (r.wr w)) (fun b o e q z => (n.nw b z).elim q fun z => by rw [e] at z; cases z) ((n.fr a o e w).trans e.symm)
theorem Sx.backR (n : Sx K ρ σ Av H ρ1 σ1 Av1 H1) {q : R} {v : V} (h : RepR K H1 Av2 ρ2 σ2 H2 q v) : RepR K H Av2 ρ2 σ2 H2 q v := by
  cases q with
  | val t => exact h
  | fresh t =>
    obtain ⟨a, e, ha, w, o, z⟩ := h
    exact ⟨a, e, ha, w, o, n.nn z⟩
  | loc i => exact h
  | deep t => exact DeepF.mono (fun b z w => ⟨w, n.nn z⟩) h
end
/-! ## what a statement comes to -/
inductive SRes where
  | nx (ρ : Env) | bk (ρ : Env) | ct (ρ : Env) | rt (r : R) (ρ : Env) | exc (c : String) (ρ : Env) | bad
def SRes.bind (x : SRes) (f : Env → SRes) : SRes := match x with
  | .nx ρ => f ρ
  | x => x
def Res.st {α : Type} (x : Res α) (f : α → Env → SRes) : SRes := match x with
  | .ok a ρ => f a ρ
  | .exc c ρ => .exc c ρ
  | .bad => .bad
def optS (o : Option Env) : SRes := match o with
  | some ρ => .nx ρ
  | none => .bad
def SPost (K : PySem.W.Frag) (mg : Str → Option Value) (W : WX) (ρ : Env) (σ : St) (Av : Addr → Prop) (H : Hp) (x : SRes) (D : Ends) : Prop :=
  match x with
  | .nx ρ' => ∀ σ' Av' H', Sx K ρ σ Av H ρ' σ' Av' H' → D.nx σ' H'
  | .bk ρ' => ∀ σ' Av' H', Sx K ρ σ Av H ρ' σ' Av' H' → D.bk σ' H'
  | .ct ρ' => ∀ σ' Av' H', Sx K ρ σ Av H ρ' σ' Av' H' → D.ct σ' H'
  | .rt r ρ' => ∀ v σ' Av' H', Sx K ρ σ Av H ρ' σ' Av' H' → RepR K H Av' ρ' σ' H' r v → D.rt v H'
  | .exc c ρ' => ∀ cls σ' Av' H', mg c = some cls → Sx K ρ σ Av H ρ' σ' Av' H' → W cls none σ' H'
  | .bad => False
section
variable {K : PySem.W.Frag} {mg : Str → Option Value} {W : WX} {ρ ρ1 : Env} {σ σ1 : St} {Av Av1 : Addr → Prop} {H H1 : Hp} {D : Ends}
theorem SPost.later {x : SRes} (tr : Tr Av H) (h : SPost K mg W ρ σ Av H x D) (n : Sx K ρ σ Av H ρ1 σ1 Av1 H1) : SPost K mg W ρ1 σ1 Av1 H1 x D := by
  cases x with
  | nx ρ2 => exact fun σ2 Av2 H2 n2 => h σ2 Av2 H2 (n.trans tr n2)
  | bk ρ2 => exact fun σ2 Av2 H2 n2 => h σ2 Av2 H2 (n.trans tr n2)
  | ct ρ2 => exact fun σ2 Av2 H2 n2 => h σ2 Av2 H2 (n.trans tr n2)
  | rt r ρ2 => exact fun v σ2 Av2 H2 n2 q => h v σ2 Av2 H2 (n.trans tr n2) (n.backR q)
  | exc c ρ2 => exact fun cls σ2 Av2 H2 m n2 => h cls σ2 Av2 H2 m (n.trans tr n2)
  | bad => exact h
theorem SPost.bind {x : SRes} {f : Env → SRes} (tr : Tr Av H) (h : SPost K mg W ρ σ Av H (x.bind f) D) :
    SPost K mg W ρ σ Av H x { D with nx := fun σ1 H1 => ∃ ρ1 Av1, x = .nx ρ1 ∧ Sx K ρ σ Av H ρ1 σ1 Av1 H1 ∧ SPost K mg W ρ1 σ1 Av1 H1 (f ρ1) D } := by
  cases x with
  | nx ρ1 => exact fun σ1 Av1 H1 n => ⟨ρ1, Av1, rfl, n, h.later tr n⟩
  | bk ρ2 => exact h
  | ct ρ2 => exact h
  | rt r ρ2 => exact h
  | exc c ρ2 => exact h
  | bad => exact h
/-- an expression, then on -/
theorem SPost.ev {α β : Type} {rp : Rp α β} {x : Res α} {f : α → Env → SRes} (rl : Rel K Av ρ σ H) (tr : Tr Av H) (h : SPost K mg W ρ σ Av H (x.st f) D) :
    Post K mg W rp ρ σ Av H x fun v H1 => ∃ r ρ1 Av1, x = .ok r ρ1 ∧ Nx K ρ σ Av H ρ1 Av1 H1 ∧ rp H Av1 ρ1 σ H1 r v ∧ SPost K mg W ρ1 σ Av1 H1 (f r ρ1) D ∧ SPost K mg W ρ σ Av H (f r ρ1) D := by
  cases x with
  | ok r ρ1 => exact fun v Av1 H1 n q => ⟨r, ρ1, Av1, rfl, n, q, h.later tr (n.sx rl), h⟩
  | exc c ρ1 => exact fun cls Av1 H1 m n => h cls σ Av1 H1 m (n.sx rl)
  | bad => exact h
end
def tS (K : PySem.W.Frag) (mg : Str → Option Value) (W : WX) (f : Env → SRes) : TS := fun D σ H => ∃ ρ Av, Rel K Av ρ σ H ∧ Tr Av H ∧ SPost K mg W ρ σ Av H (f ρ) D
theorem _root_.L2.PS.weaken {X : Cx} {a : Stmt} {t t' : TS} (h : PS X a t) (i : ∀ D σ H, t' D σ H → t D σ H) : PS X a t' := ⟨fun pins s σ H D I q => h.run pins s σ H D I (i D σ H q)⟩
theorem _root_.L2.PSs.weaken {X : Cx} {a : List Stmt} {t t' : TS} (h : PSs X a t) (i : ∀ D σ H, t' D σ H → t D σ H) : PSs X a t' := ⟨fun pins s σ H D I q => h.run pins s σ H D I (i D σ H q)⟩
/-! ## the statements -/
/-- between a call and the change of its answer: if c: return e; x = e -/
inductive Mid where
  | chk (c e : E) | bnd (j : Nat) (e : E)
inductive S where
  | ex (e : E) | set (i : Nat) (e : E) | unp (tg : Tg) (e : E) | par (i j : Nat) (a b : E) | put (i : Nat) (ix e : E)
  | ifs (c : E) (a b : List S) | whl (c : E) (b : List S) (fg : List Nat) | for_ (tg : Tg) (k : ItK) (its : List E) (b : List S) (fg : List Nat)
  | ret (e : E) | retN | brk | cont | pass | raise (c : String)
  | forget (is : List Nat) | freeze (i : Nat)
  | aug (i : Nat) (e : E) | forK (tg : Tg) (i : Nat) (b : List S) (fg : List Nat)
  | tryx (b : List S) (i : Option Nat) (h : List S) (xs : List String)
  | stw (i : Nat) (lo hi e : E) | retD (es : List E)
  | reg (i : Nat) (nm : String) (f : Fn) (es : List E) (mid : List Mid) (ms : List (Nat × Mut × List E))
/-- a result taken out, to be kept in a slot -/
def takeS (ρ : Env) : R → Option (Slot × Env)
  | .val t => some (.shr t, ρ)
  | .fresh t => some (.own t, ρ)
  | .loc k => match slotAt ρ k with
    | some (.own t) => some (.own t, ρ.set k none)
    | _ => none
  | .deep _ => none
def setR (ρ : Env) (i : Nat) (r : R) : Option Env := (takeS ρ r).bind fun p => setS p.2 i p.1
def setPar (ρ : Env) (i j : Nat) (r q : R) : Option Env := (takeS ρ r).bind fun p => (takeS p.2 q).bind fun p2 => (setS p2.2 i p.1).bind fun ρ => setS ρ j p2.1
/-- a list's place is written -/
def putSem : T → T → T → Option T
  | .lst ts, .int i, t => if 0 ≤ i ∧ i < ts.length then some (.lst (ts.set i.toNat t)) else if -(ts.length : Int) ≤ i ∧ i < 0 then some (.lst (ts.set (i + ts.length).toNat t)) else none
  | .dct kvs, k, t => k.k?.bind fun k => if kvs.length < 16777216 then some (.dct (putT kvs k t)) else none
  | _, _, _ => none
def putR (ρ : Env) (i : Nat) (t u : T) : Option Env := match slotAt ρ i with
  | some (.own l) => (putSem l t u).map fun l => ρ.set i (some (.own l))
  | some (.io l) => (putSem l t u).map fun l => ρ.set i (some (.io l))
  | _ => none
/-- a list's part is written -/
def stwSem : T → Int → Int → T → Option T
  | .lst ts, a, c, .lst us => if 0 ≤ a ∧ a ≤ c ∧ c ≤ (ts.length : Int) ∧ ts.length + us.length ≤ 16777216 then some (.lst (ts.take a.toNat ++ us ++ ts.drop c.toNat)) else none
  | _, _, _, _ => none
def stwR (ρ : Env) (i : Nat) (a c : Int) (u : T) : Option Env := match slotAt ρ i with
  | some (.own l) => (stwSem l a c u).map fun l => ρ.set i (some (.own l))
  | some (.io l) => (stwSem l a c u).map fun l => ρ.set i (some (.io l))
  | _ => none
def R.int? : R → Option Int
  | .val (.int i) => some i
  | _ => none
def R.tup? : R → Option (List T)
  | .val (.tup ts) => some ts
  | _ => none
/-- a tuple's parts, of which one may be new -/
def partsD : Bool → List R → Option (List T)
  | _, [] => some []
  | b, .val t :: r => if t.isLstT = true then none else (partsD b r).map (t :: ·)
  | true, .fresh t :: r => (partsD false r).map (t :: ·)
  | _, _ => none
/-- a call's answer, a tuple -/
def evD (f : Fn) (es : List E) (ρ : Env) : Res (List T) := (evs es ρ).bind fun rs ρ => (callRes f rs ρ).bind fun r ρ => match r.tup? with
  | some ts => .ok ts ρ
  | none => .bad
def lockO : Option Slot → Option Slot
  | some (.own t) => some (.lck t)
  | some (.io t) => some (.lck t)
  | s => s
/-- all locked, but for i, that is to be read -/
def visE (ρ : Env) (i : Nat) (t : T) : Env := (ρ.map lockO).set i (some (.shr t))
def R.atom? : R → Option T
  | .val t => if t.atom = true then some t else none
  | _ => none
def runMid (i : Nat) (t : T) : List Mid → Env → (Env → SRes) → SRes
  | [], ρ, k => k ρ
  | .chk c e :: r, ρ, k => match truthR (ev c (visE ρ i t)) with
    | .ok true ρ2 => (match ev e ρ2 with
      | .ok q _ => (match q.atom? with
        | some u => .rt (.val u) ρ
        | none => .bad)
      | .exc x _ => .exc x ρ
      | .bad => .bad)
    | .ok false _ => runMid i t r ρ k
    | .exc x _ => .exc x ρ
    | .bad => .bad
  | .bnd j e :: r, ρ, k => if j = i then .bad else (ev e ρ).st fun q ρ1 => match setR ρ1 j q with
    | some ρ2 => runMid i t r ρ2 k
    | none => .bad
def runMut (k : Env → SRes) : List (Nat × Mut × List E) → List T → Env → SRes
  | [], _, ρ => k ρ
  | (j, m, es) :: r, ts, ρ => match ts[j]? with
    | some l => if (!m.reads && !m.dict && l.isLst) = true then (evs es ρ).st fun rs ρ1 => match (cleans rs).bind fun us => m.sem l us with
      | some p => runMut k r (ts.set j p.1) ρ1
      | none => .bad
      else .bad
    | none => .bad
def forgetR (ρ : Env) : List Nat → Env
  | [] => ρ
  | i :: r => if kindAt (forgetR ρ r) i < 3 then (forgetR ρ r).set i none else forgetR ρ r
def freezeR (ρ : Env) (i : Nat) : Option Env := match slotAt ρ i with
  | some (.own t) => some (ρ.set i (some (.shr t)))
  | some (.shr t) => some ρ
  | _ => none
def forLoop (tg : Tg) (fg : List Nat) (body : Env → SRes) : List T → Env → SRes
  | [], ρ => .nx (forgetR ρ fg)
  | x :: xs, ρ => match bindTg tg x (forgetR ρ fg) with
    | none => .bad
    | some ρ1 => match body ρ1 with
      | .nx ρ2 => forLoop tg fg body xs ρ2
      | .ct ρ2 => forLoop tg fg body xs ρ2
      | .bk ρ2 => .nx (forgetR ρ2 fg)
      | r => r
def whlLoop (fg : List Nat) (cond : Env → Res Bool) (body : Env → SRes) : Nat → Env → SRes
  | 0, _ => .bad
  | n + 1, ρ => match cond (forgetR ρ fg) with
    | .ok true ρ1 => (match body ρ1 with
      | .nx ρ2 => whlLoop fg cond body n ρ2
      | .ct ρ2 => whlLoop fg cond body n ρ2
      | .bk ρ2 => .nx (forgetR ρ2 fg)
      | r => r)
    | .ok false ρ1 => .nx ρ1
    | .exc c ρ1 => .exc c ρ1
    | .bad => .bad
open Classical in
noncomputable def whlRes (fg : List Nat) (cond : Env → Res Bool) (body : Env → SRes) (ρ : Env) : SRes :=
  if h : ∃ n, whlLoop fg cond body n ρ ≠ .bad then whlLoop fg cond body h.choose ρ else .bad
def SRes.map (x : SRes) (f : Env → Env) : SRes := match x with
  | .nx ρ => .nx (f ρ)
  | .bk ρ => .bk (f ρ)
  | .ct ρ => .ct (f ρ)
  | .rt r ρ => .rt r (f ρ)
  | .exc c ρ => .exc c (f ρ)
  | .bad => .bad
def SRes.noexc : SRes → SRes
  | .exc _ _ => .bad
  | x => x
/-- behind a suite: the name goes -/
def tryEnd (i : Option Nat) : SRes → SRes
  | .nx ρ => .nx (match i with
    | some j => ρ.set j none
    | none => ρ)
  | .rt r ρ => .rt r ρ
  | _ => .bad
def trySet (i : Option Nat) (c : String) (ρ : Env) : Option Env := match i with
  | some j => setS ρ j (.shr (.exc c))
  | none => some ρ
mutual
noncomputable def exec : S → Env → SRes
  | .ex e, ρ => (ev e ρ).st fun _ ρ => .nx ρ
  | .set i e, ρ => (ev e ρ).st fun r ρ => optS (setR ρ i r)
  | .unp tg e, ρ => (ev e ρ).st fun r ρ => (match r.clean with
    | some t => optS (bindTg tg t ρ)
    | none => .bad)
  | .par i j a b, ρ => (ev a ρ).st fun r ρ => (ev b ρ).st fun q ρ => optS (setPar ρ i j r q)
  | .put i ix e, ρ => (ev e ρ).st fun r ρ => (match r.clean with
    | some u => if kindAt ρ i = 2 ∨ kindAt ρ i = 3 then (ev ix ρ).st fun q ρ => (match q.clean with
      | some t => optS (putR ρ i t u)
      | none => .bad) else .bad
    | none => .bad)
  | .ifs c a b, ρ => (truthR (ev c ρ)).st fun k ρ => if k then execs a ρ else execs b ρ
  | .whl c b fg, ρ => whlRes fg (fun ρ => truthR (ev c ρ)) (fun ρ => execs b ρ) ρ
  | .for_ tg k its b fg, ρ => (evs its ρ).st fun rs ρ => (match (gets ρ rs).bind (iterSem k) with
    | some items => (forLoop tg fg (fun ρ => execs b ρ) items (lockAll ρ rs)).map fun ρ' => backR ρ ρ' (rs.flatMap R.ix)
    | none => .bad)
  | .ret e, ρ => (ev e ρ).st fun r ρ => .rt r ρ
  | .retN, ρ => .rt (.val .non) ρ
  | .brk, ρ => .bk ρ
  | .cont, ρ => .ct ρ
  | .pass, ρ => .nx ρ
  | .raise c, ρ => .exc c ρ
  | .forget is, ρ => .nx (forgetR ρ is)
  | .freeze i, ρ => optS (freezeR ρ i)
  | .aug i e, ρ => (match slotAt ρ i with
    | some (.shr (.int a)) => (ev e ρ).st fun r ρ => (match r, slotAt ρ i with
      | .val (.int b), some (.shr (.int _)) => optS (setS ρ i (.shr (.int (a + b))))
      | _, _ => .bad)
    | _ => .bad)
  | .forK tg i b fg, ρ => (match keysAt ρ i with
    | some items => (forLoop tg fg (fun ρ => execs b ρ) items ρ).noexc
    | none => .bad)
  | .tryx b i h xs, ρ => (match execs b ρ with
    | .exc c ρ1 => if c ∈ xs then (match trySet i c ρ1 with
      | some ρ2 => tryEnd i (execs h ρ2)
      | none => .bad) else .bad
    | r => r)
  | .stw i lo hi e, ρ => (ev e ρ).st fun r ρ => (match r.clean with
    | some u => if kindAt ρ i = 2 ∨ kindAt ρ i = 3 then (ev lo ρ).st fun q ρ => (match q.int? with
      | some a => (ev hi ρ).st fun q ρ => (match q.int? with
        | some c => optS (stwR ρ i a c u)
        | none => .bad)
      | none => .bad) else .bad
    | none => .bad)
  | .retD es, ρ => (evs es ρ).st fun rs ρ => (match partsD true rs with
    | some ts => if ts.length ≤ 16777216 then .rt (.deep (.tup ts)) ρ else .bad
    | none => .bad)
  | .reg i _ f es mid ms, ρ => if f.deep = true then (evD f es ρ).st fun ts ρ => if kindAt ρ i < 3 ∧ i < ρ.length then runMid i (.tup ts) mid (ρ.set i none) fun ρ => runMut .nx ms ts ρ else .bad else .bad
noncomputable def execs : List S → Env → SRes
  | [], ρ => .nx ρ
  | s :: ss, ρ => (exec s ρ).bind fun ρ => execs ss ρ
end
theorem whlLoop_mono {fg : List Nat} {cond : Env → Res Bool} {body : Env → SRes} : ∀ {n m : Nat} {ρ : Env}, n ≤ m → whlLoop fg cond body n ρ ≠ .bad → whlLoop fg cond body m ρ = whlLoop fg cond body n ρ
  | 0, _, _, _, h => absurd rfl h
  | n + 1, 0, _, h, _ => by omega
  | n + 1, m + 1, ρ, h, hb => by
    simp only [whlLoop] at hb ⊢
    cases c : cond (forgetR ρ fg) with
    | bad => rfl
    | exc c ρ1 => rfl
    | ok b ρ1 =>
      rw [c] at hb
      cases b with
      | false => rfl
      | true =>
        simp only at hb ⊢
        cases d : body ρ1 with
        | nx ρ2 => rw [d] at hb; exact whlLoop_mono (by omega) hb
        | ct ρ2 => rw [d] at hb; exact whlLoop_mono (by omega) hb
        | bk ρ2 => rfl
        | rt r ρ2 => rfl
        | exc c ρ2 => rfl
        | bad => rfl
theorem whlRes_eq {fg : List Nat} {cond : Env → Res Bool} {body : Env → SRes} {ρ : Env} (n : Nat) {r : SRes} (e : whlLoop fg cond body n ρ = r) (h : r ≠ .bad) : whlRes fg cond body ρ = r := by
  subst e
  have hx : ∃ n, whlLoop fg cond body n ρ ≠ .bad := ⟨n, h⟩
  unfold whlRes
  rw [dif_pos hx]
  rcases Nat.le_total n hx.choose with l | l
  · exact whlLoop_mono l h
  · exact (whlLoop_mono l hx.choose_spec).symm
theorem whlRes_ex {fg : List Nat} {cond : Env → Res Bool} {body : Env → SRes} {ρ : Env} (h : whlRes fg cond body ρ ≠ .bad) : ∃ n, whlLoop fg cond body n ρ = whlRes fg cond body ρ := by
  unfold whlRes at h ⊢
  by_cases hx : ∃ n, whlLoop fg cond body n ρ ≠ .bad
  · rw [dif_pos hx]; exact ⟨_, rfl⟩
  · rw [dif_neg hx] at h; exact absurd rfl h
end MP

namespace MP
open PySem PySem.Spec L2
open PyProof.Rows hiding St
/-! ## stores -/
structure Pend (K : PySem.W.Frag) (Av : Addr → Prop) (ρ : Env) (σ : St) (H : Hp) (s : Slot) (v : V) : Prop where
  rep : SlotRep K H Av s v
  k : s.k ≤ 2
  new : s.mine = true → ∀ i s', slotAt ρ i = some s' → s'.mine = true → σ[i]? ≠ some (some v)
section
variable {K : PySem.W.Frag} {Av Av1 Av2 Av' : Addr → Prop} {ρ ρ1 ρ2 ρ' : Env} {σ σ1 σ2 σ' : St} {H H1 H2 H' H0 : Hp} {s s0 : Slot} {v v0 : V} {i k : Nat}
theorem slotAt_wiped {j : Nat} (h : slotAt (ρ.set k none) j = some s) : j ≠ k ∧ slotAt ρ j = some s := by
  rw [slotAt_none] at h
  split at h
  · cases h
  · exact ⟨by assumption, h⟩
/-- a slot that is not held from without is emptied -/
theorem Sx.emptied (n : Sx K ρ σ Av H ρ1 σ1 Av1 H1) (hk : kindAt ρ1 k < 3) : Sx K ρ σ Av H (ρ1.set k none) σ1 Av1 H1 := by
  have kd : ∀ j, kindAt (ρ1.set k none) j = if j = k then 0 else kindAt ρ1 j := fun j => by
    unfold kindAt
    rw [slotAt_none]
    by_cases z : j = k <;> simp [z]
  refine ⟨⟨by simpa using n.rel.len, fun j s q => ?_, fun j l s s' a q q' => ?_⟩, n.tr, by simpa using n.len, fun j h => ?_, fun j t h => ?_, fun j h => ?_, fun b ⟨j, h, e⟩ => ?_, n.up, n.nw, n.all, n.fr⟩
  · exact n.rel.slot j s (slotAt_wiped q).2
  · exact n.rel.inj j l s s' a (slotAt_wiped q).2 (slotAt_wiped q').2
  · obtain ⟨h1, h2⟩ := n.hold j h
    refine ⟨?_, h2⟩
    have z : j ≠ k := fun z => by subst z; omega
    rw [kd j, if_neg z]; exact h1
  · have h1 := n.lck j t h
    have z : j ≠ k := fun z => by subst z; rw [kindAt_some h1] at hk; simp [Slot.k] at hk
    rw [slotAt_none, if_neg z]; exact h1
  · rw [kd j] at h ⊢
    by_cases z : j = k
    · rw [if_pos z] at h; omega
    · rw [if_neg z] at h ⊢; exact n.low j h
  · rw [kd j] at h
    by_cases z : j = k
    · rw [if_pos z] at h; omega
    · rw [if_neg z] at h; exact n.own b ⟨j, h, e⟩
theorem forgetR_sx {is : List Nat} (n : Sx K ρ σ Av H ρ1 σ1 Av1 H1) : Sx K ρ σ Av H (forgetR ρ1 is) σ1 Av1 H1 := by
  induction is with
  | nil => exact n
  | cons i r ih =>
    simp only [forgetR]
    split
    · rename_i h; exact ih.emptied h
    · exact ih
theorem takeS_sx {r : R} (n : Sx K ρ σ Av H ρ1 σ1 Av1 H1) (q : RepR K H Av1 ρ1 σ1 H1 r v) (e : takeS ρ1 r = some (s, ρ2)) :
    Sx K ρ σ Av H ρ2 σ1 Av1 H1 ∧ Pend K Av1 ρ2 σ1 H1 s v ∧ (∀ a, s.mine = true → v = .ref a → OwnAt ρ σ a ∨ H a = none) ∧ (∀ j s', slotAt ρ2 j = some s' → slotAt ρ1 j = some s') := by
  cases r with
  | val t =>
    cases e
    exact ⟨n, ⟨q, by simp [Slot.k], fun h => by simp [Slot.mine] at h⟩, fun a h => by simp [Slot.mine] at h, fun _ _ h => h⟩
  | fresh t =>
    cases e
    obtain ⟨a, rfl, ha, w, o, z⟩ := q
    refine ⟨n, ⟨⟨a, rfl, ha, o⟩, by simp [Slot.k], fun _ i s' q m e => w ⟨i, mine_kind q m, e⟩⟩, fun b _ e => ?_, fun _ _ h => h⟩
    cases e
    exact .inr z
  | deep t => cases e
  | loc k =>
    simp only [takeS] at e
    split at e
    · rename_i t q1
      cases e
      have hk : kindAt ρ1 k = 2 := by rw [kindAt_some q1]; rfl
      obtain ⟨a, e1, ha, o⟩ := n.rel.at q1 rfl
      have e2 := q.2
      rw [e1] at e2; cases e2
      refine ⟨n.emptied (by omega), ⟨⟨a, rfl, ha, o⟩, by simp [Slot.k], fun _ i s' q m e => ?_⟩, fun b _ e => ?_, fun j s' h => (slotAt_wiped h).2⟩
      · obtain ⟨z, q'⟩ := slotAt_wiped q
        exact z (n.rel.inj i k s' _ a q' q1 m rfl e e1)
      · cases e
        exact n.own a ⟨k, hk, e1⟩
    · cases e
theorem Pend.less (p : Pend K Av ρ1 σ H s v) (h : ∀ j s', slotAt ρ2 j = some s' → slotAt ρ1 j = some s') : Pend K Av ρ2 σ H s v := ⟨p.rep, p.k, fun m i s' q m' => p.new m i s' (h i s' q) m'⟩
theorem setS_sx (n : Sx K ρ σ Av H ρ1 σ1 Av1 H1) (p : Pend K Av1 ρ1 σ1 H1 s v) (og : ∀ a, s.mine = true → v = .ref a → OwnAt ρ σ a ∨ H a = none) (es : setS ρ1 i s = some ρ2) :
    Sx K ρ σ Av H ρ2 (σ1.set i (some v)) Av1 H1 := by
  obtain ⟨hl, rfl, hk⟩ := setS_some es
  clear es
  have hs : i < σ1.length := by rw [← n.rel.len]; exact hl
  have kd : ∀ j, kindAt (ρ1.set i (some s)) j = if j = i then s.k else kindAt ρ1 j := fun j => by
    unfold kindAt
    rw [slotAt_set hl]
    by_cases z : j = i <;> simp [z]
  have sg : ∀ j, j ≠ i → (σ1.set i (some v))[j]? = σ1[j]? := fun j z => List.getElem?_set_ne (Ne.symm z)
  have pk := p.k
  refine ⟨⟨by simpa using n.rel.len, fun j s' q => ?_, fun j l s1 s2 a q q' m m' e e' => ?_⟩, n.tr, by simpa using n.len, fun j h => ?_, fun j t h => ?_, fun j h => ?_, fun b ⟨j, h, e⟩ => ?_, n.up, n.nw, n.all, n.fr⟩
  · rw [slotAt_set hl] at q
    by_cases z : j = i
    · subst z; rw [if_pos rfl] at q; cases q
      exact ⟨v, List.getElem?_set_self hs, p.rep⟩
    · rw [if_neg z] at q
      rw [sg j z]; exact n.rel.slot j s' q
  · rw [slotAt_set hl] at q q'
    by_cases z : j = i
    · subst z
      rw [if_pos rfl] at q; cases q
      rw [List.getElem?_set_self hs] at e
      by_cases z2 : l = j
      · exact z2.symm
      · rw [if_neg z2] at q'
        rw [sg l z2] at e'
        exact absurd (e'.trans e.symm) (p.new m l s2 q' m')
    · rw [if_neg z] at q
      rw [sg j z] at e
      by_cases z2 : l = i
      · subst z2
        rw [if_pos rfl] at q'; cases q'
        rw [List.getElem?_set_self hs] at e'
        exact absurd (e.trans e'.symm) (p.new m' j s1 q m)
      · rw [if_neg z2] at q'
        rw [sg l z2] at e'
        exact n.rel.inj j l s1 s2 a q q' m m' e e'
  · obtain ⟨h1, h2⟩ := n.hold j h
    have z : j ≠ i := fun z => by subst z; omega
    rw [kd j, if_neg z, sg j z]
    exact ⟨h1, h2⟩
  · have h1 := n.lck j t h
    have z : j ≠ i := fun z => by subst z; rw [kindAt_some h1] at hk; simp [Slot.k] at hk
    rw [slotAt_set hl, if_neg z]; exact h1
  · rw [kd j] at h ⊢
    by_cases z : j = i
    · rw [if_pos z] at h; omega
    · rw [if_neg z] at h ⊢; exact n.low j h
  · rw [kd j] at h
    by_cases z : j = i
    · subst z
      rw [if_pos rfl] at h
      rw [List.getElem?_set_self hs] at e
      cases e
      exact og b (mine_k.mpr (by omega)) rfl
    · rw [if_neg z] at h
      rw [sg j z] at e
      exact n.own b ⟨j, h, e⟩
theorem setS_pend (hlen : ρ1.length = σ1.length) (p0 : Pend K Av1 ρ1 σ1 H1 s0 v0) (d : s.mine = true → s0.mine = true → v ≠ v0) (es : setS ρ1 i s = some ρ2) : Pend K Av1 ρ2 (σ1.set i (some v)) H1 s0 v0 := by
  obtain ⟨hl, rfl, hk⟩ := setS_some es
  clear es
  refine ⟨p0.rep, p0.k, fun m j s' q m' => ?_⟩
  rw [slotAt_set hl] at q
  by_cases z : j = i
  · subst z
    rw [if_pos rfl] at q; cases q
    rw [List.getElem?_set_self (by omega)]
    intro e
    cases e
    exact d m' m rfl
  · rw [if_neg z] at q
    rw [List.getElem?_set_ne (Ne.symm z)]
    exact p0.new m j s' q m'
theorem setR_sx {r : R} (n : Sx K ρ σ Av H ρ1 σ1 Av1 H1) (q : RepR K H Av1 ρ1 σ1 H1 r v) (e : setR ρ1 i r = some ρ2) : Sx K ρ σ Av H ρ2 (σ1.set i (some v)) Av1 H1 := by
  simp only [setR, Option.bind_eq_some_iff] at e
  obtain ⟨⟨s, ρ'⟩, e1, e2⟩ := e
  obtain ⟨n1, p1, og, _⟩ := takeS_sx n q e1
  exact setS_sx n1 p1 og e2
/-- two at once -/
theorem setPar_sx {r q : R} {w : V} {j : Nat} (rl : Rel K Av ρ σ H) (n1 : Nx K ρ σ Av H ρ1 Av1 H1) (q1 : RepR K H Av1 ρ1 σ H1 r v) (n2 : Nx K ρ1 σ Av1 H1 ρ2 Av2 H2) (q2 : RepR K H1 Av2 ρ2 σ H2 q w) (e : setPar ρ2 i j r q = some ρ') :
    Sx K ρ σ Av H ρ' ((σ.set i (some v)).set j (some w)) Av2 H2 := by
  simp only [setPar, Option.bind_eq_some_iff] at e
  obtain ⟨⟨s1, ρa⟩, e1, ⟨s2, ρb⟩, e2, ρc, e3, e4⟩ := e
  have n12 := n1.trans rl n2
  have q1' := n2.repR n1.rel q1
  have q2' : RepR K H Av2 ρ2 σ H2 q w := RpOk.back (rp := RepR K) n1 (n1.shp.trans n2.shp) q2
  obtain ⟨m1, p1, og1, l1⟩ := takeS_sx (n12.sx rl) q1' e1
  have q2a : RepR K H Av2 ρa σ H2 q w := by
    cases q with
    | deep t => cases e2
    | val t => exact q2'
    | fresh t =>
      obtain ⟨a, e, ha, nw, o, z⟩ := q2'
      refine ⟨a, e, ha, fun ⟨i, hk, e⟩ => nw ?_, o, z⟩
      obtain ⟨s', qs, m, _⟩ := kind_slot hk
      exact ⟨i, mine_kind (l1 i s' qs) m, e⟩
    | loc k =>
      refine ⟨?_, q2'.2⟩
      simp only [takeS] at e2
      split at e2
      · rename_i q'; rw [kindAt_some q']; simp [Slot.k]
      · cases e2
  obtain ⟨m2, p2, og2, l2⟩ := takeS_sx m1 q2a e2
  have dis : s1.mine = true → s2.mine = true → v ≠ w := fun h1 h2 => by
    cases q with
    | deep t => cases e2
    | val t => cases e2; simp [Slot.mine] at h2
    | loc k =>
      simp only [takeS] at e2
      split at e2
      · rename_i t qk
        cases e2
        intro z
        exact p1.new h1 k _ qk rfl (by rw [z]; exact q2'.2)
      · cases e2
    | fresh t =>
      obtain ⟨a, rfl, ha, nw, o, z⟩ := q2
      cases r with
      | deep t => cases e1
      | val t => cases e1; simp [Slot.mine] at h1
      | fresh t1 =>
        obtain ⟨b, rfl, hb, _, o1, _⟩ := q1
        obtain ⟨u, eu, _⟩ := o1.there
        intro z2
        cases z2
        rw [z] at eu; cases eu
      | loc k =>
        intro z2
        refine nw ⟨k, q1'.1, ?_⟩
        rw [← z2]; exact q1'.2
  have p1b := p1.less l2
  have m3 := setS_sx m2 p1b og1 e3
  have p2c := setS_pend (v := v) m2.rel.len p2 dis e3
  exact setS_sx m3 p2c og2 e4
theorem Bound.sx {is : List Nat} (tr : Tr Av H) (b : Bound K Av ρ σ H is ρ' σ') : Sx K ρ σ Av H ρ' σ' Av H where
  rel := b.rel
  tr := tr
  len := b.len.symm
  hold := fun i h => by
    obtain ⟨h1, h2⟩ := b.held i h
    exact ⟨by unfold kindAt; rw [h1], h2⟩
  lck := fun i t h => by
    rw [(b.held i (by rw [kindAt_some h]; simp [Slot.k])).1]; exact h
  low := fun i h => by
    unfold kindAt; rw [(b.low i (by omega)).1]
  own := fun c ⟨j, k, e⟩ => by
    obtain ⟨h1, h2⟩ := b.low j (by omega)
    refine .inl ⟨j, ?_, by rw [← h2]; exact e⟩
    unfold kindAt at k ⊢
    rw [← h1]; exact k
  up := fun _ h => .inl h
  nw := fun _ h => .inl h
  all := fun _ o h => ⟨o, h⟩
  fr := .refl
theorem freezeR_sx (n : Sx K ρ σ Av H ρ1 σ1 Av1 H1) (tr : Tr Av H) (e : freezeR ρ1 i = some ρ2) : ∃ Av2, Sx K ρ σ Av H ρ2 σ1 Av2 H1 := by
  unfold freezeR at e
  split at e
  · rename_i t q
    cases e
    have hl := slotAt_lt q
    obtain ⟨a, ea, ha, o⟩ := n.rel.at q rfl
    have kd : ∀ j, kindAt (ρ1.set i (some (.shr t))) j = if j = i then 1 else kindAt ρ1 j := fun j => by
      unfold kindAt
      rw [slotAt_set hl]
      by_cases z : j = i <;> simp [z, Slot.k]
    have og := n.own a ⟨i, by rw [kindAt_some q]; rfl, ea⟩
    have sub : ∀ b o, H1 b = some o → ¬ Av1 b → ¬ (Av1 b ∧ b ≠ a) := fun b o _ m z => m z.1
    refine ⟨fun b => Av1 b ∧ b ≠ a, ⟨by simpa using n.rel.len, fun j s' q' => ?_, fun j l s1 s2 c q1 q2 m m' => ?_⟩, fun b h => n.tr b h.1, by simpa using n.len, fun j h => ?_, fun j t h => ?_, fun j h => ?_, fun b ⟨j, h, e⟩ => ?_, fun b h => ?_, fun b h => n.nw b h.1, n.all, n.fr⟩
    · rw [slotAt_set hl] at q'
      by_cases z : j = i
      · subst z
        rw [if_pos rfl] at q'; cases q'
        exact ⟨_, ea, o.rep sub fun z => z.2 rfl⟩
      · rw [if_neg z] at q'
        obtain ⟨v, e, h⟩ := n.rel.slot j s' q'
        refine ⟨v, e, ?_⟩
        by_cases mi : s'.mine = true
        · obtain ⟨b, rfl, hb, ob⟩ := h.at mi
          exact .of mi rfl ⟨hb, fun z2 => z (n.rel.inj j i s' _ a q' q mi rfl (by rw [e, z2]) ea)⟩ (ob.keep (fun _ _ e _ => e) sub rfl)
        · cases s' <;> first | exact Rep.keep (fun _ _ e _ => e) sub _ _ h | (simp [Slot.mine] at mi)
    · have f : ∀ j s', slotAt (ρ1.set i (some (.shr t))) j = some s' → s'.mine = true → slotAt ρ1 j = some s' := fun j s' q m => by
        rw [slotAt_set hl] at q
        by_cases z : j = i
        · rw [if_pos z] at q; cases q; simp [Slot.mine] at m
        · rw [if_neg z] at q; exact q
      exact n.rel.inj j l s1 s2 c (f j s1 q1 m) (f l s2 q2 m') m m'
    · obtain ⟨h1, h2⟩ := n.hold j h
      have z : j ≠ i := fun z => by subst z; rw [kindAt_some q] at h1; simp [Slot.k] at h1; omega
      rw [kd j, if_neg z]
      exact ⟨h1, h2⟩
    · have h1 := n.lck j t h
      have z : j ≠ i := fun z => by subst z; rw [q] at h1; cases h1
      rw [slotAt_set hl, if_neg z]; exact h1
    · rw [kd j] at h ⊢
      by_cases z : j = i
      · rw [if_pos z] at h; omega
      · rw [if_neg z] at h ⊢; exact n.low j h
    · rw [kd j] at h
      by_cases z : j = i
      · rw [if_pos z] at h; omega
      · rw [if_neg z] at h; exact n.own b ⟨j, h, e⟩
    · rcases n.up b h with h1 | h1
      · by_cases z : b = a
        · subst z
          rcases og with og | og
          · exact .inr og
          · obtain ⟨o, e⟩ := tr b h
            rw [og] at e; cases e
        · exact .inl ⟨h1, z⟩
      · exact .inr h1
  · cases e; exact ⟨_, n⟩
  · cases e
end
end MP

namespace MP
open PySem PySem.Spec L2
open PyProof.Rows hiding St
/-! ## loops -/
section
variable {K : PySem.W.Frag} {Av Av1 AvC : Addr → Prop} {ρ ρ1 ρc : Env} {σ σc : St} {H H1 Hc H0 : Hp} {rs : List R} {vs : List V}
theorem kind_lock (hlk : ∀ i, i ∈ rs.flatMap R.ix → kindAt ρ1 i ≥ 2) (j : Nat) : kindAt (lockAll ρ1 rs) j = if j ∈ rs.flatMap R.ix then 4 else kindAt ρ1 j := by
  obtain ⟨_, lk⟩ := lockAll_at (vs := []) hlk
  unfold kindAt
  rw [lk j]
  by_cases hj : j ∈ rs.flatMap R.ix
  · rw [if_pos hj, if_pos hj]
    obtain ⟨s, q, m, _⟩ := kind_slot (hlk j hj)
    rw [q]
    simp [Slot.lockd, m, Slot.k]
  · rw [if_neg hj, if_neg hj]
/-- the sources of a walk, further on -/
theorem src_sx (rl : Rel K Av1 ρ1 σ H1) (q : RepRs K H0 Av1 ρ1 σ H1 rs vs) {ts : List T} (g : gets ρ1 rs = some ts) (hlk : ∀ i, i ∈ rs.flatMap R.ix → kindAt ρ1 i ≥ 2) (n : Sx K (lockAll ρ1 rs) σ Av1 H1 ρc σc AvC Hc) :
    Paired (Rdb K Hc AvC) ts vs := by
  obtain ⟨_, lk⟩ := lockAll_at (vs := []) hlk
  have wr1 : ∀ b, WrK (lockAll ρ1 rs) σ b → Av1 b := fun b w => rl.wr ((rl.locked hlk).2.1 b w)
  have kp : ∀ b o, H1 b = some o → ¬ Av1 b → Hc b = some o := fun b o e m => n.fr b o e fun w => m (wr1 b w)
  have up : ∀ b o, H1 b = some o → ¬ Av1 b → ¬ AvC b := fun b o e m z => (n.nw b z).elim m fun z => by rw [e] at z; cases z
  have : ∀ {rs' : List R} {vs : List V}, RepRs K H0 Av1 ρ1 σ H1 rs' vs → (∀ i, i ∈ rs'.flatMap R.ix → i ∈ rs.flatMap R.ix) → ∀ {ts : List T}, gets ρ1 rs' = some ts → Paired (Rdb K Hc AvC) ts vs := by
    intro rs' vs h
    induction h with
    | nil => intro _ ts e; simp [gets] at e; subst e; exact .nil
    | cons a _ ih =>
      rename_i r v rs' vs' _
      intro sub ts e
      simp only [gets, Option.bind_eq_some_iff, Option.map_eq_some_iff] at e
      obtain ⟨t, e1, ts', e2, rfl⟩ := e
      refine .cons ?_ (ih (fun i hi => sub i (by simp only [List.flatMap_cons, List.mem_append]; exact .inr hi)) e2)
      cases r with
      | val u =>
        cases e1
        exact (Rep.keep kp up _ _ a).rdb
      | fresh u =>
        cases e1
        obtain ⟨b, rfl, hb, ns, o, _⟩ := a
        obtain ⟨u, eu, _⟩ := o.there
        refine (o.keep kp up ((n.fr b u eu fun ⟨i, hk, e⟩ => ns ?_).trans eu.symm)).rdb
        obtain ⟨j, hk2, e2⟩ := (rl.locked hlk).2.1 b ⟨i, hk, e⟩
        exact ⟨j, by omega, e2⟩
      | deep u => cases e1
      | loc i =>
        have mi : i ∈ rs.flatMap R.ix := sub i (by simp [R.ix])
        simp only [R.get] at e1
        cases q1 : slotAt ρ1 i with
        | none => rw [q1] at e1; cases e1
        | some s =>
          rw [q1] at e1
          have hm : s.mine = true ∧ s.t = t := by cases s <;> simp_all [Slot.mine, Slot.t]
          have q2 : slotAt (lockAll ρ1 rs) i = some (.lck t) := by rw [lk i, if_pos mi, q1]; simp [Slot.lockd, hm.1, hm.2]
          obtain ⟨b, e3, _, o⟩ := n.rel.at (n.lck i t q2) rfl
          have e4 := a.2
          rw [(n.hold i (by rw [kindAt_some q2]; simp [Slot.k])).2] at e3
          rw [e3] at e4; cases e4
          exact o.rdb
  exact this q (fun i hi => hi) g
/-- behind a loop, unlocked -/
theorem unlock_sx (rl : Rel K Av ρ σ H) (tr : Tr Av H) (n : Nx K ρ σ Av H ρ1 Av1 H1) (hlk : ∀ i, i ∈ rs.flatMap R.ix → kindAt ρ1 i ≥ 2) (sx : Sx K (lockAll ρ1 rs) σ Av1 H1 ρc σc AvC Hc) :
    Sx K ρ σ Av H (backR ρ1 ρc (rs.flatMap R.ix)) σc AvC Hc := by
  obtain ⟨_, lk⟩ := lockAll_at (vs := []) hlk
  obtain ⟨rlk, wlk, llk⟩ := n.rel.locked hlk
  have kl := kind_lock hlk
  have l4 : ρ1.length = ρc.length := by rw [← sx.len, llk]
  obtain ⟨bl, ba⟩ := backR_at l4 (rs.flatMap R.ix)
  generalize hix : rs.flatMap R.ix = ix at *
  have hld : ∀ j, j ∈ ix → σc[j]? = σ[j]? := fun j hj => (sx.hold j (by rw [kl j, if_pos hj]; omega)).2
  have kb : ∀ j, kindAt (backR ρ1 ρc ix) j = if j ∈ ix then kindAt ρ1 j else kindAt ρc j := fun j => by
    unfold kindAt
    rw [ba j]
    by_cases hj : j ∈ ix <;> simp [hj]
  have lc : ∀ j s, j ∈ ix → slotAt ρ1 j = some s → s.mine = true ∧ slotAt ρc j = some (.lck s.t) := fun j s hj q => by
    obtain ⟨s', q', m, _⟩ := kind_slot (hlk j hj)
    rw [q] at q'; cases q'
    exact ⟨m, sx.lck j _ (by rw [lk j, if_pos hj, q]; simp [Slot.lockd, m])⟩
  have ow : ∀ b, OwnAt (lockAll ρ1 rs) σ b → OwnAt ρ σ b := fun b ⟨j, k, e⟩ => by
    rw [kl j] at k
    by_cases hj : j ∈ ix
    · rw [if_pos hj] at k; omega
    · rw [if_neg hj] at k; exact ⟨j, (n.shp.kind j).trans k, e⟩
  have nsx := n.sx rl
  refine ⟨⟨by rw [bl, sx.rel.len], fun j s q => ?_, fun i j s s' a q q' m m' e e' => ?_⟩, sx.tr, by rw [bl, ← l4]; exact n.shp.len, fun i h => ?_, fun i t h => ?_, fun i h => ?_, fun b ⟨j, k, e⟩ => ?_, fun b h => ?_, fun b h => ?_, fun b o h => ?_, ?_⟩
  · rw [ba j] at q
    by_cases hj : j ∈ ix
    · rw [if_pos hj] at q
      obtain ⟨m, q2⟩ := lc j s hj q
      obtain ⟨a, e, ha, o⟩ := sx.rel.at q2 rfl
      exact ⟨_, e, .of m rfl ha o⟩
    · rw [if_neg hj] at q
      exact sx.rel.slot j s q
  · have f : ∀ j s, slotAt (backR ρ1 ρc ix) j = some s → s.mine = true → ∃ s2, slotAt ρc j = some s2 ∧ s2.mine = true := fun j s q m => by
      rw [ba j] at q
      by_cases hj : j ∈ ix
      · rw [if_pos hj] at q
        exact ⟨_, (lc j s hj q).2, rfl⟩
      · rw [if_neg hj] at q; exact ⟨s, q, m⟩
    obtain ⟨a1, a2, a3⟩ := f i s q m
    obtain ⟨b1, b2, b3⟩ := f j s' q' m'
    exact sx.rel.inj i j a1 b1 a a2 b2 a3 b3 e e'
  · have h1 := n.shp.kind i
    rw [kb i]
    by_cases hj : i ∈ ix
    · rw [if_pos hj]; exact ⟨h1.symm, hld i hj⟩
    · rw [if_neg hj]
      obtain ⟨h2, h3⟩ := sx.hold i (by rw [kl i, if_neg hj]; omega)
      rw [kl i, if_neg hj] at h2
      exact ⟨by omega, h3⟩
  · have h1 := n.shp.lck i t h
    rw [ba i]
    by_cases hj : i ∈ ix
    · rw [if_pos hj]; exact h1
    · rw [if_neg hj]; exact sx.lck i t (by rw [lk i, if_neg hj]; exact h1)
  · have h1 := n.shp.kind i
    rw [kb i] at h ⊢
    by_cases hj : i ∈ ix
    · rw [if_pos hj]; exact h1
    · rw [if_neg hj] at h ⊢
      have h2 := sx.low i h
      rw [kl i, if_neg hj] at h2
      omega
  · rw [kb j] at k
    by_cases hj : j ∈ ix
    · rw [if_pos hj] at k
      rw [hld j hj] at e
      exact .inl ⟨j, (n.shp.kind j).trans k, e⟩
    · rw [if_neg hj] at k
      rcases sx.own b ⟨j, k, e⟩ with h | h
      · exact .inl (ow b h)
      · exact .inr (nsx.nn h)
  · rcases sx.up b (n.up b h) with h1 | h1
    · exact .inl h1
    · exact .inr (ow b h1)
  · rcases sx.nw b h with h1 | h1
    · exact n.nw b h1
    · exact .inr (nsx.nn h1)
  · obtain ⟨o1, h1⟩ := nsx.all b o h
    exact sx.all b o1 h1
  · exact n.fr.trans (sx.fr.mono fun b w => n.shp.wr.mp (wlk b w))
theorem locked_sx (n : Nx K ρ σ Av H ρ1 Av1 H1) (hlk : ∀ i, i ∈ rs.flatMap R.ix → kindAt ρ1 i ≥ 2) : Sx K (lockAll ρ1 rs) σ Av1 H1 (lockAll ρ1 rs) σ Av1 H1 := .refl (n.rel.locked hlk).1 n.tr
theorem loc_back {r : R} {v : V} {ρe : Env} {Av2 : Addr → Prop} {σ2 : St} {H2 : Hp} {H9 : Hp} {ix : List Nat} (hl : ρ1.length = ρe.length) (hk : ∀ i, i ∈ ix → kindAt ρ1 i ≥ 2) (hc : ∀ i, i ∈ ix → kindAt ρe i ≥ 2) (h : RepR K H9 Av2 ρe σ2 H2 r v) : RepR K H9 Av2 (backR ρ1 ρe ix) σ2 H2 r v := by
  obtain ⟨bl, ba⟩ := backR_at hl ix
  have kb : ∀ j, kindAt (backR ρ1 ρe ix) j = if j ∈ ix then kindAt ρ1 j else kindAt ρe j := fun j => by
    unfold kindAt
    rw [ba j]
    by_cases hj : j ∈ ix <;> simp [hj]
  cases r with
  | val t => exact h
  | fresh t =>
    obtain ⟨a, e, ha, w, o, z⟩ := h
    refine ⟨a, e, ha, fun ⟨i, k, e⟩ => w ⟨i, ?_, e⟩, o, z⟩
    rw [kb i] at k
    by_cases hj : i ∈ ix
    · exact hc i hj
    · rw [if_neg hj] at k; exact k
  | deep t =>
    refine DeepF.mono (fun b z w => ⟨fun ⟨i, k, e⟩ => w ⟨i, ?_, e⟩, z⟩) h
    rw [kb i] at k
    by_cases hj : i ∈ ix
    · exact hc i hj
    · rw [if_neg hj] at k; exact k
  | loc i =>
    refine ⟨?_, h.2⟩
    rw [kb i]
    by_cases hj : i ∈ ix
    · rw [if_pos hj]; exact hk i hj
    · rw [if_neg hj]; exact h.1
end
section
variable {X : Cx} {W : WX} {tg : Tg} {k : ItK} {es : List E} {fg : List Nat} {body : List S}
theorem r_forcore {σ : St} {H H1 : Hp} {D : Ends} {ρ ρ1 : Env} {Av Av1 : Addr → Prop} {rs : List R} {ts items : List T} {vs : List V} {J : It} {G : Hp → Prop} (rl : Rel X.K Av ρ σ H) (tr : Tr Av H) (n : Nx X.K ρ σ Av H ρ1 Av1 H1) (q : RepRs X.K H Av1 ρ1 σ H1 rs vs) (g1 : gets ρ1 rs = some ts) (hG : G H1)
    (st : ∀ Hc, (∀ b o, H1 b = some o → ¬ Av1 b → Hc b = some o) → G Hc) (jok : JOk X.K J ts vs items G) (p : SPost X.K X.mg W ρ σ Av H ((forLoop tg fg (fun ρ => execs body ρ) items (lockAll ρ1 rs)).map fun ρ' => backR ρ1 ρ' (rs.flatMap R.ix)) D) :
    tFor (fun _ _ R => R J H1) (tG X.K tg) (tS X.K X.mg W (execs body)) D σ H := by
  have gst : ∀ {Hc}, Fr (WrK (lockAll ρ1 rs) σ) H1 Hc → G Hc := fun {Hc} fc => st Hc fun b o e m => fc b o e fun w => m (n.rel.wr ((n.rel.locked (reprs_ix q)).2.1 b w))
  have hlk := reprs_ix q
  have kl := kind_lock hlk
  generalize hR : forLoop tg fg (fun ρ => execs body ρ) items (lockAll ρ1 rs) = Rz at p
  have hbad : Rz ≠ .bad := fun z => by rw [z] at p; exact p
  have un : ∀ {ρc σc AvC Hc}, Sx X.K (lockAll ρ1 rs) σ Av1 H1 ρc σc AvC Hc → Sx X.K ρ σ Av H (backR ρ1 ρc (rs.flatMap R.ix)) σc AvC Hc := fun sx => unlock_sx rl tr n hlk sx
  have unR : ∀ {ρc σc AvC Hc r v}, Sx X.K (lockAll ρ1 rs) σ Av1 H1 ρc σc AvC Hc → RepR X.K H1 AvC ρc σc Hc r v → RepR X.K H AvC (backR ρ1 ρc (rs.flatMap R.ix)) σc Hc r v := fun {ρc σc AvC Hc r v} sx hr => by
    refine (n.sx rl).backR (loc_back (by rw [← sx.len, (n.rel.locked hlk).2.2]) hlk (fun i hi => ?_) hr)
    have := sx.hold i (by rw [kl i, if_pos hi]; omega)
    rw [this.1, kl i, if_pos hi]; omega
  refine ⟨fun i m σc Hc => m = items.length - i ∧ i ≤ items.length ∧ ∃ ρc AvC, Sx X.K (lockAll ρ1 rs) σ Av1 H1 ρc σc AvC Hc ∧ forLoop tg fg (fun ρ => execs body ρ) (items.drop i) ρc = Rz,
    ⟨items.length, by simp, Nat.zero_le _, lockAll ρ1 rs, Av1, locked_sx n hlk, by simpa using hR⟩, ?_⟩
  rintro i m σc Hc ⟨rfl, hi, ρc, AvC, sx, evq⟩
  have src := src_sx n.rel q g1 hlk sx
  have sxf := forgetR_sx (is := fg) sx
  by_cases hlt : i < items.length
  · right
    refine ⟨jok.go i Hc AvC sx.tr src (gst sx.fr) hlt, fun σ' H' => i + 1 ≤ items.length ∧ ∃ ρc AvC, Sx X.K (lockAll ρ1 rs) σ Av1 H1 ρc σ' AvC H' ∧ forLoop tg fg (fun ρ => execs body ρ) (items.drop (i + 1)) ρc = Rz,
      fun σ' H' w => ⟨items.length - (i + 1), by omega, rfl, w⟩, fun x H' y => ?_⟩
    have mk := jok.yld i Hc AvC x H' items[i] sx.tr src (gst sx.fr) (List.getElem?_eq_getElem hlt) y
    have nx0 := mk.nx sxf.rel
    have sx0 := sxf.trans n.tr (nx0.sx sxf.rel)
    rw [List.drop_eq_getElem_cons hlt] at evq
    simp only [forLoop] at evq
    cases eb : bindTg tg items[i] (forgetR ρc fg) with
    | none => rw [eb] at evq; exact absurd evq.symm hbad
    | some ρ2 =>
      rw [eb] at evq
      simp only at evq
      refine ⟨forgetR ρc fg, AvC, items[i], ρ2, sx0.rel, sx0.tr, mk.rep, eb, fun σ2 bd => ⟨ρ2, AvC, bd.rel, sx0.tr, ?_⟩⟩
      have sx2 := sx0.trans n.tr (bd.sx sx0.tr)
      cases ec : execs body ρ2 with
      | bad => rw [ec] at evq; exact absurd evq.symm hbad
      | nx ρ3 =>
        rw [ec] at evq
        exact fun σ3 Av3 H3 n3 => ⟨hlt, ρ3, Av3, sx2.trans n.tr n3, evq⟩
      | ct ρ3 =>
        rw [ec] at evq
        exact fun σ3 Av3 H3 n3 => ⟨hlt, ρ3, Av3, sx2.trans n.tr n3, evq⟩
      | bk ρ3 =>
        rw [ec] at evq
        simp only at evq
        subst evq
        exact fun σ3 Av3 H3 n3 => p σ3 Av3 H3 (un (forgetR_sx (sx2.trans n.tr n3)))
      | rt r ρ3 =>
        rw [ec] at evq
        simp only at evq
        subst evq
        exact fun v σ3 Av3 H3 n3 hr => p v σ3 Av3 H3 (un (sx2.trans n.tr n3)) (unR (sx2.trans n.tr n3) (sx2.backR hr))
      | exc c ρ3 =>
        rw [ec] at evq
        simp only at evq
        subst evq
        exact fun cls σ3 Av3 H3 mm n3 => p cls σ3 Av3 H3 mm (un (sx2.trans n.tr n3))
  · left
    have ei : i = items.length := by omega
    subst ei
    refine ⟨jok.stop _ Hc AvC sx.tr src (gst sx.fr) (Nat.le_refl _), ?_⟩
    rw [List.drop_length] at evq
    simp only [forLoop] at evq
    subst evq
    exact p σc AvC Hc (un sxf)
theorem r_for {σ : St} {H : Hp} {D : Ends} (h : tS X.K X.mg W (exec (.for_ tg k es body fg)) D σ H) : tFor (tI X.K X.mg W k es) (tG X.K tg) (tS X.K X.mg W (execs body)) D σ H := by
  obtain ⟨ρ, Av, rl, tr, p⟩ := h
  simp only [exec] at p
  refine ⟨ρ, Av, rl, tr, ?_⟩
  cases e0 : evs es ρ with
  | bad => rw [e0] at p; exact p.elim
  | exc c ρ1 => rw [e0] at p; exact fun cls Av1 H1 m n => p cls σ Av1 H1 m (n.sx rl)
  | ok rs ρ1 =>
    rw [e0] at p
    simp only [Res.st] at p
    cases g : (gets ρ1 rs).bind (iterSem k) with
    | none => rw [g] at p; exact p.elim
    | some items =>
      rw [g] at p
      simp only at p
      simp only [Option.bind_eq_some_iff] at g
      obtain ⟨ts, g1, g2⟩ := g
      exact ⟨ts, items, g1, g2, fun J vs Av1 H1 G n q hG st jok => r_forcore rl tr n q g1 hG st jok p⟩
/-- a step of statements in the lock, seen from without -/
theorem unlock_stepS {K : PySem.W.Frag} {Av Av' : Addr → Prop} {ρ ρ' : Env} {σ σ' : St} {H H' : Hp} {d : Addr} {ws : List (Key × V)} {od : Obj} (rl : Rel K Av ρ σ H) (nd : ¬ Av d) (hd : H d = some (.dK ws)) (n : Sx K ρ σ Av (upd H d (.frz od (.dK ws))) ρ' σ' Av' H') :
    H' d = some (.frz od (.dK ws)) ∧ Sx K ρ σ Av H ρ' σ' Av' (upd H' d (.dK ws)) := by
  have f : H' d = some (.frz od (.dK ws)) := n.fr d _ upd_same fun w => nd (rl.wr w)
  have nd' : ¬ Av' d := fun z => (n.nw d z).elim nd fun z => by rw [upd_same] at z; cases z
  have nn : ∀ b, upd H d (.frz od (.dK ws)) b = none → H b = none := fun b z => by
    by_cases e : b = d
    · rw [e, upd_same] at z; cases z
    · rw [upd_ne e] at z; exact z
  refine ⟨f, Both.rel (.inr (ulk_of f)) nd' (fun a z => upd_ne z) n.rel, tr_upd n.tr, n.len, n.hold, n.lck, n.low, fun b h => (n.own b h).imp id (nn b), n.up, fun b h => (n.nw b h).imp id (nn b), fun b o e => ?_, fun b o e w => ?_⟩
  · by_cases z : b = d
    · subst z; exact ⟨_, upd_same⟩
    · obtain ⟨o', e'⟩ := n.all b o (by rw [upd_ne z]; exact e)
      exact ⟨o', by rw [upd_ne z]; exact e'⟩
  · by_cases z : b = d
    · subst z; rw [hd] at e; cases e; exact upd_same
    · rw [upd_ne z]
      exact n.fr b o (by rw [upd_ne z]; exact e) w
theorem lock_spost {σ : St} {H : Hp} {D : Ends} {ρ : Env} {Av : Addr → Prop} {d : Addr} {ws : List (Key × V)} {od : Obj} {x : SRes} (rl : Rel X.K Av ρ σ H) (nd : ¬ Av d) (hd : H d = some (.dK ws)) (p : SPost X.K X.mg W ρ σ Av H x.noexc D) :
    SPost X.K X.mg W ρ σ Av (upd H d (.frz od (.dK ws))) x ⟨fun σ' H' => H' d = some (.frz od (.dK ws)) ∧ D.nx σ' (upd H' d (.dK ws)), fun v H' => H' d = some (.frz od (.dK ws)) ∧ D.rt v (upd H' d (.dK ws)), fun σ' H' => H' d = some (.frz od (.dK ws)) ∧ D.bk σ' (upd H' d (.dK ws)), fun σ' H' => H' d = some (.frz od (.dK ws)) ∧ D.ct σ' (upd H' d (.dK ws))⟩ := by
  cases x with
  | nx ρ1 => exact fun σ' Av' H' n => by obtain ⟨f, n2⟩ := unlock_stepS rl nd hd n; exact ⟨f, p σ' Av' _ n2⟩
  | bk ρ1 => exact fun σ' Av' H' n => by obtain ⟨f, n2⟩ := unlock_stepS rl nd hd n; exact ⟨f, p σ' Av' _ n2⟩
  | ct ρ1 => exact fun σ' Av' H' n => by obtain ⟨f, n2⟩ := unlock_stepS rl nd hd n; exact ⟨f, p σ' Av' _ n2⟩
  | rt r ρ1 =>
    intro v σ' Av' H' n q
    obtain ⟨f, n2⟩ := unlock_stepS rl nd hd n
    have nd' : ¬ Av' d := fun z => (n.nw d z).elim nd fun z => by rw [upd_same] at z; cases z
    refine ⟨f, p v σ' Av' _ n2 ?_⟩
    cases r with
    | val t => exact Both.rep (.inr (ulk_of f)) _ _ q
    | fresh t =>
      obtain ⟨a, e, ha, w, o, z⟩ := q
      have ad : a ≠ d := fun z => nd' (z ▸ ha)
      exact ⟨a, e, ha, w, (Both.own (.inr (ulk_of f)) (upd_ne ad) o), by rw [upd_ne ad] at z; exact z⟩
    | loc i => exact q
    | deep t => exact Both.deepF nd' (.inr (ulk_of f)) (fun b ne => upd_ne ne) (fun b ne => (upd_ne ne).symm) q
  | exc c ρ1 => exact p.elim
  | bad => exact p.elim
theorem r_forK {i : Nat} {σ : St} {H : Hp} {D : Ends} (h : tS X.K X.mg W (exec (.forK tg i body fg)) D σ H) : tLock (tFor (iKeys (tVar i)) (tG X.K tg) (tS X.K X.mg W (execs body))) D σ H ∨ tFor (iKeys (tVar i)) (tG X.K tg) (tS X.K X.mg W (execs body)) D σ H := by
  obtain ⟨ρ, Av, rl, tr, p⟩ := h
  simp only [exec] at p
  cases e0 : keysAt ρ i with
  | none => rw [e0] at p; exact p.elim
  | some items =>
    rw [e0] at p
    simp only at p
    unfold keysAt at e0
    split at e0
    · rename_i kvs qs
      split at e0
      · cases e0
        obtain ⟨v, ev, hr⟩ := rl.slot i _ qs
        simp only [SlotRep, Rep] at hr
        obtain ⟨d, ws, rfl, nd, x, rd⟩ := hr
        have em : ∀ y : SRes, y.map (fun ρ' => backR ρ ρ' ([].flatMap R.ix)) = y := fun y => by cases y <;> rfl
        rcases x with x | ⟨od, x⟩
        · left
          refine ⟨d, .dK ws, x, trivial, fun od => ?_⟩
          have rl2 : Rel X.K Av ρ σ (upd H d (.frz od (.dK ws))) := Both.rel (.inl (lk_of od x)) nd (fun a z => upd_ne z) rl
          have tr2 : Tr Av (upd H d (.frz od (.dK ws))) := tr_upd tr
          have p2 := lock_spost (od := od) rl nd x p
          exact ⟨.ref d, ev, d, od, rfl, .inl ⟨ws, upd_same, r_forcore (rs := []) (ts := []) (vs := []) (G := fun H => H d = some (.frz od (.dK ws))) rl2 tr2 (.refl rl2 tr2) .nil rfl upd_same (fun Hc k => k d _ upd_same nd) (jok_keys rd) (by rw [em]; exact p2)⟩⟩
        · right
          have p2 : SPost X.K X.mg W ρ σ Av H (forLoop tg fg (fun ρ => execs body ρ) (keysT kvs) ρ) D := by
            generalize forLoop tg fg (fun ρ => execs body ρ) (keysT kvs) ρ = y at p
            cases y <;> first | exact p | exact p.elim
          exact ⟨.ref d, ev, d, od, rfl, .inl ⟨ws, x, r_forcore (rs := []) (ts := []) (vs := []) (G := fun H => H d = some (.frz od (.dK ws))) rl tr (.refl rl tr) .nil rfl x (fun Hc k => k d _ x nd) (jok_keys rd) (by rw [em]; exact p2)⟩⟩
      · cases e0
    · cases e0
theorem r_whl {c : E} {σ : St} {H : Hp} {D : Ends} (h : tS X.K X.mg W (exec (.whl c body fg)) D σ H) : tWhile (tT X.K X.mg W c) (tS X.K X.mg W (execs body)) D σ H := by
  obtain ⟨ρ, Av, rl, tr, p⟩ := h
  simp only [exec] at p
  have hbad : whlRes fg (fun ρ => truthR (ev c ρ)) (fun ρ => execs body ρ) ρ ≠ .bad := fun z => by rw [z] at p; exact p
  obtain ⟨n, hn⟩ := whlRes_ex hbad
  generalize whlRes fg (fun ρ => truthR (ev c ρ)) (fun ρ => execs body ρ) ρ = Rz at p hbad hn
  refine ⟨fun m σc Hc => ∃ ρc AvC, Sx X.K ρ σ Av H ρc σc AvC Hc ∧ whlLoop fg (fun ρ => truthR (ev c ρ)) (fun ρ => execs body ρ) m ρc = Rz, ⟨n, ρ, Av, .refl rl tr, hn⟩, ?_⟩
  rintro m σc Hc ⟨ρc, AvC, sx, evq⟩
  cases m with
  | zero => exact absurd evq.symm hbad
  | succ m =>
    have sxf := forgetR_sx (is := fg) sx
    simp only [whlLoop] at evq
    refine ⟨forgetR ρc fg, AvC, sxf.rel, sxf.tr, ?_⟩
    cases ec : truthR (ev c (forgetR ρc fg)) with
    | bad => rw [ec] at evq; exact absurd evq.symm hbad
    | exc cc ρ1 =>
      rw [ec] at evq
      simp only at evq
      subst evq
      exact fun cls Av1 H1 mm n1 => p cls σc Av1 H1 mm (sxf.trans tr (n1.sx sxf.rel))
    | ok b ρ1 =>
      rw [ec] at evq
      intro b' Av1 H1 n1 hb
      have hb : b = b' := hb
      subst hb
      have sx1 := sxf.trans tr (n1.sx sxf.rel)
      cases b with
      | false =>
        simp only at evq
        subst evq
        exact iteF (p σc Av1 H1 sx1)
      | true =>
        simp only at evq
        refine iteT ⟨fun σ' H' => ∃ ρc AvC, Sx X.K ρ σ Av H ρc σ' AvC H' ∧ whlLoop fg (fun ρ => truthR (ev c ρ)) (fun ρ => execs body ρ) m ρc = Rz, fun σ' H' w => ⟨m, by omega, w⟩, ρ1, Av1, n1.rel, n1.tr, ?_⟩
        cases ed : execs body ρ1 with
        | bad => rw [ed] at evq; exact absurd evq.symm hbad
        | nx ρ3 =>
          rw [ed] at evq
          exact fun σ3 Av3 H3 n3 => ⟨ρ3, Av3, sx1.trans tr n3, evq⟩
        | ct ρ3 =>
          rw [ed] at evq
          exact fun σ3 Av3 H3 n3 => ⟨ρ3, Av3, sx1.trans tr n3, evq⟩
        | bk ρ3 =>
          rw [ed] at evq
          simp only at evq
          subst evq
          exact fun σ3 Av3 H3 n3 => p σ3 Av3 H3 (forgetR_sx (sx1.trans tr n3))
        | rt r ρ3 =>
          rw [ed] at evq
          simp only at evq
          subst evq
          exact fun v σ3 Av3 H3 n3 hr => p v σ3 Av3 H3 (sx1.trans tr n3) (sx1.backR hr)
        | exc cc ρ3 =>
          rw [ed] at evq
          simp only at evq
          subst evq
          exact fun cls σ3 Av3 H3 mm n3 => p cls σ3 Av3 H3 mm (sx1.trans tr n3)
end
end MP

namespace MP
open PySem PySem.Spec L2
open PyProof.Rows hiding St
theorem blockK {env : PySem.Env} (hk : env.scope.kind = .function) : env.blockKind = .function := by unfold Env.blockKind; rw [hk]; rfl
theorem sw2 {x y : Str} {px py pt pt2 : Pos} {kt k2 : Nat} {a b : Expr} {env : PySem.Env} (hk : env.scope.kind = .function) (hx : env.scope.names.lookup x = some .local) (hy : env.scope.names.lookup y = some .local) (hl : (py.line == px.line) = true) (ne : x ≠ y)
    (hs : plainB a = true ∧ plainB b = true) (h1 : (foldedForSure 8 a && foldedForSure 8 b) = false) (h2 : (constantsAlone 8 a && constantsAlone 8 b) = false) :
    swappedStores [.Tuple [.Name x px, .Name y py] kt pt] (.Tuple [a, b] k2 pt2) env = pure (some [x, y]) := by
  have ky : env.kindOf y = some .local := hy
  have kx : env.kindOf x = some .local := hx
  have e : ((y == x) : Bool) = false := by simpa using fun z => ne z.symm
  unfold swappedStores
  simp only [blockK hk]
  have h3 : ([a, b].all (foldedForSure 8)) = false := by simpa using h1
  have h4 : ([a, b].all (constantsAlone 8)) = false := by simpa using h2
  refine (if_neg (by simp)).trans ((if_neg ?_).trans ?_)
  · intro h
    simp only [List.any_cons, List.any_nil, Bool.or_false, Bool.or_eq_true] at h
    obtain ⟨p, p'⟩ := hs
    rcases h with h | h
    · cases a <;> first | (cases h; done) | (simp [plainB] at p)
    · cases b <;> first | (cases h; done) | (simp [plainB] at p')
  · simp only [List.filterMap_cons, List.filterMap_nil, kx, ky, List.head?_cons, Option.map_some, Option.getD_some, Expr.pos, hl, h3, h4]
    simp [List.eraseDups_cons, e]
theorem sw0 {ts : List Expr} {pt pt2 : Pos} {kt k2 : Nat} {vs : List Expr} {env : PySem.Env} (h1 : (vs.all (foldedForSure 8)) = true) : swappedStores [.Tuple ts kt pt] (.Tuple vs k2 pt2) env = pure none := by
  unfold swappedStores
  dsimp only
  rw [h1]
  split
  · rfl
  · split
    · rfl
    · split
      · rfl
      · rfl
def farB (sc : Scope) : Expr → Bool
  | .Name id _ => !decide (sc.names.lookup id = some .local)
  | _ => true
theorem sw1 {ts : List Expr} {pt pt2 : Pos} {kt k2 : Nat} {vs : List Expr} {env : PySem.Env} (h1 : ts.any (farB env.scope) = true) : swappedStores [.Tuple ts kt pt] (.Tuple vs k2 pt2) env = pure none := by
  unfold swappedStores
  dsimp only
  split
  · rfl
  · split
    · rfl
    · split
      · rfl
      · rename_i h
        refine absurd ?_ h
        rw [Bool.or_eq_true]
        refine .inl ?_
        obtain ⟨e, he, h2⟩ := List.any_eq_true.mp h1
        rw [bne_iff_ne]
        refine Nat.ne_of_lt (List.length_filterMap_lt_length_iff_exists.mpr ⟨e, he, ?_⟩)
        cases e <;> try rfl
        rename_i id pos
        have h3 : ¬ env.scope.names.lookup id = some .local := by simpa [farB] using h2
        refine if_neg fun z => ?_
        rw [Bool.and_eq_true] at z
        exact h3 (by simpa [Env.kindOf] using z.1)
/-! ## statements that are no loops -/
section
variable {X : Cx} {W : WX} {a b c o : Expr} {e ea eb ec : E} {pos px py p : Pos} {x y : Str} {i j : Nat} {t u : Env → SRes}
theorem tS.nil : PSs X [] (tS X.K X.mg W fun ρ => .nx ρ) := pss_nil.weaken fun D σ H ⟨ρ, Av, rl, tr, p⟩ => p σ Av H (.refl rl tr)
theorem tS.cons {st : Stmt} {rest : List Stmt} (h1 : PS X st (tS X.K X.mg W t)) (h2 : PSs X rest (tS X.K X.mg W u)) : PSs X (st :: rest) (tS X.K X.mg W fun ρ => (t ρ).bind u) := by
  refine (pss_cons h1 h2).weaken fun D σ H ⟨ρ, Av, rl, tr, p⟩ => ⟨ρ, Av, rl, tr, ?_⟩
  have p := p.bind tr
  cases q : t ρ with
  | nx ρ1 =>
    rw [q] at p
    exact fun σ1 Av1 H1 n => by
      obtain ⟨ρ1', Av1', e1, n1, p1⟩ := p σ1 Av1 H1 n
      exact ⟨ρ1', Av1', n1.rel, n1.tr, p1⟩
  | bk ρ1 => rw [q] at p; exact p
  | ct ρ1 => rw [q] at p; exact p
  | rt r ρ1 => rw [q] at p; exact p
  | exc c ρ1 => rw [q] at p; exact p
  | bad => rw [q] at p; exact p
/-- a step that is no statement -/
theorem tS.ghost {sts : List Stmt} {g : Env → SRes} (h2 : PSs X sts (tS X.K X.mg W u)) (hg : ∀ ρ, g ρ = .bad ∨ ∃ ρ1, g ρ = .nx ρ1 ∧ ∀ σ Av H, Rel X.K Av ρ σ H → Tr Av H → ∃ Av1, Sx X.K ρ σ Av H ρ1 σ Av1 H) : PSs X sts (tS X.K X.mg W fun ρ => (g ρ).bind u) := by
  refine h2.weaken fun D σ H ⟨ρ, Av, rl, tr, p⟩ => ?_
  have p : SPost X.K X.mg W ρ σ Av H ((g ρ).bind u) D := p
  rcases hg ρ with e | ⟨ρ1, e, k⟩
  · rw [e] at p; exact p.elim
  · obtain ⟨Av1, n⟩ := k σ Av H rl tr
    rw [e] at p
    exact ⟨ρ1, Av1, n.rel, n.tr, SPost.later tr p n⟩
theorem s_ex (h : PE X a (tE X.K X.mg W e)) (hs : swapsWith a none pos.line X.env = pure false) : PS X (.Expr a pos) (tS X.K X.mg W (exec (.ex e))) := by
  refine (ps_expr h hs).weaken fun D σ H ⟨ρ, Av, rl, tr, p⟩ => ?_
  simp only [exec] at p
  exact ⟨ρ, Av, rl, tr, (SPost.ev rl tr p).mono fun v H1 ⟨r, ρ1, Av1, _, n, q, p1, _⟩ => p1 σ Av1 H1 (.refl n.rel n.tr)⟩
theorem r_set {σ : St} {H : Hp} {D : Ends} (h : tS X.K X.mg W (exec (.set i e)) D σ H) : tE X.K X.mg W e σ H fun v H1 => D.nx (σ.set i (some v)) H1 := by
  obtain ⟨ρ, Av, rl, tr, p⟩ := h
  simp only [exec] at p
  refine ⟨ρ, Av, rl, tr, (SPost.ev rl tr p).mono fun v H1 ⟨r, ρ1, Av1, _, n, q, _, p1⟩ => ?_⟩
  cases g : setR ρ1 i r with
  | none => rw [g] at p1; exact p1.elim
  | some ρ2 => rw [g] at p1; exact p1 _ Av1 H1 (setR_sx (n.sx rl) q g)
theorem s_set (hN : X.N.Nodup) (hi : X.N[i]? = some x) (hx : Loc X.env.scope x) (hf : X.fn x = true) (h : PE X a (tE X.K X.mg W e)) (hs : swapsWith a (some (.Name x px)) pos.line X.env = pure false) : PS X (.Assign [.Name x px] a pos) (tS X.K X.mg W (exec (.set i e))) :=
  (ps_set hN hi hx h hs (.inl hf)).weaken fun D σ H q => r_set q
theorem s_unp {tg : Tg} {es : List Expr} {kt : Nat} {pt : Pos} (h : PE X a (tE X.K X.mg W e)) (hg : PG X (.Tuple es kt pt) (tG X.K tg)) (hw : swappedStores [.Tuple es kt pt] a X.env = pure none) : PS X (.Assign [.Tuple es kt pt] a pos) (tS X.K X.mg W (exec (.unp tg e))) := by
  have hs : swapsWithSole [.Tuple es kt pt] a pos.line X.env = pure false := by cases a <;> rfl
  refine (ps_asg h hg hs hw).weaken fun D σ H ⟨ρ, Av, rl, tr, p⟩ => ?_
  simp only [exec] at p
  refine ⟨ρ, Av, rl, tr, (SPost.ev rl tr p).mono fun v H1 ⟨r, ρ1, Av1, _, n, q, _, p1⟩ => ?_⟩
  cases g : r.clean with
  | none => rw [g] at p1; exact p1.elim
  | some t =>
    rw [g] at p1
    simp only at p1
    cases g2 : bindTg tg t ρ1 with
    | none => rw [g2] at p1; exact p1.elim
    | some ρ2 =>
      rw [g2] at p1
      have nh := n.home rl
      exact ⟨ρ1, Av, t, ρ2, nh.rel, nh.tr, n.cleanR tr q g, g2, fun σ' bd => p1 σ' Av H1 ((nh.sx rl).trans tr (bd.sx nh.tr))⟩
theorem s_par {kt k2 : Nat} {pt pt2 : Pos} (hc : X.calm = true) (hN : X.N.Nodup) (hi : X.N[i]? = some x) (hj : X.N[j]? = some y) (hij : i ≠ j) (hx : X.env.scope.names.lookup x = some .local) (hy : X.env.scope.names.lookup y = some .local) (hpl : plainB a = true ∧ plainB b = true)
    (ha : PE X a (tE X.K X.mg W ea)) (hb : PE X b (tE X.K X.mg W eb)) (hw : swappedStores [.Tuple [.Name x px, .Name y py] kt pt] (.Tuple [a, b] k2 pt2) X.env = pure (some [x, y])) :
    PS X (.Assign [.Tuple [.Name x px, .Name y py] kt pt] (.Tuple [a, b] k2 pt2) pos) (tS X.K X.mg W (exec (.par i j ea eb))) := by
  refine (ps_par hc hN hi hj hij hx hy (pa_cons ha (pa_cons hb pa_nil (star_plain hpl.2)) (star_plain hpl.1)) hw).weaken fun D σ H ⟨ρ, Av, rl, tr, p⟩ => ?_
  simp only [exec] at p
  refine ⟨ρ, Av, rl, tr, (SPost.ev rl tr p).mono fun v H1 ⟨r, ρ1, Av1, _, n1, q1, p1, p1'⟩ => ⟨ρ1, Av1, n1.rel, n1.tr, (SPost.ev n1.rel n1.tr p1).mono fun w H2 ⟨q, ρ2, Av2, e2, n2, q2, _, _⟩ => ?_⟩⟩
  rw [e2] at p1'
  simp only [Res.st] at p1'
  cases g : setPar ρ2 i j r q with
  | none => rw [g] at p1'; exact p1'.elim
  | some ρ3 => rw [g] at p1'; exact ⟨v, w, rfl, p1' _ Av2 H2 (setPar_sx rl n1 q1 n2 q2 g)⟩
/-- x += e, ints -/
theorem s_aug (hN : X.N.Nodup) (hi : X.N[i]? = some x) (hx : Loc X.env.scope x) (hf : X.fn x = true) (h : PE X a (tE X.K X.mg W e)) : PS X (.AugAssign (.Name x px) .Add a pos) (tS X.K X.mg W (exec (.aug i e))) := by
  refine (ps_aug hN hi hx h ip_add (.inl hf)).weaken fun D σ H ⟨ρ, Av, rl, tr, p⟩ => ?_
  simp only [exec] at p
  cases q0 : slotAt ρ i with
  | none => rw [q0] at p; exact p.elim
  | some s0 =>
    rw [q0] at p
    cases s0 <;> (try (exact p.elim))
    rename_i t0
    cases t0 <;> (try (exact p.elim))
    rename_i m
    simp only at p
    obtain ⟨v0, ev0, r0⟩ := rl.slot i _ q0
    simp only [SlotRep, Rep] at r0
    subst r0
    refine ⟨.int m, ev0, ρ, Av, rl, tr, (SPost.ev rl tr p).mono fun v H1 ⟨r, ρ1, Av1, _, n, q, _, p1⟩ => ?_⟩
    cases r with
    | fresh t => exact p1.elim
    | loc j => exact p1.elim
    | deep j => exact p1.elim
    | val t =>
      cases t with
      | int b =>
        cases q1 : slotAt ρ1 i with
        | none => rw [q1] at p1; exact p1.elim
        | some s1 =>
          rw [q1] at p1
          cases s1 with
          | shr t1 =>
            cases t1 with
            | int _ =>
              simp only at p1
              simp only [RepR, Rep] at q
              subst q
              refine ⟨m, b, rfl, rfl, ?_⟩
              cases g : setS ρ1 i (.shr (.int (m + b))) with
              | none => rw [g] at p1; exact p1.elim
              | some ρ2 =>
                rw [g] at p1
                have g2 : setR ρ1 i (.val (.int (m + b))) = some ρ2 := g
                exact p1 _ Av1 H1 (setR_sx (v := .int (m + b)) (n.sx rl) (by simp [RepR, Rep]) g2)
            | _ => exact p1.elim
          | _ => exact p1.elim
      | _ => exact p1.elim
/-- by values: the object at b, its new content -/
def rPut (K : PySem.W.Frag) : TSet := fun o i v H Q => ∃ b l l' t u Av, o = .ref b ∧ Av b ∧ Tr Av H ∧ OwnRep K H Av b l ∧ Rep K H Av t i ∧ Rep K H Av u v ∧ putSem l t u = some l' ∧ ∀ ho, OwnRep K (upd H b ho) Av b l' → Q (upd H b ho)
theorem put_ok (hu : X.A.units + 1 < cLine) : PSet X (rPut X.K) := by
  intro pins s σ H o i v ov iv u Q I ro ri rv h
  obtain ⟨b, l, l', t, w, Av, rfl, hb, tr, ow, rt, rw', e, k⟩ := h
  by_cases hd : ∃ kvs, l = .dct kvs
  · obtain ⟨kvs, rfl⟩ := hd
    simp only [putSem, Option.bind_eq_some_iff] at e
    obtain ⟨kk, e1, e⟩ := e
    split at e
    · rename_i hsz
      cases e
      simp only [OwnRep] at ow
      obtain ⟨ws, g, rd⟩ := ow
      obtain ⟨rfl, hk, rfl⟩ := rep_tK e1 rt
      have sz : kvs.length = ws.length := by
        have := congrArg List.length rd.keysK
        simpa using this.symm
      obtain rfl : ov = Value.ref b := ro
      refine d_setItem hu I (H' := upd H b (.dK (putK ws (keyOf kk) v))) (.inl ⟨ws, keyOf kk, g, (kV_key kk).symm, by rw [line, ← sz]; exact hsz, rfl⟩) ri rv fun s' I' => ⟨_, I', k _ ?_⟩
      simp only [OwnRep]
      exact ⟨_, upd_same, RepD.keep (wr_keep hb) (fun _ _ _ n => n) _ _ (RepD.put rw' hk rd)⟩
    · cases e
  cases l <;> (try (exact absurd ⟨_, rfl⟩ hd)) <;> (try (simp [putSem] at e; done))
  cases t <;> (try (simp [putSem] at e; done))
  rename_i ts n
  simp only [OwnRep] at ow
  obtain ⟨ls, g, rr⟩ := ow
  simp only [Rep] at rt
  subst rt
  simp only [putSem] at e
  have hl := rr.length
  have fin : ∀ j, OwnRep X.K (upd H b (.lst (ls.set j v))) Av b (.lst (ts.set j w)) := fun j => by
    simp only [OwnRep]
    exact ⟨_, upd_same, (Reps.set rw' j rr).keep (wr_keep hb) (fun _ _ _ n => n) _ _⟩
  split at e
  · rename_i hn
    cases e
    exact set_list pins s σ H _ _ _ ov iv u Q I ro ri rv ⟨b, ls, n, n.toNat, rfl, rfl, g, by unfold ixN; rw [if_pos hn.1, if_pos (by omega)], k _ (fin _)⟩
  · split at e
    · rename_i hn
      cases e
      exact set_list pins s σ H _ _ _ ov iv u Q I ro ri rv ⟨b, ls, n, (n + ts.length).toNat, rfl, rfl, g, by unfold ixN; rw [if_neg (by omega), if_pos (by omega), hl], k _ (fin _)⟩
    · cases e
theorem s_put (hu : X.A.units + 1 < cLine) (hx : PE X (.Name x px) (tVar i)) (hb : PE X b (tE X.K X.mg W eb)) (ha : PE X a (tE X.K X.mg W ea)) (hp : plainB b = true) : PS X (.Assign [.Subscript (.Name x px) b p] a pos) (tS X.K X.mg W (exec (.put i eb ea))) := by
  have hs : swapsWithSole [.Subscript (.Name x px) b p] a pos.line X.env = pure false := by cases a <;> rfl
  have hw : swappedStores [.Subscript (.Name x px) b p] a X.env = pure none := by cases a <;> rfl
  refine (ps_asg ha (pg_sub hx hb (put_ok hu) (by intro v; cases b <;> first | rfl | (simp [plainB] at hp))) hs hw).weaken fun D σ H ⟨ρ, Av, rl, tr, p⟩ => ?_
  simp only [exec] at p
  refine ⟨ρ, Av, rl, tr, (SPost.ev rl tr p).mono fun v H1 ⟨r, ρ1, Av1, _, n, q, _, p1⟩ => ?_⟩
  cases g : r.clean with
  | none => rw [g] at p1; exact p1.elim
  | some u =>
    rw [g] at p1
    simp only at p1
    split at p1
    · rename_i hk
      have nh := n.home rl
      have ru := n.cleanR tr q g
      obtain ⟨s, qs, m, ks⟩ := kind_slot (ρ := ρ1) (i := i) (by omega)
      obtain ⟨b', e1, hb', _⟩ := nh.rel.at qs m
      refine ⟨_, e1, ρ1, Av, nh.rel, nh.tr, ?_⟩
      have p2 := p1.later tr (nh.sx rl)
      refine (SPost.ev nh.rel nh.tr p2).mono fun w H2 ⟨q', ρ2, Av2, _, n2, q2, _, p3⟩ => ?_
      cases g2 : q'.clean with
      | none => rw [g2] at p3; exact p3.elim
      | some t =>
        rw [g2] at p3
        simp only at p3
        have n2h := n2.home nh.rel
        have rt := n2.cleanR nh.tr q2 g2
        have ru2 := n2h.rep nh.rel ru
        cases g3 : putR ρ2 i t u with
        | none => rw [g3] at p3; exact p3.elim
        | some ρ3 =>
          rw [g3] at p3
          have go : ∀ s l l', slotAt ρ2 i = some s → (s.k = 2 ∨ s.k = 3) → s.t = l → putSem l t u = some l' → ρ3 = ρ2.set i (some (reown s l')) → rPut X.K (.ref b') w v H2 fun H3 => D.nx σ H3 := by
            intro s l l' qs2 ks2 hl e3 e4
            subst e4 hl
            obtain ⟨b2, e5, hb2, o2⟩ := n2h.rel.at qs2 (mine_k.mpr (by omega))
            rw [e1] at e5; cases e5
            refine ⟨b', s.t, l', t, u, Av, rfl, hb2, n2h.tr, o2, rt, ru2, e3, fun ho o3 => ?_⟩
            have nw := wrote n2h.rel n2h.tr qs2 ks2 e1 o3
            exact p3 σ Av _ ((n2h.sx nh.rel).trans nh.tr (nw.sx n2h.rel))
          unfold putR at g3
          split at g3
          · rename_i l ql
            simp only [Option.map_eq_some_iff] at g3
            obtain ⟨l', e3, rfl⟩ := g3
            exact go _ l l' ql (.inl rfl) rfl e3 rfl
          · rename_i l ql
            simp only [Option.map_eq_some_iff] at g3
            obtain ⟨l', e3, rfl⟩ := g3
            exact go _ l l' ql (.inr rfl) rfl e3 rfl
          · cases g3
    · exact p1.elim
theorem s_ifs {as bs : List Stmt} {sa sb : List S} (hc : PT X c (tT X.K X.mg W ec)) (ha : PSs X as (tS X.K X.mg W (execs sa))) (hb : PSs X bs (tS X.K X.mg W (execs sb))) : PS X (.If c as bs pos) (tS X.K X.mg W (exec (.ifs ec sa sb))) := by
  refine (ps_if hc ha hb).weaken fun D σ H ⟨ρ, Av, rl, tr, p⟩ => ?_
  simp only [exec] at p
  refine ⟨ρ, Av, rl, tr, (SPost.ev rl tr p).mono fun k H1 ⟨r, ρ1, Av1, _, n, q, p1, _⟩ => ?_⟩
  have q : r = k := q
  subst q
  cases r with
  | true => exact iteT ⟨ρ1, Av1, n.rel, n.tr, p1⟩
  | false => exact iteF ⟨ρ1, Av1, n.rel, n.tr, p1⟩
theorem s_ret (h : PE X a (tE X.K X.mg W e)) : PS X (.Return (some a) pos) (tS X.K X.mg W (exec (.ret e))) := by
  refine (ps_ret h).weaken fun D σ H ⟨ρ, Av, rl, tr, p⟩ => ?_
  simp only [exec] at p
  exact ⟨ρ, Av, rl, tr, (SPost.ev rl tr p).mono fun v H1 ⟨r, ρ1, Av1, _, n, q, _, p1⟩ => p1 v σ Av1 H1 (n.sx rl) q⟩
theorem s_retN : PS X (.Return none pos) (tS X.K X.mg W (exec .retN)) := ps_retN.weaken fun D σ H ⟨ρ, Av, rl, tr, p⟩ => by
  simp only [exec] at p
  exact p .non σ Av H (.refl rl tr) (by simp [RepR, Rep])
theorem s_brk : PS X (.Break pos) (tS X.K X.mg W (exec .brk)) := ps_break.weaken fun D σ H ⟨ρ, Av, rl, tr, p⟩ => by
  simp only [exec] at p
  exact p σ Av H (.refl rl tr)
theorem s_cont : PS X (.Continue pos) (tS X.K X.mg W (exec .cont)) := ps_continue.weaken fun D σ H ⟨ρ, Av, rl, tr, p⟩ => by
  simp only [exec] at p
  exact p σ Av H (.refl rl tr)
theorem s_pass : PS X (.Pass pos) (tS X.K X.mg W (exec .pass)) := ps_pass.weaken fun D σ H ⟨ρ, Av, rl, tr, p⟩ => by
  simp only [exec] at p
  exact p σ Av H (.refl rl tr)
theorem s_raise {cn : String} {C : Addr} {bmB : List Value} {B newId initId : String} {m : Str} {k : Nat} {p2 pos2 : Pos} (hc : X.calm = true) (tk : Takes X W) (F : PySem.ExcBaseFacts B newId initId bmB) (q : PySem.W.excIn X.K C bmB newId = true) (gC : X.mg (cn : Str) = some (.ref C))
    (kC : PySem.W.keepIn X.K (.ref C) = true) (h1 : PySem.W.subIn X.K (.ref C) (.type "BaseException") = some true) (h2 : PySem.W.typeIn X.K (.ref C) = some (.type "type")) (hg : Gl X (cn : Str)) (hd : ((cn : Str) == ("__debug__" : Str)) = false) :
    PS X (.Raise (some (.Call (.Name (cn : Str) p) [.Constant (.str m) k p2] [] pos)) none pos2) (tS X.K X.mg W (exec (.raise cn))) := by
  refine (ps_raise hc tk (pmk_own F q gC kC (raises_own h1 h2) hg hd)).weaken fun D σ H ⟨ρ, Av, rl, tr, p⟩ => ?_
  simp only [exec] at p
  exact p _ σ Av H gC (.refl rl tr)
/-- a slot that is empty -/
theorem Sx.blank {K : PySem.W.Frag} {ρ ρ1 : Env} {σ σ1 : St} {Av Av1 : Addr → Prop} {H H1 : Hp} {j : Nat} (n : Sx K ρ σ Av H ρ1 σ1 Av1 H1) (h : slotAt ρ1 j = none) : Sx K ρ σ Av H ρ1 (σ1.set j none) Av1 H1 := by
  have kz : kindAt ρ1 j = 0 := by unfold kindAt; rw [h]
  have ne : ∀ i s, slotAt ρ1 i = some s → i ≠ j := fun i s q z => by rw [z, h] at q; cases q
  have sg : ∀ i, i ≠ j → (σ1.set j none)[i]? = σ1[i]? := fun i z => List.getElem?_set_ne (Ne.symm z)
  have nk : ∀ i, kindAt ρ1 i ≥ 1 → i ≠ j := fun i k z => by rw [z, kz] at k; omega
  refine ⟨⟨by simpa using n.rel.len, fun i s q => ?_, fun i l s s' a q q' m m' e e' => ?_⟩, n.tr, n.len, fun i k => ?_, n.lck, n.low, fun b ⟨i, k, e⟩ => ?_, n.up, n.nw, n.all, n.fr⟩
  · rw [sg i (ne i s q)]; exact n.rel.slot i s q
  · rw [sg i (ne i s q)] at e; rw [sg l (ne l s' q')] at e'; exact n.rel.inj i l s s' a q q' m m' e e'
  · obtain ⟨h1, h2⟩ := n.hold i k
    exact ⟨h1, by rw [sg i (nk i (by omega))]; exact h2⟩
  · rw [sg i (nk i (by omega))] at e; exact n.own b ⟨i, k, e⟩
theorem s_try_as {np pos' : Pos} {n : Str} {DM : Addr} {body suite : List Stmt} {b₀ : Stmt} {sb sh : List S} {xs : List String} (hs : X.stack = X.env :: X.outer) (hf : X.env.frame = some X.env.locals) (hN : X.N.Nodup) (hi : X.N[i]? = some n) (hln : X.env.kindOf n = some .local)
    (hc : Names X "MarkError" (.ref DM)) (hx : ∀ c ∈ xs, ∃ D, X.mg (c : Str) = some (.ref D) ∧ PySem.W.nsIn X.K mainGlobals (c : Str) = some (some (.ref D)) ∧ PySem.W.exmOne X.K (.ref D) (.ref DM) = some true)
    (hb : ∀ (W : WX) (pn : List (Addr × Obj)) (xe : Value → Shared → Prop), Takes (X.tr pn xe) W → PassesOwn (model X.prog X.w) X.A X.env xe → PSs (X.tr pn xe) body (tS X.K X.mg W (execs sb)))
    (hsu : ∀ (a : Addr) (pn : List (Addr × Obj)), PSs (X.suite a pn) (b₀ :: suite) (tS X.K X.mg W0 (execs sh))) :
    PS X (.Try body [.ExceptHandler (some (.Name "MarkError" np)) (some n) (b₀ :: suite) pos'] [] [] pos) (tS X.K X.mg W (exec (.tryx sb (some i) sh xs))) := by
  refine (ps_try_asT (tb := fun W => tS X.K X.mg W (execs sb)) (ts := fun _ => tS X.K X.mg W0 (execs sh)) hs hf hN hi hln hc hb hsu).weaken fun D σ H ⟨ρ, Av, rl, tr, p⟩ => ?_
  simp only [exec] at p
  refine ⟨ρ, Av, rl, tr, ?_⟩
  cases q : execs sb ρ with
  | nx ρ1 => rw [q] at p; exact p
  | bk ρ1 => rw [q] at p; exact p
  | ct ρ1 => rw [q] at p; exact p
  | rt r ρ1 => rw [q] at p; exact p
  | bad => rw [q] at p; exact p
  | exc c ρ1 =>
    rw [q] at p
    simp only at p
    split at p
    · rename_i hcx
      intro cls σ1 Av1 H1 m sx
      obtain ⟨D', q1, q2, q3⟩ := hx c hcx
      rw [q1] at m; cases m
      refine ⟨q3, rfl, fun a ha => ?_⟩
      cases g : setS ρ1 i (.shr (.exc c)) with
      | none => simp only [trySet, g] at p; exact p.elim
      | some ρ2 =>
        simp only [trySet, g] at p
        have mk : Made X.K Av1 H1 (.val (.exc c)) (.ref a) Av1 (upd H1 a (ExT (.ref D') a)) := ⟨laid_keep ha, fun _ h => h, fun _ h => .inl h, sx.tr.laid, by simp only [Rep]; exact ⟨a, D', rfl, sx.tr.not ha, upd_same, q2⟩⟩
        have sx2 := sx.trans tr ((mk.nx sx.rel).sx sx.rel)
        have g2 : setR ρ1 i (.val (.exc c)) = some ρ2 := g
        have sx3 := setR_sx sx2 (sx.backR (mk.repR sx.rel)) g2
        refine ⟨ρ2, Av1, sx3.rel, sx3.tr, ?_⟩
        have hi2 := setS_some g
        have k1 : kindAt ρ2 i = 1 := by
          obtain ⟨hl, rfl, _⟩ := hi2
          unfold kindAt; rw [slotAt_set hl]; simp [Slot.k]
        cases q4 : execs sh ρ2 with
        | nx ρ3 =>
          rw [q4] at p
          simp only [tryEnd] at p
          intro σ3 Av3 H3 n3
          have n4 := sx3.trans tr n3
          have k3 : kindAt ρ3 i < 3 := by
            rcases Nat.lt_or_ge (kindAt ρ3 i) 3 with h | h
            · exact h
            · have := n3.low i h; omega
          have n5 := n4.emptied k3
          refine p _ Av3 H3 (Sx.blank n5 ?_)
          unfold slotAt
          by_cases hl : i < ρ3.length
          · rw [List.getElem?_set_self hl]; rfl
          · rw [List.getElem?_eq_none (by simpa using hl)]; rfl
        | rt r ρ3 =>
          rw [q4] at p
          simp only [tryEnd] at p
          exact fun v σ3 Av3 H3 n3 r3 => p v σ3 Av3 H3 (sx3.trans tr n3) (sx3.backR r3)
        | bk ρ3 => rw [q4] at p; exact p.elim
        | ct ρ3 => rw [q4] at p; exact p.elim
        | exc c3 ρ3 => rw [q4] at p; exact p.elim
        | bad => rw [q4] at p; exact p.elim
    · exact p.elim
theorem s_try_only {np pos' : Pos} {DM : Addr} {body suite : List Stmt} {b₀ : Stmt} {sb sh : List S} {xs : List String} (hs : X.stack = X.env :: X.outer) (hf : X.env.frame = some X.env.locals) (tk : Takes X W)
    (hc : Names X "MarkError" (.ref DM)) (hx : ∀ c ∈ xs, ∃ D, X.mg (c : Str) = some (.ref D) ∧ PySem.W.nsIn X.K mainGlobals (c : Str) = some (some (.ref D)) ∧ PySem.W.exmOne X.K (.ref D) (.ref DM) = some true)
    (hb : ∀ (W : WX) (pn : List (Addr × Obj)) (xe : Value → Shared → Prop), Takes (X.tr pn xe) W → PassesOwn (model X.prog X.w) X.A X.env xe → PSs (X.tr pn xe) body (tS X.K X.mg W (execs sb)))
    (hsu : ∀ (a : Addr) (pn : List (Addr × Obj)), PSs (X.suite a pn) (b₀ :: suite) (tS X.K X.mg W0 (execs sh))) :
    PS X (.Try body [.ExceptHandler (some (.Name "MarkError" np)) none (b₀ :: suite) pos'] [] [] pos) (tS X.K X.mg W (exec (.tryx sb none sh xs))) := by
  refine (ps_try_only (tb := fun W => tS X.K X.mg W (execs sb)) (ts := fun _ _ _ => tS X.K X.mg W0 (execs sh)) hs hf hc tk hb fun a oe cls d pn _ _ => hsu a _).weaken fun D σ H ⟨ρ, Av, rl, tr, p⟩ => ?_
  simp only [exec] at p
  refine ⟨ρ, Av, rl, tr, ?_⟩
  cases q : execs sb ρ with
  | nx ρ1 => rw [q] at p; exact p
  | bk ρ1 => rw [q] at p; exact p
  | ct ρ1 => rw [q] at p; exact p
  | rt r ρ1 => rw [q] at p; exact p
  | bad => rw [q] at p; exact p
  | exc c ρ1 =>
    rw [q] at p
    simp only at p
    split at p
    · rename_i hcx
      intro cls σ1 Av1 H1 m sx
      obtain ⟨D', q1, q2, q3⟩ := hx c hcx
      rw [q1] at m; cases m
      refine ⟨true, q3, fun _ a ha => ⟨ρ1, Av1, sx.rel, sx.tr, ?_⟩, fun z => nomatch z⟩
      simp only [trySet] at p
      cases q4 : execs sh ρ1 with
      | nx ρ3 => rw [q4] at p; exact fun σ3 Av3 H3 n3 => p σ3 Av3 H3 (sx.trans tr n3)
      | rt r ρ3 => rw [q4] at p; exact fun v σ3 Av3 H3 n3 r3 => p v σ3 Av3 H3 (sx.trans tr n3) (sx.backR r3)
      | bk ρ3 => rw [q4] at p; exact p.elim
      | ct ρ3 => rw [q4] at p; exact p.elim
      | exc c3 ρ3 => rw [q4] at p; exact p.elim
      | bad => rw [q4] at p; exact p.elim
    · exact p.elim
end
end MP

namespace MP
open PySem PySem.Spec L2
open PyProof.Rows hiding St
/-! ## a list's part is written -/
/-- a slice, as an object -/
def SlO (p : Addr) (a c : Int) : HO := .ext fun h => ∃ vl vu, h.IsSliceOf p vl vu .none ∧ RelV (.int a) vl ∧ RelV (.int c) vu
def tSlcO (tl th : TE) : TE := fun σ H Q => tl σ H fun x H1 => ∃ a, x = .int a ∧ th σ H1 fun y H2 => ∃ c, y = .int c ∧ ∀ p, H2 p = none → Q (.ref p) (upd H2 p (SlO p a c))
section
variable {X : Cx} {W : WX} {lo hi o a : Expr} {tl th to : TE} {p2 p px pos : Pos}
theorem pe_slcO (hl : PE X lo tl) (hu : PE X hi th) : PE X (.Slice (some lo) (some hi) none p2) (tSlcO tl th) := by
  refine ⟨fun pins s σ H Q I h => ?_⟩
  refine wpAny_Slice ?_
  rw [evalPart_some]
  refine thn (hl.run pins s σ H _ I h) fun vl s2 ⟨l, H2, I2, r2, a, ea, q2⟩ => ?_
  rw [evalPart_some]
  refine thn (hu.run pins s2 σ H2 _ I2 q2) fun vu s3 ⟨u, H3, I3, r3, c, ec, q3⟩ => ?_
  rw [evalPart_none]
  refine wpAny_pure ?_
  subst ea ec
  refine ⟨.ref s3.heap.objs.size, _, I3.laid (t' := s3.toks) (o := SlO s3.heap.objs.size a c) (fun b ob q => Heap.get?_push_of_some _ q) (Nat.le_refl _) ?_, rfl, q3 _ (I3.hok.fresh (Nat.le_refl _))⟩
  have hs := Heap.IsSliceOf.new s3.heap vl vu .none
  refine ⟨⟨vl, vu, hs, r2, r3⟩, ?_, fun h1 h2 ⟨l1, u1, z, z2, z3⟩ k => ?_⟩
  · obtain ⟨ob, e, _⟩ := hs
    exact ⟨ob, e⟩
  · obtain ⟨ob, e, z4⟩ := z
    exact ⟨l1, u1, ⟨ob, k ob e, z4⟩, z2, z3⟩
theorem pg_slc {t : TSet} (ho : PE X o to) (hl : PE X lo tl) (hu : PE X hi th) (hs : PSet X t) : PG X (.Subscript o (.Slice (some lo) (some hi) none p2) pos) (gSub to (tSlcO tl th) t) := by
  refine ⟨fun pins s σ H v u Q I r h => ?_⟩
  have ha : assign (.Subscript o (.Slice (some lo) (some hi) none p2) pos) X.env u = (do
      let ov ← holding [u] (eval o X.env)
      let iv ← holding [u, ov] (eval (.Slice (some lo) (some hi) none p2) X.env)
      standAt pos
      holding [u, ov, iv] (setItem ov iv u)
      release [iv, u, ov] []) := rfl
  rw [ha]
  refine wpAny_bind (wpAny_holding (thn (ho.run pins s σ H _ I h) fun ov s1 ⟨x, H1, I1, r1, q1⟩ => ?_))
  refine wpAny_bind (wpAny_holding (thn ((pe_slcO hl hu).run pins s1 σ H1 _ I1 q1) fun iv s2 ⟨y, H2, I2, r2, q2⟩ => ?_))
  refine wpAny_bind (wpAny_standAt (wpAny_bind (wpAny_holding (thn (hs pins s2 σ H2 x y v ov iv u _ I2 r1 r2 r q2) fun _ s3 ⟨H3, I3, q3⟩ => ?_))))
  exact wpAny_release ⟨σ, H3, I3, q3⟩
/-- by values: the object at b, its new content -/
def rStw (K : PySem.W.Frag) : TSet := fun o i v H Q => ∃ b sl a c l l' u Av, o = .ref b ∧ i = .ref sl ∧ H sl = some (SlO sl a c) ∧ Av b ∧ Tr Av H ∧ OwnRep K H Av b l ∧ Rep K H Av u v ∧ stwSem l a c u = some l' ∧ ∀ ho, OwnRep K (upd H b ho) Av b l' → Q (upd H b ho)
theorem stw_ok : PSet X (rStw X.K) := by
  intro pins s σ H o i v ov iv u Q I ro ri rv h
  obtain ⟨b, sl, a, c, l, l', w, Av, rfl, rfl, hsl, hb, tr, ow, rw', e, k⟩ := h
  cases l <;> (try (simp [stwSem] at e; done))
  cases w <;> (try (simp [stwSem] at e; done))
  rename_i ts us
  simp only [stwSem] at e
  split at e
  · rename_i hc
    cases e
    simp only [OwnRep] at ow
    obtain ⟨ls, g, rr⟩ := ow
    simp only [Rep] at rw'
    obtain ⟨d, vs, rfl, nd, gd, r2⟩ := rw'
    obtain rfl : ov = Value.ref b := ro
    obtain rfl : iv = Value.ref sl := ri
    obtain rfl : u = Value.ref d := rv
    obtain ⟨vl, vu, hs, r3, r4⟩ := (show ObjOk X.prog X.w H s.heap sl (SlO sl a c) from I.hok sl _ hsl).1
    refine set_slice I g gd (fun z => nd (z ▸ hb)) hs r3 r4 hc.1 hc.2.1 (by rw [← rr.length]; exact hc.2.2.1) (by rw [line, ← rr.length, ← r2.length]; exact hc.2.2.2) fun s' I' => ⟨_, I', k _ ?_⟩
    simp only [OwnRep]
    exact ⟨_, upd_same, (((rr.take _).append r2).append (rr.drop _)).keep (wr_keep hb) (fun _ _ _ n => n) _ _⟩
  · cases e
theorem RepR.int {K : PySem.W.Frag} {H0 H : Hp} {Av : Addr → Prop} {ρ : Env} {σ : St} {q : R} {v : V} {a : Int} (h : RepR K H0 Av ρ σ H q v) (e : q.int? = some a) : v = .int a := by
  cases q with
  | val t =>
    cases t <;> simp [R.int?] at e
    subst e
    simpa only [RepR, Rep] using h
  | _ => simp [R.int?] at e
theorem s_stw {i : Nat} {x : Str} {ea el eh : E} (hx : PE X (.Name x px) (tVar i)) (hl : PE X lo (tE X.K X.mg W el)) (hh : PE X hi (tE X.K X.mg W eh)) (ha : PE X a (tE X.K X.mg W ea)) :
    PS X (.Assign [.Subscript (.Name x px) (.Slice (some lo) (some hi) none p2) p] a pos) (tS X.K X.mg W (exec (.stw i el eh ea))) := by
  have hs : swapsWithSole [.Subscript (.Name x px) (.Slice (some lo) (some hi) none p2) p] a pos.line X.env = pure false := by cases a <;> rfl
  have hw : swappedStores [.Subscript (.Name x px) (.Slice (some lo) (some hi) none p2) p] a X.env = pure none := by cases a <;> rfl
  refine (ps_asg ha (pg_slc hx hl hh stw_ok) hs hw).weaken fun D σ H ⟨ρ, Av, rl, tr, p⟩ => ?_
  simp only [exec] at p
  refine ⟨ρ, Av, rl, tr, (SPost.ev rl tr p).mono fun v H1 ⟨r, ρ1, Av1, _, n, q, _, p1⟩ => ?_⟩
  cases g : r.clean with
  | none => rw [g] at p1; exact p1.elim
  | some u =>
    rw [g] at p1
    simp only at p1
    split at p1
    · rename_i hk
      have nh := n.home rl
      have ru := n.cleanR tr q g
      obtain ⟨s, qs, m, ks⟩ := kind_slot (ρ := ρ1) (i := i) (by omega)
      obtain ⟨b', e1, hb', _⟩ := nh.rel.at qs m
      refine ⟨_, e1, ρ1, Av, nh.rel, nh.tr, ?_⟩
      have p2 := p1.later tr (nh.sx rl)
      refine (SPost.ev nh.rel nh.tr p2).mono fun w H2 ⟨q', ρ2, Av2, _, n2, q2, _, p3⟩ => ?_
      cases g2 : q'.int? with
      | none => rw [g2] at p3; exact p3.elim
      | some a =>
        rw [g2] at p3
        simp only at p3
        have n2h := n2.home nh.rel
        have sx2 : Sx X.K ρ1 σ Av H1 ρ2 σ Av H2 := n2h.sx nh.rel
        have ru2 := n2h.rep nh.rel ru
        have ew : w = .int a := q2.int g2
        refine ⟨a, ew, ρ2, Av, n2h.rel, n2h.tr, ?_⟩
        have p4 := p3.later nh.tr sx2
        refine (SPost.ev n2h.rel n2h.tr p4).mono fun w' H3 ⟨q'', ρ3, Av3, _, n3, q3, _, p5⟩ => ?_
        cases g3 : q''.int? with
        | none => rw [g3] at p5; exact p5.elim
        | some c =>
          rw [g3] at p5
          simp only at p5
          have n3h := n3.home n2h.rel
          have ru3 := n3h.rep n2h.rel ru2
          have ew : w' = .int c := q3.int g3
          refine ⟨c, ew, fun sl hsl => ?_⟩
          have mk : Made X.K Av H3 (.val .non) .non Av (upd H3 sl (SlO sl a c)) := ⟨laid_keep hsl, fun _ h => h, fun _ h => .inl h, n3h.tr.laid, by simp only [Rep]⟩
          have n4 := mk.nx n3h.rel
          have ru4 := n4.rep n3h.rel ru3
          have n34 := n3h.trans n2h.rel n4
          cases g4 : stwR ρ3 i a c u with
          | none => rw [g4] at p5; exact p5.elim
          | some ρ4 =>
            rw [g4] at p5
            have go : ∀ s l l', slotAt ρ3 i = some s → (s.k = 2 ∨ s.k = 3) → s.t = l → stwSem l a c u = some l' → ρ4 = ρ3.set i (some (reown s l')) → rStw X.K (.ref b') (.ref sl) v (upd H3 sl (SlO sl a c)) fun H5 => D.nx σ H5 := by
              intro s l l' qs2 ks2 hl e3 e4
              subst e4 hl
              obtain ⟨b2, e5, hb2, o2⟩ := n4.rel.at qs2 (mine_k.mpr (by omega))
              rw [e1] at e5; cases e5
              refine ⟨b', sl, a, c, s.t, l', u, Av, rfl, rfl, upd_same, hb2, n4.tr, o2, ru4, e3, fun ho o3 => ?_⟩
              have nw := wrote n4.rel n4.tr qs2 ks2 e1 o3
              exact p5 σ Av _ ((n34.sx n2h.rel).trans n2h.tr (nw.sx n4.rel))
            unfold stwR at g4
            split at g4
            · rename_i l ql
              simp only [Option.map_eq_some_iff] at g4
              obtain ⟨l', e3, rfl⟩ := g4
              exact go _ l l' ql (.inl rfl) rfl e3 rfl
            · rename_i l ql
              simp only [Option.map_eq_some_iff] at g4
              obtain ⟨l', e3, rfl⟩ := g4
              exact go _ l l' ql (.inr rfl) rfl e3 rfl
            · cases g4
    · exact p1.elim
/-! ## an answer whose lists are new -/
theorem partsD_rep {K : PySem.W.Frag} {H0 H : Hp} {Av : Addr → Prop} {ρ : Env} {σ : St} {rs : List R} {vs : List V} (q : RepRs K H0 Av ρ σ H rs vs) : ∀ {b : Bool} {ts : List T}, partsD b rs = some ts →
    ∃ bs, DRep K H Av ts vs bs ∧ bs.Nodup ∧ (∀ c ∈ bs, Av c ∧ NoSlot ρ σ c ∧ H0 c = none) ∧ (b = false → bs = []) := by
  induction q with
  | nil => intro b ts e; simp only [partsD, Option.some.injEq] at e; subst e; exact ⟨[], ⟨rfl, rfl⟩, by simp, by simp, fun _ => rfl⟩
  | cons a q ih =>
    rename_i r v rs vs
    intro b ts e
    cases r with
    | val t =>
      simp only [partsD] at e
      split at e
      · cases e
      · rename_i hl
        simp only [Option.map_eq_some_iff] at e
        obtain ⟨ts', e1, rfl⟩ := e
        obtain ⟨bs, d, nd, hb, hn⟩ := ih e1
        exact ⟨bs, ⟨v, vs, rfl, .inr ⟨a, by simpa using hl, d⟩⟩, nd, hb, hn⟩
    | fresh t =>
      cases b with
      | false => simp [partsD] at e
      | true =>
        simp only [partsD, Option.map_eq_some_iff] at e
        obtain ⟨ts', e1, rfl⟩ := e
        obtain ⟨bs, d, nd, hb, hn⟩ := ih e1
        obtain rfl := hn rfl
        obtain ⟨c, rfl, hc, ns, o, z⟩ := a
        exact ⟨[c], ⟨_, vs, rfl, .inl ⟨c, [], rfl, rfl, o, d⟩⟩, by simp, fun x hx => by obtain rfl := List.mem_singleton.mp hx; exact ⟨hc, ns, z⟩, fun h => nomatch h⟩
    | loc i => cases b <;> simp [partsD] at e
    | deep t => cases b <;> simp [partsD] at e
theorem s_retD {as : List Expr} {es : List E} {k : Nat} (h : PA X as (tEs X.K X.mg W es)) : PS X (.Return (some (.Tuple as k p)) pos) (tS X.K X.mg W (exec (.retD es))) := by
  refine (ps_ret (pe_tup h)).weaken fun D σ H ⟨ρ, Av, rl, tr, p⟩ => ?_
  simp only [exec] at p
  refine ⟨ρ, Av, rl, tr, (SPost.ev rl tr p).mono fun xs H1 ⟨rs, ρ1, Av1, _, n, q, _, p1⟩ => ?_⟩
  cases g : partsD true rs with
  | none => rw [g] at p1; exact p1.elim
  | some ts =>
    rw [g] at p1
    simp only at p1
    split at p1
    · rename_i hl
      obtain ⟨bs, d, nd, hb, _⟩ := partsD_rep q g
      have len : ts.length = xs.length := by
        have : ∀ {ts : List T} {xs : List V} {bs : List Addr}, DRep X.K H1 Av1 ts xs bs → ts.length = xs.length := by
          intro ts
          induction ts with
          | nil => intro xs bs d; simp only [DRep] at d; rw [d.1]; rfl
          | cons t ts ih =>
            intro xs bs d
            simp only [DRep] at d
            obtain ⟨v, r, rfl, ⟨b, bs', _, _, _, d⟩ | ⟨_, _, d⟩⟩ := d <;> simp [ih d]
        exact this d
      refine ⟨by rw [line, ← len]; exact hl, fun a ha => ?_⟩
      have mk : Made X.K Av1 H1 (.val .non) .non Av1 (upd H1 a (.tup xs)) := ⟨laid_keep ha, fun _ h => h, fun _ h => .inl h, n.tr.laid, by simp only [Rep]⟩
      have n2 := n.trans rl (mk.nx n.rel)
      refine p1 (.ref a) σ Av1 _ (n2.sx rl) ⟨a, xs, bs, rfl, n.tr.not ha, upd_same, nd, fun b m => hb b m, d.keep (fun b o e _ => laid_keep ha b o e) (fun _ _ _ n => n) fun b m => ?_⟩
      obtain ⟨o, eo⟩ := d.there b m
      exact (laid_keep ha b o eo).trans eo.symm
    · exact p1.elim
end
end MP

namespace MP
open PySem PySem.Spec L2
open PyProof.Rows hiding St
/-! ## a call's answer is changed in place: its lists are new -/
abbrev rpD (K : PySem.W.Frag) : Rp (List T) V := fun H0 Av ρ σ H ts v => DeepF K H0 Av H (NoSlot ρ σ) (.tup ts) v
def tD (K : PySem.W.Frag) (mg : Str → Option Value) (W : WX) (f : Fn) (es : List E) : TE := fun σ H Q => ∃ ρ Av, Rel K Av ρ σ H ∧ Tr Av H ∧ Post K mg W (rpD K) ρ σ Av H (evD f es ρ) Q
section
variable {X : Cx} {W : WX} {as : List Expr} {a : Expr} {es : List E} {pos p : Pos} {f : Fn} {nm : Str} {addr : Addr} {fd : FuncData} {ps : List Str} {k : Nat}
theorem s_callD (hd : f.deep = true) (F : FnOk X.prog X.w X.K X.mg X.base (L2.CX X.prog X.w) k addr fd ps (spOf X.K X.mg f)) (hr : Room k X.A) (hg : Gl X nm) (hm : X.mg nm = some (.ref addr)) (hk : PySem.W.keepIn X.K (.ref addr) = true) (hb : Binds X.K fd ps []) (tk : Takes X W)
    (ha : PA X (a :: as) (tEs X.K X.mg W es)) (hdb : (nm == ("__debug__" : Str)) = false) (he : starEach (a :: as) X.env = (false, eval a X.env) :: starEach as X.env) (hpl : (backTo pos (starEach as X.env)).any (·.1) = false) :
    PE X (.Call (.Name nm p) (a :: as) [] pos) (tD X.K X.mg W f es) := by
  refine (pe_callS F hr hg hm hk hb (fun σ => passAt tk σ) ha hdb he hpl).weaken fun σ H Q ⟨ρ, Av, rl, tr, p⟩ => ?_
  unfold evD at p
  refine ⟨ρ, Av, rl, tr, p.bind0.mono fun vs H1 ⟨rs, ρ1, Av1, _, n, q1, p1⟩ => ?_⟩
  unfold callRes at p1
  split at p1
  · rename_i hc
    obtain ⟨nd, dj, fk⟩ := hc
    cases g : argT ρ1 f.imm f.ios rs with
    | none => rw [g] at p1; exact p1.elim
    | some ts =>
      rw [g] at p1
      simp only at p1
      have x := AR.of n.rel q1 g
      have hio : ∀ b ∈ ioOf f.ios vs, ¬ Dp' f.ios rs vs b := fun b m d => x.apart n.rel dj fk m d
      refine ⟨ts, fun b => Av1 b ∧ ¬ Dp' f.ios rs vs b, x.args (fun _ h => h) hio, fun b h => n.tr b h.1, x.nodup n.rel nd (frOk_or fk), ?_⟩
      cases r : f.run ts with
      | bad => rw [r] at p1; exact p1.elim
      | ok t fr outs =>
        rw [r] at p1
        simp only at p1 ⊢
        split at p1
        · rename_i hat
          simp only [Bool.or_eq_true, Bool.and_eq_true] at hat
          intro v Av' H' up nw tr' frm o res
          obtain rfl := f.dfr hd _ _ _ _ r
          unfold ResD at res
          rw [if_pos hd] at res
          simp only [Res.bind, Bool.false_eq_true, if_false] at p1
          cases t <;> (try (exact p1.elim))
          rename_i us
          simp only [R.tup?] at p1
          have hat : (rdIx f.ios rs).isEmpty = true := hat.elim id fun h => by
            have h0 := h.1
            simp [T.okR, T.atom] at h0
          have at1 : ∀ b, Av b → Av' b := fun b hb => up b ⟨n.up b hb, fun d => by
            obtain ⟨_, z⟩ := x.dp_tr d hat
            obtain ⟨u, e⟩ := tr b hb
            rw [z] at e; cases e⟩
          obtain ⟨c, ws, bs, rfl, nc, ec, nd2, hb2, d⟩ := res
          have hle : ∀ b, (Av b ∨ b ∈ bs) → Av' b := fun b hb => hb.elim (at1 b) fun z => (hb2 b z).1
          have nx := call_nx (AvF := fun b => Av b ∨ b ∈ bs) rl tr n x nd frm o (fun b => b ∈ bs) (fun b e => ⟨(hb2 b e).2.2, d.there b e⟩) (fun b => .rfl) (.inl hle)
          refine p1 (.ref c) _ H' nx ⟨c, ws, bs, rfl, fun z => nc (hle c z), ec, nd2, fun b m => ⟨.inr m, fun z => ?_, ?_⟩, d.keep (fun _ _ e _ => e) (fun b u e m z => m (hle b z)) fun _ _ => rfl⟩
          · obtain ⟨i, ki, e⟩ := nx.shp.mn.mp z
            obtain ⟨s, q, mi, _⟩ := kind_slot ki
            obtain ⟨b', e2, hb', _⟩ := rl.at q mi
            rw [e] at e2; cases e2
            obtain ⟨u, e3⟩ := n.tr _ (n.up _ hb')
            rw [(hb2 b m).2.2] at e3; cases e3
          · refine n.fr.none (hb2 b m).2.2 fun w => ?_
            obtain ⟨u, e⟩ := n.tr b (n.up b (rl.wr w))
            rw [(hb2 b m).2.2] at e; cases e
        · exact p1.elim
      | exc c outs =>
        rw [r] at p1
        simp only at p1 ⊢
        split at p1
        · rename_i hat
          simp only [Bool.or_eq_true] at hat
          intro cls Av' H' hm up nw tr' frm o
          have at1 : ∀ b, Av b → (rdIx f.ios rs).isEmpty = true → Av' b := fun b hb e => up b ⟨n.up b hb, fun d => by
            obtain ⟨_, z⟩ := x.dp_tr d e
            obtain ⟨u, e⟩ := tr b hb
            rw [z] at e; cases e⟩
          exact p1 cls Av H' hm (call_nx (AvF := Av) rl tr n x nd frm o (fun _ => False) (fun _ e => e.elim) (fun b => by simp) (hat.imp (fun e b hb => at1 b hb e) fun h => h))
        · exact p1.elim
  · exact p1.elim
end
/-! ### the state between -/
structure Rg (K : PySem.W.Frag) (i : Nat) (ts : List T) (ρs : Env) (σs : St) (Avs : Addr → Prop) (Hs : Hp) (ρ : Env) (σ : St) (Av : Addr → Prop) (H : Hp) : Prop where
  sx : Sx K ρs σs Avs Hs ρ σ Av H
  emp : slotAt ρ i = none
  dp : ∃ v, σ[i]? = some (some v) ∧ DeepF K Hs Av H (NoSlot ρ σ) (.tup ts) v
section
variable {K : PySem.W.Frag} {i j : Nat} {ts : List T} {ρs ρ ρ' ρ2 : Env} {σs σ σ' : St} {Avs Av Av' : Addr → Prop} {Hs H H' : Hp}
theorem grown (rl : Rel K Av ρ σ H) (tr : Tr Av H) (k : ∀ b o, H b = some o → H' b = some o) : Nx K ρ σ Av H ρ Av H' :=
  Made.nx (q := .val .non) (v := .non) rl ⟨k, fun _ h => h, fun _ h => .inl h, fun a h => (tr a h).imp fun o e => k a o e, by simp only [Rep]⟩
theorem Rg.grow (g : Rg K i ts ρs σs Avs Hs ρ σ Av H) (trs : Tr Avs Hs) (k : ∀ b o, H b = some o → H' b = some o) : Rg K i ts ρs σs Avs Hs ρ σ Av H' := by
  refine ⟨g.sx.trans trs ((grown g.sx.rel g.sx.tr k).sx g.sx.rel), g.emp, ?_⟩
  obtain ⟨v, e, a, vs, bs, rfl, na, ea, nd, hb, d⟩ := g.dp
  refine ⟨_, e, a, vs, bs, rfl, na, k a _ ea, nd, hb, d.keep (fun b o e _ => k b o e) (fun _ _ _ n => n) fun b m => ?_⟩
  obtain ⟨o, eo⟩ := d.there b m
  exact (k b o eo).trans eo.symm
theorem visAt (t : T) (h : i < ρ.length) : slotAt (visE ρ i t) j = if j = i then some (.shr t) else lockO (slotAt ρ j) := by
  unfold visE
  rw [slotAt_set (by simpa using h)]
  by_cases e : j = i
  · rw [if_pos e, if_pos e]
  · rw [if_neg e, if_neg e]
    unfold slotAt
    rw [List.getElem?_map]
    cases ρ[j]? with
    | none => rfl
    | some s => rfl
theorem vis_wr {t : T} (h : i < ρ.length) {b : Addr} (w : WrK (visE ρ i t) σ b) : False := by
  obtain ⟨j, k, _⟩ := w
  unfold kindAt at k
  rw [visAt t h] at k
  by_cases e : j = i
  · rw [if_pos e] at k; simp [Slot.k] at k
  · rw [if_neg e] at k
    cases q : slotAt ρ j with
    | none => rw [q] at k; simp [lockO] at k
    | some s => rw [q] at k; cases s <;> simp [lockO, Slot.k] at k
theorem Rg.lt (g : Rg K i ts ρs σs Avs Hs ρ σ Av H) : i < ρ.length := by
  obtain ⟨v, e, _⟩ := g.dp
  rw [g.sx.rel.len]
  exact (List.getElem?_eq_some_iff.mp e).1
theorem Rg.vis (g : Rg K i ts ρs σs Avs Hs ρ σ Av H) : ∃ Av2, Rel K Av2 (visE ρ i (.tup ts)) σ H ∧ Tr Av2 H := by
  have hl := g.lt
  obtain ⟨v, e, a, vs, bs, rfl, na, ea, nd, hb, d⟩ := g.dp
  have ha : ∀ b o, H b = some o → ¬ Av b → ¬ (Av b ∧ b ∉ bs) := fun b o _ n z => n z.1
  have back : ∀ l s, slotAt (visE ρ i (.tup ts)) l = some s → s.mine = true → ∃ s0, slotAt ρ l = some s0 ∧ s0.mine = true ∧ s0.t = s.t ∧ s = .lck s.t := fun l s q m => by
    rw [visAt _ hl] at q
    by_cases z : l = i
    · rw [if_pos z] at q; cases q; simp [Slot.mine] at m
    · rw [if_neg z] at q
      cases q0 : slotAt ρ l with
      | none => rw [q0] at q; cases q
      | some s0 =>
        rw [q0] at q
        cases s0 <;> simp only [lockO, Option.some.injEq] at q <;> subst q <;> first | exact ⟨_, rfl, rfl, rfl, rfl⟩ | (simp [Slot.mine] at m)
  refine ⟨fun b => Av b ∧ b ∉ bs, ⟨by simpa [visE] using g.sx.rel.len, fun l s q => ?_, fun l l' s s' c q q' m m' e1 e2 => ?_⟩, fun b h => g.sx.tr b h.1⟩
  · by_cases m : s.mine = true
    · obtain ⟨s0, q0, m0, et, es⟩ := back l s q m
      obtain ⟨c, e1, hc, o⟩ := g.sx.rel.at q0 m0
      refine ⟨_, e1, .of m rfl ⟨hc, fun z => (hb c z).2.1 ⟨l, mine_kind q0 m0, e1⟩⟩ ?_⟩
      rw [et] at o
      exact o.keep (fun _ _ e _ => e) ha rfl
    · rw [visAt _ hl] at q
      by_cases z : l = i
      · rw [if_pos z] at q
        cases q
        subst z
        refine ⟨_, e, ?_⟩
        show Rep K H _ (.tup ts) (.ref a)
        simp only [Rep]
        exact ⟨a, vs, rfl, ha a _ ea na, ea, d.reps ha fun b mb z => z.2 mb⟩
      · rw [if_neg z] at q
        cases q0 : slotAt ρ l with
        | none => rw [q0] at q; cases q
        | some s0 =>
          rw [q0] at q
          cases s0 <;> simp only [lockO, Option.some.injEq] at q <;> subst q <;> (try (exact absurd rfl m))
          obtain ⟨w, e1, h1⟩ := g.sx.rel.slot l _ q0
          exact ⟨w, e1, Rep.keep (fun _ _ e _ => e) ha _ _ h1⟩
  · obtain ⟨s0, q0, m0, _, _⟩ := back l s q m
    obtain ⟨s1, q1, m1, _, _⟩ := back l' s' q' m'
    exact g.sx.rel.inj l l' s0 s1 c q0 q1 m0 m1 e1 e2
/-- a slot set beside it -/
theorem Rg.bnd (g : Rg K i ts ρs σs Avs Hs ρ σ Av H) (trs : Tr Avs Hs) (hji : j ≠ i) {w : V} (n : Sx K ρ σ Av H ρ2 (σ.set j (some w)) Av' H') (he : slotAt ρ2 i = none) : Rg K i ts ρs σs Avs Hs ρ2 (σ.set j (some w)) Av' H' := by
  refine ⟨g.sx.trans trs n, he, ?_⟩
  obtain ⟨v, e, a, vs, bs, rfl, na, ea, nd, hb, d⟩ := g.dp
  have nw : ∀ b ∈ bs, ¬ WrK ρ σ b := fun b m w => (hb b m).2.1 (wr_mn w)
  have hh : ∀ b o, H b = some o → ¬ Av b → H' b = some o := fun b o e q => n.fr b o e fun w => q (g.sx.rel.wr w)
  have ha : ∀ b o, H b = some o → ¬ Av b → ¬ Av' b := fun b o e q z => (n.nw b z).elim q fun z => by rw [e] at z; cases z
  refine ⟨.ref a, by rw [List.getElem?_set_ne hji]; exact e, a, vs, bs, rfl, ha a _ ea na, hh a _ ea na, nd, fun b m => ⟨(n.up b (hb b m).1).resolve_right fun ⟨l, k, e⟩ => (hb b m).2.1 ⟨l, by omega, e⟩, fun ⟨l, k, e1⟩ => ?_, (hb b m).2.2⟩, d.keep hh ha fun b m => ?_⟩
  · obtain ⟨o, eo⟩ := d.there b m
    by_cases k2 : kindAt ρ2 l = 2
    · rcases n.own b ⟨l, k2, e1⟩ with ⟨l', k', e'⟩ | z
      · exact (hb b m).2.1 ⟨l', by omega, e'⟩
      · rw [eo] at z; cases z
    · have k3 := n.low l (by omega)
      have h2 := (n.hold l (by omega)).2
      rw [e1] at h2
      exact (hb b m).2.1 ⟨l, by omega, h2.symm⟩
  · obtain ⟨o, eo⟩ := d.there b m
    exact (n.fr b o eo (nw b m)).trans eo.symm
/-- a part of a tuple whose lists are new -/
theorem DRep.part : ∀ {ts : List T} {vs : List V} {bs : List Addr} {k : Nat} {l : T}, DRep K H Av ts vs bs → ts[k]? = some l → l.isLstT = true → bs.Nodup → (∀ c ∈ bs, Av c) →
    ∃ b, vs[k]? = some (.ref b) ∧ b ∈ bs ∧ OwnRep K H Av b l ∧ ∀ u l', OwnRep K (upd H b u) Av b l' → DRep K (upd H b u) Av (ts.set k l') vs bs
  | [], vs, bs, k, l, d, e, _, _, _ => by simp at e
  | t :: ts, vs, bs, k, l, d, e, hl, nd, hav => by
    simp only [DRep] at d
    obtain ⟨v, r, rfl, ⟨b, bs', rfl, rfl, o, d⟩ | ⟨o, l0, d⟩⟩ := d
    · rw [List.nodup_cons] at nd
      cases k with
      | zero =>
        cases e
        refine ⟨b, rfl, by simp, o, fun u l' h => ?_⟩
        simp only [List.set_cons_zero, DRep]
        exact ⟨_, r, rfl, .inl ⟨b, bs', rfl, rfl, h, d.keep (wr_keep (hav b (by simp))) (fun _ _ _ n => n) fun c hc => upd_ne fun z => nd.1 (z ▸ hc)⟩⟩
      | succ k =>
        obtain ⟨c, e1, m, o1, h1⟩ := DRep.part d (by simpa using e) hl nd.2 fun c hc => hav c (by simp [hc])
        refine ⟨c, by simpa using e1, by simp [m], o1, fun u l' h => ?_⟩
        simp only [List.set_cons_succ, DRep]
        exact ⟨_, r, rfl, .inl ⟨b, bs', rfl, rfl, o.keep (wr_keep (hav c (by simp [m]))) (fun _ _ _ n => n) (upd_ne fun z => nd.1 (z ▸ m)), h1 u l' h⟩⟩
    · cases k with
      | zero => cases e; rw [l0] at hl; cases hl
      | succ k =>
        obtain ⟨c, e1, m, o1, h1⟩ := DRep.part d (by simpa using e) hl nd hav
        refine ⟨c, by simpa using e1, m, o1, fun u l' h => ?_⟩
        simp only [List.set_cons_succ, DRep]
        exact ⟨v, r, rfl, .inr ⟨Rep.keep (wr_keep (hav c m)) (fun _ _ _ n => n) _ _ o, l0, h1 u l' h⟩⟩
/-- what is new is written -/
theorem Sx.wroteNew {b : Addr} {u : HO} (n : Sx K ρs σs Avs Hs ρ σ Av H) (hb : Av b) (hs : Hs b = none) (ns : NoSlot ρ σ b) : Sx K ρs σs Avs Hs ρ σ Av (upd H b u) where
  rel := by
    refine ⟨n.rel.len, fun l s q => ?_, n.rel.inj⟩
    obtain ⟨v, e, h⟩ := n.rel.slot l s q
    refine ⟨v, e, ?_⟩
    by_cases m : s.mine = true
    · obtain ⟨c, rfl, hc, o⟩ := h.at m
      exact .of m rfl hc (o.keep (wr_keep hb) (fun _ _ _ n => n) (upd_ne fun z => ns ⟨l, mine_kind q m, z ▸ e⟩))
    · cases s <;> first | exact Rep.keep (wr_keep hb) (fun _ _ _ n => n) _ _ h | (simp [Slot.mine] at m)
  tr := n.tr.laid
  len := n.len
  hold := n.hold
  lck := n.lck
  low := n.low
  own := n.own
  up := n.up
  nw := n.nw
  all := fun c o e => by
    obtain ⟨o', e'⟩ := n.all c o e
    exact ⟨o', by rw [upd_ne fun z => by rw [z, hs] at e; cases e]; exact e'⟩
  fr := fun c o e w => by rw [upd_ne fun z => by rw [z, hs] at e; cases e]; exact n.fr c o e w
theorem Sx.blankV (n : Sx K ρs σs Avs Hs ρ σ Av H) (h : slotAt ρ j = none) (w : Option V) : Sx K ρs σs Avs Hs ρ (σ.set j w) Av H := by
  have kz : kindAt ρ j = 0 := by unfold kindAt; rw [h]
  have ne : ∀ i s, slotAt ρ i = some s → i ≠ j := fun i s q z => by rw [z, h] at q; cases q
  have sg : ∀ i, i ≠ j → (σ.set j w)[i]? = σ[i]? := fun i z => List.getElem?_set_ne (Ne.symm z)
  have nk : ∀ i, kindAt ρ i ≥ 1 → i ≠ j := fun i k z => by rw [z, kz] at k; omega
  refine ⟨⟨by simpa using n.rel.len, fun i s q => ?_, fun i l s s' a q q' m m' e e' => ?_⟩, n.tr, n.len, fun i k => ?_, n.lck, n.low, fun b ⟨i, k, e⟩ => ?_, n.up, n.nw, n.all, n.fr⟩
  · rw [sg i (ne i s q)]; exact n.rel.slot i s q
  · rw [sg i (ne i s q)] at e; rw [sg l (ne l s' q')] at e'; exact n.rel.inj i l s s' a q q' m m' e e'
  · obtain ⟨h1, h2⟩ := n.hold i k
    exact ⟨h1, by rw [sg i (nk i (by omega))]; exact h2⟩
  · rw [sg i (nk i (by omega))] at e; exact n.own b ⟨i, k, e⟩
end
end MP

namespace MP
open PySem PySem.Spec L2
open PyProof.Rows hiding St
theorem st_bind {α : Type} (x : Res α) (f : α → Env → SRes) (u : Env → SRes) : (x.st f).bind u = x.st fun a ρ => (f a ρ).bind u := by cases x <;> rfl
theorem runMid_bind {i : Nat} {t : T} {k u : Env → SRes} : ∀ {mid : List Mid} {ρ : Env}, (runMid i t mid ρ k).bind u = runMid i t mid ρ fun ρ => (k ρ).bind u
  | [], ρ => rfl
  | .chk c e :: r, ρ => by
    simp only [runMid]
    cases truthR (ev c (visE ρ i t)) with
    | bad => rfl
    | exc x ρ1 => rfl
    | ok b ρ1 =>
      cases b with
      | false => exact runMid_bind
      | true =>
        simp only
        cases ev e ρ1 with
        | bad => rfl
        | exc x ρ1 => rfl
        | ok q ρ2 =>
          simp only
          cases q.atom? <;> rfl
  | .bnd j e :: r, ρ => by
    simp only [runMid]
    split
    · rfl
    · rw [st_bind]
      congr 1
      funext q ρ1
      cases setR ρ1 j q with
      | none => rfl
      | some ρ2 => exact runMid_bind
theorem runMut_bind {k u : Env → SRes} : ∀ {ms : List (Nat × Mut × List E)} {ts : List T} {ρ : Env}, (runMut k ms ts ρ).bind u = runMut (fun ρ => (k ρ).bind u) ms ts ρ
  | [], ts, ρ => rfl
  | (j, m, es) :: r, ts, ρ => by
    simp only [runMut]
    cases ts[j]? with
    | none => rfl
    | some l =>
      simp only
      split
      · rw [st_bind]
        congr 1
        funext q ρ1
        cases (cleans q).bind fun us => m.sem l us with
        | none => rfl
        | some p => exact runMut_bind
      · rfl
def tM (K : PySem.W.Frag) (mg : Str → Option Value) (W : WX) (i : Nat) (mid : List Mid) (ms : List (Nat × Mut × List E)) (k : Env → SRes) : TS := fun D σ H => ∃ ρs σs Avs Hs ρ Av ts, Tr Avs Hs ∧ Rg K i ts ρs σs Avs Hs ρ σ Av H ∧
  SPost K mg W ρs σs Avs Hs (runMid i (.tup ts) mid ρ fun ρ => runMut k ms ts ρ) D
section
variable {X : Cx} {W : WX} {i j : Nat} {mid : List Mid} {ms : List (Nat × Mut × List E)} {k : Env → SRes} {c e a : Expr} {ec ee : E} {pos p p2 px : Pos} {rest : List Stmt} {x : Str}
theorem m_chk (hc : PT X c (tT X.K X.mg W ec)) (he : PE X e (tE X.K X.mg W ee)) (h : PSs X rest (tM X.K X.mg W i mid ms k)) : PSs X (.If c [.Return (some e) p2] [] pos :: rest) (tM X.K X.mg W i (.chk ec ee :: mid) ms k) := by
  refine (pss_cons (ps_if hc (pss_cons (ps_ret he) pss_nil) pss_nil) h).weaken fun D σ H ⟨ρs, σs, Avs, Hs, ρ, Av, ts, trs, g, p⟩ => ?_
  obtain ⟨Av2, rl2, tr2⟩ := g.vis
  have hl := g.lt
  simp only [runMid] at p
  refine ⟨_, Av2, rl2, tr2, ?_⟩
  cases hx : truthR (ev ec (visE ρ i (.tup ts))) with
  | bad => rw [hx] at p; exact p.elim
  | exc x ρ2 =>
    rw [hx] at p
    exact fun cls Av3 H3 m n => p cls σ Av H3 m (g.grow trs fun b o e => n.fr b o e fun w => vis_wr hl w).sx
  | ok b ρ2 =>
    rw [hx] at p
    intro v Av3 H3 n q
    have q : b = v := q
    subst q
    have g2 := g.grow trs fun b o e => n.fr b o e fun w => vis_wr hl w
    cases b with
    | false => exact iteF ⟨ρs, σs, Avs, Hs, ρ, Av, ts, trs, g2, p⟩
    | true =>
      refine iteT ⟨ρ2, Av3, n.rel, n.tr, ?_⟩
      simp only at p
      cases hy : ev ee ρ2 with
      | bad => rw [hy] at p; exact p.elim
      | exc x ρ3 =>
        rw [hy] at p
        exact fun cls Av4 H4 m n2 => p cls σ Av H4 m (g2.grow trs fun b o e => n2.fr b o e fun w => vis_wr hl (n.shp.wr.mp w)).sx
      | ok r ρ3 =>
        rw [hy] at p
        intro v Av4 H4 n2 rq
        simp only at p
        cases hq : r.atom? with
        | none => rw [hq] at p; exact p.elim
        | some u =>
          rw [hq] at p
          refine p v σ Av H4 (g2.grow trs fun b o e => n2.fr b o e fun w => vis_wr hl (n.shp.wr.mp w)).sx ?_
          cases r <;> simp only [R.atom?] at hq <;> (try (cases hq; done))
          split at hq
          · rename_i ha
            cases hq
            exact atom_rep rq ha
          · cases hq
theorem setR_none {ρ1 ρ2 : Env} {q : R} (h : slotAt ρ1 i = none) (hji : j ≠ i) (e : setR ρ1 j q = some ρ2) : slotAt ρ2 i = none := by
  simp only [setR, Option.bind_eq_some_iff] at e
  obtain ⟨⟨s, ρ'⟩, e1, e2⟩ := e
  have h' : slotAt ρ' i = none := by
    cases q with
    | val t => cases e1; exact h
    | fresh t => cases e1; exact h
    | deep t => cases e1
    | loc k =>
      simp only [takeS] at e1
      split at e1
      · cases e1
        rw [slotAt_none]
        split
        · rfl
        · exact h
      · cases e1
  obtain ⟨hl, rfl, _⟩ := setS_some e2
  rw [slotAt_set hl, if_neg (Ne.symm hji)]
  exact h'
theorem m_bnd (hN : X.N.Nodup) (hj : X.N[j]? = some x) (hx : Loc X.env.scope x) (hf : X.fn x = true) (h : PE X a (tE X.K X.mg W ee)) (hs : swapsWith a (some (.Name x px)) pos.line X.env = pure false) (hr : PSs X rest (tM X.K X.mg W i mid ms k)) :
    PSs X (.Assign [.Name x px] a pos :: rest) (tM X.K X.mg W i (.bnd j ee :: mid) ms k) := by
  refine (pss_cons (ps_set hN hj hx h hs (.inl hf)) hr).weaken fun D σ H ⟨ρs, σs, Avs, Hs, ρ, Av, ts, trs, g, p⟩ => ?_
  simp only [runMid] at p
  split at p
  · exact p.elim
  · rename_i hji
    refine ⟨ρ, Av, g.sx.rel, g.sx.tr, ?_⟩
    cases hy : ev ee ρ with
    | bad => rw [hy] at p; exact p.elim
    | exc x ρ3 =>
      rw [hy] at p
      exact fun cls Av4 H4 m n2 => p cls σ Av4 H4 m (g.sx.trans trs (n2.sx g.sx.rel))
    | ok q ρ1 =>
      rw [hy] at p
      intro v Av1 H1 n rq
      simp only [Res.st] at p
      cases hq : setR ρ1 j q with
      | none => rw [hq] at p; exact p.elim
      | some ρ2 =>
        rw [hq] at p
        have em : slotAt ρ1 i = none := by
          have := n.shp.kind i
          unfold kindAt at this
          rw [g.emp] at this
          cases q2 : slotAt ρ1 i with
          | none => rfl
          | some s => rw [q2] at this; have this : 0 = s.k := this; cases s <;> simp [Slot.k] at this
        exact ⟨ρs, σs, Avs, Hs, ρ2, Av1, ts, trs, g.bnd trs hji (setR_sx (n.sx g.sx.rel) rq hq) (setR_none em hji hq), p⟩
theorem tup_part {to : TE} (ho : PE X (.Name x px) (tVar i)) (n : Nat) {kk : Nat} : PE X (.Subscript (.Name x px) (.Constant (.int (n : Int)) kk p2) p) (tOp (rIxT X.K) (tVar i) (L2.tC (.int (n : Int)))) :=
  pe_ix ix_tup ho pe_int fun _ _ => rfl
theorem isLstT_of {l : T} (h : l.isLst = true) : l.isLstT = true := by cases l <;> simp_all [T.isLst, T.isLstT]
theorem m_mut {m : Mut} {n kk : Nat} {es : List E} {b : Expr} {bs : List Expr} {apos cpos : Pos} (ho : PE X (.Name x px) (tVar i)) (ha : PA X (b :: bs) (tEs X.K X.mg W es)) (hline : (apos.endLine == cpos.line) = true) (hst : (starEach (b :: bs) X.env).all (fun x => !x.1) = true) (hlen : (b :: bs).length < 30)
    (he : starEach (b :: bs) X.env = (false, eval b X.env) :: starEach bs X.env) (hm : m.dict = false) (hr : PSs X rest (tM X.K X.mg W i [] ms k)) :
    PSs X (.Expr (.Call (.Attribute (.Subscript (.Name x px) (.Constant (.int (n : Int)) kk p2) p) m.name apos) (b :: bs) [] cpos) pos :: rest) (tM X.K X.mg W i [] ((n, m, es) :: ms) k) := by
  have hst2 : (starEach bs X.env).all (fun x => !x.1) = true := by rw [he, List.all_cons] at hst; exact (Bool.and_eq_true_iff.mp hst).2
  have few : ((backTo cpos (starEach (b :: bs) X.env)).all (fun x => !x.1) && (backToKw cpos (keywordEach [] X.env)).all (fun x => x.1.isSome)
      && decide ((b :: bs).length + ([] : List Keyword).length + (if ([] : List Keyword).isEmpty then 0 else 1) < 30)) = true := by
    rw [(plainAs hst).1]
    simp only [keywordEach, backToKw, List.map_nil, List.all_nil, Bool.true_and, List.length_nil, List.isEmpty_nil, if_true, decide_eq_true_eq]
    omega
  have hp := pe_bm (cpos := cpos) (apos := apos) PySem.F.plainAttrs_list (mut_slot m hm) (mut_type m hm) (Mut.ok m hm) (tup_part (p := p) (p2 := p2) (kk := kk) (to := tVar i) ho n) ha rfl few hline he (plainAs hst2).2
  refine (pss_cons (ps_expr hp rfl) hr).weaken fun D σ H ⟨ρs, σs, Avs, Hs, ρ, Av, ts, trs, g, p⟩ => ?_
  simp only [runMid, runMut] at p
  obtain ⟨v, ev_, a, vs, bs', rfl, na, ea, nd, hb, d⟩ := g.dp
  cases hl : ts[n]? with
  | none => rw [hl] at p; exact p.elim
  | some l =>
    rw [hl] at p
    simp only at p
    split at p
    · rename_i hrd
      have hrd : (m.reads = false ∧ m.dict = false) ∧ l.isLst = true := by simpa using hrd
      obtain ⟨b0, e0, m0, o0, hset0⟩ := d.part hl (isLstT_of hrd.2) nd fun c hc => (hb c hc).1
      refine ⟨.ref a, ev_, a, vs, (n : Int), .ref b0, rfl, rfl, SqT.of ea, atI_nat e0, ?_, ρ, Av, g.sx.rel, g.sx.tr, ?_⟩
      · cases l <;> simp [T.isLst] at hrd
        simp only [OwnRep] at o0
        obtain ⟨ls, gl, _⟩ := o0
        exact .inl ⟨rfl, ls, .of gl⟩
      cases hy : evs es ρ with
      | bad => rw [hy] at p; exact p.elim
      | exc xc ρ3 =>
        rw [hy] at p
        exact fun cls Av4 H4 m n2 => p cls σ Av4 H4 m (g.sx.trans trs (n2.sx g.sx.rel))
      | ok rs ρ1 =>
        rw [hy] at p
        intro xs Av1 H1 n1 q
        simp only [Res.st] at p
        cases hc : cleans rs with
        | none => rw [hc] at p; exact p.elim
        | some us =>
          rw [hc] at p
          simp only [Option.bind_some] at p
          cases hs : m.sem l us with
          | none => rw [hs] at p; exact p.elim
          | some pr =>
            rw [hs] at p
            obtain ⟨l', u'⟩ := pr
            have nh := n1.home g.sx.rel
            have rr := q.cleans n1 g.sx.tr hc
            have nw : ∀ b ∈ bs', ¬ WrK ρ σ b := fun b m w => (hb b m).2.1 (wr_mn w)
            have keep : ∀ b ∈ bs', H1 b = H b := fun b m => by
              obtain ⟨o, eo⟩ := d.there b m
              exact (nh.fr b o eo (nw b m)).trans eo.symm
            have hh : ∀ b o, H b = some o → ¬ Av b → H1 b = some o := fun b o e q => nh.fr b o e fun w => q (g.sx.rel.wr w)
            have d1 := d.keep (Av' := Av) hh (fun _ _ _ n => n) keep
            obtain ⟨b1, e1, m1, o1, hset⟩ := d1.part hl (isLstT_of hrd.2) nd fun c hc => (hb c hc).1
            rw [e0] at e1; cases e1
            have ns1 : ∀ b ∈ bs', NoSlot ρ1 σ b := fun b m z => (hb b m).2.1 (nh.shp.mn.mp z)
            refine ⟨b0, l, us, l', u', Av, rfl, (hb b0 m0).1, nh.tr, o1, ?_, hs, fun v u ho hr => ?_⟩
            · rw [hrd.1.1]; exact rr
            · have sx1 := (g.sx.trans trs (nh.sx g.sx.rel)).wroteNew (u := u) (hb b0 m0).1 (hb b0 m0).2.2 (ns1 b0 m0)
              have em : slotAt ρ1 i = none := by
                have := nh.shp.kind i
                unfold kindAt at this
                rw [g.emp] at this
                cases q2 : slotAt ρ1 i with
                | none => rfl
                | some s => rw [q2] at this; have this : 0 = s.k := this; cases s <;> simp [Slot.k] at this
              refine ⟨ρs, σs, Avs, Hs, ρ1, Av, ts.set n l', trs, ⟨sx1, em, .ref a, ev_, a, vs, bs', rfl, na, ?_, nd, fun b m => ⟨(hb b m).1, ns1 b m, (hb b m).2.2⟩, hset u l' ho⟩, p⟩
              rw [upd_ne (fun z : a = b0 => na (by rw [z]; exact (hb b0 m0).1))]
              exact hh a _ ea na
    · exact p.elim
/-- the whole -/
theorem m_end {u : Env → SRes} (h : PSs X rest (tS X.K X.mg W u)) : PSs X rest (tM X.K X.mg W i [] [] u) := h.weaken fun D σ H ⟨ρs, σs, Avs, Hs, ρ, Av, ts, trs, g, p⟩ => by
  simp only [runMid, runMut] at p
  exact ⟨ρ, Av, g.sx.rel, g.sx.tr, p.later trs g.sx⟩
theorem m_start {f : Fn} {nm : String} {es : List E} {u : Env → SRes} (hN : X.N.Nodup) (hi : X.N[i]? = some x) (hx : Loc X.env.scope x) (hf : X.fn x = true) (h : PE X a (tD X.K X.mg W f es)) (hs : swapsWith a (some (.Name x px)) pos.line X.env = pure false)
    (hr : PSs X rest (tM X.K X.mg W i mid ms u)) : PSs X (.Assign [.Name x px] a pos :: rest) (tS X.K X.mg W fun ρ => (exec (.reg i nm f es mid ms) ρ).bind u) := by
  refine (pss_cons (ps_set hN hi hx h hs (.inl hf)) hr).weaken fun D σ H ⟨ρ, Av, rl, tr, p⟩ => ?_
  simp only [exec] at p
  split at p
  · rw [st_bind] at p
    refine ⟨ρ, Av, rl, tr, (SPost.ev (rp := rpD X.K) rl tr p).mono fun v H1 ⟨ts, ρ1, Av1, _, n, q, _, p1⟩ => ?_⟩
    split at p1
    · rename_i hk
      rw [runMid_bind] at p1
      have em : slotAt (ρ1.set i none) i = none := by rw [slotAt_none, if_pos rfl]
      have hl : i < σ.length := by rw [← n.rel.len]; exact hk.2
      obtain ⟨a, vs, bs, rfl, na, ea, nd, hb, d⟩ := q
      refine ⟨ρ, σ, Av, H, ρ1.set i none, Av1, ts, tr, ⟨((n.sx rl).emptied hk.1).blankV em _, em, .ref a, List.getElem?_set_self hl, a, vs, bs, rfl, na, ea, nd, fun b m => ⟨(hb b m).1, fun ⟨l, k, e⟩ => (hb b m).2.1 ?_, (hb b m).2.2⟩, d⟩, ?_⟩
      · unfold kindAt at k
        rw [slotAt_none] at k
        by_cases z : l = i
        · rw [if_pos z] at k; simp at k
        · rw [if_neg z] at k
          exact ⟨l, k, by rw [List.getElem?_set_ne (Ne.symm z)] at e; exact e⟩
      · have e : (fun ρ => (runMut SRes.nx ms ts ρ).bind u) = fun ρ => runMut u ms ts ρ := by
          funext ρ
          rw [runMut_bind]
          rfl
        rw [e] at p1
        exact p1
    · exact p1.elim
  · exact p.elim
end
end MP

namespace MP
open PySem PySem.Spec L2
open PyProof.Rows hiding St
/-! ## checked statements -/
def notCompB : Expr → Bool
  | .ListComp .. => false
  | .SetComp .. => false
  | .DictComp .. => false
  | _ => true
def locB (sc : Scope) (x : Str) : Bool := decide (sc.names.lookup x = some .local) || decide (sc.names.lookup x = some .cell)
def tupB : Expr → Bool
  | .Tuple vs _ _ => vs.all (foldedForSure 8)
  | _ => true
def S.ghost : S → Bool
  | .forget _ => true
  | .freeze _ => true
  | _ => false
def E.isK : E → Bool
  | .compK .. => true
  | _ => false
def S.isReg : S → Bool
  | .reg .. => true
  | _ => false
def midNeeds : List Mid → List Need
  | [] => []
  | .chk c e :: r => needs c ++ needs e ++ midNeeds r
  | .bnd _ e :: r => needs e ++ midNeeds r
def mutNeeds : List (Nat × Mut × List E) → List Need
  | [] => []
  | (_, _, es) :: r => needsL es ++ mutNeeds r
def ckMid (N : List Str) (sc : Scope) : List Mid → List Stmt → Option (List Stmt)
  | [], sts => some sts
  | .chk c e :: r, sts => (match sts with
    | .If x [.Return (some y) _] [] _ :: rest => if ckE N sc c x && ckE N sc e y then ckMid N sc r rest else none
    | _ => none)
  | .bnd j e :: r, sts => (match sts with
    | .Assign [.Name x _] a _ :: rest => if decide (N[j]? = some x) && locB sc x && ckE N sc e a && notCompB a then ckMid N sc r rest else none
    | _ => none)
def ckMut (N : List Str) (sc : Scope) (i : Nat) : List (Nat × Mut × List E) → List Stmt → Option (List Stmt)
  | [], sts => some sts
  | (n, m, es) :: r, sts => (match sts with
    | .Expr (.Call (.Attribute (.Subscript (.Name x _) (.Constant (.int q) _ _) _) nm apos) as [] cpos) _ :: rest =>
      if decide (q = (n : Int)) && decide (nm = m.name) && nameOk N sc i x && ckEs N sc es as && !as.isEmpty && (apos.endLine == cpos.line) && decide (as.length < 30) && !m.dict then ckMut N sc i r rest else none
    | _ => none)
def ckReg (N : List Str) (sc : Scope) : S → List Stmt → Option (List Stmt)
  | .reg i nm f es mid ms, sts => (match sts with
    | .Assign [.Name x _] a _ :: rest => if decide (N[i]? = some x) && locB sc x && ckE N sc (.call nm f es) a && !es.isEmpty then (ckMid N sc mid rest).bind (ckMut N sc i ms) else none
    | _ => none)
  | _, _ => none
/-! ## in an except suite -/
def Blt.hot : Blt → Bool
  | .int => true
  | _ => false
def Mth.hot : Mth → Bool
  | .count | .index => true
  | _ => false
mutual
/-- may stand in an except suite -/
def hotE : E → Bool
  | .lit _ => true
  | .var _ => true
  | .un _ a => hotE a
  | .bin _ a b => hotE a && hotE b
  | .cmp _ a b => hotE a && hotE b
  | .and_ es => hotEs es
  | .or_ es => hotEs es
  | .ite c a b => hotE c && hotE a && hotE b
  | .tup es => hotEs es
  | .lst es => hotEs es
  | .sub a i => hotE a && hotE i
  | .isi a _ => hotE a
  | .isx a _ _ _ => hotE a
  | .blt b es => b.hot && hotEs es
  | .meth m o es => m.hot && hotE o && hotEs es
  | .mut m _ es => !m.dict && hotEs es
  | _ => false
def hotEs : List E → Bool
  | [] => true
  | e :: es => hotE e && hotEs es
end
mutual
def hotS : S → Bool
  | .ex e => hotE e
  | .set _ e => hotE e
  | .ifs c a b => hotE c && hotSs a && hotSs b
  | .ret e => hotE e
  | .pass => true
  | .forget _ => true
  | .freeze _ => true
  | _ => false
def hotSs : List S → Bool
  | [] => true
  | s :: ss => hotS s && hotSs ss
end
mutual
def sneeds : S → List Need
  | .ex e => needs e
  | .set _ e => needs e
  | .unp _ e => needs e
  | .par _ _ a b => needs a ++ needs b
  | .put _ ix e => needs ix ++ needs e
  | .ifs c a b => needs c ++ sneedsL a ++ sneedsL b
  | .whl c b _ => needs c ++ sneedsL b
  | .for_ _ k its b _ => .bi k.bi :: .bi "range" :: needsL its ++ sneedsL b
  | .ret e => needs e
  | .raise c => [.exc c]
  | .aug _ e => needs e
  | .forK _ _ b _ => sneedsL b
  | .tryx b _ h xs => .tryx xs :: sneedsL b ++ sneedsL h
  | .stw _ lo hi e => needs lo ++ needs hi ++ needs e
  | .retD es => needsL es
  | .reg _ nm f es mid ms => needs (.call nm f es) ++ (midNeeds mid ++ mutNeeds ms)
  | _ => []
def sneedsL : List S → List Need
  | [] => []
  | s :: ss => sneeds s ++ sneedsL ss
end
mutual
def ckS (N : List Str) (sc : Scope) : S → Stmt → Bool
  | .ex e, st => (match st with
    | .Expr a _ => ckE N sc e a && notCompB a
    | _ => false)
  | .set i e, st => (match st with
    | .Assign [.Name x _] a _ => decide (N[i]? = some x) && locB sc x && ckE N sc e a
    | _ => false)
  | .unp tg e, st => (match st with
    | .Assign [.Tuple es kt pt] a _ => ckTg N sc tg (.Tuple es kt pt) && ckE N sc e a && (tupB a || es.any (farB sc))
    | _ => false)
  | .par i j ea eb, st => (match st with
    | .Assign [.Tuple [.Name x px, .Name y py] _ _] (.Tuple [a, b] _ _) _ => decide (N[i]? = some x) && decide (N[j]? = some y) && decide (i ≠ j) && decide (sc.names.lookup x = some .local) && decide (sc.names.lookup y = some .local) && plainB a && plainB b &&
        ckE N sc ea a && ckE N sc eb b && (py.line == px.line) && decide (x ≠ y) && !(foldedForSure 8 a && foldedForSure 8 b) && !(constantsAlone 8 a && constantsAlone 8 b)
    | _ => false)
  | .put i ix e, st => (match st with
    | .Assign [.Subscript (.Name x _) b _] a _ => nameOk N sc i x && ckE N sc ix b && plainB b && ckE N sc e a
    | _ => false)
  | .ifs c a b, st => (match st with
    | .If x y z _ => ckE N sc c x && ckSs N sc a y && ckSs N sc b z
    | _ => false)
  | .whl c b _, st => (match st with
    | .While x y [] _ => ckE N sc c x && ckSs N sc b y
    | _ => false)
  | .for_ tg k its b _, st => (match st with
    | .For t it y [] _ => ckTg N sc tg t && (match itArgs sc k t it with
      | some as => ckEs N sc its as
      | none => false) && plainB it && ckSs N sc b y
    | _ => false)
  | .ret e, st => (match st with
    | .Return (some a) _ => ckE N sc e a
    | _ => false)
  | .retN, st => (match st with
    | .Return none _ => true
    | _ => false)
  | .brk, st => (match st with
    | .Break _ => true
    | _ => false)
  | .cont, st => (match st with
    | .Continue _ => true
    | _ => false)
  | .pass, st => (match st with
    | .Pass _ => true
    | _ => false)
  | .raise c, st => (match st with
    | .Raise (some (.Call (.Name x _) [.Constant (.str _) _ _] [] _)) none _ => decide (x = (c : Str)) && gloB sc x
    | _ => false)
  | .aug i e, st => (match st with
    | .AugAssign (.Name x _) .Add a _ => decide (N[i]? = some x) && locB sc x && ckE N sc e a
    | _ => false)
  | .forK tg i b _, st => (match st with
    | .For t (.Name nm _) y [] _ => ckTg N sc tg t && nameOk N sc i nm && ckSs N sc b y
    | _ => false)
  | .tryx b i h _, st => (match st with
    | .Try body [.ExceptHandler (some (.Name x _)) nm (s0 :: suite) _] [] [] _ => decide (x = ("MarkError" : Str)) && gloB sc x && ckSs N sc b body && ckSs N sc h (s0 :: suite) && hotSs h && (match i, nm with
      | some j, some n => decide (N[j]? = some n) && decide (sc.names.lookup n = some .local)
      | none, none => true
      | _, _ => false)
    | _ => false)
  | .stw i lo hi e, st => (match st with
    | .Assign [.Subscript (.Name x _) (.Slice (some y) (some z) none _) _] a _ => nameOk N sc i x && ckE N sc lo y && ckE N sc hi z && ckE N sc e a
    | _ => false)
  | .retD es, st => (match st with
    | .Return (some (.Tuple as _ _)) _ => ckEs N sc es as
    | _ => false)
  | .reg .., _ => false
  | .forget _, _ => false
  | .freeze _, _ => false
def ckSs (N : List Str) (sc : Scope) : List S → List Stmt → Bool
  | [], sts => sts.isEmpty
  | s :: ss, sts => if s.ghost then ckSs N sc ss sts else if s.isReg then (match ckReg N sc s sts with
    | some r => ckSs N sc ss r
    | none => false) else (match sts with
    | st :: r => ckS N sc s st && ckSs N sc ss r
    | [] => false)
end
structure GdS (X : Cx) (N : List Str) (sc : Scope) (k : Nat) (W : WX) : Prop where
  gd : Gd X N sc k
  stk : X.stack = X.env :: X.outer
  frm : X.env.frame = some X.env.locals
  fnl : ∀ x, X.fn x = true
  kind : sc.kind = .function
  pass : PassesOwn (model X.prog X.w) X.A X.env X.xe
  tk : Takes X W
section
variable {X : Cx} {N : List Str} {sc : Scope} {k : Nat} {W : WX}
theorem GdS.loc (g : GdS X N sc k W) {x : Str} (h : locB sc x = true) : Loc X.env.scope x := by
  simp only [locB, Bool.or_eq_true, decide_eq_true_eq] at h
  rw [g.gd.sc]; exact h
theorem GdS.tg (g : GdS X N sc k W) : TgNames X sc := fun x h => ⟨by rw [g.gd.sc]; exact h, .inl (g.fnl x)⟩
theorem sw_not {a : Expr} (h : notCompB a = true) (t : Option Expr) (l : Nat) (env : PySem.Env) : swapsWith a t l env = pure false := by
  cases a <;> first | rfl | (simp [notCompB] at h)
theorem ckE_comp {e : E} {x : Expr} {gs : List Comprehension} {scope : Scope} {p : Pos} (h : ckE N sc e (.ListComp x gs scope p) = true) (hK : e.isK = false) : ∃ elt tg kk es cond own t it ifs, e = .comp elt tg kk es cond own ∧ gs = [⟨t, it, ifs, 0⟩] := by
  cases e with
  | un op a => cases op <;> simp [ckE] at h
  | comp elt tg kk es cond own =>
    simp only [ckE] at h
    split at h
    · rename_i heq
      cases heq
      exact ⟨_, _, _, _, _, _, _, _, _, rfl, rfl⟩
    · cases h
  | spec k es => simp only [ckE] at h; unfold Spk.shape at h; split at h <;> cases k <;> simp_all
  | compK => cases hK
  | _ => simp [ckE] at h
/-- the parts of a checked comprehension -/
theorem comp_parts {elt : E} {tg : Tg} {kk : ItK} {es cond : List E} {own : List (String × Nat)} {x t it : Expr} {ifs : List Expr} {scope : Scope} {p : Pos} (g : Gd X N sc k) (tk : Takes X W) (h : ckE N sc (.comp elt tg kk es cond own) (.ListComp x [⟨t, it, ifs, 0⟩] scope p) = true)
    (hn : Has X k (needs (.comp elt tg kk es cond own))) {y : Str} {py spos : Pos} {i : Nat} (hy : X.N[i]? = some y) (hyl : X.env.scope.names.lookup y = some .local)
    (hsw : swapsWith (.ListComp x [⟨t, it, ifs, 0⟩] scope p) (some (.Name y py)) spos.line X.env = pure true) :
    PS X (.Assign [.Name y py] (.ListComp x [⟨t, it, ifs, 0⟩] scope p) spos) (tAsg (tE X.K X.mg W (.comp elt tg kk es cond own)) (gName i)) := by
  simp only [ckE] at h
  simp only [Bool.and_eq_true, decide_eq_true_eq, List.all_eq_true] at h
  obtain ⟨⟨⟨⟨⟨⟨⟨h1, h2⟩, h3⟩, h4⟩, h5⟩, h6⟩, h7⟩, h8⟩ := h
  split at h4
  · rename_i as hit
    have i := evs_sound es sc X W _ h4 g tk hn.l.l.tl.tl
    have hb := blkOk_by h1
    rw [← g.n, ← g.sc] at hb
    have hgd : ∀ (s : Shared) (H : Hp) (C : Addr) (cl : List (Str × Addr)) (fp : List Addr), Gd (X.blk s H scope (compEnvC scope cl C X.env) fp) N (relS scope sc) k := fun s H C cl fp =>
      .mk' g.calm g.nodup g.n (by rw [← g.sc]; rfl) g.room
    have hhas : ∀ (s : Shared) (H : Hp) (C : Addr) (cl : List (Str × Addr)) (fp : List Addr) (l : List Need), Has X k l → Has (X.blk s H scope (compEnvC scope cl C X.env) fp) k l := fun s H C cl fp l z => ⟨z.ok⟩
    have hsn : (own.map fun p => ((p.1 : Str), p.2)).map (·.2) = own.map (·.2) := by rw [List.map_map]; rfl
    refine (ps_setLc (g := tG X.K tg) (tt := tC X.K X.mg W0 cond) (te := tE X.K X.mg W0 elt) g.calm g.nodup hy hyl hsw (it_sound g hit i hn.l.l.hd hn.l.l.tl.hd) hb (fun s H C cl fp => ?_) (fun s H C cl fp => ?_) (fun s H C cl fp => ?_) (plain_fold h5 X.env)).weaken fun D σ H q => ?_
    · refine g_tg (X := X.blk s H scope (compEnvC scope cl C X.env) fp) (sc0 := scope) g.calm g.nodup blk_names tg t (by show ckTg X.N scope tg t = true; rw [g.n]; exact h2)
    · have j := evs_sound cond (relS scope sc) (X.blk s H scope (compEnvC scope cl C X.env) fp) W0 ifs h6 (hgd s H C cl fp) takes0 (hhas s H C cl fp _ hn.l.r)
      cases cond with
      | nil =>
        cases j
        exact pts_nil.weaken fun σ H Q ⟨ρ, Av, rl, tr, p⟩ => p true Av H (.refl rl tr) rfl
      | cons c cs =>
        obtain ⟨b, r, rfl, _, j1, j2⟩ := j
        cases r with
        | cons _ _ => simp at h7
        | nil =>
          cases cs with
          | cons _ _ => obtain ⟨_, _, z, _⟩ := j2; cases z
          | nil => exact (pts_one j1.2).weaken fun σ H Q ⟨ρ, Av, rl, tr, p⟩ => ⟨ρ, Av, rl, tr, by simpa only [evC] using p⟩
    · exact (ev_sound elt (relS scope sc) (X.blk s H scope (compEnvC scope cl C X.env) fp) W0 x h8 (hgd s H C cl fp) takes0 (hhas s H C cl fp _ hn.r)).1
    · rw [hsn]
      exact r_comp (fun i hi => h3 i hi) q
  · cases h4
theorem ckE_compK {e : E} {x : Expr} {gs : List Comprehension} {scope : Scope} {p : Pos} (h : ckE N sc e (.ListComp x gs scope p) = true) (hK : e.isK = true) : ∃ elt tg ii cond own t nm np ifs, e = .compK elt tg ii cond own ∧ gs = [⟨t, .Name nm np, ifs, 0⟩] := by
  cases e with
  | compK elt tg ii cond own =>
    simp only [ckE] at h
    split at h
    · rename_i heq
      cases heq
      exact ⟨_, _, _, _, _, _, _, _, _, rfl, rfl⟩
    · cases h
  | _ => cases hK
/-- the same over a dict's keys -/
theorem compK_parts {elt : E} {tg : Tg} {ii : Nat} {cond : List E} {own : List (String × Nat)} {x t : Expr} {nm : Str} {np : Pos} {ifs : List Expr} {scope : Scope} {p : Pos} (g : Gd X N sc k) (tk : Takes X W) (h : ckE N sc (.compK elt tg ii cond own) (.ListComp x [⟨t, .Name nm np, ifs, 0⟩] scope p) = true)
    (hn : Has X k (needs (.compK elt tg ii cond own))) {y : Str} {py spos : Pos} {i : Nat} (hy : X.N[i]? = some y) (hyl : X.env.scope.names.lookup y = some .local)
    (hsw : swapsWith (.ListComp x [⟨t, .Name nm np, ifs, 0⟩] scope p) (some (.Name y py)) spos.line X.env = pure true) :
    PS X (.Assign [.Name y py] (.ListComp x [⟨t, .Name nm np, ifs, 0⟩] scope p) spos) (tAsg (tE X.K X.mg W (.compK elt tg ii cond own)) (gName i)) := by
  simp only [ckE] at h
  simp only [Bool.and_eq_true, decide_eq_true_eq, List.all_eq_true] at h
  obtain ⟨⟨⟨⟨⟨⟨h1, h2⟩, h3⟩, h4⟩, h6⟩, h7⟩, h8⟩ := h
  have hb := blkOk_by h1
  rw [← g.n, ← g.sc] at hb
  have hgd : ∀ (s : Shared) (H : Hp) (C : Addr) (cl : List (Str × Addr)) (fp : List Addr), Gd (X.blk s H scope (compEnvC scope cl C X.env) fp) N (relS scope sc) k := fun s H C cl fp =>
    .mk' g.calm g.nodup g.n (by rw [← g.sc]; rfl) g.room
  have hhas : ∀ (s : Shared) (H : Hp) (C : Addr) (cl : List (Str × Addr)) (fp : List Addr) (l : List Need), Has X k l → Has (X.blk s H scope (compEnvC scope cl C X.env) fp) k l := fun s H C cl fp l z => ⟨z.ok⟩
  have hsn : (own.map fun p => ((p.1 : Str), p.2)).map (·.2) = own.map (·.2) := by rw [List.map_map]; rfl
  have base : PS X (.Assign [.Name y py] (.ListComp x [⟨t, .Name nm np, ifs, 0⟩] scope p) spos) (tAsg (tLc (iKeys (tVar ii)) (tG X.K tg) (tC X.K X.mg W0 cond) (tE X.K X.mg W0 elt) ((own.map fun p => ((p.1 : Str), p.2)).map (·.2))) (gName i)) := by
    refine ps_setLc (g := tG X.K tg) (tt := tC X.K X.mg W0 cond) (te := tE X.K X.mg W0 elt) g.calm g.nodup hy hyl hsw (pi_keys (g.nm h4)) hb (fun s H C cl fp => ?_) (fun s H C cl fp => ?_) (fun s H C cl fp => ?_) (plain_fold rfl X.env)
    · refine g_tg (X := X.blk s H scope (compEnvC scope cl C X.env) fp) (sc0 := scope) g.calm g.nodup blk_names tg t (by show ckTg X.N scope tg t = true; rw [g.n]; exact h2)
    · have j := evs_sound cond (relS scope sc) (X.blk s H scope (compEnvC scope cl C X.env) fp) W0 ifs h6 (hgd s H C cl fp) takes0 (hhas s H C cl fp _ hn.l)
      cases cond with
      | nil =>
        cases j
        exact pts_nil.weaken fun σ H Q ⟨ρ, Av, rl, tr, p⟩ => p true Av H (.refl rl tr) rfl
      | cons c cs =>
        obtain ⟨b, r, rfl, _, j1, j2⟩ := j
        cases r with
        | cons _ _ => simp at h7
        | nil =>
          cases cs with
          | cons _ _ => obtain ⟨_, _, z, _⟩ := j2; cases z
          | nil => exact (pts_one j1.2).weaken fun σ H Q ⟨ρ, Av, rl, tr, p⟩ => ⟨ρ, Av, rl, tr, by simpa only [evC] using p⟩
    · exact (ev_sound elt (relS scope sc) (X.blk s H scope (compEnvC scope cl C X.env) fp) W0 x h8 (hgd s H C cl fp) takes0 (hhas s H C cl fp _ hn.r)).1
  rw [hsn] at base
  exact ⟨fun pins s σ H D I q => (r_compK (fun i hi => h3 i hi) q).elim (fun w => (ps_lock base).run pins s σ H D I w) (fun w => base.run pins s σ H D I w)⟩
theorem spec_nc {k : Spk} {es : List E} {a : Expr} (h : ckE N sc (.spec k es) a = true) : notCompB a = true := by
  simp only [ckE] at h
  split at h
  · rename_i as hs
    unfold Spk.shape at hs
    split at hs <;> first | rfl | cases hs
  · cases h
theorem set_sound {i : Nat} {e : E} {x : Str} {px p : Pos} {a : Expr} (g : GdS X N sc k W) (hi : N[i]? = some x) (hl : locB sc x = true) (h : ckE N sc e a = true) (hn : Has X k (needs e)) : PS X (.Assign [.Name x px] a p) (tS X.K X.mg W (exec (.set i e))) := by
  have he := (ev_sound e sc X W a h g.gd g.tk hn).1
  have hi' : X.N[i]? = some x := by rw [g.gd.n]; exact hi
  by_cases nc : notCompB a = true
  · exact s_set g.gd.nodup hi' (g.loc hl) (g.fnl x) he (sw_not nc _ _ _)
  · have ha : ∃ xe gs scope pos, a = .ListComp xe gs scope pos := by
      cases a <;> first | exact ⟨_, _, _, _, rfl⟩ | (simp [notCompB] at nc; done) | skip
      all_goals (cases e <;> (try (simp [ckE] at h; done)) <;> first | (rename_i op z; cases op <;> simp [ckE] at h; done) | (exact absurd (spec_nc h) nc))
    obtain ⟨xe, gs, scope, pos, rfl⟩ := ha
    have hk : X.env.scope.kind = .function := by rw [g.gd.sc]; exact g.kind
    by_cases sw : (decide (X.env.scope.names.lookup x = some .local) && (px.line == pos.line) && !(scope.names.any fun (n, k) => n == x && (k == .local || k == .cell))) = true
    · simp only [Bool.and_eq_true, decide_eq_true_eq, Bool.not_eq_true'] at sw
      by_cases hK : e.isK = true
      · obtain ⟨elt, tg, ii, cond, own, t, nm, np, ifs, rfl, rfl⟩ := ckE_compK h hK
        exact (compK_parts g.gd g.tk h hn hi' sw.1.1 (sw_true hk sw.1.1 sw.1.2 sw.2)).weaken fun D σ H q => r_set q
      · obtain ⟨elt, tg, kk, es, cond, own, t, it, ifs, rfl, rfl⟩ := ckE_comp h (by simpa using hK)
        exact (comp_parts g.gd g.tk h hn hi' sw.1.1 (sw_true hk sw.1.1 sw.1.2 sw.2)).weaken fun D σ H q => r_set q
    · refine s_set g.gd.nodup hi' (g.loc hl) (g.fnl x) he ?_
      unfold swapsWith
      have e : (X.env.blockKind == .function && X.env.kindOf x == some .local && px.line == (Expr.ListComp xe gs scope pos).pos.line && !(scope.names.any fun (n, k) => n == x && (k == .local || k == .cell))) = false := by
        rw [blockK hk]
        have e1 : (X.env.kindOf x == some NameKind.local) = decide (X.env.scope.names.lookup x = some .local) := Bool.eq_iff_iff.mpr ⟨fun h => decide_eq_true (beq_iff_eq.mp h), fun h => beq_iff_eq.mpr (of_decide_eq_true h)⟩
        rw [e1]
        simpa only [Expr.pos, beq_self_eq_true, Bool.true_and] using Bool.eq_false_iff.mpr sw
      simp only [e]
theorem ghost_ok {s : S} (hg : s.ghost = true) {K : PySem.W.Frag} (ρ : Env) : exec s ρ = .bad ∨ ∃ ρ1, exec s ρ = .nx ρ1 ∧ ∀ σ Av H, Rel K Av ρ σ H → Tr Av H → ∃ Av1, Sx K ρ σ Av H ρ1 σ Av1 H := by
  cases s <;> (try (simp [S.ghost] at hg; done))
  · simp only [exec]
    exact .inr ⟨_, rfl, fun σ Av H rl tr => ⟨Av, forgetR_sx (.refl rl tr)⟩⟩
  · rename_i i
    simp only [exec]
    cases q : freezeR ρ i with
    | none => exact .inl rfl
    | some ρ1 => exact .inr ⟨ρ1, rfl, fun σ Av H rl tr => freezeR_sx (.refl rl tr) tr q⟩
/-- what a suite's context has -/
structure GdSH (X : Cx) (N : List Str) (sc : Scope) (k : Nat) : Prop where
  gd : GdH X N sc k
  fnl : ∀ x, X.fn x = true
theorem GdSH.loc (g : GdSH X N sc k) {x : Str} (h : locB sc x = true) : Loc X.env.scope x := by
  simp only [locB, Bool.or_eq_true, decide_eq_true_eq] at h
  rw [g.gd.sc]; exact h
theorem s_intH {es : List E} {a : Expr} {as : List Expr} {p pos : Pos} (hg : Gl X ("int" : Str)) (hm : X.mg ("int" : Str) = none) (ha : PA X (a :: as) (tEs X.K X.mg W es)) (he : starEach (a :: as) X.env = (false, eval a X.env) :: starEach as X.env) (hpl : (backTo pos (starEach as X.env)).any (·.1) = false) :
    PE X (.Call (.Name "int" p) (a :: as) [] pos) (tE X.K X.mg W (.blt .int es)) := by
  have hok : CallR X (.type "int") (rCall X.K Blt.int.sem) := by
    intro pins s σ H xs us Q I r ⟨ts, q, Av, tr, p, e, k⟩
    cases p with
    | nil => simp [Blt.sem] at e
    | cons h1 p =>
      rename_i t x ts xs
      cases p with
      | cons h2 p => cases t <;> simp [Blt.sem] at e
      | nil =>
        cases t <;> simp only [Blt.sem] at e <;> try (cases e; done)
        case int z => cases e; simp only [Rdb] at h1; subst h1; exact call_int1 pins s σ H _ us Q I r (.inl ⟨z, rfl, k _ _ _ (.same tr (by simp [Rep]))⟩)
        case bl z => cases e; simp only [Rdb] at h1; subst h1; exact call_int1 pins s σ H _ us Q I r (.inr ⟨z, rfl, k _ _ _ (.same tr (by simp [Rep]))⟩)
  refine (pe_callTy hok hg hm (blt_boot .int) ha (blt_nn .int) (blt_dbg .int) he hpl).weaken fun σ H Q ⟨ρ, Av, rl, tr, p⟩ => ?_
  simp only [ev] at p
  refine ⟨ρ, Av, rl, tr, (p.bind rl).mono fun vs H1 ⟨rs, ρ1, Av1, _, n1, q1, p1⟩ => ?_⟩
  obtain ⟨z, e, k⟩ := p1.lift
  simp only [Option.bind_eq_some_iff] at e
  obtain ⟨ts, e1, e⟩ := e
  exact ⟨ts, z, Av1, n1.tr, q1.gets n1.rel e1, e, k n1.rel⟩
mutual
theorem evH_sound : ∀ (e : E) (X : Cx) (W : WX) (a : Expr), ckE N sc e a = true → hotE e = true → GdH X N sc k → Has X k (needs e) → PB X W e a
  | .lit t, X, W, a, h, ho, g, hn => by
    simp only [ckE] at h
    split at h
    · exact .of (const_sound h) rfl
    · cases h
  | .var i, X, W, a, h, ho, g, hn => by
    simp only [ckE] at h
    split at h
    · exact .of (s_var (x := default) (g.nm h)) rfl
    · cases h
  | .un .neg a, X, W, b, h, ho, g, hn => by
    simp only [ckE] at h
    split at h
    · exact .of (s_neg (evH_sound a X W _ h ho g hn).1) rfl
    · cases h
  | .un .not a, X, W, b, h, ho, g, hn => by
    simp only [ckE] at h
    split at h
    · have i := evH_sound a X W _ h ho g hn
      exact ⟨s_not i.1, t_not i.2⟩
    · cases h
  | .bin op a b, X, W, c, h, ho, g, hn => by
    simp only [ckE] at h
    simp only [hotE, Bool.and_eq_true] at ho
    split at h
    · simp only [Bool.and_eq_true, decide_eq_true_eq] at h
      obtain ⟨⟨rfl, h1⟩, h2⟩ := h
      exact .of (s_bin (evH_sound a X W _ h1 ho.1 g hn.l).1 (evH_sound b X W _ h2 ho.2 g hn.r).1) rfl
    · cases h
  | .cmp op a b, X, W, c, h, ho, g, hn => by
    simp only [ckE] at h
    simp only [hotE, Bool.and_eq_true] at ho
    split at h
    · simp only [Bool.and_eq_true, decide_eq_true_eq, Bool.not_eq_true'] at h
      obtain ⟨⟨⟨rfl, h1⟩, h2⟩, h3⟩ := h
      have i := evH_sound a X W _ h1 ho.1 g hn.l
      have j := evH_sound b X W _ h2 ho.2 g hn.r
      exact ⟨s_cmp g.hu i.1 j.1 h3, t_cmp g.hu i.1 j.1 h3⟩
    · cases h
  | .and_ es, X, W, a, h, ho, g, hn => by
    simp only [ckE] at h
    split at h
    · simp only [Bool.and_eq_true, Bool.not_eq_true', List.isEmpty_eq_false_iff] at h
      exact (evsH_sound es X W _ h.1 ho g hn).and h.2
    · cases h
  | .or_ es, X, W, a, h, ho, g, hn => by
    simp only [ckE] at h
    split at h
    · simp only [Bool.and_eq_true, Bool.not_eq_true', List.isEmpty_eq_false_iff] at h
      exact (evsH_sound es X W _ h.1 ho g hn).or h.2
    · cases h
  | .ite c a b, X, W, d, h, ho, g, hn => by
    simp only [ckE] at h
    simp only [hotE, Bool.and_eq_true] at ho
    split at h
    · simp only [Bool.and_eq_true] at h
      obtain ⟨⟨h1, h2⟩, h3⟩ := h
      have i := evH_sound c X W _ h1 ho.1.1 g hn.l.l
      have j := evH_sound a X W _ h2 ho.1.2 g hn.l.r
      have l := evH_sound b X W _ h3 ho.2 g hn.r
      exact ⟨s_ite i.2 j.1 l.1, pt_ite i.2 j.2 l.2⟩
    · cases h
  | .tup es, X, W, a, h, ho, g, hn => by
    simp only [ckE] at h
    split at h
    · exact .of (s_tup (evsH_sound es X W _ h ho g hn).pa) rfl
    · cases h
  | .lst es, X, W, a, h, ho, g, hn => by
    simp only [ckE] at h
    split at h
    · exact .of (s_lst (evsH_sound es X W _ h ho g hn).pa) rfl
    · cases h
  | .sub a i, X, W, b, h, ho, g, hn => by
    simp only [ckE] at h
    simp only [hotE, Bool.and_eq_true] at ho
    split at h
    · simp only [Bool.and_eq_true] at h
      obtain ⟨⟨h1, h2⟩, h3⟩ := h
      exact .of (s_sub g.hu1 (evH_sound a X W _ h1 ho.1 g hn.l).1 (evH_sound i X W _ h2 ho.2 g hn.r).1 (plain_ix h3)) rfl
    · cases h
  | .isi a tys, X, W, b, h, ho, g, hn => by
    simp only [ckE] at h
    split at h
    · simp only [Bool.and_eq_true, decide_eq_true_eq] at h
      obtain ⟨⟨⟨⟨rfl, h1⟩, h2⟩, h3⟩, h4⟩ := h
      have i := evH_sound a X W _ h2 ho g hn.r
      obtain ⟨l, t⟩ := tys_ok g h4 hn.l.tl
      match tys, l, t with
      | [y], _, t =>
        obtain ⟨t1, t2, t3, q, t4⟩ := t 0 y _ rfl rfl
        cases t4
        exact .of (s_isi t1 (g.gl h1).1 hn.hd t2 t3 i.1 (star_plain h3)) rfl
    · simp only [Bool.and_eq_true, decide_eq_true_eq] at h
      obtain ⟨⟨⟨⟨⟨rfl, h1⟩, h2⟩, h3⟩, h4⟩, h5⟩ := h
      have i := evH_sound a X W _ h2 ho g hn.r
      obtain ⟨l, t⟩ := tys_ok g h4 hn.l.tl
      exact .of (s_isiT h5 l t (g.gl h1).1 hn.hd i.1 (star_plain h3)) rfl
    · cases h
  | .isx a cs xs tys, X, W, b, h, ho, g, hn => by
    simp only [ckE] at h
    obtain ⟨m0, hx⟩ := hn.hd
    split at h
    · simp only [Bool.and_eq_true, decide_eq_true_eq] at h
      obtain ⟨⟨⟨⟨rfl, h1⟩, h2⟩, h3⟩, h4⟩ := h
      have i := evH_sound a X W _ h2 ho g hn.tl
      obtain ⟨l, t⟩ := cls_ok g h4 hx
      match cs, l, t with
      | [y], _, t =>
        obtain ⟨⟨u, t1⟩, t2, t3, q, t4⟩ := t 0 y _ rfl rfl
        cases t4
        exact .of (s_isx t1 (g.gl h1).1 m0 t2 t3 i.1 (star_plain h3)) rfl
    · simp only [Bool.and_eq_true, decide_eq_true_eq, Bool.not_eq_true', List.isEmpty_eq_false_iff] at h
      obtain ⟨⟨⟨⟨⟨⟨rfl, h1⟩, h2⟩, h3⟩, h4⟩, h5⟩, h6⟩ := h
      have i := evH_sound a X W _ h2 ho g hn.tl
      obtain ⟨l, t⟩ := cls_ok g h4 hx
      exact .of (s_isxT h6 h5 l t (g.gl h1).1 m0 i.1 (star_plain h3)) rfl
    · cases h
  | .blt b es, X, W, a, h, ho, g, hn => by
    simp only [ckE] at h
    simp only [hotE, Bool.and_eq_true] at ho
    cases b <;> (try (exact absurd ho.1 (by decide)))
    split at h
    · simp only [Bool.and_eq_true, decide_eq_true_eq] at h
      obtain ⟨⟨rfl, h2⟩, h3⟩ := h
      have i := evsH_sound es X W _ h3 ho.2 g hn.tl
      obtain ⟨e, es', rfl⟩ : ∃ e es', es = e :: es' := by
        cases es with
        | nil => cases i
        | cons e es => exact ⟨e, es, rfl⟩
      obtain ⟨a, as, e1, hp, i1, i2⟩ := i
      cases e1
      have st := star_all (env := X.env) h3
      rw [star_plain hp, List.all_cons] at st
      exact .of (s_intH (g.gl h2).1 hn.hd (s_argsC i1.1 i2.pa (star_plain hp)) (star_plain hp) (plainAs (Bool.and_eq_true_iff.mp st).2).2) rfl
    · cases h
  | .meth m o es, X, W, a, h, ho, g, hn => by
    simp only [ckE] at h
    simp only [hotE, Bool.and_eq_true] at ho
    split at h
    · simp only [Bool.and_eq_true, decide_eq_true_eq] at h
      obtain ⟨⟨⟨⟨⟨rfl, h0⟩, h1⟩, h2⟩, h3⟩, h4⟩ := h
      refine .of ?_ rfl
      have i := evsH_sound es X W _ h2 ho.2 g hn.r
      have io := (evH_sound o X W _ h1 ho.1.2 g hn.l).1
      have hst := star_all (env := X.env) h2
      rename_i x at_ p ys q
      match m, ys, ho.1.1, h0, i, hst with
      | .index, [a], _, _, h, hst =>
        have pa := h.pa
        obtain ⟨e, rfl, i1, i2⟩ := h.one
        exact s_index g.hu io pa (base_plain h3) h4 hst i2
      | .count, [a], _, _, h, hst =>
        have pa := h.pa
        obtain ⟨e, rfl, i1, i2⟩ := h.one
        exact s_count g.hu io pa (base_plain h3) h4 hst i2
    · cases h
  | .mut m i es, X, W, a, h, ho, g, hn => by
    simp only [ckE] at h
    simp only [hotE, Bool.and_eq_true, Bool.not_eq_true'] at ho
    split at h
    · simp only [Bool.and_eq_true, decide_eq_true_eq, Bool.or_eq_true, Bool.not_eq_true'] at h
      obtain ⟨⟨⟨⟨⟨rfl, _⟩, h2⟩, h3⟩, h4⟩, h5⟩ := h
      have h1 := ho.1
      have i := evsH_sound es X W _ h4 ho.2 g hn
      cases es with
      | nil =>
        cases i
        exact .of (s_mut0 h1 (g.nm h2) h3) rfl
      | cons e es =>
        have st := star_all (env := X.env) h4
        obtain ⟨a, as, rfl, hp, i1, i2⟩ := i
        exact .of (s_mut h1 (g.nm h2) (s_argsC i1.1 i2.pa (star_plain hp)) h3 st h5 (star_plain hp)) rfl
    · cases h
  | .glob .., X, W, a, h, ho, g, hn => nomatch ho
  | .cmp2 .., X, W, a, h, ho, g, hn => nomatch ho
  | .cmp3 .., X, W, a, h, ho, g, hn => nomatch ho
  | .dct0, X, W, a, h, ho, g, hn => nomatch ho
  | .slc .., X, W, a, h, ho, g, hn => nomatch ho
  | .rev .., X, W, a, h, ho, g, hn => nomatch ho
  | .call .., X, W, a, h, ho, g, hn => nomatch ho
  | .comp .., X, W, a, h, ho, g, hn => nomatch ho
  | .spec .., X, W, a, h, ho, g, hn => nomatch ho
  | .compK .., X, W, a, h, ho, g, hn => nomatch ho
theorem evsH_sound : ∀ (es : List E) (X : Cx) (W : WX) (as : List Expr), ckEs N sc es as = true → hotEs es = true → GdH X N sc k → Has X k (needsL es) → PBs X W es as
  | [], X, W, as, h, ho, g, hn => by simp only [ckEs, List.isEmpty_iff] at h; exact h
  | e :: es, X, W, as, h, ho, g, hn => by
    simp only [ckEs] at h
    simp only [hotEs, Bool.and_eq_true] at ho
    split at h
    · simp only [Bool.and_eq_true] at h
      exact ⟨_, _, rfl, h.1.1, evH_sound e X W _ h.1.2 ho.1 g hn.l, evsH_sound es X W _ h.2 ho.2 g hn.r⟩
    · cases h
end
theorem hot_nc {e : E} {a : Expr} (h : ckE N sc e a = true) (ho : hotE e = true) : notCompB a = true := by
  cases a <;> first | rfl | skip
  all_goals (cases e <;> (try (simp [ckE] at h; done)) <;> first | (rename_i op z; cases op <;> simp [ckE] at h; done) | (simp [hotE] at ho; done))
mutual
theorem execH_sound : ∀ (s : S) (X : Cx) (W : WX) (st : Stmt), ckS N sc s st = true → hotS s = true → GdSH X N sc k → Has X k (sneeds s) → PS X st (tS X.K X.mg W (exec s))
  | .ex e, X, W, st, h, ho, g, hn => by
    simp only [ckS] at h
    split at h
    · simp only [Bool.and_eq_true] at h
      exact s_ex (evH_sound e X W _ h.1 ho g.gd hn).1 (sw_not h.2 _ _ _)
    · cases h
  | .set i e, X, W, st, h, ho, g, hn => by
    simp only [ckS] at h
    split at h
    · simp only [Bool.and_eq_true, decide_eq_true_eq] at h
      exact s_set g.gd.nodup (by rw [g.gd.n]; exact h.1.1) (g.loc h.1.2) (g.fnl _) (evH_sound e X W _ h.2 ho g.gd hn).1 (sw_not (hot_nc h.2 ho) _ _ _)
    · cases h
  | .ifs c a b, X, W, st, h, ho, g, hn => by
    simp only [ckS] at h
    simp only [hotS, Bool.and_eq_true] at ho
    split at h
    · simp only [Bool.and_eq_true] at h
      obtain ⟨⟨h1, h2⟩, h3⟩ := h
      exact s_ifs (evH_sound c X W _ h1 ho.1.1 g.gd hn.l.l).2 (execsH_sound a X W _ h2 ho.1.2 g hn.l.r) (execsH_sound b X W _ h3 ho.2 g hn.r)
    · cases h
  | .ret e, X, W, st, h, ho, g, hn => by
    simp only [ckS] at h
    split at h
    · exact s_ret (evH_sound e X W _ h ho g.gd hn).1
    · cases h
  | .pass, X, W, st, h, ho, g, hn => by
    simp only [ckS] at h
    split at h
    · exact s_pass
    · cases h
  | .forget _, X, W, st, h, ho, g, hn => by simp [ckS] at h
  | .freeze _, X, W, st, h, ho, g, hn => by simp [ckS] at h
  | .unp .., X, W, st, h, ho, g, hn => nomatch ho
  | .par .., X, W, st, h, ho, g, hn => nomatch ho
  | .put .., X, W, st, h, ho, g, hn => nomatch ho
  | .whl .., X, W, st, h, ho, g, hn => nomatch ho
  | .for_ .., X, W, st, h, ho, g, hn => nomatch ho
  | .retN, X, W, st, h, ho, g, hn => nomatch ho
  | .brk, X, W, st, h, ho, g, hn => nomatch ho
  | .cont, X, W, st, h, ho, g, hn => nomatch ho
  | .raise _, X, W, st, h, ho, g, hn => nomatch ho
  | .aug .., X, W, st, h, ho, g, hn => nomatch ho
  | .forK .., X, W, st, h, ho, g, hn => nomatch ho
  | .tryx .., X, W, st, h, ho, g, hn => nomatch ho
  | .stw .., X, W, st, h, ho, g, hn => nomatch ho
  | .retD .., X, W, st, h, ho, g, hn => nomatch ho
  | .reg .., X, W, st, h, ho, g, hn => nomatch ho
theorem execsH_sound : ∀ (ss : List S) (X : Cx) (W : WX) (sts : List Stmt), ckSs N sc ss sts = true → hotSs ss = true → GdSH X N sc k → Has X k (sneedsL ss) → PSs X sts (tS X.K X.mg W (execs ss))
  | [], X, W, sts, h, ho, g, hn => by
    simp only [ckSs, List.isEmpty_iff] at h
    subst h
    exact tS.nil.weaken fun D σ H ⟨ρ, Av, rl, tr, p⟩ => ⟨ρ, Av, rl, tr, by simpa only [execs] using p⟩
  | s :: ss, X, W, sts, h, ho, g, hn => by
    simp only [ckSs] at h
    simp only [hotSs, Bool.and_eq_true] at ho
    split at h
    · rename_i hg
      have h2 := execsH_sound ss X W sts h ho.2 g hn.r
      refine (tS.ghost (g := exec s) h2 fun ρ => ghost_ok hg ρ).weaken fun D σ H ⟨ρ, Av, rl, tr, p⟩ => ⟨ρ, Av, rl, tr, by simpa only [execs] using p⟩
    · split at h
      · rename_i hrg
        exact absurd ho.1 (by cases s <;> first | (cases hrg; done) | (intro z; cases z))
      split at h
      · simp only [Bool.and_eq_true] at h
        exact (tS.cons (execH_sound s X W _ h.1 ho.1 g hn.l) (execsH_sound ss X W _ h.2 ho.2 g hn.r)).weaken fun D σ H ⟨ρ, Av, rl, tr, p⟩ => ⟨ρ, Av, rl, tr, by simpa only [execs] using p⟩
      · cases h
end
theorem mid_sound {X : Cx} {W : WX} (g : GdS X N sc k W) {i : Nat} {ms : List (Nat × Mut × List E)} {u : Env → SRes} : ∀ {mid : List Mid} {sts r : List Stmt}, ckMid N sc mid sts = some r → Has X k (midNeeds mid) → PSs X r (tM X.K X.mg W i [] ms u) → PSs X sts (tM X.K X.mg W i mid ms u)
  | [], sts, r, h, hn, p => by simp only [ckMid, Option.some.injEq] at h; subst h; exact p
  | .chk c e :: mid, sts, r, h, hn, p => by
    simp only [ckMid] at h
    split at h
    · split at h
      · rename_i hc
        simp only [Bool.and_eq_true] at hc
        exact m_chk (ev_sound c sc X W _ hc.1 g.gd g.tk hn.l.l).2 (ev_sound e sc X W _ hc.2 g.gd g.tk hn.l.r).1 (mid_sound g h hn.r p)
      · cases h
    · cases h
  | .bnd j e :: mid, sts, r, h, hn, p => by
    simp only [ckMid] at h
    split at h
    · split at h
      · rename_i hc
        simp only [Bool.and_eq_true, decide_eq_true_eq] at hc
        obtain ⟨⟨⟨h1, h2⟩, h3⟩, h4⟩ := hc
        exact m_bnd g.gd.nodup (by rw [g.gd.n]; exact h1) (g.loc h2) (g.fnl _) (ev_sound e sc X W _ h3 g.gd g.tk hn.l).1 (sw_not h4 _ _ _) (mid_sound g h hn.r p)
      · cases h
    · cases h
theorem mut_sound {X : Cx} {W : WX} (g : GdS X N sc k W) {i : Nat} {u : Env → SRes} : ∀ {ms : List (Nat × Mut × List E)} {sts r : List Stmt}, ckMut N sc i ms sts = some r → Has X k (mutNeeds ms) → PSs X r (tS X.K X.mg W u) → PSs X sts (tM X.K X.mg W i [] ms u)
  | [], sts, r, h, hn, p => by simp only [ckMut, Option.some.injEq] at h; subst h; exact m_end p
  | (n, m, es) :: ms, sts, r, h, hn, p => by
    simp only [ckMut] at h
    split at h
    · split at h
      · rename_i hc
        simp only [Bool.and_eq_true, decide_eq_true_eq, Bool.not_eq_true'] at hc
        obtain ⟨⟨⟨⟨⟨⟨⟨rfl, rfl⟩, h3⟩, h4⟩, h5⟩, h6⟩, h7⟩, h8⟩ := hc
        have i := evs_sound es sc X W _ h4 g.gd g.tk hn.l
        cases es with
        | nil => cases i; simp at h5
        | cons e es =>
          have st := star_all (env := X.env) h4
          obtain ⟨a, as, e1, hp, i1, i2⟩ := i
          subst e1
          exact m_mut (g.gd.nm h3) (s_argsC i1.1 i2.pa (star_plain hp)) h6 st h7 (star_plain hp) h8 (mut_sound g h hn.r p)
      · cases h
    · cases h
theorem reg_sound {X : Cx} {W : WX} (s : S) (sts : List Stmt) {r : List Stmt} {u : Env → SRes} (g : GdS X N sc k W) (hn : Has X k (sneeds s)) (h : ckReg N sc s sts = some r) (hs : s.isReg = true) (p : PSs X r (tS X.K X.mg W u)) : PSs X sts (tS X.K X.mg W fun ρ => (exec s ρ).bind u) := by
  cases s <;> (try (simp [S.isReg] at hs; done))
  rename_i i nm f es mid ms
  simp only [ckReg] at h
  split at h
  · split at h
    · rename_i x px a pa rest hc
      simp only [Bool.and_eq_true, decide_eq_true_eq, Bool.not_eq_true'] at hc
      obtain ⟨⟨⟨h1, h2⟩, h3⟩, h4⟩ := hc
      by_cases hd : f.deep = true
      · simp only [Option.bind_eq_some_iff] at h
        obtain ⟨r1, e1, e2⟩ := h
        simp only [sneeds] at hn
        have pm := mid_sound g e1 hn.r.l (mut_sound g (i := i) e2 hn.r.r p)
        have hc := hn.l
        simp only [ckE] at h3
        split at h3
        · simp only [Bool.and_eq_true, decide_eq_true_eq] at h3
          obtain ⟨⟨rfl, q2⟩, q3⟩ := h3
          obtain ⟨addr, fd, ps, F, hm, hk, hb⟩ := hc.hd
          have iv := evs_sound es sc X W _ q3 g.gd g.tk hc.tl
          cases es with
          | nil => simp at h4
          | cons e es =>
            obtain ⟨b, bs, e3, hp, i1, i2⟩ := iv
            cases e3
            have st := star_all (env := X.env) q3
            rw [star_plain hp, List.all_cons] at st
            exact m_start g.gd.nodup (by rw [g.gd.n]; exact h1) (g.loc h2) (g.fnl _) (s_callD hd F g.gd.room (g.gd.gl q2).1 hm hk hb g.tk (s_argsC i1.1 i2.pa (star_plain hp)) (g.gd.gl q2).2 (star_plain hp) (plainAs (Bool.and_eq_true_iff.mp st).2).2) rfl pm
        · simp only [Bool.and_eq_true, decide_eq_true_eq] at h3
          rw [h3.2] at h4; cases h4
        · cases h3
      · refine ⟨fun pins s σ H D I ⟨ρ, Av, rl, tr, q⟩ => ?_⟩
        simp only [exec] at q
        rw [if_neg hd] at q
        exact q.elim
    · cases h
  · cases h
mutual
theorem exec_sound : ∀ (s : S) (X : Cx) (W : WX) (st : Stmt), ckS N sc s st = true → GdS X N sc k W → Has X k (sneeds s) → PS X st (tS X.K X.mg W (exec s))
  | .ex e, X, W, st, h, g, hn => by
    simp only [ckS] at h
    split at h
    · simp only [Bool.and_eq_true] at h
      exact s_ex (ev_sound e sc X W _ h.1 g.gd g.tk hn).1 (sw_not h.2 _ _ _)
    · cases h
  | .set i e, X, W, st, h, g, hn => by
    simp only [ckS] at h
    split at h
    · simp only [Bool.and_eq_true, decide_eq_true_eq] at h
      exact set_sound g h.1.1 h.1.2 h.2 hn
    · cases h
  | .unp tg e, X, W, st, h, g, hn => by
    simp only [ckS] at h
    split at h
    · rename_i es kt pt a p
      simp only [Bool.and_eq_true] at h
      refine s_unp (ev_sound e sc X W _ h.1.2 g.gd g.tk hn).1 (g_tg g.gd.calm g.gd.nodup g.tg tg _ (by rw [g.gd.n]; exact h.1.1)) ?_
      rcases (Bool.or_eq_true _ _).mp h.2 with h2 | h2
      · cases a <;> first | rfl | exact sw0 h2
      · rw [← g.gd.sc] at h2
        cases a <;> first | rfl | exact sw1 h2
    · cases h
  | .par i j ea eb, X, W, st, h, g, hn => by
    simp only [ckS] at h
    split at h
    · simp only [Bool.and_eq_true, decide_eq_true_eq, Bool.not_eq_true'] at h
      obtain ⟨⟨⟨⟨⟨⟨⟨⟨⟨⟨⟨⟨h1, h2⟩, h3⟩, h4⟩, h5⟩, h6⟩, h7⟩, h8⟩, h9⟩, h10⟩, h11⟩, h12⟩, h13⟩ := h
      rw [← g.gd.n] at h1 h2
      have hx := h4
      have hy := h5
      rw [← g.gd.sc] at hx hy
      have hk : X.env.scope.kind = .function := by rw [g.gd.sc]; exact g.kind
      exact s_par g.gd.calm g.gd.nodup h1 h2 h3 hx hy ⟨h6, h7⟩ (ev_sound ea sc X W _ h8 g.gd g.tk hn.l).1 (ev_sound eb sc X W _ h9 g.gd g.tk hn.r).1 (sw2 hk hx hy h10 h11 ⟨h6, h7⟩ (by simpa using h12) (by simpa using h13))
    · cases h
  | .put i ix e, X, W, st, h, g, hn => by
    simp only [ckS] at h
    split at h
    · simp only [Bool.and_eq_true] at h
      obtain ⟨⟨⟨h1, h2⟩, h3⟩, h4⟩ := h
      exact s_put g.gd.hu1 (g.gd.nm h1) (ev_sound ix sc X W _ h2 g.gd g.tk hn.l).1 (ev_sound e sc X W _ h4 g.gd g.tk hn.r).1 h3
    · cases h
  | .ifs c a b, X, W, st, h, g, hn => by
    simp only [ckS] at h
    split at h
    · simp only [Bool.and_eq_true] at h
      obtain ⟨⟨h1, h2⟩, h3⟩ := h
      exact s_ifs (ev_sound c sc X W _ h1 g.gd g.tk hn.l.l).2 (execs_sound a X W _ h2 g hn.l.r) (execs_sound b X W _ h3 g hn.r)
    · cases h
  | .whl c b fg, X, W, st, h, g, hn => by
    simp only [ckS] at h
    split at h
    · simp only [Bool.and_eq_true] at h
      exact (ps_while g.pass (ev_sound c sc X W _ h.1 g.gd g.tk hn.l).2 (execs_sound b X W _ h.2 g hn.r)).weaken fun D σ H q => r_whl q
    · cases h
  | .for_ tg kk its b fg, X, W, st, h, g, hn => by
    simp only [ckS] at h
    split at h
    · simp only [Bool.and_eq_true] at h
      obtain ⟨⟨⟨h1, h2⟩, h3⟩, h4⟩ := h
      split at h2
      · rename_i as hit
        have i := evs_sound its sc X W _ h2 g.gd g.tk hn.l.tl.tl
        exact (ps_for g.pass g.gd.calm (it_sound g.gd hit i hn.l.hd hn.l.tl.hd) (g_tg g.gd.calm g.gd.nodup g.tg tg _ (by rw [g.gd.n]; exact h1)) (execs_sound b X W _ h4 g hn.r) (plain_fold h3 X.env)).weaken fun D σ H q => r_for q
      · cases h2
    · cases h
  | .ret e, X, W, st, h, g, hn => by
    simp only [ckS] at h
    split at h
    · exact s_ret (ev_sound e sc X W _ h g.gd g.tk hn).1
    · cases h
  | .retN, X, W, st, h, g, hn => by
    simp only [ckS] at h
    split at h
    · exact s_retN
    · cases h
  | .brk, X, W, st, h, g, hn => by
    simp only [ckS] at h
    split at h
    · exact s_brk
    · cases h
  | .cont, X, W, st, h, g, hn => by
    simp only [ckS] at h
    split at h
    · exact s_cont
    · cases h
  | .pass, X, W, st, h, g, hn => by
    simp only [ckS] at h
    split at h
    · exact s_pass
    · cases h
  | .raise c, X, W, st, h, g, hn => by
    simp only [ckS] at h
    split at h
    · simp only [Bool.and_eq_true, decide_eq_true_eq] at h
      obtain ⟨rfl, h2⟩ := h
      obtain ⟨C, bmB, B, newId, initId, q1, q2, q3, q4, q5, q6⟩ := hn.hd
      exact s_raise g.gd.calm g.tk q1 q2 q3 q4 q5 q6 (g.gd.gl h2).1 (g.gd.gl h2).2
    · cases h
  | .aug i e, X, W, st, h, g, hn => by
    simp only [ckS] at h
    split at h
    · simp only [Bool.and_eq_true, decide_eq_true_eq] at h
      exact s_aug g.gd.nodup (by rw [g.gd.n]; exact h.1.1) (g.loc h.1.2) (g.fnl _) (ev_sound e sc X W _ h.2 g.gd g.tk hn).1
    · cases h
  | .forK tg i b fg, X, W, st, h, g, hn => by
    simp only [ckS] at h
    split at h
    · simp only [Bool.and_eq_true] at h
      rename_i t nm np y pos
      obtain ⟨⟨h1, h2⟩, h3⟩ := h
      have base := ps_for (pos := pos) g.pass g.gd.calm (pi_keys (g.gd.nm (p := np) h2)) (g_tg g.gd.calm g.gd.nodup g.tg tg _ (by rw [g.gd.n]; exact h1)) (execs_sound b X W _ h3 g hn) (plain_fold rfl X.env)
      exact ⟨fun pins s σ H D I q => (r_forK q).elim ((ps_lock base).run pins s σ H D I) (base.run pins s σ H D I)⟩
    · cases h
  | .tryx b i hd xs, X, W, st, h, g, hn => by
    simp only [ckS] at h
    split at h
    · simp only [Bool.and_eq_true, decide_eq_true_eq] at h
      obtain ⟨⟨⟨⟨⟨rfl, h2⟩, h3⟩, h4⟩, h5⟩, h6⟩ := h
      obtain ⟨DM, q1, q2⟩ := hn.l.hd
      have gl := g.gd.gl h2
      have nm : Names X "MarkError" (.ref DM) := ⟨gl.1, gl.2, .inl q1⟩
      have body : ∀ (W : WX) (pn : List (Addr × Obj)) (xe : Value → Shared → Prop), Takes (X.tr pn xe) W → PassesOwn (model X.prog X.w) X.A X.env xe → PSs (X.tr pn xe) _ (tS X.K X.mg W (execs b)) := fun W pn xe tk ps =>
        execs_sound b (X.tr pn xe) W _ h3 ⟨⟨⟨g.gd.nodup, g.gd.n, g.gd.sc, g.gd.un⟩, g.gd.calm, g.gd.room⟩, g.stk, g.frm, g.fnl, g.kind, ps, tk⟩ ⟨hn.l.tl.ok⟩
      have suite : ∀ (a : Addr) (pn : List (Addr × Obj)), PSs (X.suite a pn) _ (tS X.K X.mg W0 (execs hd)) := fun a pn =>
        execsH_sound hd (X.suite a pn) W0 _ h4 h5 ⟨⟨g.gd.nodup, g.gd.n, g.gd.sc, g.gd.un⟩, g.fnl⟩ ⟨hn.r.ok⟩
      rename_i nmo s0 su _ _
      cases i with
      | none =>
        cases nmo with
        | some n => cases h6
        | none => exact s_try_only g.stk g.frm g.tk nm q2 body suite
      | some j =>
        cases nmo with
        | none => cases h6
        | some n =>
          simp only [Bool.and_eq_true, decide_eq_true_eq] at h6
          exact s_try_as g.stk g.frm g.gd.nodup (by rw [g.gd.n]; exact h6.1) (by show X.env.scope.names.lookup n = _; rw [g.gd.sc]; exact h6.2) nm q2 body suite
    · cases h
  | .stw i lo hi e, X, W, st, h, g, hn => by
    simp only [ckS] at h
    split at h
    · simp only [Bool.and_eq_true] at h
      obtain ⟨⟨⟨h1, h2⟩, h3⟩, h4⟩ := h
      exact s_stw (g.gd.nm h1) (ev_sound lo sc X W _ h2 g.gd g.tk hn.l.l).1 (ev_sound hi sc X W _ h3 g.gd g.tk hn.l.r).1 (ev_sound e sc X W _ h4 g.gd g.tk hn.r).1
    · cases h
  | .retD es, X, W, st, h, g, hn => by
    simp only [ckS] at h
    split at h
    · exact s_retD (evs_sound es sc X W _ h g.gd g.tk hn).pa
    · cases h
  | .reg .., X, W, st, h, g, hn => by simp [ckS] at h
  | .forget _, X, W, st, h, g, hn => by simp [ckS] at h
  | .freeze _, X, W, st, h, g, hn => by simp [ckS] at h
theorem execs_sound : ∀ (ss : List S) (X : Cx) (W : WX) (sts : List Stmt), ckSs N sc ss sts = true → GdS X N sc k W → Has X k (sneedsL ss) → PSs X sts (tS X.K X.mg W (execs ss))
  | [], X, W, sts, h, g, hn => by
    simp only [ckSs, List.isEmpty_iff] at h
    subst h
    exact tS.nil.weaken fun D σ H ⟨ρ, Av, rl, tr, p⟩ => ⟨ρ, Av, rl, tr, by simpa only [execs] using p⟩
  | s :: ss, X, W, sts, h, g, hn => by
    simp only [ckSs] at h
    split at h
    · rename_i hg
      have h2 := execs_sound ss X W sts h g hn.r
      exact (tS.ghost (g := exec s) h2 fun ρ => ghost_ok hg ρ).weaken fun D σ H ⟨ρ, Av, rl, tr, p⟩ => ⟨ρ, Av, rl, tr, by simpa only [execs] using p⟩
    · split at h
      · rename_i hrg
        cases q : ckReg N sc s sts with
        | none => rw [q] at h; cases h
        | some r =>
          rw [q] at h
          have h2 := execs_sound ss X W r h g hn.r
          exact (reg_sound s sts g hn.l q hrg h2).weaken fun D σ H ⟨ρ, Av, rl, tr, p⟩ => ⟨ρ, Av, rl, tr, by simpa only [execs] using p⟩
      split at h
      · simp only [Bool.and_eq_true] at h
        exact (tS.cons (exec_sound s X W _ h.1 g hn.l) (execs_sound ss X W _ h.2 g hn.r)).weaken fun D σ H ⟨ρ, Av, rl, tr, p⟩ => ⟨ρ, Av, rl, tr, by simpa only [execs] using p⟩
      · cases h
end
end
end MP

namespace MP
open PySem PySem.Spec L2
open PyProof.Rows hiding St
/-! ## defs -/
def env0 (n : Nat) (ios : List Bool) (ts : List T) : Env := (ios.zip ts).map (fun p => some (if p.1 then .io p.2 else .shr p.2)) ++ List.replicate (n - ts.length) none
def outsAt (ρ : Env) : Nat → List Bool → List T
  | _, [] => []
  | i, true :: r => (match slotAt ρ i with
    | some s => s.t
    | none => .non) :: outsAt ρ (i + 1) r
  | i, false :: r => outsAt ρ (i + 1) r
def retR (ρ : Env) : R → Option (T × Bool)
  | .val t => some (t, false)
  | .deep _ => none
  | .fresh t => some (t, true)
  | .loc i => match slotAt ρ i with
    | some (.own t) => some (t, true)
    | _ => none
def finF (ios : List Bool) : SRes → FRes
  | .nx ρ => .ok .non false (outsAt ρ 0 ios)
  | .rt r ρ => match retR ρ r with
    | some (t, fr) => .ok t fr (outsAt ρ 0 ios)
    | none => .bad
  | .exc c ρ => .exc c (outsAt ρ 0 ios)
  | _ => .bad
noncomputable def mkFn (ios : List Bool) (n : Nat) (body : List S) : Fn := ⟨ios, true, fun ts => if ios.length = ts.length then finF ios (execs body (env0 n ios ts)) else .bad, false, fun h => nomatch h⟩
/-- a def whose answer's lists are new -/
def finD (ios : List Bool) : SRes → FRes
  | .rt (.deep t) ρ => .ok t false (outsAt ρ 0 ios)
  | .exc c ρ => .exc c (outsAt ρ 0 ios)
  | _ => .bad
noncomputable def mkFnD (ios : List Bool) (n : Nat) (body : List S) : Fn := ⟨ios, true, fun ts => if ios.length = ts.length then finD ios (execs body (env0 n ios ts)) else .bad, true, fun _ ts t fr outs h => by
  split at h
  · cases q : execs body (env0 n ios ts) with
    | rt r ρ => rw [q] at h; cases r <;> simp only [finD] at h <;> cases h; rfl
    | _ => rw [q] at h; cases h
  · cases h⟩
section
variable {K : PySem.W.Frag} {H H' : Hp} {Av Av' : Addr → Prop} {ios : List Bool} {ts : List T} {vs : List V}
theorem ArgsRep.lens (h : ArgsRep K H Av ios ts vs) : ios.length = vs.length ∧ ts.length = vs.length := by
  induction h with
  | nil => exact ⟨rfl, rfl⟩
  | io _ _ _ ih => exact ⟨by simp [ih.1], by simp [ih.2]⟩
  | rd _ _ ih => exact ⟨by simp [ih.1], by simp [ih.2]⟩
theorem ArgsRep.at (h : ArgsRep K H Av ios ts vs) : ∀ (i : Nat) (b : Bool) (t : T) (v : V), ios[i]? = some b → ts[i]? = some t → vs[i]? = some v → SlotRep K H Av (if b then .io t else .shr t) v ∧ (b = true → ∃ a, v = .ref a ∧ a ∈ ioOf ios vs) := by
  induction h with
  | nil => intro i b t v h; simp at h
  | io ha ho _ ih =>
    intro i b t v h1 h2 h3
    cases i with
    | zero =>
      cases h1; cases h2; cases h3
      exact ⟨⟨_, rfl, ha, ho⟩, fun _ => ⟨_, rfl, by simp [ioOf]⟩⟩
    | succ i =>
      obtain ⟨x, y⟩ := ih i b t v (by simpa using h1) (by simpa using h2) (by simpa using h3)
      exact ⟨x, fun z => by obtain ⟨a, e, m⟩ := y z; exact ⟨a, e, by simp [ioOf, m]⟩⟩
  | rd hr _ ih =>
    intro i b t v h1 h2 h3
    cases i with
    | zero =>
      cases h1; cases h2; cases h3
      exact ⟨hr, fun h => by cases h⟩
    | succ i =>
      obtain ⟨x, y⟩ := ih i b t v (by simpa using h1) (by simpa using h2) (by simpa using h3)
      exact ⟨x, fun z => by obtain ⟨a, e, m⟩ := y z; exact ⟨a, e, by simpa [ioOf] using m⟩⟩
theorem ioOf_inj : ∀ {ios : List Bool} {vs : List V}, (ioOf ios vs).Nodup → ∀ (i j : Nat) (a : Addr), ios[i]? = some true → ios[j]? = some true → vs[i]? = some (.ref a) → vs[j]? = some (.ref a) → i = j := by
  have mem : ∀ {ios : List Bool} {vs : List V} {j : Nat} {a : Addr}, ios[j]? = some true → vs[j]? = some (.ref a) → a ∈ ioOf ios vs := by
    intro ios
    induction ios with
    | nil => intro vs j a h; simp at h
    | cons b ios ih =>
      intro vs j a h1 h2
      cases vs with
      | nil => simp at h2
      | cons v vs =>
        cases j with
        | zero => cases h1; cases h2; simp [ioOf]
        | succ j =>
          have m := ih (vs := vs) (by simpa using h1) (by simpa using h2)
          cases b with
          | false => simpa [ioOf] using m
          | true => cases v <;> simp [ioOf, m]
  intro ios
  induction ios with
  | nil => intro vs _ i j a h; simp at h
  | cons b ios ih =>
    intro vs nd i j a h1 h2 h3 h4
    cases vs with
    | nil => simp at h3
    | cons v vs =>
      have nd2 : (ioOf ios vs).Nodup := by
        cases b with
        | false => simpa [ioOf] using nd
        | true => cases v <;> first | (simp only [ioOf, List.nodup_cons] at nd; exact nd.2) | (simpa [ioOf] using nd)
      cases i with
      | zero =>
        cases j with
        | zero => rfl
        | succ j =>
          cases h1; cases h3
          have m := mem (vs := vs) (show ios[j]? = some true by simpa using h2) (by simpa using h4)
          simp only [ioOf, List.nodup_cons] at nd
          exact absurd m nd.1
      | succ i =>
        cases j with
        | zero =>
          cases h2; cases h4
          have m := mem (vs := vs) (show ios[i]? = some true by simpa using h1) (by simpa using h3)
          simp only [ioOf, List.nodup_cons] at nd
          exact absurd m nd.1
        | succ j => rw [ih nd2 i j a (by simpa using h1) (by simpa using h2) (by simpa using h3) (by simpa using h4)]
theorem env0_at {n i : Nat} {s : Slot} (h : slotAt (env0 n ios ts) i = some s) : ∃ b t, ios[i]? = some b ∧ ts[i]? = some t ∧ s = if b then .io t else .shr t := by
  unfold slotAt env0 at h
  rw [List.getElem?_append] at h
  split at h
  · rw [List.getElem?_map] at h
    cases q : (ios.zip ts)[i]? with
    | none => rw [q] at h; simp at h
    | some p =>
      rw [q] at h
      simp only [Option.map_some, Option.join] at h
      have q' := List.getElem?_zip_eq_some.mp q
      exact ⟨p.1, p.2, q'.1, q'.2, by simpa using h.symm⟩
  · rw [List.getElem?_replicate] at h
    split at h <;> simp at h
theorem at_env0 {n i : Nat} {b : Bool} {t : T} (h1 : ios[i]? = some b) (h2 : ts[i]? = some t) : slotAt (env0 n ios ts) i = some (if b then .io t else .shr t) := by
  unfold slotAt env0
  have q : (ios.zip ts)[i]? = some (b, t) := List.getElem?_zip_eq_some.mpr ⟨h1, h2⟩
  have hl := (List.getElem?_eq_some_iff.mp q).1
  rw [List.getElem?_append_left (by simpa using hl), List.getElem?_map, q]
  rfl
theorem start_at {N : List Str} {i : Nat} {v : V} (h : vs[i]? = some v) : (L2.start N vs)[i]? = some (some v) := by
  unfold L2.start
  have hl := (List.getElem?_eq_some_iff.mp h).1
  rw [List.getElem?_append_left (by simpa using hl), List.getElem?_map, h]
  rfl
theorem at_start {N : List Str} {i : Nat} {v : V} (h : (L2.start N vs)[i]? = some (some v)) : vs[i]? = some v := by
  unfold L2.start at h
  rw [List.getElem?_append] at h
  split at h
  · rw [List.getElem?_map] at h
    cases q : vs[i]? with
    | none => rw [q] at h; cases h
    | some w => rw [q] at h; cases h; rfl
  · rw [List.getElem?_replicate] at h
    split at h <;> cases h
theorem rel0 {N : List Str} (h : ArgsRep K H Av ios ts vs) (nd : (ioOf ios vs).Nodup) : Rel K Av (env0 N.length ios ts) (L2.start N vs) H := by
  obtain ⟨l1, l2⟩ := h.lens
  refine ⟨?_, fun i s q => ?_, fun i j s s' a q q' m m' e e' => ?_⟩
  · unfold env0 L2.start
    simp only [List.length_append, List.length_map, List.length_zip, List.length_replicate]
    omega
  · obtain ⟨b, t, e1, e2, rfl⟩ := env0_at q
    have hi : i < vs.length := by rw [← l2]; exact (List.getElem?_eq_some_iff.mp e2).1
    have e3 : vs[i]? = some vs[i] := List.getElem?_eq_getElem hi
    exact ⟨_, start_at e3, (h.at i b t _ e1 e2 e3).1⟩
  · obtain ⟨b, t, e1, e2, rfl⟩ := env0_at q
    obtain ⟨b', t', e1', e2', rfl⟩ := env0_at q'
    cases b with
    | false => simp [Slot.mine] at m
    | true =>
      cases b' with
      | false => simp [Slot.mine] at m'
      | true => exact ioOf_inj nd i j a e1 e1' (at_start e) (at_start e')
theorem no_own {n : Nat} {σ : St} {b : Addr} : ¬ OwnAt (env0 n ios ts) σ b := fun ⟨j, k, _⟩ => by
  unfold kindAt at k
  cases q : slotAt (env0 n ios ts) j with
  | none => rw [q] at k; simp at k
  | some s =>
    rw [q] at k
    obtain ⟨b, t, _, _, rfl⟩ := env0_at q
    cases b <;> simp [Slot.k] at k
theorem wr_io {N : List Str} (h : ArgsRep K H Av ios ts vs) {b : Addr} (w : WrK (env0 N.length ios ts) (L2.start N vs) b) : b ∈ ioOf ios vs := by
  obtain ⟨i, k, e⟩ := w
  unfold kindAt at k
  cases q : slotAt (env0 N.length ios ts) i with
  | none => rw [q] at k; simp at k
  | some s =>
    rw [q] at k
    obtain ⟨c, t, e1, e2, rfl⟩ := env0_at q
    cases c with
    | false => simp [Slot.k] at k
    | true =>
      obtain ⟨a, e3, m⟩ := (h.at i true t _ e1 e2 (at_start e)).2 rfl
      cases e3
      exact m
theorem outs_rep {ρ' : Env} : ∀ {ios : List Bool} {ts : List T} {vs : List V} (n : Nat), ArgsRep K H Av ios ts vs → (∀ i a, ios[i]? = some true → vs[i]? = some (.ref a) → ∃ s, slotAt ρ' (n + i) = some s ∧ OwnRep K H' Av' a s.t) → OutsRep K H' Av' (ioOf ios vs) (outsAt ρ' n ios) := by
  intro ios ts vs n h
  induction h generalizing n with
  | nil => intro _; exact .nil
  | io ha ho _ ih =>
    intro k
    obtain ⟨s, q, o⟩ := k 0 _ rfl rfl
    simp only [ioOf, outsAt]
    rw [show n = n + 0 from rfl, q]
    exact .cons o (ih (n + 1) fun i a e1 e2 => by
      obtain ⟨s, q, o⟩ := k (i + 1) a (by simpa using e1) (by simpa using e2)
      exact ⟨s, by rw [Nat.add_assoc, Nat.add_comm 1 i]; exact q, o⟩)
  | rd hr _ ih =>
    intro k
    simp only [ioOf, outsAt]
    exact ih (n + 1) fun i a e1 e2 => by
      obtain ⟨s, q, o⟩ := k (i + 1) a (by simpa using e1) (by simpa using e2)
      exact ⟨s, by rw [Nat.add_assoc, Nat.add_comm 1 i]; exact q, o⟩
/-- at the end of a def -/
theorem end_outs {N : List Str} {ρ' : Env} {σ' : St} (h : ArgsRep K H Av ios ts vs) (sx : Sx K (env0 N.length ios ts) (L2.start N vs) Av H ρ' σ' Av' H') : OutsRep K H' Av' (ioOf ios vs) (outsAt ρ' 0 ios) := by
  refine outs_rep 0 h fun i a e1 e2 => ?_
  obtain ⟨l1, l2⟩ := h.lens
  have hi : i < ts.length := by rw [l2]; exact (List.getElem?_eq_some_iff.mp e2).1
  have q := at_env0 (n := N.length) e1 (List.getElem?_eq_getElem hi)
  obtain ⟨h1, h2⟩ := sx.hold i (by rw [kindAt_some q]; simp [Slot.k])
  rw [kindAt_some q] at h1
  obtain ⟨s, q2, m, _⟩ := kind_slot (ρ := ρ') (i := i) (by rw [h1]; simp [Slot.k])
  obtain ⟨c, e3, _, o⟩ := sx.rel.at q2 m
  rw [h2, start_at e2] at e3
  cases e3
  exact ⟨s, by rw [Nat.zero_add]; exact q2, o⟩
end
section
variable {P : Program} {w : World} {K : PySem.W.Frag} {mg : Str → Option Value} {base : Heap}
theorem fn_sound {x qual : Str} {st : Stmt} {f : Addr} {fd : FuncData} {N ps : List Str} {k : Nat} {ios : List Bool} {body : List S} (F : L2.Fun K x qual st f fd) (Sc : FnScope N ps (defScope st)) (hl : ios.length = ps.length)
    (hc : ckSs N (defScope st) body (defBody st) = true) (hn : ∀ n ∈ sneedsL body, NeedOk P w K mg base k n) : FnOk P w K mg base (L2.CX P w) (k + 1) f fd ps (spOf K mg (mkFn ios N.length body)) := by
  refine F.okX Sc (fun vs H Q E h => ?_) (fun cdv A outer s H vs Q E hr h => ?_)
  · obtain ⟨ts, Av, a, _⟩ := h
    rw [← a.lens.1, ← hl]; rfl
  · obtain ⟨ts, Av, a, tr, nd, p⟩ := h
    have a : ArgsRep K H Av ios ts vs := a
    have nd : (ioOf ios vs).Nodup := nd
    obtain ⟨l1, l2⟩ := a.lens
    have hlen : ios.length = ts.length := by rw [l1, l2]
    have p : match finF ios (execs body (env0 N.length ios ts)) with
      | .ok t fr outs => ∀ v Av' H', (∀ b, Av b → Av' b) → (∀ b, Av' b → Av b ∨ H b = none) → Tr Av' H' → Fr (fun a => a ∈ ioOf ios vs) H H' → OutsRep K H' Av' (ioOf ios vs) outs → ResRep K H Av' H' fr t v → Q v H'
      | .exc c outs => ∀ cls Av' H', mg c = some cls → (∀ b, Av b → Av' b) → (∀ b, Av' b → Av b ∨ H b = none) → Tr Av' H' → Fr (fun a => a ∈ ioOf ios vs) H H' → OutsRep K H' Av' (ioOf ios vs) outs → E cls none H'
      | .bad => False := by
      have e : (mkFn ios N.length body).run ts = finF ios (execs body (env0 N.length ios ts)) := if_pos hlen
      rw [← e]
      exact p
    have rl := rel0 (N := N) a nd
    refine ⟨tS K mg (fun cls d _ H => E cls d H) (execs body), execs_sound body (cxOf (L2.CX P w) P w K mg base N qual (defScope st) f cdv A outer s H E) _ _ hc ⟨.mk' rfl Sc.nd rfl rfl hr, rfl, rfl, fun _ => rfl, Sc.kind, passes_of rfl, takes_of rfl rfl rfl rfl⟩ ⟨hn⟩, env0 N.length ios ts, Av, rl, tr, ?_⟩
    have up : ∀ {ρ' σ' Av' H'}, Sx K (env0 N.length ios ts) (L2.start N vs) Av H ρ' σ' Av' H' → ∀ b, Av b → Av' b := fun sx b h => (sx.up b h).resolve_right no_own
    have fr : ∀ {ρ' σ' Av' H'}, Sx K (env0 N.length ios ts) (L2.start N vs) Av H ρ' σ' Av' H' → Fr (fun a => a ∈ ioOf ios vs) H H' := fun sx => sx.fr.mono fun b w => wr_io a w
    cases q : execs body (env0 N.length ios ts) with
    | bad => rw [q] at p; exact p
    | bk ρ' => rw [q] at p; exact p.elim
    | ct ρ' => rw [q] at p; exact p.elim
    | nx ρ' =>
      rw [q] at p
      exact fun σ' Av' H' sx => p .non Av' H' (up sx) sx.nw sx.tr (fr sx) (end_outs a sx) (by simp [ResRep, Rep])
    | exc c ρ' =>
      rw [q] at p
      exact fun cls σ' Av' H' m sx => p cls Av' H' m (up sx) sx.nw sx.tr (fr sx) (end_outs a sx)
    | rt r ρ' =>
      rw [q] at p
      intro v σ' Av' H' sx hr
      simp only [finF] at p
      cases g : retR ρ' r with
      | none => rw [g] at p; exact p.elim
      | some tf =>
        obtain ⟨t, b⟩ := tf
        rw [g] at p
        refine p v Av' H' (up sx) sx.nw sx.tr (fr sx) (end_outs a sx) ?_
        cases r with
        | val t' => cases g; exact hr
        | deep t' => cases g
        | fresh t' =>
          cases g
          obtain ⟨c, e, hc, _, o, z⟩ := hr
          exact ⟨c, e, hc, z, o⟩
        | loc i =>
          simp only [retR] at g
          split at g
          · rename_i t' qs
            cases g
            obtain ⟨c, e, hc, o⟩ := sx.rel.at qs rfl
            have e2 := hr.2
            rw [e] at e2; cases e2
            refine ⟨c, rfl, hc, (sx.own c ⟨i, by rw [kindAt_some qs]; rfl, e⟩).resolve_left no_own, o⟩
          · cases g
theorem fn_soundD {x qual : Str} {st : Stmt} {f : Addr} {fd : FuncData} {N ps : List Str} {k : Nat} {ios : List Bool} {body : List S} (F : L2.Fun K x qual st f fd) (Sc : FnScope N ps (defScope st)) (hl : ios.length = ps.length)
    (hc : ckSs N (defScope st) body (defBody st) = true) (hn : ∀ n ∈ sneedsL body, NeedOk P w K mg base k n) : FnOk P w K mg base (L2.CX P w) (k + 1) f fd ps (spOf K mg (mkFnD ios N.length body)) := by
  refine F.okX Sc (fun vs H Q E h => ?_) (fun cdv A outer s H vs Q E hr h => ?_)
  · obtain ⟨ts, Av, a, _⟩ := h
    rw [← a.lens.1, ← hl]; rfl
  · obtain ⟨ts, Av, a, tr, nd, p⟩ := h
    have a : ArgsRep K H Av ios ts vs := a
    have nd : (ioOf ios vs).Nodup := nd
    obtain ⟨l1, l2⟩ := a.lens
    have hlen : ios.length = ts.length := by rw [l1, l2]
    have p : match finD ios (execs body (env0 N.length ios ts)) with
      | .ok t fr outs => ∀ v Av' H', (∀ b, Av b → Av' b) → (∀ b, Av' b → Av b ∨ H b = none) → Tr Av' H' → Fr (fun a => a ∈ ioOf ios vs) H H' → OutsRep K H' Av' (ioOf ios vs) outs → ResD K H Av' H' (mkFnD ios N.length body) fr t v → Q v H'
      | .exc c outs => ∀ cls Av' H', mg c = some cls → (∀ b, Av b → Av' b) → (∀ b, Av' b → Av b ∨ H b = none) → Tr Av' H' → Fr (fun a => a ∈ ioOf ios vs) H H' → OutsRep K H' Av' (ioOf ios vs) outs → E cls none H'
      | .bad => False := by
      have e : (mkFnD ios N.length body).run ts = finD ios (execs body (env0 N.length ios ts)) := if_pos hlen
      rw [← e]
      exact p
    have rl := rel0 (N := N) a nd
    refine ⟨tS K mg (fun cls d _ H => E cls d H) (execs body), execs_sound body (cxOf (L2.CX P w) P w K mg base N qual (defScope st) f cdv A outer s H E) _ _ hc ⟨.mk' rfl Sc.nd rfl rfl hr, rfl, rfl, fun _ => rfl, Sc.kind, passes_of rfl, takes_of rfl rfl rfl rfl⟩ ⟨hn⟩, env0 N.length ios ts, Av, rl, tr, ?_⟩
    have up : ∀ {ρ' σ' Av' H'}, Sx K (env0 N.length ios ts) (L2.start N vs) Av H ρ' σ' Av' H' → ∀ b, Av b → Av' b := fun sx b h => (sx.up b h).resolve_right no_own
    have fr : ∀ {ρ' σ' Av' H'}, Sx K (env0 N.length ios ts) (L2.start N vs) Av H ρ' σ' Av' H' → Fr (fun a => a ∈ ioOf ios vs) H H' := fun sx => sx.fr.mono fun b w => wr_io a w
    cases q : execs body (env0 N.length ios ts) with
    | bad => rw [q] at p; exact p
    | bk ρ' => rw [q] at p; exact p.elim
    | ct ρ' => rw [q] at p; exact p.elim
    | nx ρ' => rw [q] at p; exact p.elim
    | exc c ρ' =>
      rw [q] at p
      exact fun cls σ' Av' H' m sx => p cls Av' H' m (up sx) sx.nw sx.tr (fr sx) (end_outs a sx)
    | rt r ρ' =>
      rw [q] at p
      intro v σ' Av' H' sx hr
      cases r with
      | val t' => exact p.elim
      | fresh t' => exact p.elim
      | loc i => exact p.elim
      | deep t' => exact p v Av' H' (up sx) sx.nw sx.tr (fr sx) (end_outs a sx) (DeepF.mono (fun b z _ => ⟨trivial, z⟩) hr)
end
end MP

namespace MP
open PySem PySem.Spec L2
open PyProof.Rows hiding St
/-! ## the law's own def -/
def spTop (K : PySem.W.Frag) (f : Fn) : Sp := fun vs H Q _ => ∃ a ns, vs = [.ref a] ∧ SqL K H a (ns.map V.int) ∧ (∃ fr, f.run [.ro ns] = .ok (.bl true) fr []) ∧ ∀ H', Q (.bl true) H'
theorem top_of {K : PySem.W.Frag} {mg : Str → Option Value} {f : Fn} (hi : f.ios = [false]) {vs : List V} {H : Hp} {Q : VK} {E : XK} (h : spTop K f vs H Q E) : spOf K mg f vs H Q E := by
  obtain ⟨a, ns, rfl, hs, ⟨fr, hr⟩, q⟩ := h
  have ar : ArgsRep K H (fun _ => False) f.ios [.ro ns] [.ref a] := by
    rw [hi]
    refine .rd ?_ .nil
    simp only [Rep]
    refine ⟨a, rfl, ?_⟩
    rcases hs with x | x
    · exact .inl ⟨x, fun z => z⟩
    · exact .inr x
  refine spOf_of ⟨[.ro ns], fun _ => False, ar, fun _ h => h.elim, by rw [hi]; simp [ioOf], ?_⟩
  rw [hr]
  intro v Av' H' _ _ _ _ _ rr
  unfold ResRep at rr
  split at rr
  · obtain ⟨a, _, _, _, o⟩ := rr
    simp [OwnRep] at o
  · simp only [Rep] at rr
    subst rr
    exact q H'
/-! ## a def that calls itself: by fuel -/
def botFn (ios : List Bool) : Fn := ⟨ios, true, fun _ => .bad, false, fun h => nomatch h⟩
section
variable {P : Program} {w : World} {K : PySem.W.Frag} {mg : Str → Option Value} {base : Heap}
theorem fn_bot {x qual : Str} {st : Stmt} {f : Addr} {fd : FuncData} {N ps : List Str} {k : Nat} {ios : List Bool} (F : L2.Fun K x qual st f fd) (Sc : FnScope N ps (defScope st)) : FnOk P w K mg base (L2.CX P w) (k + 1) f fd ps (spOf K mg (botFn ios)) := by
  refine F.okX Sc (fun vs H Q E h => ?_) (fun cdv A outer s H vs Q E hr h => ?_)
  · obtain ⟨ts, Av, _, _, _, p⟩ := h
    exact p.elim
  · obtain ⟨ts, Av, _, _, _, p⟩ := h
    exact p.elim
end
end MP

namespace MP
open PySem PySem.Spec L2
open PyProof.Rows hiding St
/-! ## what an expression, a statement, a def is to reach -/
/-- a mark that keeps what stands behind from being looked into -/
@[reducible] def Dep {β : Type} (_ : β) : Type := Unit
def Ex {α : Type} (x : Res α) (Q : α → Env → Prop) (X : String → Env → Prop) (_d : Dep (Q, X) := ()) : Prop := match x with
  | .ok a ρ => Q a ρ
  | .exc c ρ => X c ρ
  | .bad => False
def Sp (x : SRes) (N : Env → Prop) (P : SRes → Prop) (_d : Dep (N, P) := ()) : Prop := match x with
  | .nx ρ => N ρ
  | .bad => False
  | y => P y
def Bd {α : Type} (o : Option α) (Q : α → Prop) (_d : Dep Q := ()) : Prop := match o with
  | some a => Q a
  | none => False
theorem bd_some {α : Type} {a : α} {Q : α → Prop} : Bd (some a) Q ↔ Q a := Iff.rfl
theorem bd_none {α : Type} {Q : α → Prop} : Bd (none : Option α) Q ↔ False := Iff.rfl
theorem bd_if {α : Type} {c : Prop} [Decidable c] {o : Option α} {Q : α → Prop} : Bd (if c then o else none) Q ↔ c ∧ Bd o Q := by
  by_cases h : c
  · rw [if_pos h]; exact ⟨fun z => ⟨h, z⟩, fun z => z.2⟩
  · rw [if_neg h]; exact ⟨fun z => z.elim, fun z => absurd z.1 h⟩
theorem bd_ex {α : Type} {o : Option α} {Q : α → Prop} : Bd o Q ↔ ∃ a, o = some a ∧ Q a := by
  cases o with
  | none => exact ⟨fun h => h.elim, fun ⟨_, e, _⟩ => nomatch e⟩
  | some a => exact ⟨fun h => ⟨a, rfl, h⟩, fun ⟨_, e, h⟩ => by cases e; exact h⟩
def Fn.Runs (f : Fn) (ts : List T) (Q : T → Bool → List T → Prop) (X : String → List T → Prop) : Prop := match f.run ts with
  | .ok t fr outs => Q t fr outs
  | .exc c outs => X c outs
  | .bad => False
abbrev noX : String → List T → Prop := fun _ _ => False
theorem Fn.Runs.mono {f : Fn} {ts : List T} {Q Q' : T → Bool → List T → Prop} {X X' : String → List T → Prop} (h : f.Runs ts Q X) (i : ∀ t fr outs, Q t fr outs → Q' t fr outs) (j : ∀ c outs, X c outs → X' c outs) : f.Runs ts Q' X' := by
  unfold Fn.Runs at h ⊢
  cases q : f.run ts with
  | ok t fr outs => rw [q] at h; exact i _ _ _ h
  | exc c outs => rw [q] at h; exact j _ _ h
  | bad => rw [q] at h; exact h
theorem Ex.mono {α : Type} {x : Res α} {Q Q' : α → Env → Prop} {X X' : String → Env → Prop} (h : Ex x Q X) (i : ∀ a ρ, Q a ρ → Q' a ρ) (j : ∀ c ρ, X c ρ → X' c ρ) : Ex x Q' X' := by
  cases x with
  | ok a ρ => exact i _ _ h
  | exc c ρ => exact j _ _ h
  | bad => exact h
theorem Sp.mono {x : SRes} {N N' : Env → Prop} {P P' : SRes → Prop} (h : Sp x N P) (i : ∀ ρ, N ρ → N' ρ) (j : ∀ y, P y → P' y) : Sp x N' P' := by
  cases x with
  | nx ρ => exact i _ h
  | bad => exact h
  | _ => exact j _ h
section
variable {α β : Type} {Q : R → Env → Prop} {X : String → Env → Prop} {ρ : Env} {N : Env → Prop} {P : SRes → Prop}
theorem ex_ext {x : Res α} {Q Q' : α → Env → Prop} (h : ∀ a ρ, Q a ρ ↔ Q' a ρ) : Ex x Q X ↔ Ex x Q' X := by
  cases x with
  | ok a ρ => exact h a ρ
  | exc c ρ => exact Iff.rfl
  | bad => exact Iff.rfl
theorem ex_bind {x : Res α} {f : α → Env → Res β} {Q : β → Env → Prop} : Ex (x.bind f) Q X ↔ Ex x (fun a ρ => Ex (f a ρ) Q X) X := by cases x <;> exact Iff.rfl
theorem ex_ok {a : α} {Q : α → Env → Prop} : Ex (.ok a ρ) Q X ↔ Q a ρ := Iff.rfl
theorem ex_bad {Q : α → Env → Prop} : Ex (.bad : Res α) Q X ↔ False := Iff.rfl
theorem ex_exc {c : String} {Q : α → Env → Prop} : Ex (.exc c ρ : Res α) Q X ↔ X c ρ := Iff.rfl
theorem ex_lift {o : Option R} : Ex (liftR o ρ) Q X ↔ Bd o (fun r => Q r ρ) := by
  cases o with
  | none => exact Iff.rfl
  | some r => exact Iff.rfl
theorem ex_bool {o : Option Bool} : Ex (boolR o ρ) Q X ↔ Bd o (fun b => Q (.val (.bl b)) ρ) := by
  cases o with
  | none => exact Iff.rfl
  | some r => exact Iff.rfl
theorem ex_truth {x : Res R} {Q : Bool → Env → Prop} : Ex (truthR x) Q X ↔ Ex x (fun r ρ => Bd ((r.get ρ).bind T.truth) fun b => Q b ρ) X := by
  cases x with
  | ok r ρ1 =>
    unfold truthR
    simp only [Res.bind]
    show Ex (match (r.get ρ1).bind T.truth with | some b => Res.ok b ρ1 | none => .bad) Q X ↔ Bd ((r.get ρ1).bind T.truth) fun b => Q b ρ1
    cases (r.get ρ1).bind T.truth with
    | none => exact Iff.rfl
    | some b => exact Iff.rfl
  | exc c ρ1 => exact Iff.rfl
  | bad => exact Iff.rfl
theorem ex_lit {t : T} : Ex (ev (.lit t) ρ) Q X ↔ Q (.val t) ρ := Iff.rfl
theorem ex_glob {x : String} {t : T} : Ex (ev (.glob x t) ρ) Q X ↔ Q (.val t) ρ := Iff.rfl
def Slot.rd (i : Nat) : Slot → R
  | .shr t => .val t
  | _ => .loc i
theorem ex_var {i : Nat} : Ex (ev (.var i) ρ) Q X ↔ Bd (slotAt ρ i) (fun s => Q (Slot.rd i s) ρ) := by
  simp only [ev]
  cases q : slotAt ρ i with
  | none => exact Iff.rfl
  | some s => cases s <;> exact Iff.rfl
def T.int? : T → Option Int
  | .int i => some i
  | _ => none
theorem ex_neg {a : E} : Ex (ev (.un .neg a) ρ) Q X ↔ Ex (ev a ρ) (fun r ρ => Bd ((r.get ρ).bind T.int?) fun i => Q (.val (.int (-i))) ρ) X := by
  simp only [ev, ex_bind]
  cases ev a ρ with
  | ok r ρ1 =>
    show Ex (match r.get ρ1 with | some (.int i) => Res.ok (R.val (.int (-i))) ρ1 | _ => .bad) Q X ↔ _
    show _ ↔ Bd ((r.get ρ1).bind T.int?) fun i => Q (.val (.int (-i))) ρ1
    cases q : r.get ρ1 with
    | none => exact Iff.rfl
    | some t => cases t <;> exact Iff.rfl
  | exc c ρ1 => exact Iff.rfl
  | bad => exact Iff.rfl
theorem ex_not {a : E} : Ex (ev (.un .not a) ρ) Q X ↔ Ex (truthR (ev a ρ)) (fun b ρ => Q (.val (.bl (!b))) ρ) X := by simp only [ev, ex_bind]; exact ex_ext fun _ _ => ex_ok
theorem ex_bin {op : Bop} {a b : E} : Ex (ev (.bin op a b) ρ) Q X ↔ Ex (ev a ρ) (fun r ρ => Ex (ev b ρ) (fun q ρ => Bd (((r.get ρ).bind fun t => (q.get ρ).bind fun u => op.sem t u)) fun z => Q z ρ) X) X := by simp only [ev, ex_bind]; exact ex_ext fun _ _ => by simp only [ex_bind]; exact ex_ext fun _ _ => ex_lift
theorem ex_cmp {op : Cop} {a b : E} : Ex (ev (.cmp op a b) ρ) Q X ↔ Ex (ev a ρ) (fun r ρ => Ex (ev b ρ) (fun q ρ => Bd (((r.get ρ).bind fun t => (q.get ρ).bind fun u => op.semB t u)) fun z => Q (.val (.bl z)) ρ) X) X := by simp only [ev, ex_bind]; exact ex_ext fun _ _ => by simp only [ex_bind]; exact ex_ext fun _ _ => ex_bool
/-- by a truth -/
def onB (o : Option T) (A B : Prop) (_d : Dep (fun _ : Unit => (A, B)) := ()) : Prop := match o with
  | some (.bl k) => (k = true → A) ∧ (k = false → B)
  | _ => False
theorem ex_and1 {a : E} : Ex (ev (.and_ [a]) ρ) Q X ↔ Ex (ev a ρ) Q X := by simp only [ev, evAnd]
theorem ex_and {a b : E} {es : List E} : Ex (ev (.and_ (a :: b :: es)) ρ) Q X ↔ Ex (ev a ρ) (fun r ρ => onB (r.get ρ) (Ex (ev (.and_ (b :: es)) ρ) Q X) (Q (.val (.bl false)) ρ)) X := by
  simp only [ev, evAnd, ex_bind]
  cases ev a ρ with
  | ok r ρ1 =>
    simp only [ex_ok]
    cases q : r.get ρ1 with
    | none => exact Iff.rfl
    | some t =>
      cases t <;> try exact Iff.rfl
      rename_i k
      cases k
      · exact ⟨fun h => ⟨fun z => (by cases z), fun _ => h⟩, fun h => h.2 rfl⟩
      · exact ⟨fun h => ⟨fun _ => h, fun z => (by cases z)⟩, fun h => h.1 rfl⟩
  | exc c ρ1 => exact Iff.rfl
  | bad => exact Iff.rfl
theorem ex_or1 {a : E} : Ex (ev (.or_ [a]) ρ) Q X ↔ Ex (ev a ρ) Q X := by simp only [ev, evOr]
theorem ex_or {a b : E} {es : List E} : Ex (ev (.or_ (a :: b :: es)) ρ) Q X ↔ Ex (ev a ρ) (fun r ρ => onB (r.get ρ) (Q (.val (.bl true)) ρ) (Ex (ev (.or_ (b :: es)) ρ) Q X)) X := by
  simp only [ev, evOr, ex_bind]
  cases ev a ρ with
  | ok r ρ1 =>
    simp only [ex_ok]
    cases q : r.get ρ1 with
    | none => exact Iff.rfl
    | some t =>
      cases t <;> try exact Iff.rfl
      rename_i k
      cases k
      · exact ⟨fun h => ⟨fun z => (by cases z), fun _ => h⟩, fun h => h.2 rfl⟩
      · exact ⟨fun h => ⟨fun _ => h, fun z => (by cases z)⟩, fun h => h.1 rfl⟩
  | exc c ρ1 => exact Iff.rfl
  | bad => exact Iff.rfl
theorem ex_evs0 {Q : List R → Env → Prop} : Ex (evs [] ρ) Q X ↔ Q [] ρ := Iff.rfl
theorem ex_evs {e : E} {es : List E} {Q : List R → Env → Prop} : Ex (evs (e :: es) ρ) Q X ↔ Ex (ev e ρ) (fun r ρ => Ex (evs es ρ) (fun rs ρ => Q (r :: rs) ρ) X) X := by simp only [evs, ex_bind]; exact ex_ext fun _ _ => by simp only [ex_bind]; exact ex_ext fun _ _ => ex_ok
theorem ex_tup {es : List E} : Ex (ev (.tup es) ρ) Q X ↔ Ex (evs es ρ) (fun rs ρ => Bd (cleans rs) fun ts => ts.length ≤ 16777216 ∧ Q (.val (.tup ts)) ρ) X := by
  simp only [ev, ex_bind]
  cases evs es ρ with
  | ok rs ρ1 =>
    simp only [ex_ok]
    cases q : cleans rs with
    | none => exact Iff.rfl
    | some ts =>
      simp only
      split
      · rename_i hl; exact ⟨fun h => ⟨hl, h⟩, fun h => h.2⟩
      · rename_i hl; exact ⟨fun h => h.elim, fun h => absurd h.1 hl⟩
  | exc c ρ1 => exact Iff.rfl
  | bad => exact Iff.rfl
theorem ex_lst {es : List E} : Ex (ev (.lst es) ρ) Q X ↔ Ex (evs es ρ) (fun rs ρ => Bd (cleans rs) fun ts => ts.length ≤ 16777216 ∧ Q (.fresh (.lst ts)) ρ) X := by
  simp only [ev, ex_bind]
  cases evs es ρ with
  | ok rs ρ1 =>
    simp only [ex_ok]
    cases q : cleans rs with
    | none => exact Iff.rfl
    | some ts =>
      simp only
      split
      · rename_i hl; exact ⟨fun h => ⟨hl, h⟩, fun h => h.2⟩
      · rename_i hl; exact ⟨fun h => h.elim, fun h => absurd h.1 hl⟩
  | exc c ρ1 => exact Iff.rfl
  | bad => exact Iff.rfl
theorem ex_dct0 : Ex (ev .dct0 ρ) Q X ↔ Q (.fresh (.dct [])) ρ := Iff.rfl
theorem ex_sub {a i : E} : Ex (ev (.sub a i) ρ) Q X ↔ Ex (ev a ρ) (fun r ρ => Ex (ev i ρ) (fun q ρ => Bd ((r.get ρ).bind fun t => (q.get ρ).bind fun u => subSem t u) fun t => Q (.val t) ρ) X) X := by
  simp only [ev, ex_bind]
  refine ex_ext fun r ρ1 => ?_
  simp only [ex_bind]
  refine ex_ext fun q ρ2 => ?_
  cases (r.get ρ2).bind fun t => (q.get ρ2).bind fun u => subSem t u <;> exact Iff.rfl
theorem ex_evO0 {Q : Option Int → Env → Prop} : Ex (evO [] ρ) Q X ↔ Q none ρ := Iff.rfl
theorem ex_evO {e : E} {Q : Option Int → Env → Prop} : Ex (evO [e] ρ) Q X ↔ Ex (ev e ρ) (fun r ρ => Bd r.int? fun i => Q (some i) ρ) X := by
  simp only [evO, ex_bind]
  cases ev e ρ with
  | ok r ρ1 =>
    simp only [ex_ok]
    cases r with
    | val t => cases t <;> exact Iff.rfl
    | fresh t => exact Iff.rfl
    | loc t => exact Iff.rfl
    | deep t => exact Iff.rfl
  | exc c ρ1 => exact Iff.rfl
  | bad => exact Iff.rfl
theorem ex_slc {a : E} {lo hi : List E} : Ex (ev (.slc a lo hi) ρ) Q X ↔ Ex (ev a ρ) (fun r ρ => Ex (evO lo ρ) (fun l ρ => Ex (evO hi ρ) (fun h ρ => Bd (((r.get ρ).bind fun t => slcSem t l h)) fun z => Q z ρ) X) X) X := by simp only [ev, ex_bind]; exact ex_ext fun _ _ => by simp only [ex_bind]; exact ex_ext fun _ _ => by simp only [ex_bind]; exact ex_ext fun _ _ => ex_lift
theorem ex_rev {a : E} : Ex (ev (.rev a) ρ) Q X ↔ Ex (ev a ρ) (fun r ρ => Bd ((r.get ρ).bind revSem) fun z => Q z ρ) X := by simp only [ev, ex_bind]; exact ex_ext fun _ _ => ex_lift
theorem ex_call {nm : String} {f : Fn} {es : List E} : Ex (ev (.call nm f es) ρ) Q X ↔ Ex (evs es ρ) (fun rs ρ => Ex (callRes f rs ρ) Q X) X := by simp only [ev, ex_bind]
theorem ex_blt {b : Blt} {es : List E} : Ex (ev (.blt b es) ρ) Q X ↔ Ex (evs es ρ) (fun rs ρ => Bd ((gets ρ rs).bind b.sem) fun z => Q z ρ) X := by simp only [ev, ex_bind]; exact ex_ext fun _ _ => ex_lift
theorem ex_isi {a : E} {ys : List Tn} : Ex (ev (.isi a ys) ρ) Q X ↔ Ex (ev a ρ) (fun r ρ => Bd (((r.get ρ).bind fun t => isiSem t ys)) fun z => Q (.val (.bl z)) ρ) X := by simp only [ev, ex_bind]; exact ex_ext fun _ _ => ex_bool
theorem ex_ite {c a b : E} : Ex (ev (.ite c a b) ρ) Q X ↔ Ex (truthR (ev c ρ)) (fun k ρ => (k = true → Ex (ev a ρ) Q X) ∧ (k = false → Ex (ev b ρ) Q X)) X := by
  simp only [ev, ex_bind]
  cases truthR (ev c ρ) with
  | ok k ρ1 =>
    simp only [ex_ok]
    cases k
    · exact ⟨fun h => ⟨fun z => (by cases z), fun _ => h⟩, fun h => h.2 rfl⟩
    · exact ⟨fun h => ⟨fun _ => h, fun z => (by cases z)⟩, fun h => h.1 rfl⟩
  | exc c ρ1 => exact Iff.rfl
  | bad => exact Iff.rfl
theorem ex_meth {m : Mth} {o : E} {es : List E} : Ex (ev (.meth m o es) ρ) Q X ↔ Ex (ev o ρ) (fun r ρ => m.pre (r.get ρ) = true ∧ Ex (evs es ρ) (fun rs ρ => Bd (((r.get ρ).bind fun t => (gets ρ rs).bind fun ts => m.sem t ts)) fun z => Q z ρ) X) X := by
  simp only [ev, ex_bind]
  cases ev o ρ with
  | ok r ρ1 =>
    simp only [ex_ok]
    split
    · rename_i h
      simp only [ex_bind]
      exact ⟨fun z => ⟨h, (ex_ext fun _ _ => ex_lift).mp z⟩, fun z => (ex_ext fun _ _ => ex_lift).mpr z.2⟩
    · rename_i h; exact ⟨fun h => h.elim, fun z => absurd z.1 h⟩
  | exc c ρ1 => exact Iff.rfl
  | bad => exact Iff.rfl
theorem ex_mut {m : Mut} {i : Nat} {es : List E} : Ex (ev (.mut m i es) ρ) Q X ↔ mutAt ρ m i = true ∧ Ex (evs es ρ) (fun rs ρ => Ex (mutRes m i rs ρ) Q X) X := by
  simp only [ev]
  split
  · rename_i h; simp only [ex_bind]; exact ⟨fun z => ⟨h, z⟩, fun z => z.2⟩
  · rename_i h; exact ⟨fun h => h.elim, fun z => absurd z.1 h⟩
/-! statements -/
theorem sp_st {x : Res α} {f : α → Env → SRes} : Sp (x.st f) N P ↔ Ex x (fun a ρ => Sp (f a ρ) N P) (fun c ρ => P (.exc c ρ)) := by cases x <;> exact Iff.rfl
theorem sp_opt {o : Option Env} : Sp (optS o) N P ↔ Bd o N := by
  cases o with
  | none => exact Iff.rfl
  | some r => exact Iff.rfl
theorem sp_nil : Sp (execs [] ρ) N P ↔ N ρ := by simp only [execs]; exact Iff.rfl
theorem sp_cons {s : S} {ss : List S} : Sp (execs (s :: ss) ρ) N P ↔ Sp (exec s ρ) (fun ρ => Sp (execs ss ρ) N P) P := by
  simp only [execs]
  cases exec s ρ <;> exact Iff.rfl
theorem sp_ex {e : E} : Sp (exec (.ex e) ρ) N P ↔ Ex (ev e ρ) (fun _ ρ => N ρ) (fun c ρ => P (.exc c ρ)) := by simp only [exec, sp_st]; exact Iff.rfl
theorem sp_set {i : Nat} {e : E} : Sp (exec (.set i e) ρ) N P ↔ Ex (ev e ρ) (fun r ρ => Bd (setR ρ i r) N) (fun c ρ => P (.exc c ρ)) := by simp only [exec, sp_st]; exact ex_ext fun _ _ => sp_opt
theorem sp_unp {tg : Tg} {e : E} : Sp (exec (.unp tg e) ρ) N P ↔ Ex (ev e ρ) (fun r ρ => Bd r.clean fun t => Bd (bindTg tg t ρ) N) (fun c ρ => P (.exc c ρ)) := by
  simp only [exec, sp_st]
  cases ev e ρ with
  | ok r ρ1 =>
    simp only [ex_ok]
    cases r.clean with
    | none => exact Iff.rfl
    | some t => simp only [sp_opt]; exact Iff.rfl
  | exc c ρ1 => exact Iff.rfl
  | bad => exact Iff.rfl
theorem sp_par {i j : Nat} {a b : E} : Sp (exec (.par i j a b) ρ) N P ↔ Ex (ev a ρ) (fun r ρ => Ex (ev b ρ) (fun q ρ => Bd (setPar ρ i j r q) N) (fun c ρ => P (.exc c ρ))) (fun c ρ => P (.exc c ρ)) := by simp only [exec, sp_st]; exact ex_ext fun _ _ => by simp only [sp_st]; exact ex_ext fun _ _ => sp_opt
theorem sp_put {i : Nat} {ix e : E} : Sp (exec (.put i ix e) ρ) N P ↔ Ex (ev e ρ) (fun r ρ => Bd r.clean fun u => (kindAt ρ i = 2 ∨ kindAt ρ i = 3) ∧ Ex (ev ix ρ) (fun q ρ => Bd q.clean fun t => Bd (putR ρ i t u) N) (fun c ρ => P (.exc c ρ))) (fun c ρ => P (.exc c ρ)) := by
  simp only [exec, sp_st]
  cases ev e ρ with
  | ok r ρ1 =>
    simp only [ex_ok]
    cases r.clean with
    | none => exact Iff.rfl
    | some u =>
      simp only
      split
      · rename_i hk
        simp only [sp_st]
        have k : Ex (ev ix ρ1) (fun q ρ => Sp (match q.clean with
          | some t => optS (putR ρ i t u)
          | none => SRes.bad) N P) (fun c ρ => P (.exc c ρ)) ↔ Ex (ev ix ρ1) (fun q ρ => Bd q.clean fun t => Bd (putR ρ i t u) N) (fun c ρ => P (.exc c ρ)) := ex_ext fun q ρ => by
          cases q.clean with
          | none => exact Iff.rfl
          | some t => exact sp_opt
        exact ⟨fun h => ⟨hk, k.mp h⟩, fun h => k.mpr h.2⟩
      · rename_i hk; exact ⟨fun h => h.elim, fun h => absurd h.1 hk⟩
  | exc c ρ1 => exact Iff.rfl
  | bad => exact Iff.rfl
theorem sp_ifs {c : E} {a b : List S} : Sp (exec (.ifs c a b) ρ) N P ↔ Ex (truthR (ev c ρ)) (fun k ρ => (k = true → Sp (execs a ρ) N P) ∧ (k = false → Sp (execs b ρ) N P)) (fun c ρ => P (.exc c ρ)) := by
  simp only [exec, sp_st]
  exact ex_ext fun k ρ => by cases k <;> simp
theorem sp_ret {e : E} : Sp (exec (.ret e) ρ) N P ↔ Ex (ev e ρ) (fun r ρ => P (.rt r ρ)) (fun c ρ => P (.exc c ρ)) := by simp only [exec, sp_st]; exact Iff.rfl
theorem sp_retN : Sp (exec .retN ρ) N P ↔ P (.rt (.val .non) ρ) := by simp only [exec]; exact Iff.rfl
theorem sp_brk : Sp (exec .brk ρ) N P ↔ P (.bk ρ) := by simp only [exec]; exact Iff.rfl
theorem sp_cont : Sp (exec .cont ρ) N P ↔ P (.ct ρ) := by simp only [exec]; exact Iff.rfl
theorem sp_pass : Sp (exec .pass ρ) N P ↔ N ρ := by simp only [exec]; exact Iff.rfl
theorem sp_raise {c : String} : Sp (exec (.raise c) ρ) N P ↔ P (.exc c ρ) := by simp only [exec]; exact Iff.rfl
theorem sp_forget {is : List Nat} : Sp (exec (.forget is) ρ) N P ↔ N (forgetR ρ is) := by simp only [exec]; exact Iff.rfl
theorem sp_freeze {i : Nat} : Sp (exec (.freeze i) ρ) N P ↔ Bd (freezeR ρ i) N := by simp only [exec, sp_opt]
theorem sp_stw {i : Nat} {lo hi e : E} : Sp (exec (.stw i lo hi e) ρ) N P ↔ Ex (ev e ρ) (fun r ρ => Bd r.clean fun u => (kindAt ρ i = 2 ∨ kindAt ρ i = 3) ∧ Ex (ev lo ρ) (fun q ρ => Bd q.int? fun a => Ex (ev hi ρ) (fun q ρ => Bd q.int? fun c => Bd (stwR ρ i a c u) N) (fun c ρ => P (.exc c ρ))) (fun c ρ => P (.exc c ρ))) (fun c ρ => P (.exc c ρ)) := by
  simp only [exec, sp_st]
  refine ex_ext fun r ρ => ?_
  cases r.clean with
  | none => exact Iff.rfl
  | some u =>
    simp only [bd_some]
    split
    · rename_i hk
      simp only [sp_st]
      have k : Ex (ev lo ρ) (fun q ρ => Sp (match q.int? with
        | some a => (ev hi ρ).st fun q ρ => (match q.int? with
          | some c => optS (stwR ρ i a c u)
          | none => SRes.bad)
        | none => SRes.bad) N P) (fun c ρ => P (.exc c ρ)) ↔ Ex (ev lo ρ) (fun q ρ => Bd q.int? fun a => Ex (ev hi ρ) (fun q ρ => Bd q.int? fun c => Bd (stwR ρ i a c u) N) (fun c ρ => P (.exc c ρ))) (fun c ρ => P (.exc c ρ)) := ex_ext fun q ρ => by
        cases q.int? with
        | none => exact Iff.rfl
        | some a =>
          simp only [sp_st, bd_some]
          refine ex_ext fun q ρ => ?_
          cases q.int? with
          | none => exact Iff.rfl
          | some c => exact sp_opt
      exact ⟨fun h => ⟨hk, k.mp h⟩, fun h => k.mpr h.2⟩
    · rename_i hk; exact ⟨fun h => h.elim, fun h => absurd h.1 hk⟩
theorem sp_retD {es : List E} : Sp (exec (.retD es) ρ) N P ↔ Ex (evs es ρ) (fun rs ρ => Bd (partsD true rs) fun ts => ts.length ≤ 16777216 ∧ P (.rt (.deep (.tup ts)) ρ)) (fun c ρ => P (.exc c ρ)) := by
  simp only [exec, sp_st]
  refine ex_ext fun rs ρ => ?_
  cases partsD true rs with
  | none => exact Iff.rfl
  | some ts =>
    simp only [bd_some]
    split
    · rename_i hk; exact ⟨fun h => ⟨hk, h⟩, fun h => h.2⟩
    · rename_i hk; exact ⟨fun h => h.elim, fun h => absurd h.1 hk⟩
theorem sp_nx : Sp (.nx ρ) N P ↔ N ρ := Iff.rfl
theorem sp_mid0 {i : Nat} {t : T} {k : Env → SRes} : Sp (runMid i t [] ρ k) N P ↔ Sp (k ρ) N P := Iff.rfl
theorem sp_midC {i : Nat} {t : T} {k : Env → SRes} {c e : E} {r : List Mid} : Sp (runMid i t (.chk c e :: r) ρ k) N P ↔
    Ex (truthR (ev c (visE ρ i t))) (fun b ρ2 => (b = true → Ex (ev e ρ2) (fun q _ => Bd q.atom? fun u => P (.rt (.val u) ρ)) (fun c _ => P (.exc c ρ))) ∧ (b = false → Sp (runMid i t r ρ k) N P)) (fun c _ => P (.exc c ρ)) := by
  simp only [runMid]
  cases truthR (ev c (visE ρ i t)) with
  | bad => exact Iff.rfl
  | exc x ρ1 => exact Iff.rfl
  | ok b ρ1 =>
    cases b with
    | false => exact ⟨fun h => ⟨fun z => (by cases z), fun _ => h⟩, fun h => h.2 rfl⟩
    | true =>
      have k : Sp (match ev e ρ1 with
        | .ok q _ => (match q.atom? with
          | some u => SRes.rt (.val u) ρ
          | none => .bad)
        | .exc x _ => .exc x ρ
        | .bad => .bad) N P ↔ Ex (ev e ρ1) (fun q _ => Bd q.atom? fun u => P (.rt (.val u) ρ)) (fun c _ => P (.exc c ρ)) := by
        cases ev e ρ1 with
        | bad => exact Iff.rfl
        | exc x ρ2 => exact Iff.rfl
        | ok q ρ2 =>
          simp only [ex_ok]
          cases q.atom? with
          | none => exact Iff.rfl
          | some u => exact Iff.rfl
      exact ⟨fun h => ⟨fun _ => k.mp h, fun z => (by cases z)⟩, fun h => k.mpr (h.1 rfl)⟩
theorem sp_midB {i j : Nat} {t : T} {k : Env → SRes} {e : E} {r : List Mid} : Sp (runMid i t (.bnd j e :: r) ρ k) N P ↔
    ¬ j = i ∧ Ex (ev e ρ) (fun q ρ1 => Bd (setR ρ1 j q) fun ρ2 => Sp (runMid i t r ρ2 k) N P) (fun c ρ => P (.exc c ρ)) := by
  simp only [runMid]
  split
  · rename_i h; exact ⟨fun h => h.elim, fun z => absurd h z.1⟩
  · rename_i h
    simp only [sp_st]
    have k : Ex (ev e ρ) (fun q ρ1 => Sp (match setR ρ1 j q with
      | some ρ2 => runMid i t r ρ2 k
      | none => .bad) N P) (fun c ρ => P (.exc c ρ)) ↔ Ex (ev e ρ) (fun q ρ1 => Bd (setR ρ1 j q) fun ρ2 => Sp (runMid i t r ρ2 k) N P) (fun c ρ => P (.exc c ρ)) := ex_ext fun q ρ => by
      cases setR ρ j q with
      | none => exact Iff.rfl
      | some ρ2 => exact Iff.rfl
    exact ⟨fun z => ⟨h, k.mp z⟩, fun z => k.mpr z.2⟩
theorem sp_mut0 {ts : List T} {k : Env → SRes} : Sp (runMut k [] ts ρ) N P ↔ Sp (k ρ) N P := Iff.rfl
theorem sp_mutS {ts : List T} {k : Env → SRes} {j : Nat} {m : Mut} {es : List E} {r : List (Nat × Mut × List E)} : Sp (runMut k ((j, m, es) :: r) ts ρ) N P ↔
    Bd ts[j]? fun l => (!m.reads && !m.dict && l.isLst) = true ∧ Ex (evs es ρ) (fun rs ρ1 => Bd ((cleans rs).bind fun us => m.sem l us) fun p => Sp (runMut k r (ts.set j p.1) ρ1) N P) (fun c ρ => P (.exc c ρ)) := by
  simp only [runMut]
  cases ts[j]? with
  | none => exact Iff.rfl
  | some l =>
    simp only [bd_some]
    split
    · rename_i h
      simp only [sp_st]
      have k : Ex (evs es ρ) (fun rs ρ1 => Sp (match (cleans rs).bind fun us => m.sem l us with
        | some p => runMut k r (ts.set j p.1) ρ1
        | none => .bad) N P) (fun c ρ => P (.exc c ρ)) ↔ Ex (evs es ρ) (fun rs ρ1 => Bd ((cleans rs).bind fun us => m.sem l us) fun p => Sp (runMut k r (ts.set j p.1) ρ1) N P) (fun c ρ => P (.exc c ρ)) := ex_ext fun rs ρ => by
        cases (cleans rs).bind fun us => m.sem l us with
        | none => exact Iff.rfl
        | some p => exact Iff.rfl
      exact ⟨fun z => ⟨h, k.mp z⟩, fun z => k.mpr z.2⟩
    · rename_i h; exact ⟨fun h => h.elim, fun z => absurd z.1 h⟩
theorem sp_reg {i : Nat} {nm : String} {f : Fn} {es : List E} {mid : List Mid} {ms : List (Nat × Mut × List E)} : Sp (exec (.reg i nm f es mid ms) ρ) N P ↔
    f.deep = true ∧ Ex (evs es ρ) (fun rs ρ => Ex (callRes f rs ρ) (fun r ρ => Bd r.tup? fun ts => (kindAt ρ i < 3 ∧ i < ρ.length) ∧ Sp (runMid i (.tup ts) mid (ρ.set i none) fun ρ => runMut .nx ms ts ρ) N P) (fun c ρ => P (.exc c ρ))) (fun c ρ => P (.exc c ρ)) := by
  simp only [exec]
  split
  · rename_i hd
    simp only [sp_st, evD, ex_bind]
    refine (Iff.trans (ex_ext fun rs ρ => ex_bind.trans (ex_ext fun r ρ => ?_)) ⟨fun h => ⟨hd, h⟩, fun h => h.2⟩)
    cases r.tup? with
    | none => exact Iff.rfl
    | some ts =>
      simp only [ex_ok, bd_some]
      split
      · rename_i h; exact ⟨fun z => ⟨h, z⟩, fun z => z.2⟩
      · rename_i h; exact ⟨fun z => z.elim, fun z => absurd z.1 h⟩
  · rename_i hd; exact ⟨fun h => h.elim, fun h => absurd h.1 hd⟩
end
/-! ### a def -/
def PF (ios : List Bool) (Q : T → Bool → List T → Prop) (X : String → List T → Prop) (y : SRes) : Prop := match y with
  | .rt r ρ => Bd (retR ρ r) fun p => Q p.1 p.2 (outsAt ρ 0 ios)
  | .exc c ρ => X c (outsAt ρ 0 ios)
  | _ => False
def PFD (ios : List Bool) (Q : T → Bool → List T → Prop) (X : String → List T → Prop) (y : SRes) : Prop := match y with
  | .rt (.deep t) ρ => Q t false (outsAt ρ 0 ios)
  | .exc c ρ => X c (outsAt ρ 0 ios)
  | _ => False
theorem run_ofD {ios : List Bool} {n : Nat} {body : List S} {ts : List T} {Q : T → Bool → List T → Prop} {X : String → List T → Prop} (hl : ios.length = ts.length) (h : Sp (execs body (env0 n ios ts)) (fun _ => False) (PFD ios Q X)) : (mkFnD ios n body).Runs ts Q X := by
  unfold Fn.Runs
  have e : (mkFnD ios n body).run ts = finD ios (execs body (env0 n ios ts)) := if_pos hl
  rw [e]
  cases q : execs body (env0 n ios ts) with
  | nx ρ => rw [q] at h; exact h.elim
  | rt r ρ =>
    rw [q] at h
    cases r with
    | deep t => exact h
    | _ => exact h.elim
  | exc c ρ => rw [q] at h; exact h
  | bk ρ => rw [q] at h; exact h
  | ct ρ => rw [q] at h; exact h
  | bad => rw [q] at h; exact h
theorem run_of {ios : List Bool} {n : Nat} {body : List S} {ts : List T} {Q : T → Bool → List T → Prop} {X : String → List T → Prop} (hl : ios.length = ts.length) (h : Sp (execs body (env0 n ios ts)) (fun ρ => Q .non false (outsAt ρ 0 ios)) (PF ios Q X)) : (mkFn ios n body).Runs ts Q X := by
  unfold Fn.Runs
  have e : (mkFn ios n body).run ts = finF ios (execs body (env0 n ios ts)) := if_pos hl
  rw [e]
  cases q : execs body (env0 n ios ts) with
  | nx ρ => rw [q] at h; exact h
  | rt r ρ =>
    rw [q] at h
    obtain ⟨p, e1, h⟩ := bd_ex.mp h
    simp only [finF, e1]
    exact h
  | exc c ρ => rw [q] at h; exact h
  | bk ρ => rw [q] at h; exact h
  | ct ρ => rw [q] at h; exact h
  | bad => rw [q] at h; exact h
theorem wp_call {f : Fn} {rs : List R} {ρ : Env} {ts : List T} {Q : R → Env → Prop} {X : String → Env → Prop} (h1 : (ioIx f.ios rs).Nodup ∧ (∀ i ∈ rdIx f.ios rs, i ∉ ioIx f.ios rs) ∧ frOk f.ios rs = true) (h2 : argT ρ f.imm f.ios rs = some ts)
    (h3 : f.Runs ts (fun t fr outs => ((rdIx f.ios rs).isEmpty || (t.okR fr && outs.all T.atoms)) = true ∧ Q (if fr then .fresh t else .val t) (putOuts ρ f.ios rs outs)) (fun c outs => ((rdIx f.ios rs).isEmpty || outs.all T.atoms) = true ∧ X c (putOuts ρ f.ios rs outs))) :
    Ex (callRes f rs ρ) Q X := by
  unfold callRes
  rw [if_pos h1, h2]
  unfold Fn.Runs at h3
  simp only
  cases q : f.run ts with
  | ok t fr outs =>
    rw [q] at h3
    simp only
    rw [if_pos h3.1]
    exact h3.2
  | exc c outs =>
    rw [q] at h3
    simp only
    rw [if_pos h3.1]
    exact h3.2
  | bad => rw [q] at h3; exact h3
end MP

namespace MP
open PySem PySem.Spec L2
open PyProof.Rows hiding St
/-! ## small steps, by their shape alone -/
section
variable {ρ : Env} {x : Option Slot} {i j k : Nat} {s : Slot} {t u v : T} {a b c : Int} {p q : List Nat} {z w : Bool} {ts us : List T} {r : R} {rs : List R} {ios : List Bool} {n : Nat}
theorem wz_at0 : slotAt (x :: ρ) 0 = x := by cases x <;> rfl
theorem wz_atS : slotAt (x :: ρ) (i + 1) = slotAt ρ i := (Eq.refl _).trans rfl
theorem wz_k0 : kindAt (none :: ρ) 0 = 0 := (Eq.refl _).trans rfl
theorem wz_k1 : kindAt (some s :: ρ) 0 = s.k := (Eq.refl _).trans rfl
theorem wz_kS : kindAt (x :: ρ) (i + 1) = kindAt ρ i := (Eq.refl _).trans rfl
theorem wz_ka : (Slot.shr t).k = 1 := (Eq.refl _).trans rfl
theorem wz_kb : (Slot.own t).k = 2 := (Eq.refl _).trans rfl
theorem wz_kc : (Slot.io t).k = 3 := (Eq.refl _).trans rfl
theorem wz_kd : (Slot.lck t).k = 4 := (Eq.refl _).trans rfl
theorem wz_rda : Slot.rd i (.shr t) = .val t := rfl
theorem wz_rdb : Slot.rd i (.own t) = .loc i := rfl
theorem wz_rdc : Slot.rd i (.io t) = .loc i := rfl
theorem wz_rdd : Slot.rd i (.lck t) = .loc i := rfl
theorem wz_gv : R.get ρ (.val t) = some t := rfl
theorem wz_gf : R.get ρ (.fresh t) = some t := rfl
def Slot.got : Slot → Option T
  | .shr _ => none
  | .own t | .io t | .lck t => some t
theorem wz_gl : R.get ρ (.loc i) = (slotAt ρ i).bind Slot.got := by
  simp only [R.get]
  cases slotAt ρ i with
  | none => rfl
  | some s => cases s <;> rfl
theorem wz_gotb : (Slot.own t).got = some t := rfl
theorem wz_gotc : (Slot.io t).got = some t := rfl
theorem wz_gotd : (Slot.lck t).got = some t := rfl
theorem wz_cv : R.clean (.val t) = some t := rfl
theorem wz_cf : R.clean (.fresh t) = some t := rfl
theorem wz_iv : R.int? (.val (.int a)) = some a := rfl
theorem wz_ti : T.int? (.int a) = some a := rfl
theorem wz_setS0 : setS (none :: ρ) 0 s = some (some s :: ρ) := by simp [setS, slotAt]
theorem wz_setSa : setS (some (.shr t) :: ρ) 0 s = some (some s :: ρ) := by simp [setS, slotAt]
theorem wz_setSb : setS (some (.own t) :: ρ) 0 s = some (some s :: ρ) := by simp [setS, slotAt]
theorem wz_setSS : setS (x :: ρ) (i + 1) s = (setS ρ i s).map (x :: ·) := by
  unfold setS
  rw [wz_atS]
  simp only [List.length_cons, Nat.add_lt_add_iff_right, List.set_cons_succ]
  cases slotAt ρ i with
  | none => by_cases h : i < ρ.length <;> simp [h]
  | some s' => cases s' <;> by_cases h : i < ρ.length <;> simp [h]
theorem wz_srv : setR ρ i (.val t) = setS ρ i (.shr t) := (Eq.refl _).trans rfl
theorem wz_srf : setR ρ i (.fresh t) = setS ρ i (.own t) := (Eq.refl _).trans rfl
def Slot.tk (ρ : Env) (k : Nat) : Slot → Option (Slot × Env)
  | .own t => some (.own t, ρ.set k none)
  | _ => none
theorem wz_tkb : Slot.tk ρ k (.own t) = some (.own t, ρ.set k none) := rfl
theorem wz_tv : takeS ρ (.val t) = some (.shr t, ρ) := rfl
theorem wz_tf : takeS ρ (.fresh t) = some (.own t, ρ) := rfl
theorem wz_tl : takeS ρ (.loc k) = (slotAt ρ k).bind (Slot.tk ρ k) := by
  show (match slotAt ρ k with
    | some (.own t) => some (Slot.own t, ρ.set k none)
    | _ => none) = _
  cases slotAt ρ k with
  | none => rfl
  | some s => cases s <;> rfl
theorem wz_srl : setR ρ i (.loc k) = ((slotAt ρ k).bind (Slot.tk ρ k)).bind fun p => setS p.2 i p.1 := by
  show (takeS ρ (.loc k)).bind _ = _
  rw [wz_tl]
theorem wz_par {r q : R} : setPar ρ i j r q = (takeS ρ r).bind fun p => (takeS p.2 q).bind fun p2 => (setS p2.2 i p.1).bind fun ρ => setS ρ j p2.1 := (Eq.refl _).trans rfl
theorem wz_put0 : putR (some (.own t) :: ρ) 0 u v = (putSem t u v).map fun l => some (.own l) :: ρ := (Eq.refl _).trans rfl
theorem wz_put1 : putR (some (.io t) :: ρ) 0 u v = (putSem t u v).map fun l => some (.io l) :: ρ := (Eq.refl _).trans rfl
theorem wz_putS : putR (x :: ρ) (i + 1) u v = (putR ρ i u v).map (x :: ·) := by
  unfold putR
  rw [wz_atS]
  cases slotAt ρ i with
  | none => rfl
  | some s' => cases s' <;> first | rfl | (simp only [Option.map_map]; rfl)
theorem wz_ps0 : putSem (.lst (t :: ts)) (.int 0) v = some (.lst (v :: ts)) := by simp [putSem]
theorem wz_ps1 : putSem (.lst (t :: u :: ts)) (.int 1) v = some (.lst (t :: v :: ts)) := by simp [putSem]; omega
def drp (ρ : Env) (i : Nat) : Env := if kindAt ρ i < 3 then ρ.set i none else ρ
theorem wz_fg0 : forgetR ρ [] = ρ := (Eq.refl _).trans rfl
theorem wz_fg : forgetR ρ (i :: is) = drp (forgetR ρ is) i := (Eq.refl _).trans rfl
theorem wz_d0 : drp (none :: ρ) 0 = none :: ρ := (Eq.refl _).trans rfl
theorem wz_da : drp (some (.shr t) :: ρ) 0 = none :: ρ := (Eq.refl _).trans rfl
theorem wz_db : drp (some (.own t) :: ρ) 0 = none :: ρ := (Eq.refl _).trans rfl
theorem wz_dc : drp (some (.io t) :: ρ) 0 = some (.io t) :: ρ := (Eq.refl _).trans rfl
theorem wz_dd : drp (some (.lck t) :: ρ) 0 = some (.lck t) :: ρ := (Eq.refl _).trans rfl
theorem wz_dS : drp (x :: ρ) (i + 1) = x :: drp ρ i := by
  unfold drp
  rw [wz_kS]
  split <;> rfl
theorem wz_fza : freezeR (some (.shr t) :: ρ) 0 = some (some (.shr t) :: ρ) := (Eq.refl _).trans rfl
theorem wz_fzb : freezeR (some (.own t) :: ρ) 0 = some (some (.shr t) :: ρ) := (Eq.refl _).trans rfl
theorem wz_fzS : freezeR (x :: ρ) (i + 1) = (freezeR ρ i).map (x :: ·) := by
  unfold freezeR
  rw [wz_atS]
  cases slotAt ρ i with
  | none => rfl
  | some s' => cases s' <;> rfl
def otT : Option Slot → T
  | some s => s.t
  | none => .non
theorem wz_o0 : outsAt ρ n [] = [] := (Eq.refl _).trans rfl
theorem wz_ot : outsAt ρ n (true :: ios) = otT (slotAt ρ n) :: outsAt ρ (n + 1) ios := by
  simp only [outsAt]
  cases slotAt ρ n <;> rfl
theorem wz_of : outsAt ρ n (false :: ios) = outsAt ρ (n + 1) ios := (Eq.refl _).trans rfl
theorem wz_otc : otT (some (.io t)) = t := (Eq.refl _).trans rfl
theorem wz_rv : retR ρ (.val t) = some (t, false) := rfl
theorem wz_rf : retR ρ (.fresh t) = some (t, true) := rfl
def Slot.rl : Slot → Option (T × Bool)
  | .own t => some (t, true)
  | _ => none
theorem wz_rl : retR ρ (.loc i) = (slotAt ρ i).bind Slot.rl := by
  show (match slotAt ρ i with
    | some (.own t) => some (t, true)
    | _ => none) = _
  cases slotAt ρ i with
  | none => rfl
  | some s => cases s <;> rfl
theorem wz_rlb : (Slot.own t).rl = some (t, true) := rfl
def reo (ρ : Env) (i : Nat) (t : T) : Env := match slotAt ρ i with
  | some s => ρ.set i (some (reown s t))
  | none => ρ
theorem wz_po0 : putOuts ρ [] rs ts = ρ := by unfold putOuts; rfl
theorem wz_pot : putOuts ρ (true :: ios) (.loc i :: rs) (t :: ts) = putOuts (reo ρ i t) ios rs ts := (Eq.refl _).trans rfl
theorem wz_pov : putOuts ρ (true :: ios) (.val u :: rs) (t :: ts) = putOuts ρ ios rs ts := (Eq.refl _).trans rfl
theorem wz_pof : putOuts ρ (true :: ios) (.fresh u :: rs) (t :: ts) = putOuts ρ ios rs ts := (Eq.refl _).trans rfl
theorem wz_pox : putOuts ρ (false :: ios) (r :: rs) ts = putOuts ρ ios rs ts := by cases r <;> rfl
theorem wz_reS : reo (x :: ρ) (i + 1) t = x :: reo ρ i t := by
  unfold reo
  rw [wz_atS]
  cases slotAt ρ i <;> rfl
theorem wz_re0 : reo (some (.own u) :: ρ) 0 t = some (.own t) :: ρ := (Eq.refl _).trans rfl
theorem wz_re1 : reo (some (.io u) :: ρ) 0 t = some (.io t) :: ρ := (Eq.refl _).trans rfl
theorem wz_cl0 : cleans [] = some [] := rfl
theorem wz_cl : cleans (r :: rs) = r.clean.bind fun t => (cleans rs).map (t :: ·) := rfl
theorem wz_ge0 : gets ρ [] = some [] := rfl
theorem wz_ge : gets ρ (r :: rs) = (r.get ρ).bind fun t => (gets ρ rs).map (t :: ·) := rfl
/-! operators -/
theorem wo_add : Bop.sem .add (.int a) (.int b) = some (.val (.int (a + b))) := rfl
theorem wo_sub : Bop.sem .sub (.int a) (.int b) = some (.val (.int (a - b))) := rfl
theorem wo_mul : Bop.sem .mul (.int a) (.int b) = if mulOk a b = true then some (.val (.int (a * b))) else none := rfl
theorem wo_mod : Bop.sem .mod (.int a) (.int b) = if 0 < b then some (.val (.int (a % b))) else none := rfl
theorem wo_div : Bop.sem .fdiv (.int a) (.int b) = if divOk b = true then some (.val (.int (a / b))) else none := rfl
theorem wo_pow : Bop.sem .pow (.int a) (.int b) = if powOk a b = true then some (.val (.int (a ^ b.toNat))) else none := rfl
theorem wo_adds : Bop.sem .add (.str p) (.str q) = if p.length + q.length ≤ 16777216 then some (.val (.str (p ++ q))) else none := rfl
theorem wo_addl : Bop.sem .add (.lst ts) (.lst us) = if ts.length + us.length ≤ 16777216 then some (.fresh (.lst (ts ++ us))) else none := rfl
theorem wo_muls : Bop.sem .mul (.str p) (.int a) = if p.length * a.toNat ≤ 16777216 ∧ -(2 ^ 63) ≤ a ∧ a < 2 ^ 63 then some (.val (.str (repL p a))) else none := rfl
theorem wo_mull : Bop.sem .mul (.lst ts) (.int a) = if ts.length * a.toNat ≤ 16777216 ∧ -(2 ^ 63) ≤ a ∧ a < 2 ^ 63 then some (.fresh (.lst (repL ts a))) else none := rfl
theorem wo_lt : Cop.semB .lt (.int a) (.int b) = some (decide (a < b)) := rfl
theorem wo_le : Cop.semB .le (.int a) (.int b) = some (decide (a ≤ b)) := rfl
theorem wo_gt : Cop.semB .gt (.int a) (.int b) = some (decide (b < a)) := rfl
theorem wo_ge : Cop.semB .ge (.int a) (.int b) = some (decide (b ≤ a)) := rfl
theorem wo_eqi : Cop.semB .eq (.int a) (.int b) = some (decide (a = b)) := rfl
theorem wo_nei : Cop.semB .ne (.int a) (.int b) = some (!decide (a = b)) := rfl
theorem wo_eqs : Cop.semB .eq (.str p) (.str q) = some (decide (p = q)) := by simp only [Cop.semB, eqOk, T.flat, T.eqv, Bool.and_self, if_true]; rw [show (p == q) = decide (p = q) from Bool.eq_iff_iff.mpr (by simp)]
theorem wo_nes : Cop.semB .ne (.str p) (.str q) = some (!decide (p = q)) := by simp only [Cop.semB, eqOk, T.flat, T.eqv, Bool.and_self, if_true]; rw [show (p == q) = decide (p = q) from Bool.eq_iff_iff.mpr (by simp)]
theorem wo_tb : T.truth (.bl z) = some z := rfl
theorem wo_ti : T.truth (.int a) = some (decide (a ≠ 0)) := rfl
theorem wo_lens : Blt.sem .len [.str p] = if p.length ≤ 16777216 then some (.val (.int p.length)) else none := rfl
theorem wo_lenl : Blt.sem .len [.lst ts] = some (.val (.int ts.length)) := rfl
theorem wo_lent : Blt.sem .len [.tup ts] = some (.val (.int ts.length)) := rfl
theorem wo_lenr {ns : List Int} : Blt.sem .len [.ro ns] = some (.val (.int ns.length)) := rfl
theorem wo_abs : Blt.sem .abs [.int a] = some (.val (.int (if a < 0 then -a else a))) := rfl
theorem wo_min : Blt.sem .min [.int a, .int b] = some (.val (.int (if b < a then b else a))) := rfl
theorem wo_max : Blt.sem .max [.int a, .int b] = some (.val (.int (if b > a then b else a))) := rfl
theorem wo_intb : Blt.sem .int [.bl z] = some (.val (.int (if z then 1 else 0))) := rfl
theorem wo_inti : Blt.sem .int [.int a] = some (.val (.int a)) := rfl
theorem wo_subl : subSem (.lst ts) (.int a) = pick ts a := rfl
theorem wo_subt : subSem (.tup ts) (.int a) = pick ts a := rfl
theorem wo_subr {ns : List Int} : subSem (.ro ns) (.int a) = (pick ns a).map T.int := rfl
theorem wo_subs : subSem (.str p) (.int a) = if p.length ≤ 16777216 then (pick p a).map (fun c => T.str [c]) else none := rfl
theorem wo_slcs {l h : Option Int} : slcSem (.str p) l h = if p.length ≤ 16777216 then some (.val (.str (cut p l h))) else none := rfl
theorem wo_slcl {l h : Option Int} : slcSem (.lst ts) l h = some (.fresh (.lst (cut ts l h))) := rfl
theorem wo_revs : revSem (.str p) = if p.length ≤ 16777216 then some (.val (.str p.reverse)) else none := rfl
theorem wo_revl : revSem (.lst ts) = some (.fresh (.lst ts.reverse)) := rfl
theorem wo_isi {ys : List Tn} : isiSem (.int a) ys = some (ys.any fun b => Tn.isa .int b) := rfl
theorem wo_isb {ys : List Tn} : isiSem (.bl z) ys = some (ys.any fun b => Tn.isa .bool b) := rfl
theorem wo_iss {ys : List Tn} : isiSem (.str p) ys = some (ys.any fun b => Tn.isa .str b) := rfl
theorem wo_isl {ys : List Tn} : isiSem (.lst ts) ys = some (ys.any fun b => Tn.isa .list b) := rfl
theorem wp_p0 {α : Type} {x : α} {xs : List α} : pick (x :: xs) 0 = some x := rfl
theorem wp_p1 {α : Type} {x y : α} {xs : List α} : pick (x :: y :: xs) 1 = some y := rfl
theorem pick_in {α : Type} {xs : List α} {i : Int} (h : 0 ≤ i) (h2 : i < xs.length) : ∃ x, pick xs i = some x ∧ x ∈ xs := by
  unfold pick
  rw [if_pos h]
  have hl : i.toNat < xs.length := by omega
  exact ⟨xs[i.toNat], List.getElem?_eq_getElem hl, List.getElem_mem hl⟩
theorem bd_bind {α β : Type} {o : Option α} {f : α → Option β} {Q : β → Prop} : Bd (o.bind f) Q ↔ Bd o fun a => Bd (f a) Q := by cases o <;> exact Iff.rfl
theorem bd_map {α β : Type} {o : Option α} {f : α → β} {Q : β → Prop} : Bd (o.map f) Q ↔ Bd o fun a => Q (f a) := by cases o <;> exact Iff.rfl
theorem onB_bl {z : Bool} {A B : Prop} : onB (some (.bl z)) A B ↔ (z = true → A) ∧ (z = false → B) := Iff.rfl
theorem pf_rt {ρ : Env} {Q : T → Bool → List T → Prop} {X : String → List T → Prop} : PF ios Q X (.rt r ρ) ↔ Bd (retR ρ r) fun p => Q p.1 p.2 (outsAt ρ 0 ios) := Iff.rfl
theorem pf_ex {c : String} {ρ : Env} {Q : T → Bool → List T → Prop} {X : String → List T → Prop} : PF ios Q X (.exc c ρ) ↔ X c (outsAt ρ 0 ios) := Iff.rfl
end
end MP

namespace MP
open PySem PySem.Spec L2
open PyProof.Rows hiding St
/-! ## loops, comprehensions: by an invariant -/
section
variable {ρ : Env} {Q : R → Env → Prop} {X : String → Env → Prop} {N : Env → Prop} {P : SRes → Prop}
theorem ex_evC0 {Q : Bool → Env → Prop} : Ex (evC [] ρ) Q X ↔ Q true ρ := Iff.rfl
theorem ex_evC {e : E} {Q : Bool → Env → Prop} : Ex (evC [e] ρ) Q X ↔ Ex (truthR (ev e ρ)) Q X := Iff.rfl
/-- the loop, named -/
@[irreducible] def CL (elt : E) (tg : Tg) (cond : List E) (own : List Nat) (items : List T) (ρ : Env) : Res (List T) := compLoop tg own (fun ρ => evC cond ρ) (fun ρ => ev elt ρ) items ρ []
theorem ex_comp {elt : E} {tg : Tg} {k : ItK} {es cond : List E} {own : List (String × Nat)} : Ex (ev (.comp elt tg k es cond own) ρ) Q X ↔
    Ex (evs es ρ) (fun rs ρ1 => Bd ((gets ρ1 rs).bind (iterSem k)) fun items => items.length ≤ 16777216 ∧ Ex (CL elt tg cond (own.map (·.2)) items (lockAll ρ1 rs)) (fun ts ρ' => Q (.fresh (.lst ts)) (backR ρ1 ρ' (rs.flatMap R.ix))) X) X := by
  simp only [ev, ex_bind]
  cases evs es ρ with
  | ok rs ρ1 =>
    simp only [ex_ok]
    cases (gets ρ1 rs).bind (iterSem k) with
    | none => exact Iff.rfl
    | some items =>
      simp only [bd_some]
      split
      · rename_i h
        unfold CL
        simp only [ex_bind, ex_ok]
        exact ⟨fun z => ⟨h, z⟩, fun z => z.2⟩
      · rename_i h; exact ⟨fun z => z.elim, fun z => absurd z.1 h⟩
  | exc c ρ1 => exact Iff.rfl
  | bad => exact Iff.rfl
theorem comp_inv {elt : E} {tg : Tg} {cond : List E} {own : List Nat} {all : List T} {X : String → Env → Prop} {Q : List T → Env → Prop} (I : Nat → Env → List T → Prop)
    (hs : ∀ n ρ acc x, all[n]? = some x → I n ρ acc → Bd (bindTg tg x (wipeR ρ own)) fun ρ1 => Ex (evC cond ρ1) (fun b ρ2 => (b = true → Ex (ev elt ρ2) (fun r ρ3 => Bd r.clean fun t => I (n + 1) (backR ρ ρ3 own) (acc ++ [t])) fun _ _ => False) ∧ (b = false → I (n + 1) (backR ρ ρ2 own) acc)) fun _ _ => False)
    (hq : ∀ ρ acc, I all.length ρ acc → Q acc ρ) : ∀ (items : List T) (n : Nat) (ρ : Env) (acc : List T), all.drop n = items → n ≤ all.length → I n ρ acc → Ex (compLoop tg own (fun ρ => evC cond ρ) (fun ρ => ev elt ρ) items ρ acc) Q X
  | [], n, ρ, acc, e, hn, h => by
    have : n = all.length := by
      have := congrArg List.length e
      simp at this; omega
    subst this
    exact hq _ _ h
  | x :: xs, n, ρ, acc, e, hn, h => by
    have hx : all[n]? = some x := by
      have h1 : (all.drop n)[0]? = some x := by rw [e]; rfl
      rw [List.getElem?_drop] at h1
      simpa using h1
    have hl := (List.getElem?_eq_some_iff.mp hx).1
    have ex : all.drop (n + 1) = xs := by
      have h2 := congrArg List.tail e
      rw [List.tail_drop] at h2
      exact h2
    have s := hs n ρ acc x hx h
    simp only [compLoop]
    cases eb : bindTg tg x (wipeR ρ own) with
    | none => rw [eb] at s; exact s.elim
    | some ρ1 =>
      rw [eb] at s
      simp only [bd_some] at s ⊢
      cases ec : evC cond ρ1 with
      | bad => rw [ec] at s; exact s.elim
      | exc c ρ2 => rw [ec] at s; exact s.elim
      | ok b ρ2 =>
        rw [ec] at s
        cases b with
        | false => exact comp_inv I hs hq xs (n + 1) _ _ ex hl (s.2 rfl)
        | true =>
          have s := s.1 rfl
          simp only
          cases ee : ev elt ρ2 with
          | bad => rw [ee] at s; exact s.elim
          | exc c ρ3 => rw [ee] at s; exact s.elim
          | ok r ρ3 =>
            rw [ee] at s
            have s : Bd r.clean fun t => I (n + 1) (backR ρ ρ3 own) (acc ++ [t]) := s
            cases er : r.clean with
            | none => rw [er] at s; exact s.elim
            | some t =>
              rw [er] at s
              dsimp only
              rw [er]
              exact comp_inv I hs hq xs (n + 1) _ _ ex hl s
/-- by an invariant; one slot changes: its tree goes by b -/
theorem wp_comp1 {β : Type} {elt : E} {tg : Tg} {cond : List E} {own : List Nat} {items : List T} {Q : List T → Env → Prop} (i : Nat) (tr : β → T) (b0 : β) (J : Nat → β → List T → Prop) (hi : reo ρ i (tr b0) = ρ) (h0 : J 0 b0 [])
    (hs : ∀ n b acc x, items[n]? = some x → J n b acc → Bd (bindTg tg x (wipeR (reo ρ i (tr b)) own)) fun ρ1 => Ex (evC cond ρ1) (fun c ρ2 => (c = true → Ex (ev elt ρ2) (fun r ρ3 => Bd r.clean fun t => ∃ b', backR (reo ρ i (tr b)) ρ3 own = reo ρ i (tr b') ∧ J (n + 1) b' (acc ++ [t])) fun _ _ => False) ∧
      (c = false → ∃ b', backR (reo ρ i (tr b)) ρ2 own = reo ρ i (tr b') ∧ J (n + 1) b' acc)) fun _ _ => False)
    (hq : ∀ b acc, J items.length b acc → Q acc (reo ρ i (tr b))) : Ex (CL elt tg cond own items ρ) Q X := by
  unfold CL
  refine comp_inv (all := items) (fun n ρ' acc => ∃ b, ρ' = reo ρ i (tr b) ∧ J n b acc) (fun n ρ' acc x hx ⟨b, e, hj⟩ => ?_) (fun ρ' acc ⟨b, e, hj⟩ => e ▸ hq b acc hj) items 0 ρ [] rfl (Nat.zero_le _) ⟨b0, hi.symm, h0⟩
  subst e
  exact hs n b acc x hx hj
/-- a pure one: nothing changes but the loop's own slots -/
theorem wp_compP {elt : E} {tg : Tg} {cond : List E} {own : List Nat} {items : List T} {Q : List T → Env → Prop} (f : T → Bool) (g : T → T)
    (hs : ∀ x ∈ items, Bd (bindTg tg x (wipeR ρ own)) fun ρ1 => Ex (evC cond ρ1) (fun c ρ2 => c = f x ∧ (c = true → Ex (ev elt ρ2) (fun r ρ3 => Bd r.clean fun t => backR ρ ρ3 own = ρ ∧ t = g x) fun _ _ => False) ∧ (c = false → backR ρ ρ2 own = ρ)) fun _ _ => False)
    (hq : Q ((items.filter f).map g) ρ) : Ex (CL elt tg cond own items ρ) Q X := by
  unfold CL
  refine comp_inv (all := items) (fun n ρ' acc => ρ' = ρ ∧ acc = ((items.take n).filter f).map g) (fun n ρ' acc x hx ⟨e, hj⟩ => ?_) (fun ρ' acc ⟨e, hj⟩ => ?_) items 0 ρ [] rfl (Nat.zero_le _) ⟨rfl, rfl⟩
  · subst e hj
    have hm : x ∈ items := List.mem_of_getElem? hx
    have et : items.take (n + 1) = items.take n ++ [x] := by rw [List.take_add_one, hx]; rfl
    have s := hs x hm
    obtain ⟨ρ1, e1, s⟩ := bd_ex.mp s
    rw [e1]
    refine s.mono (fun c ρ2 ⟨h1, h2, h3⟩ => ⟨fun hc => ?_, fun hc => ?_⟩) fun _ _ h => h
    · refine (h2 hc).mono (fun r ρ3 h => ?_) fun _ _ h => h
      obtain ⟨t, e2, h4, h5⟩ := bd_ex.mp h
      refine bd_ex.mpr ⟨t, e2, h4, ?_⟩
      rw [et, List.filter_append, List.map_append, h5]
      simp [← h1, hc]
    · refine ⟨h3 hc, ?_⟩
      rw [et, List.filter_append, List.map_append]
      simp [← h1, hc]
  · subst e hj
    rw [List.take_length]; exact hq
/-! for, while -/
@[irreducible] noncomputable def FL (tg : Tg) (fg : List Nat) (body : List S) (items : List T) (ρ : Env) : SRes := forLoop tg fg (fun ρ => execs body ρ) items ρ
theorem sp_for {tg : Tg} {k : ItK} {its : List E} {b : List S} {fg : List Nat} : Sp (exec (.for_ tg k its b fg) ρ) N P ↔ Ex (evs its ρ) (fun rs ρ1 => Bd ((gets ρ1 rs).bind (iterSem k)) fun items =>
    Sp (FL tg fg b items (lockAll ρ1 rs)) (fun ρ' => N (backR ρ1 ρ' (rs.flatMap R.ix))) (fun y => P (y.map fun ρ' => backR ρ1 ρ' (rs.flatMap R.ix)))) (fun c ρ => P (.exc c ρ)) := by
  simp only [exec, sp_st]
  cases evs its ρ with
  | ok rs ρ1 =>
    simp only [ex_ok]
    cases (gets ρ1 rs).bind (iterSem k) with
    | none => exact Iff.rfl
    | some items =>
      simp only [bd_some]
      unfold FL
      cases forLoop tg fg (fun ρ => execs b ρ) items (lockAll ρ1 rs) <;> exact Iff.rfl
  | exc c ρ1 => exact Iff.rfl
  | bad => exact Iff.rfl
/-- what a turn may end in -/
def TurnP (K Z : Env → Prop) (P : SRes → Prop) (y : SRes) : Prop := match y with
  | .ct ρ => K ρ
  | .bk ρ => Z ρ
  | .nx _ => False
  | y => P y
theorem for_inv {tg : Tg} {fg : List Nat} {b : List S} {all : List T} (I : Nat → Env → Prop)
    (hs : ∀ n ρ x, all[n]? = some x → I n ρ → Bd (bindTg tg x ρ) fun ρ1 => Sp (execs b ρ1) (fun ρ2 => I (n + 1) (forgetR ρ2 fg)) (TurnP (fun ρ2 => I (n + 1) (forgetR ρ2 fg)) (fun ρ2 => N (forgetR ρ2 fg)) P))
    (hq : ∀ ρ, I all.length ρ → N ρ) : ∀ (items : List T) (n : Nat) (ρ : Env), all.drop n = items → n ≤ all.length → I n (forgetR ρ fg) → Sp (forLoop tg fg (fun ρ => execs b ρ) items ρ) N P
  | [], n, ρ, e, hn, h => by
    have : n = all.length := by
      have := congrArg List.length e
      simp at this; omega
    subst this
    exact hq _ h
  | x :: xs, n, ρ, e, hn, h => by
    have hx : all[n]? = some x := by
      have h1 : (all.drop n)[0]? = some x := by rw [e]; rfl
      rw [List.getElem?_drop] at h1
      simpa using h1
    have hl := (List.getElem?_eq_some_iff.mp hx).1
    have ex : all.drop (n + 1) = xs := by
      have h2 := congrArg List.tail e
      rw [List.tail_drop] at h2
      exact h2
    have s := hs n _ x hx h
    simp only [forLoop]
    cases eb : bindTg tg x (forgetR ρ fg) with
    | none => rw [eb] at s; exact s.elim
    | some ρ1 =>
      rw [eb] at s
      simp only [bd_some] at s ⊢
      cases ec : execs b ρ1 with
      | bad => rw [ec] at s; exact s.elim
      | nx ρ2 => rw [ec] at s; exact for_inv I hs hq xs (n + 1) ρ2 ex hl s
      | ct ρ2 => rw [ec] at s; exact for_inv I hs hq xs (n + 1) ρ2 ex hl s
      | bk ρ2 => rw [ec] at s; exact s
      | rt r ρ2 => rw [ec] at s; exact s
      | exc c ρ2 => rw [ec] at s; exact s
/-- by an invariant over the slots en b -/
theorem wp_for {β : Type} {tg : Tg} {fg : List Nat} {b : List S} {items : List T} (en : β → Env) (J : Nat → β → Prop) (b0 : β) (h0 : forgetR ρ fg = en b0) (hJ : J 0 b0)
    (hs : ∀ n c x, items[n]? = some x → J n c → Bd (bindTg tg x (en c)) fun ρ1 => Sp (execs b ρ1) (fun ρ2 => ∃ c', forgetR ρ2 fg = en c' ∧ J (n + 1) c') (TurnP (fun ρ2 => ∃ c', forgetR ρ2 fg = en c' ∧ J (n + 1) c') (fun ρ2 => N (forgetR ρ2 fg)) P))
    (hq : ∀ c, J items.length c → N (en c)) : Sp (FL tg fg b items ρ) N P := by
  unfold FL
  refine for_inv (all := items) (fun n ρ' => ∃ c, ρ' = en c ∧ J n c) (fun n ρ' x hx ⟨c, e, hj⟩ => ?_) (fun ρ' ⟨c, e, hj⟩ => e ▸ hq c hj) items 0 ρ rfl (Nat.zero_le _) ⟨b0, h0, hJ⟩
  subst e
  exact hs n c x hx hj
/-- .. no turn ends but by its end -/
theorem wp_for0 {β : Type} {tg : Tg} {fg : List Nat} {b : List S} {items : List T} (en : β → Env) (J : Nat → β → Prop) (b0 : β) (h0 : forgetR ρ fg = en b0) (hJ : J 0 b0)
    (hs : ∀ n c x, items[n]? = some x → J n c → Bd (bindTg tg x (en c)) fun ρ1 => Sp (execs b ρ1) (fun ρ2 => ∃ c', forgetR ρ2 fg = en c' ∧ J (n + 1) c') (fun _ => False))
    (hq : ∀ c, J items.length c → N (en c)) : Sp (FL tg fg b items ρ) N P := by
  refine wp_for en J b0 h0 hJ (fun n c x hx hj => ?_) hq
  have s := hs n c x hx hj
  obtain ⟨ρ1, e, s⟩ := bd_ex.mp s
  rw [e]
  exact s.mono (fun _ z => z) fun _ z => z.elim
/-- a while, by a measure -/
theorem wp_whl {β : Type} {c : E} {b : List S} {fg : List Nat} (en : β → Env) (J : β → Prop) (ms : β → Nat) (b0 : β) (h0 : forgetR ρ fg = en b0) (hJ : J b0)
    (hs : ∀ a, J a → Ex (truthR (ev c (en a))) (fun k ρ1 => (k = true → Sp (execs b ρ1) (fun ρ2 => ∃ a', forgetR ρ2 fg = en a' ∧ J a' ∧ ms a' < ms a) (TurnP (fun ρ2 => ∃ a', forgetR ρ2 fg = en a' ∧ J a' ∧ ms a' < ms a) (fun ρ2 => N (forgetR ρ2 fg)) P)) ∧ (k = false → N ρ1)) (fun e ρ => P (.exc e ρ))) :
    Sp (exec (.whl c b fg) ρ) N P := by
  have go : ∀ (m : Nat) (a : β) (ρ : Env), ms a < m → forgetR ρ fg = en a → J a → Sp (whlLoop fg (fun ρ => truthR (ev c ρ)) (fun ρ => execs b ρ) m ρ) N P := by
    intro m
    induction m with
    | zero => intro a ρ h; omega
    | succ m ih =>
      intro a ρ hm he hj
      have s := hs a hj
      simp only [whlLoop]
      rw [he]
      cases ec : truthR (ev c (en a)) with
      | bad => rw [ec] at s; exact s.elim
      | exc cc ρ1 => rw [ec] at s; exact s
      | ok k ρ1 =>
        rw [ec] at s
        cases k with
        | false => exact s.2 rfl
        | true =>
          have s := s.1 rfl
          simp only
          cases ed : execs b ρ1 with
          | bad => rw [ed] at s; exact s.elim
          | nx ρ2 => rw [ed] at s; obtain ⟨a', h1, h2, h3⟩ := s; exact ih a' ρ2 (by omega) h1 h2
          | ct ρ2 => rw [ed] at s; obtain ⟨a', h1, h2, h3⟩ := s; exact ih a' ρ2 (by omega) h1 h2
          | bk ρ2 => rw [ed] at s; exact s
          | rt r ρ2 => rw [ed] at s; exact s
          | exc cc ρ2 => rw [ed] at s; exact s
  have s := go (ms b0 + 1) b0 ρ (by omega) h0 hJ
  simp only [exec]
  rw [whlRes_eq (ms b0 + 1) rfl (fun z => by rw [z] at s; exact s)]
  exact s
/-- .. no turn ends but by its end -/
theorem wp_whl0 {β : Type} {c : E} {b : List S} {fg : List Nat} (en : β → Env) (J : β → Prop) (ms : β → Nat) (b0 : β) (h0 : forgetR ρ fg = en b0) (hJ : J b0)
    (hs : ∀ a, J a → Ex (truthR (ev c (en a))) (fun k ρ1 => (k = true → Sp (execs b ρ1) (fun ρ2 => ∃ a', forgetR ρ2 fg = en a' ∧ J a' ∧ ms a' < ms a) (fun _ => False)) ∧ (k = false → ∃ a', ρ1 = en a' ∧ J a' ∧ a' = a)) (fun _ _ => False)) (hq : ∀ a, J a → N (en a)) :
    Sp (exec (.whl c b fg) ρ) N P := by
  refine wp_whl en J ms b0 h0 hJ fun a ha => (hs a ha).mono (fun k ρ1 ⟨h1, h2⟩ => ⟨fun hk => (h1 hk).mono (fun _ z => z) fun _ z => z.elim, fun hk => ?_⟩) fun _ _ z => z.elim
  obtain ⟨a', e, hj, _⟩ := h2 hk
  rw [e]; exact hq a' hj
/-- both ways of an if, met again; neither goes elsewhere -/
theorem wp_join0 {β : Type} {c : E} {a b : List S} (en : β → Env) (J : β → Prop)
    (h : Ex (truthR (ev c ρ)) (fun k ρ1 => (k = true → Sp (execs a ρ1) (fun ρ2 => ∃ y, ρ2 = en y ∧ J y) (fun _ => False)) ∧ (k = false → Sp (execs b ρ1) (fun ρ2 => ∃ y, ρ2 = en y ∧ J y) (fun _ => False))) (fun _ _ => False)) (hq : ∀ y, J y → N (en y)) : Sp (exec (.ifs c a b) ρ) N P := by
  rw [sp_ifs]
  refine h.mono (fun k ρ1 ⟨h1, h2⟩ => ⟨fun hk => (h1 hk).mono (fun ρ2 ⟨y, e, j⟩ => e ▸ hq y j) fun _ z => z.elim, fun hk => (h2 hk).mono (fun ρ2 ⟨y, e, j⟩ => e ▸ hq y j) fun _ z => z.elim⟩) fun _ _ z => z.elim
/-- both ways of an if, met again -/
theorem wp_join {β : Type} {c : E} {a b : List S} (en : β → Env) (J : β → Prop)
    (h : Ex (truthR (ev c ρ)) (fun k ρ1 => (k = true → Sp (execs a ρ1) (fun ρ2 => ∃ y, ρ2 = en y ∧ J y) P) ∧ (k = false → Sp (execs b ρ1) (fun ρ2 => ∃ y, ρ2 = en y ∧ J y) P)) (fun c ρ => P (.exc c ρ))) (hq : ∀ y, J y → N (en y)) : Sp (exec (.ifs c a b) ρ) N P := by
  rw [sp_ifs]
  refine h.mono (fun k ρ1 ⟨h1, h2⟩ => ⟨fun hk => (h1 hk).mono (fun ρ2 ⟨y, e, j⟩ => e ▸ hq y j) fun _ z => z, fun hk => (h2 hk).mono (fun ρ2 ⟨y, e, j⟩ => e ▸ hq y j) fun _ z => z⟩) fun _ _ z => z
end
/-! small steps -/
section
variable {ρ ρ' : Env} {x y : Option Slot} {i j : Nat} {t : T} {r : R} {rs : List R}
theorem wq_wipe0 : wipeR ρ [] = ρ := (Eq.refl _).trans rfl
def clr (ρ : Env) (i : Nat) : Env := ρ.set i none
theorem wq_wipe {is : List Nat} : wipeR ρ (i :: is) = clr (wipeR ρ is) i := (Eq.refl _).trans rfl
theorem wq_clr0 : clr (x :: ρ) 0 = none :: ρ := (Eq.refl _).trans rfl
theorem wq_clrS : clr (x :: ρ) (i + 1) = x :: clr ρ i := (Eq.refl _).trans rfl
theorem wq_back0 : backR ρ ρ' [] = ρ' := (Eq.refl _).trans rfl
def bk1 (ρ ρ' : Env) (i : Nat) : Env := ρ'.set i (slotAt ρ i)
theorem wq_back {is : List Nat} : backR ρ ρ' (i :: is) = bk1 ρ (backR ρ ρ' is) i := (Eq.refl _).trans rfl
theorem wq_bk0 : bk1 (x :: ρ) (y :: ρ') 0 = x :: ρ' := by cases x <;> rfl
theorem wq_bkS : bk1 (x :: ρ) (y :: ρ') (i + 1) = y :: bk1 ρ ρ' i := (Eq.refl _).trans rfl
theorem wq_bn : bindTg (.n i) t ρ = setS ρ i (.shr t) := rfl
theorem wq_lk0 : lockAll ρ [] = ρ := (Eq.refl _).trans rfl
theorem wq_lkv : lockAll ρ (.val t :: rs) = lockAll ρ rs := (Eq.refl _).trans rfl
theorem wq_lkf : lockAll ρ (.fresh t :: rs) = lockAll ρ rs := (Eq.refl _).trans rfl
def lk1 (ρ : Env) (i : Nat) : Env := R.lock ρ (.loc i)
theorem wq_lkl : lockAll ρ (.loc i :: rs) = lockAll (lk1 ρ i) rs := (Eq.refl _).trans rfl
theorem wq_lk1b : lk1 (some (.own t) :: ρ) 0 = some (.lck t) :: ρ := (Eq.refl _).trans rfl
theorem wq_lk1c : lk1 (some (.io t) :: ρ) 0 = some (.lck t) :: ρ := (Eq.refl _).trans rfl
theorem wq_lk1d : lk1 (some (.lck t) :: ρ) 0 = some (.lck t) :: ρ := (Eq.refl _).trans rfl
theorem wq_lk1S : lk1 (x :: ρ) (i + 1) = x :: lk1 ρ i := by
  show (match slotAt ρ i with
    | some s => if s.mine then (x :: ρ).set (i + 1) (some (.lck s.t)) else x :: ρ
    | none => x :: ρ) = x :: (match slotAt ρ i with
    | some s => if s.mine then ρ.set i (some (.lck s.t)) else ρ
    | none => ρ)
  cases slotAt ρ i with
  | none => rfl
  | some s => cases s <;> rfl
theorem wq_ixv : R.ix (.val t) = [] := rfl
theorem wq_ixf : R.ix (.fresh t) = [] := rfl
theorem wq_ixl : R.ix (.loc i) = [i] := rfl
theorem wq_tr {j' : Int} : iterSem .range [.int j'] = some ((List.range j'.toNat).map fun (k : Nat) => T.int (k : Int)) := rfl
theorem wq_vl {ts : List T} : iterSem .val [.lst ts] = some ts := rfl
theorem wq_vt {ts : List T} : iterSem .val [.tup ts] = some ts := rfl
theorem wq_vs {s : List Nat} : iterSem .val [.str s] = some (s.map fun c => .str [c]) := rfl
theorem wq_tc {K Z : Env → Prop} {P : SRes → Prop} : TurnP K Z P (.ct ρ) ↔ K ρ := Iff.rfl
theorem wq_tb {K Z : Env → Prop} {P : SRes → Prop} : TurnP K Z P (.bk ρ) ↔ Z ρ := Iff.rfl
theorem wq_trt {K Z : Env → Prop} {P : SRes → Prop} : TurnP K Z P (.rt r ρ) ↔ P (.rt r ρ) := Iff.rfl
theorem wq_tex {K Z : Env → Prop} {P : SRes → Prop} {c : String} : TurnP K Z P (.exc c ρ) ↔ P (.exc c ρ) := Iff.rfl
theorem wq_mrt {f : Env → Env} : SRes.map (.rt r ρ) f = .rt r (f ρ) := rfl
theorem wq_mex {f : Env → Env} {c : String} : SRes.map (.exc c ρ) f = .exc c (f ρ) := rfl
end
end MP

namespace MP
open PySem PySem.Spec L2
open PyProof.Rows hiding St
section
variable {ρ : Env} {elt : E} {tg : Tg} {own : List Nat} {items : List T} {Q : List T → Env → Prop} {X : String → Env → Prop}
/-- all told alike, nothing changes -/
theorem wp_compA (p : T → Prop) (hs : ∀ x ∈ items, Bd (bindTg tg x (wipeR ρ own)) fun ρ1 => Ex (ev elt ρ1) (fun r ρ3 => Bd r.clean fun t => backR ρ ρ3 own = ρ ∧ p t) fun _ _ => False) (hq : ∀ ts, ts.length = items.length → (∀ t ∈ ts, p t) → Q ts ρ) : Ex (CL elt tg [] own items ρ) Q X := by
  unfold CL
  refine comp_inv (all := items) (fun n ρ' acc => ρ' = ρ ∧ acc.length = n ∧ ∀ t ∈ acc, p t) (fun n ρ' acc x hx ⟨e, hj, hp⟩ => ?_) (fun ρ' acc ⟨e, hj, hp⟩ => ?_) items 0 ρ [] rfl (Nat.zero_le _) ⟨rfl, rfl, by simp⟩
  · subst e
    have s := hs x (List.mem_of_getElem? hx)
    obtain ⟨ρ1, e1, s⟩ := bd_ex.mp s
    rw [e1]
    refine ⟨fun _ => ?_, fun h => nomatch h⟩
    refine s.mono (fun r ρ3 h => ?_) fun _ _ h => h
    obtain ⟨t, e2, h4, h5⟩ := bd_ex.mp h
    refine bd_ex.mpr ⟨t, e2, h4, by simp [hj], fun u hu => ?_⟩
    rcases List.mem_append.mp hu with hu | hu
    · exact hp u hu
    · simp at hu; subst hu; exact h5
  · subst e; exact hq acc hj hp
/-- .. one slot changes -/
theorem wp_compD {β : Type} (i : Nat) (tr : β → T) (b0 : β) (p : T → Prop) (hi : reo ρ i (tr b0) = ρ) (hs : ∀ b, ∀ x ∈ items, Bd (bindTg tg x (wipeR (reo ρ i (tr b)) own)) fun ρ1 => Ex (ev elt ρ1) (fun r ρ3 => Bd r.clean fun t => ∃ b', backR (reo ρ i (tr b)) ρ3 own = reo ρ i (tr b') ∧ p t) fun _ _ => False)
    (hq : ∀ b ts, ts.length = items.length → (∀ t ∈ ts, p t) → Q ts (reo ρ i (tr b))) : Ex (CL elt tg [] own items ρ) Q X := by
  refine wp_comp1 i tr b0 (fun n _ acc => acc.length = n ∧ ∀ t ∈ acc, p t) hi ⟨rfl, by simp⟩ (fun n b acc x hx ⟨hj, hp⟩ => ?_) fun b acc ⟨hj, hp⟩ => hq b acc hj hp
  have s := hs b x (List.mem_of_getElem? hx)
  obtain ⟨ρ1, e1, s⟩ := bd_ex.mp s
  rw [e1]
  refine ⟨fun _ => ?_, fun h => nomatch h⟩
  refine s.mono (fun r ρ3 h => ?_) fun _ _ h => h
  obtain ⟨t, e2, ⟨b', h4, h5⟩⟩ := bd_ex.mp h
  refine bd_ex.mpr ⟨t, e2, b', h4, by simp [hj], fun u hu => ?_⟩
  rcases List.mem_append.mp hu with hu | hu
  · exact hp u hu
  · simp at hu; subst hu; exact h5
end
/-! texts -/
def one? (p : Nat → Prop) (t : T) : Prop := ∃ c, t = .str [c] ∧ p c
theorem ones {p : Nat → Prop} : ∀ {ts : List T}, (∀ t ∈ ts, one? p t) → ∃ cs : List Nat, ts = cs.map (fun c => T.str [c]) ∧ ∀ c ∈ cs, p c
  | [], _ => ⟨[], rfl, by simp⟩
  | t :: ts, h => by
    obtain ⟨c, rfl, hc⟩ := h t (by simp)
    obtain ⟨cs, rfl, hp⟩ := ones fun u hu => h u (List.mem_cons_of_mem _ hu)
    exact ⟨c :: cs, rfl, fun d hd => by rcases List.mem_cons.mp hd with rfl | hd; exact hc; exact hp d hd⟩
theorem strs_ones (cs : List Nat) : strs? (cs.map fun c => T.str [c]) = some (cs.map fun c => [c]) := by induction cs <;> simp_all [strs?]
theorem join_ones (cs : List Nat) : joinL [] (cs.map fun c => [c]) = cs := by
  induction cs with
  | nil => rfl
  | cons c cs ih =>
    cases cs with
    | nil => rfl
    | cons d ds =>
      simp only [List.map_cons, joinL] at ih ⊢
      rw [ih]; rfl
theorem sum_ones (cs : List Nat) : ((cs.map fun c => [c]).map List.length).sum = cs.length := by
  induction cs with
  | nil => rfl
  | cons c cs ih => simp only [List.map_cons, List.sum_cons, ih, List.length_cons, List.length_nil]; omega
theorem join_sem {cs : List Nat} (h : cs.length ≤ 16777216) : Mth.sem .join (.str []) [.lst (cs.map fun c => T.str [c])] = some (.val (.str cs)) := by
  simp only [Mth.sem, strs_ones, Option.bind_some, sum_ones, join_ones, List.length_nil, Nat.mul_zero, Nat.add_zero]
  rw [if_pos h]
theorem cut_len {α : Type} (xs : List α) (l h : Option Int) : (cut xs l h).length ≤ xs.length := by
  unfold cut; rw [List.length_take, List.length_drop]; omega
theorem cut_to {α : Type} (xs : List α) {h : Int} (h0 : 0 ≤ h) : cut xs none (some h) = xs.take h.toNat := by
  unfold cut sIx
  simp only [List.drop_zero, Nat.sub_zero]
  rw [if_neg (by omega)]
  rcases Nat.le_total h.toNat xs.length with z | z
  · rw [Nat.min_eq_left z]
  · rw [Nat.min_eq_right z, List.take_length, List.take_of_length_le z]
theorem cut_from {α : Type} (xs : List α) {l : Int} (h0 : 0 ≤ l) : cut xs (some l) none = xs.drop l.toNat := by
  unfold cut sIx
  simp only
  rw [if_neg (by omega)]
  rcases Nat.le_total l.toNat xs.length with z | z
  · rw [Nat.min_eq_left z, List.take_of_length_le (by simp)]
  · rw [Nat.min_eq_right z]; simp [List.drop_of_length_le z]
theorem cut_mid {α : Type} (xs : List α) {l h : Int} (h0 : 0 ≤ l) (h1 : 0 ≤ h) : cut xs (some l) (some h) = (xs.drop l.toNat).take (h.toNat - l.toNat) := by
  unfold cut sIx
  simp only
  rw [if_neg (by omega), if_neg (by omega)]
  rcases Nat.le_total l.toNat xs.length with z | z
  · rw [Nat.min_eq_left z]
    rcases Nat.le_total h.toNat xs.length with z2 | z2
    · rw [Nat.min_eq_left z2]
    · rw [Nat.min_eq_right z2, List.take_of_length_le (by simp), List.take_of_length_le (by rw [List.length_drop]; omega)]
  · rw [Nat.min_eq_right z, List.drop_of_length_le (Nat.le_refl _), List.drop_of_length_le z]; simp
theorem repL_len {α : Type} (xs : List α) (k : Int) : (repL xs k).length = k.toNat * xs.length := by
  unfold repL
  generalize k.toNat = n
  induction n with
  | zero => simp
  | succ n ih => rw [List.replicate_succ, List.flatten_cons, List.length_append, ih, Nat.succ_mul]; omega
/-! lists of numbers -/
theorem flat_ints (n : Nat) (ns : List Int) : T.flats n (ns.map T.int) = true := by
  induction ns with
  | nil => cases n <;> rfl
  | cons a ns ih => simp only [List.map_cons, T.flats, ih]; cases n <;> rfl
theorem eqv_ints : ∀ (a b : List Int), T.eqvs (a.map T.int) (b.map T.int) = decide (a = b)
  | [], [] => rfl
  | [], _ :: _ => rfl
  | _ :: _, [] => rfl
  | x :: a, y :: b => by
    simp only [List.map_cons, T.eqvs, T.eqv, eqv_ints a b]
    exact Bool.eq_iff_iff.mpr (by simp)
theorem wo_eql {a b : List Int} : Cop.semB .eq (.lst (a.map T.int)) (.lst (b.map T.int)) = some (decide (a = b)) := by
  simp only [Cop.semB, eqOk, T.flat, flat_ints, T.eqv, eqv_ints, Bool.and_self, if_true]
theorem wo_nel {a b : List Int} : Cop.semB .ne (.lst (a.map T.int)) (.lst (b.map T.int)) = some (!decide (a = b)) := by
  simp only [Cop.semB, eqOk, T.flat, flat_ints, T.eqv, eqv_ints, Bool.and_self, if_true]
theorem nats_ints (l : List Nat) : (l.map fun (k : Nat) => T.int (k : Int)) = (l.map fun (k : Nat) => (k : Int)).map T.int := by rw [List.map_map]; rfl
end MP

namespace MP
open PySem PySem.Spec L2
open PyProof.Rows hiding St
/-! ## what the newer expressions, statements are to reach -/
section
variable {Q : R → Env → Prop} {X : String → Env → Prop} {ρ : Env} {N : Env → Prop} {P : SRes → Prop}
theorem ex_spec {k : Spk} {es : List E} : Ex (ev (.spec k es) ρ) Q X ↔ Ex (evs es ρ) (fun rs ρ => Bd ((gets ρ rs).bind k.sem) fun z => Q z ρ) X := by simp only [ev, ex_bind]; exact ex_ext fun _ _ => ex_lift
theorem ex_compK {elt : E} {tg : Tg} {i : Nat} {cond : List E} {own : List (String × Nat)} : Ex (ev (.compK elt tg i cond own) ρ) Q X ↔
    Bd (keysAt ρ i) fun items => Ex (CL elt tg cond (own.map (·.2)) items ρ) (fun ts ρ' => Q (.fresh (.lst ts)) ρ') X := by
  simp only [ev]
  cases keysAt ρ i with
  | none => exact Iff.rfl
  | some items =>
    show Ex ((compLoop tg (own.map (·.2)) (fun ρ => evC cond ρ) (fun ρ => ev elt ρ) items ρ []).bind fun ts ρ' => .ok (.fresh (.lst ts)) ρ') Q X ↔ _
    simp only [ex_bind, bd_some]
    unfold CL
    exact Iff.rfl
theorem sp_aug {i : Nat} {e : E} : Sp (exec (.aug i e) ρ) N P ↔ ∃ a, slotAt ρ i = some (.shr (.int a)) ∧ Ex (ev e ρ) (fun r ρ1 => ∃ b c, r = .val (.int b) ∧ slotAt ρ1 i = some (.shr (.int c)) ∧ Bd (setS ρ1 i (.shr (.int (a + b)))) N) (fun c ρ => P (.exc c ρ)) := by
  simp only [exec]
  cases q : slotAt ρ i with
  | none => exact ⟨fun h => h.elim, fun ⟨_, h, _⟩ => nomatch h⟩
  | some s =>
    cases s with
    | shr t =>
      cases t with
      | int a =>
        simp only [sp_st]
        have k : ∀ r ρ1, Sp (match r, slotAt ρ1 i with
          | R.val (.int b), some (.shr (.int _)) => optS (setS ρ1 i (.shr (.int (a + b))))
          | _, _ => SRes.bad) N P ↔ ∃ b c, r = .val (.int b) ∧ slotAt ρ1 i = some (.shr (.int c)) ∧ Bd (setS ρ1 i (.shr (.int (a + b)))) N := fun r ρ1 => by
          constructor
          · intro h
            split at h
            · rename_i b c e1
              exact ⟨b, _, rfl, e1, sp_opt.mp h⟩
            · exact h.elim
          · rintro ⟨b, c, rfl, e1, h⟩
            rw [e1]
            exact sp_opt.mpr h
        constructor
        · intro h
          exact ⟨a, rfl, (ex_ext k).mp h⟩
        · rintro ⟨a', e, h⟩
          cases e
          exact (ex_ext k).mpr h
      | _ => exact ⟨fun h => h.elim, fun ⟨_, h, _⟩ => nomatch h⟩
    | _ => exact ⟨fun h => h.elim, fun ⟨_, h, _⟩ => nomatch h⟩
theorem sp_forK {tg : Tg} {i : Nat} {b : List S} {fg : List Nat} : Sp (exec (.forK tg i b fg) ρ) N P ↔ Bd (keysAt ρ i) fun items => Sp (FL tg fg b items ρ) N (fun y => (∀ c ρ, y ≠ .exc c ρ) ∧ P y) := by
  simp only [exec]
  cases keysAt ρ i with
  | none => exact Iff.rfl
  | some items =>
    simp only [bd_some]
    unfold FL
    cases forLoop tg fg (fun ρ => execs b ρ) items ρ with
    | exc c ρ => exact ⟨fun h => h.elim, fun h => (h.1 c ρ rfl).elim⟩
    | nx ρ => exact Iff.rfl
    | bad => exact Iff.rfl
    | bk ρ => exact ⟨fun h => ⟨(fun _ _ z => nomatch z), h⟩, fun h => h.2⟩
    | ct ρ => exact ⟨fun h => ⟨(fun _ _ z => nomatch z), h⟩, fun h => h.2⟩
    | rt r ρ => exact ⟨fun h => ⟨(fun _ _ z => nomatch z), h⟩, fun h => h.2⟩
theorem sp_ifT {c : E} {a b : List S} : Sp (exec (.ifs c a b) ρ) N P ↔ Ex (truthR (ev c ρ)) (fun k ρ => (k = true → Sp (execs a ρ) N P) ∧ (k = false → Sp (execs b ρ) N P)) (fun c ρ => P (.exc c ρ)) := sp_ifs
end
/-! ### a def is called -/
def callOk (ios : List Bool) (rs : List R) : Bool := decide (ioIx ios rs).Nodup && (rdIx ios rs).all (fun i => decide (i ∉ ioIx ios rs)) && frOk ios rs
theorem wp_callM {f : Fn} {rs : List R} {ρ : Env} {ts : List T} {Q : R → Env → Prop} {X : String → Env → Prop} {Q0 : T → Bool → List T → Prop} {X0 : String → List T → Prop} (h3 : f.Runs ts Q0 X0) (h1 : callOk f.ios rs = true) (h2 : argT ρ f.imm f.ios rs = some ts)
    (h4 : ∀ t fr outs, Q0 t fr outs → ((rdIx f.ios rs).isEmpty || (t.okR fr && outs.all T.atoms)) = true ∧ Q (if fr then .fresh t else .val t) (putOuts ρ f.ios rs outs))
    (h5 : ∀ c outs, X0 c outs → ((rdIx f.ios rs).isEmpty || outs.all T.atoms) = true ∧ X c (putOuts ρ f.ios rs outs)) : Ex (callRes f rs ρ) Q X := by
  simp only [callOk, Bool.and_eq_true, decide_eq_true_eq, List.all_eq_true] at h1
  exact wp_call ⟨h1.1.1, h1.1.2, h1.2⟩ h2 (h3.mono h4 h5)
theorem wp_callN {f : Fn} {rs : List R} {ρ : Env} {ts : List T} {Q : R → Env → Prop} {X : String → Env → Prop} {Q0 : T → Bool → List T → Prop} (h3 : f.Runs ts Q0 noX) (h1 : callOk f.ios rs = true) (h2 : argT ρ f.imm f.ios rs = some ts)
    (h4 : ∀ t fr outs, Q0 t fr outs → ((rdIx f.ios rs).isEmpty || (t.okR fr && outs.all T.atoms)) = true ∧ Q (if fr then .fresh t else .val t) (putOuts ρ f.ios rs outs)) : Ex (callRes f rs ρ) Q X :=
  wp_callM h3 h1 h2 h4 fun _ _ h => h.elim
/-! ### loops as folds -/
section
variable {N : Env → Prop} {P : SRes → Prop} {ρ : Env}
theorem wp_fold {α β : Type} {tg : Tg} {fg : List Nat} {b : List S} (en : β → Env) (f : β → α → β) (tT : α → T) (as : List α) (s0 : β) (h0 : forgetR ρ fg = en s0)
    (hs : ∀ pre a post, as = pre ++ a :: post → Bd (bindTg tg (tT a) (en (pre.foldl f s0))) fun ρ1 => Sp (execs b ρ1) (fun ρ2 => forgetR ρ2 fg = en (f (pre.foldl f s0) a)) (TurnP (fun ρ2 => forgetR ρ2 fg = en (f (pre.foldl f s0) a)) (fun _ => False) P)) (hq : N (en (as.foldl f s0))) : Sp (FL tg fg b (as.map tT) ρ) N P := by
  refine wp_for en (fun n s => s = (as.take n).foldl f s0) s0 h0 (by simp) (fun n c x hx hc => ?_) fun c hc => ?_
  · subst hc
    rw [List.getElem?_map, Option.map_eq_some_iff] at hx
    obtain ⟨a, ha, rfl⟩ := hx
    obtain ⟨hn, rfl⟩ := List.getElem?_eq_some_iff.mp ha
    have s := hs (as.take n) as[n] (as.drop (n + 1)) (by rw [← List.drop_eq_getElem_cons hn, List.take_append_drop])
    obtain ⟨ρ1, e, s⟩ := bd_ex.mp s
    rw [e]
    have et : (as.take (n + 1)).foldl f s0 = f ((as.take n).foldl f s0) as[n] := by
      rw [List.take_add_one, List.foldl_append, ha]; rfl
    refine s.mono (fun ρ2 h => ⟨_, h, et.symm⟩) fun y h => ?_
    cases y with
    | ct ρ2 => exact ⟨_, h, et.symm⟩
    | bk ρ2 => exact h.elim
    | nx ρ2 => exact h
    | rt r ρ2 => exact h
    | exc c ρ2 => exact h
    | bad => exact h
  · subst hc
    rw [List.length_map, List.take_length]
    exact hq
end
end MP

namespace MP
open PySem PySem.Spec L2
open PyProof.Rows hiding St
/-! ## more small steps, by their shape alone -/
section
variable {ρ : Env} {x : Option Slot} {i j k : Nat} {s : Slot} {t u v : T} {a b c : Int} {p q : List Nat} {z w : Bool} {ts us : List T} {r : R} {rs : List R} {kvs : List (Kt × T)} {Q : R → Env → Prop} {X : String → Env → Prop}
def Slot.wt : Slot → Option T
  | .own t | .io t => some t
  | _ => none
theorem wx_wtb : (Slot.own t).wt = some t := rfl
theorem wx_wtc : (Slot.io t).wt = some t := rfl
theorem wx_mut {m : Mut} : Ex (mutRes m i rs ρ) Q X ↔ Bd ((slotAt ρ i).bind Slot.wt) fun t => Bd (if m.reads then gets ρ rs else cleans rs) fun ts => Bd (m.sem t ts) fun p => Q (.val p.2) (reo ρ i p.1) := by
  unfold mutRes
  cases q : slotAt ρ i with
  | none => exact Iff.rfl
  | some s =>
    cases s with
    | own t =>
      cases q2 : (if m.reads then gets ρ rs else cleans rs) with
      | none => exact Iff.rfl
      | some ts =>
        simp only [Option.bind_some, wx_wtb, bd_some]
        cases q3 : m.sem t ts with
        | none => exact Iff.rfl
        | some p =>
          have : reo ρ i p.1 = ρ.set i (some (.own p.1)) := by simp [reo, q, reown]
          simp only [bd_some, this]
          exact Iff.rfl
    | io t =>
      cases q2 : (if m.reads then gets ρ rs else cleans rs) with
      | none => exact Iff.rfl
      | some ts =>
        simp only [Option.bind_some, wx_wtc, bd_some]
        cases q3 : m.sem t ts with
        | none => exact Iff.rfl
        | some p =>
          have : reo ρ i p.1 = ρ.set i (some (.io p.1)) := by simp [reo, q, reown]
          simp only [bd_some, this]
          exact Iff.rfl
    | shr t => exact Iff.rfl
    | lck t => exact Iff.rfl
theorem wx_mtS {m : Mut} : mutAt (x :: ρ) m (i + 1) = mutAt ρ m i := rfl
theorem wx_mtb {m : Mut} : mutAt (some (.own (.lst ts)) :: ρ) m 0 = !m.dict := by cases m <;> rfl
theorem wx_mtc {m : Mut} : mutAt (some (.io (.lst ts)) :: ρ) m 0 = !m.dict := by cases m <;> rfl
theorem wx_mtd {m : Mut} : mutAt (some (.own (.dct kvs)) :: ρ) m 0 = m.dict := by cases m <;> rfl
theorem wx_mte {m : Mut} : mutAt (some (.io (.dct kvs)) :: ρ) m 0 = m.dict := by cases m <;> rfl
theorem wx_mda : Mut.dict .append = false := rfl
theorem wx_mdb : Mut.dict .extend = false := rfl
theorem wx_mdc : Mut.dict .pop = false := rfl
theorem wx_mdd : Mut.dict .insert = false := rfl
theorem wx_mde : Mut.dict .reverse = false := rfl
theorem wx_mdf : Mut.dict .clear = false := rfl
theorem wx_mdg : Mut.dict .setdefault = true := rfl
theorem wx_re : Mut.reads .extend = true := rfl
theorem wx_ra : Mut.reads .append = false := rfl
theorem wx_rp : Mut.reads .pop = false := rfl
theorem wx_ri : Mut.reads .insert = false := rfl
theorem wx_rr : Mut.reads .reverse = false := rfl
theorem wx_rc : Mut.reads .clear = false := rfl
theorem wx_rs : Mut.reads .setdefault = false := rfl
theorem wx_ma : Mut.sem .append (.lst ts) [t] = if ts.length < 16777216 then some (.lst (ts ++ [t]), .non) else none := rfl
theorem wx_me : Mut.sem .extend (.lst ts) [.lst us] = if ts.length + us.length ≤ 16777216 then some (.lst (ts ++ us), .non) else none := rfl
theorem wx_mp : Mut.sem .pop (.lst ts) [] = (ts[ts.length - 1]?).map fun t => (.lst ts.dropLast, t) := rfl
theorem wx_mi : Mut.sem .pop (.lst ts) [.int a] = if -(2 ^ 63) ≤ a ∧ a < 2 ^ 63 then (pick ts a).map fun t => (.lst (ts.eraseIdx (if 0 ≤ a then a.toNat else (a + ts.length).toNat)), t) else none := rfl
theorem wx_mn : Mut.sem .insert (.lst ts) [.int a, t] = if 0 ≤ a ∧ a < 2 ^ 63 ∧ ts.length < 16777216 then some (.lst (ts.take a.toNat ++ [t] ++ ts.drop a.toNat), .non) else none := rfl
theorem wx_mr : Mut.sem .reverse (.lst ts) [] = some (.lst ts.reverse, .non) := rfl
theorem wx_mc : Mut.sem .clear (.lst ts) [] = some (.lst [], .non) := rfl
theorem wx_ms : Mut.sem .setdefault (.dct kvs) [t, u] = t.k?.bind fun k => match getT kvs k with
    | some t => if kvs.length < 16777216 then some (.dct kvs, t) else none
    | none => if kvs.length < 16777216 then some (.dct (putT kvs k u), u) else none := rfl
theorem wx_ki : T.k? (.int a) = some (.inl a) := rfl
theorem wx_ks : T.k? (.str p) = some (.inr p) := rfl
theorem wx_pd : putSem (.dct kvs) t u = t.k?.bind fun k => if kvs.length < 16777216 then some (.dct (putT kvs k u)) else none := by cases t <;> rfl
theorem wx_pl : putSem (.lst ts) (.int a) u = if 0 ≤ a ∧ a < ts.length then some (.lst (ts.set a.toNat u)) else if -(ts.length : Int) ≤ a ∧ a < 0 then some (.lst (ts.set (a + ts.length).toNat u)) else none := rfl
theorem wx_sdi : subSem (.dct kvs) (.int a) = getT kvs (.inl a) := rfl
theorem wx_sds : subSem (.dct kvs) (.str p) = getT kvs (.inr p) := rfl
theorem wx_inds : Cop.semB .in_ (.str p) (.dct kvs) = some (getT kvs (.inr p)).isSome := by
  show inSem _ _ = _
  unfold getT
  rw [Option.isSome_map]
  match p with
  | [] => rfl
  | [_] => rfl
  | _ :: _ :: _ => rfl
theorem wx_indi : Cop.semB .in_ (.int a) (.dct kvs) = some (getT kvs (.inl a)).isSome := by
  simp only [Cop.semB, inSem, getT, Option.isSome_map]
theorem wx_ninds : Cop.semB .notin (.str p) (.dct kvs) = some (!(getT kvs (.inr p)).isSome) := by
  show (Cop.semB .in_ (.str p) (.dct kvs)).map _ = _
  rw [wx_inds]; rfl
theorem wx_nindi : Cop.semB .notin (.int a) (.dct kvs) = some (!(getT kvs (.inl a)).isSome) := by
  show (Cop.semB .in_ (.int a) (.dct kvs)).map _ = _
  rw [wx_indi]; rfl
theorem hasL_one (s : List Nat) (c : Nat) : hasL s [c] = decide (c ∈ s) := by
  unfold hasL subAtL
  rw [Bool.eq_iff_iff]
  simp only [List.any_eq_true, List.mem_range, decide_eq_true_eq, List.length_singleton]
  constructor
  · rintro ⟨i, hi, h⟩
    have : c ∈ (s.drop i).take 1 := by rw [h]; simp
    exact List.mem_of_mem_drop (List.mem_of_mem_take this)
  · intro h
    obtain ⟨i, hi, e⟩ := List.getElem_of_mem h
    exact ⟨i, by omega, by rw [List.drop_eq_getElem_cons hi, e]; rfl⟩
theorem wx_inss : Cop.semB .in_ (.str p) (.str q) = some (hasL q p) := by
  show inSem _ _ = _
  match p with
  | [] => rfl
  | [c] => simp only [inSem, hasL_one]
  | _ :: _ :: _ => rfl
theorem wx_ninss : Cop.semB .notin (.str p) (.str q) = some (!hasL q p) := by
  show (Cop.semB .in_ (.str p) (.str q)).map _ = _
  rw [wx_inss]; rfl
theorem wx_lts : Cop.semB .lt (.str p) (.str q) = some (decide (p < q)) := rfl
theorem wx_les : Cop.semB .le (.str p) (.str q) = some (!decide (q < p)) := rfl
theorem wx_gts : Cop.semB .gt (.str p) (.str q) = some (decide (q < p)) := rfl
theorem wx_isn : Cop.semB .is_ .non .non = some true := rfl
theorem wx_iss : Cop.semB .is_ (.str p) .non = some false := rfl
theorem wx_isi : Cop.semB .is_ (.int a) .non = some false := rfl
theorem wx_isl : Cop.semB .is_ (.lst ts) .non = some false := rfl
theorem wx_ist : Cop.semB .is_ (.tup ts) .non = some false := rfl
theorem wx_isb : Cop.semB .is_ (.bl z) (.bl w) = some (z == w) := rfl
theorem wx_nsn : Cop.semB .isnot .non .non = some false := rfl
theorem wx_nss : Cop.semB .isnot (.str p) .non = some true := rfl
theorem wx_nsi : Cop.semB .isnot (.int a) .non = some true := rfl
theorem wx_nsl : Cop.semB .isnot (.lst ts) .non = some true := rfl
theorem wx_nst : Cop.semB .isnot (.tup ts) .non = some true := rfl
theorem wx_nsb : Cop.semB .isnot (.bl z) (.bl w) = some (!(z == w)) := rfl
theorem wx_eqb : Cop.semB .eq (.bl z) (.bl w) = some (z == w) := rfl
theorem wx_neb : Cop.semB .ne (.bl z) (.bl w) = some (!(z == w)) := rfl
theorem wx_len : Blt.sem .len [.dct kvs] = some (.val (.int kvs.length)) := rfl
theorem wx_ll : Blt.sem .list [.lst ts] = some (.fresh (.lst ts)) := rfl
theorem wx_lt : Blt.sem .list [.tup ts] = some (.fresh (.lst ts)) := rfl
theorem wx_ld : Blt.sem .list [.dct kvs] = some (.fresh (.lst (keysT kvs))) := rfl
theorem wx_tl : Blt.sem .tuple [.lst ts] = some (.val (.tup ts)) := rfl
theorem wx_tt : Blt.sem .tuple [.tup ts] = some (.val (.tup ts)) := rfl
theorem wx_dd : Blt.sem .dict [.dct kvs] = some (.fresh (.dct kvs)) := rfl
theorem bools_map {α : Type} (f : α → Bool) (as : List α) : bools? (as.map fun x => T.bl (f x)) = some (as.map f) := by
  induction as with
  | nil => rfl
  | cons a as ih => simp only [List.map_cons, bools?, ih, Option.map_some]
theorem ints_map {α : Type} (f : α → Int) (as : List α) : ints? (as.map fun x => T.int (f x)) = some (as.map f) := by
  induction as with
  | nil => rfl
  | cons a as ih => simp only [List.map_cons, ints?, ih, Option.map_some]
theorem strs_map {α : Type} (f : α → List Nat) (as : List α) : strs? (as.map fun x => T.str (f x)) = some (as.map f) := by
  induction as with
  | nil => rfl
  | cons a as ih => simp only [List.map_cons, strs?, ih, Option.map_some]
theorem wx_any {α : Type} {f : α → Bool} {as : List α} : Blt.sem .any [.lst (as.map fun x => T.bl (f x))] = some (.val (.bl (as.any f))) := by
  simp only [Blt.sem, bools_map, Option.map_some, List.any_map]
  rfl
theorem wx_all {α : Type} {f : α → Bool} {as : List α} : Blt.sem .all [.lst (as.map fun x => T.bl (f x))] = some (.val (.bl (as.all f))) := by
  simp only [Blt.sem, bools_map, Option.map_some, List.all_map]
  rfl
theorem wx_sum {α : Type} {f : α → Int} {as : List α} : Blt.sem .sum [.lst (as.map fun x => T.int (f x))] = some (.val (.int (as.map f).sum)) := by
  simp only [Blt.sem, ints_map, Option.map_some]
theorem wx_srti {ns : List Int} : Blt.sem .sorted [.lst (ns.map T.int)] = some (.fresh (.lst ((sortI ns).map T.int))) := by
  simp only [Blt.sem, sortSem, ints?_map, Option.map_some]
theorem strs_no {s : List Nat} {l : List T} : ints? (.str s :: l) = none := rfl
theorem wx_srts {xs : List (List Nat)} : Blt.sem .sorted [.lst (xs.map T.str)] = some (.fresh (.lst ((sortS xs).map T.str))) := by
  cases xs with
  | nil => simp only [Blt.sem, sortSem, List.map_nil, ints?, Option.map_some, sortI, sortS, List.mergeSort_nil]
  | cons x xs =>
    have e : strs? (T.str x :: List.map T.str xs) = some (x :: xs) := by simpa using strs?_map (x :: xs)
    simp only [Blt.sem, sortSem, List.map_cons, strs_no, e, Option.map_some]
/-! texts' methods -/
theorem wx_find : Mth.sem .find (.str p) [.str q] = some (.val (.int (findL p q))) := rfl
theorem wx_starts : Mth.sem .startswith (.str p) [.str q, .int a] = if 0 ≤ a ∧ a < 2 ^ 62 then some (.val (.bl (startsL p q a))) else none := rfl
theorem wx_idxs : Mth.sem .index (.str p) [.str q] = (firstL p q).map fun (i : Nat) => .val (.int (i : Int)) := rfl
theorem wx_get1 : Mth.sem .get (.dct kvs) [t] = t.k?.map fun k => .val ((getT kvs k).getD .non) := by cases t <;> rfl
theorem wx_get2i : Mth.sem .get (.dct kvs) [t, .int a] = t.k?.map fun k => .val ((getT kvs k).getD (.int a)) := by cases t <;> rfl
theorem wx_get2b : Mth.sem .get (.dct kvs) [t, .bl z] = t.k?.map fun k => .val ((getT kvs k).getD (.bl z)) := by cases t <;> rfl
theorem wx_prd : Mth.pre .get (some (.dct kvs)) = true := rfl
theorem wx_prj : Mth.pre .join (some (.str p)) = true := rfl
theorem wx_prf : Mth.pre .find (some (.str p)) = true := rfl
theorem wx_pri : Mth.pre .index (some (.str p)) = true := rfl
theorem wx_prl : Mth.pre .index (some (.lst ts)) = true := rfl
theorem wx_prs : Mth.pre .startswith (some (.str p)) = true := rfl
/-! expressions of more than one node -/
theorem wx_lr1 : Spk.sem .lrange1 [.int a] = if rangeOk 0 a = true then some (.fresh (.lst (rangeT 0 a))) else none := rfl
theorem wx_lr2 : Spk.sem .lrange2 [.int a, .int b] = if rangeOk a b = true then some (.fresh (.lst (rangeT a b))) else none := rfl
theorem wx_mn1 {xs : List (List Nat)} : Spk.sem .minNone [.lst (xs.map T.str)] = some (.val (match minS xs with
    | some m => .str m
    | none => .non)) := by
  simp only [Spk.sem, strs?_map, Option.map_some]
  all_goals (cases minS xs <;> rfl)
theorem wx_ds1 {k : Kt} : Spk.sem .disp [tOfK k, .int a] = some (.fresh (.dct [(k, .int a)])) := by cases k <;> rfl
theorem wx_ds2 : Spk.sem .disp [.str p, .int a] = some (.fresh (.dct [(.inr p, .int a)])) := rfl
theorem wx_ds3 : Spk.sem .disp [.int b, .int a] = some (.fresh (.dct [(.inl b, .int a)])) := rfl
/-! what is walked -/
theorem wx_r2 : iterSem .range [.int a, .int b] = some (rangeT a b) := rfl
theorem wx_r3 : iterSem .range [.int a, .int b, .int (-1)] = if (small62 a && small62 b) = true then some ((List.range (a - b).toNat).map fun (k : Nat) => T.int (a - (k : Int))) else none := by
  simp only [iterSem]
  by_cases h : (small62 a && small62 b) = true <;> simp_all
theorem wx_en : iterSem .enum [.lst ts] = some (ts.zipIdx.map fun p => .tup [.int p.2, p.1]) := rfl
theorem wx_zp : iterSem .zip [.lst ts, .lst us] = some (ts.zipWith (fun t u => .tup [t, u]) us) := rfl
theorem wx_rv : iterSem .reversed [.lst ts] = some ts.reverse := rfl
theorem wx_rr2 : iterSem .revrange [.int a] = if small62 a = true then some (((List.range a.toNat).map fun (k : Nat) => T.int (k : Int)).reverse) else none := rfl
theorem wx_ka0 : keysAt (x :: ρ) (i + 1) = keysAt ρ i := rfl
theorem wx_ka1 : keysAt (some (.shr (.dct kvs)) :: ρ) 0 = if kvs.length ≤ 16777216 then some (keysT kvs) else none := rfl
theorem wx_bt {tgs : List Tg} : bindTg (.t tgs) (.tup ts) ρ = bindTgs tgs ts ρ := by simp only [bindTg]
theorem wx_bt0 : bindTgs [] [] ρ = some ρ := by simp only [bindTgs]
theorem wx_bt1 {g : Tg} {gs : List Tg} : bindTgs (g :: gs) (t :: ts) ρ = (bindTg g t ρ).bind fun ρ => bindTgs gs ts ρ := by simp only [bindTgs]
theorem rangeT_eq : rangeT a b = (List.range (b - a).toNat).map fun (k : Nat) => T.int (a + (k : Int)) := rfl
/-! comprehensions over typed items -/
theorem wp_compM {α : Type} {elt : E} {tg : Tg} {cond : List E} {own : List Nat} {Q : List T → Env → Prop} (f : α → Bool) (g : α → T) (tI : α → T) (as : List α)
    (hs : ∀ x ∈ as, Bd (bindTg tg (tI x) (wipeR ρ own)) fun ρ1 => Ex (evC cond ρ1) (fun c ρ2 => c = f x ∧ (c = true → Ex (ev elt ρ2) (fun r ρ3 => Bd r.clean fun t => backR ρ ρ3 own = ρ ∧ t = g x) fun _ _ => False) ∧ (c = false → backR ρ ρ2 own = ρ)) fun _ _ => False)
    (hq : Q ((as.filter f).map g) ρ) : Ex (CL elt tg cond own (as.map tI) ρ) Q X := by
  unfold CL
  refine comp_inv (all := as.map tI) (fun n ρ' acc => ρ' = ρ ∧ acc = ((as.take n).filter f).map g) (fun n ρ' acc x hx ⟨e, hj⟩ => ?_) (fun ρ' acc ⟨e, hj⟩ => ?_) (as.map tI) 0 ρ [] rfl (Nat.zero_le _) ⟨rfl, rfl⟩
  · subst e hj
    rw [List.getElem?_map, Option.map_eq_some_iff] at hx
    obtain ⟨y, hx, rfl⟩ := hx
    have hm : y ∈ as := List.mem_of_getElem? hx
    have et : as.take (n + 1) = as.take n ++ [y] := by rw [List.take_add_one, hx]; rfl
    have s := hs y hm
    obtain ⟨ρ1, e1, s⟩ := bd_ex.mp s
    rw [e1]
    refine s.mono (fun c ρ2 ⟨h1, h2, h3⟩ => ⟨fun hc => ?_, fun hc => ?_⟩) fun _ _ h => h
    · refine (h2 hc).mono (fun r ρ3 h => ?_) fun _ _ h => h
      obtain ⟨t, e2, h4, h5⟩ := bd_ex.mp h
      refine bd_ex.mpr ⟨t, e2, h4, ?_⟩
      rw [et, List.filter_append, List.map_append, h5]
      simp [← h1, hc]
    · refine ⟨h3 hc, ?_⟩
      rw [et, List.filter_append, List.map_append]
      simp [← h1, hc]
  · subst e hj
    rw [List.length_map, List.take_length]; exact hq
/-- .. all of them -/
theorem wp_compE {α : Type} {elt : E} {tg : Tg} {own : List Nat} {Q : List T → Env → Prop} (g : α → T) (tI : α → T) (as : List α)
    (hs : ∀ x ∈ as, Bd (bindTg tg (tI x) (wipeR ρ own)) fun ρ1 => Ex (ev elt ρ1) (fun r ρ3 => Bd r.clean fun t => backR ρ ρ3 own = ρ ∧ t = g x) fun _ _ => False)
    (hq : Q (as.map g) ρ) : Ex (CL elt tg [] own (as.map tI) ρ) Q X := by
  refine wp_compM (fun _ => true) g tI as (fun x hx => ?_) (by rw [List.filter_eq_self.mpr fun _ _ => rfl]; exact hq)
  obtain ⟨ρ1, e, h⟩ := bd_ex.mp (hs x hx)
  rw [e]
  exact ⟨rfl, fun _ => h, fun h => nomatch h⟩
end
/-! equality of lists of one kind -/
theorem flat_strs (n : Nat) (ns : List (List Nat)) : T.flats n (ns.map T.str) = true := by
  induction ns with
  | nil => rfl
  | cons a ns ih => simp only [List.map_cons, T.flats, ih]; cases n <;> rfl
theorem eqv_strs : ∀ (a b : List (List Nat)), T.eqvs (a.map T.str) (b.map T.str) = decide (a = b)
  | [], [] => rfl
  | [], _ :: _ => rfl
  | _ :: _, [] => rfl
  | x :: a, y :: b => by
    simp only [List.map_cons, T.eqvs, T.eqv, eqv_strs a b]
    rw [Bool.eq_iff_iff]; simp
theorem wx_eqls {a b : List (List Nat)} : Cop.semB .eq (.lst (a.map T.str)) (.lst (b.map T.str)) = some (decide (a = b)) := by
  simp only [Cop.semB, eqOk, T.flat, flat_strs, T.eqv, eqv_strs, Bool.and_self, if_true]
theorem wx_nels {a b : List (List Nat)} : Cop.semB .ne (.lst (a.map T.str)) (.lst (b.map T.str)) = some (!decide (a = b)) := by
  simp only [Cop.semB, eqOk, T.flat, flat_strs, T.eqv, eqv_strs, Bool.and_self, if_true]
end MP

namespace MP
open PySem PySem.Spec L2
open PyProof.Rows hiding St
section
variable {Q : R → Env → Prop} {X : String → Env → Prop} {ρ : Env}
theorem ex_cmp2 {o1 o2 : Cop} {a b c : E} : Ex (ev (.cmp2 o1 o2 a b c) ρ) Q X ↔ Ex (ev a ρ) (fun r ρ => Ex (ev b ρ) (fun q ρ => Bd ((r.get ρ).bind fun t => (q.get ρ).bind fun u => o1.semB t u) fun z =>
    (z = true → Bd q.clean fun u => Ex (ev c ρ) (fun p ρ => Bd ((p.get ρ).bind fun w => o2.semB u w) fun y => Q (.val (.bl y)) ρ) X) ∧ (z = false → Q (.val (.bl false)) ρ)) X) X := by
  simp only [ev, ex_bind]
  refine ex_ext fun r ρ1 => ?_
  simp only [ex_bind]
  refine ex_ext fun q ρ2 => ?_
  cases (r.get ρ2).bind fun t => (q.get ρ2).bind fun u => o1.semB t u with
  | none => exact Iff.rfl
  | some z =>
    cases z with
    | false => exact ⟨fun h => ⟨(fun z => nomatch z), fun _ => h⟩, fun h => h.2 rfl⟩
    | true =>
      have k : Ex (match q.clean with
          | some u => (ev c ρ2).bind fun p ρ => boolR ((p.get ρ).bind fun w => o2.semB u w) ρ
          | none => Res.bad) Q X ↔ Bd q.clean fun u => Ex (ev c ρ2) (fun p ρ => Bd ((p.get ρ).bind fun w => o2.semB u w) fun y => Q (.val (.bl y)) ρ) X := by
        cases q.clean with
        | none => exact Iff.rfl
        | some u =>
          simp only [ex_bind, bd_some]
          exact ex_ext fun _ _ => ex_bool
      exact ⟨fun h => ⟨fun _ => k.mp h, (fun z => nomatch z)⟩, fun h => k.mpr (h.1 rfl)⟩
theorem wx_eqi0 {a : List Int} : Cop.semB .eq (.lst (a.map T.int)) (.lst []) = some (decide (a = [])) := wo_eql (b := [])
theorem wx_nei0 {a : List Int} : Cop.semB .ne (.lst (a.map T.int)) (.lst []) = some (!decide (a = [])) := wo_nel (b := [])
theorem wx_eqs0 {a : List (List Nat)} : Cop.semB .eq (.lst (a.map T.str)) (.lst []) = some (decide (a = [])) := wx_eqls (b := [])
theorem wx_nes0 {a : List (List Nat)} : Cop.semB .ne (.lst (a.map T.str)) (.lst []) = some (!decide (a = [])) := wx_nels (b := [])
theorem wx_eq00 : Cop.semB .eq (.lst []) (.lst []) = some true := rfl
theorem wx_ne00 : Cop.semB .ne (.lst []) (.lst []) = some false := rfl
theorem wx_pk2 {α : Type} {x y z : α} {l : List α} : pick (x :: y :: z :: l) 2 = some z := rfl
theorem wx_ps23 {x y z u : T} : putSem (.lst [x, y, z]) (.int 2) u = some (.lst [x, y, u]) := rfl
theorem wx_lstr {p : List Nat} : Blt.sem .list [.str p] = if p.length ≤ 16777216 then some (.fresh (.lst (p.map fun c => .str [c]))) else none := rfl
theorem wx_srtstr {p : List Nat} : Blt.sem .sorted [.str p] = if p.length ≤ 16777216 then some (.fresh (.lst ((sortS (p.map fun c => [c])).map T.str))) else none := rfl
/-- a comprehension by an invariant over environments en b -/
theorem wp_compS {β : Type} {elt : E} {tg : Tg} {cond : List E} {own : List Nat} {items : List T} {Q : List T → Env → Prop} (en : β → Env) (J : Nat → β → List T → Prop) (b0 : β) (hi : ρ = en b0) (h0 : J 0 b0 [])
    (hs : ∀ n b acc x, items[n]? = some x → J n b acc → Bd (bindTg tg x (wipeR (en b) own)) fun ρ1 => Ex (evC cond ρ1) (fun c ρ2 => (c = true → Ex (ev elt ρ2) (fun r ρ3 => Bd r.clean fun t => ∃ b', backR (en b) ρ3 own = en b' ∧ J (n + 1) b' (acc ++ [t])) fun _ _ => False) ∧
      (c = false → ∃ b', backR (en b) ρ2 own = en b' ∧ J (n + 1) b' acc)) fun _ _ => False)
    (hq : ∀ b acc, J items.length b acc → Q acc (en b)) : Ex (CL elt tg cond own items ρ) Q X := by
  unfold CL
  refine comp_inv (all := items) (fun n ρ' acc => ∃ b, ρ' = en b ∧ J n b acc) (fun n ρ' acc x hx ⟨b, e, hj⟩ => ?_) (fun ρ' acc ⟨b, e, hj⟩ => e ▸ hq b acc hj) items 0 ρ [] rfl (Nat.zero_le _) ⟨b0, hi, h0⟩
  subst e
  exact hs n b acc x hx hj
end
end MP

namespace MP
open PySem PySem.Spec L2
open PyProof.Rows hiding St
/-! ## what the third lot of forms is to reach -/
section
variable {Q : R → Env → Prop} {X : String → Env → Prop} {ρ : Env}
theorem ex_isx {a : E} {cs xs : List String} {tys : List Tn} : Ex (ev (.isx a cs xs tys) ρ) Q X ↔ Ex (ev a ρ) (fun r ρ => Bd ((r.get ρ).bind fun t => isxSem t cs xs tys) fun z => Q (.val (.bl z)) ρ) X := by simp only [ev, ex_bind]; exact ex_ext fun _ _ => ex_bool
theorem ex_cmp3 {o1 o2 o3 : Cop} {a b c d : E} : Ex (ev (.cmp3 o1 o2 o3 a b c d) ρ) Q X ↔ Ex (ev a ρ) (fun r ρ => Ex (ev b ρ) (fun q ρ => Bd ((r.get ρ).bind fun t => (q.get ρ).bind fun u => o1.semB t u) fun z =>
    (z = true → Bd q.clean fun u => Ex (ev c ρ) (fun p ρ => Bd ((p.get ρ).bind fun w => o2.semB u w) fun y =>
      (y = true → Bd p.clean fun w => Ex (ev d ρ) (fun s ρ => Bd ((s.get ρ).bind fun v => o3.semB w v) fun x => Q (.val (.bl x)) ρ) X) ∧ (y = false → Q (.val (.bl false)) ρ)) X) ∧ (z = false → Q (.val (.bl false)) ρ)) X) X := by
  simp only [ev, ex_bind]
  refine ex_ext fun r ρ1 => ?_
  simp only [ex_bind]
  refine ex_ext fun q ρ2 => ?_
  cases (r.get ρ2).bind fun t => (q.get ρ2).bind fun u => o1.semB t u with
  | none => exact Iff.rfl
  | some z =>
    cases z with
    | false => exact ⟨fun h => ⟨(fun z => nomatch z), fun _ => h⟩, fun h => h.2 rfl⟩
    | true =>
      refine Iff.trans ?_ (show _ ↔ ((true = true → _) ∧ (true = false → _)) from ⟨fun h => ⟨fun _ => h, fun z => nomatch z⟩, fun h => h.1 rfl⟩)
      cases q.clean with
      | none => exact Iff.rfl
      | some u =>
        simp only [ex_bind, bd_some]
        refine ex_ext fun p ρ3 => ?_
        cases (p.get ρ3).bind fun w => o2.semB u w with
        | none => exact Iff.rfl
        | some y =>
          cases y with
          | false => exact ⟨fun h => ⟨(fun z => nomatch z), fun _ => h⟩, fun h => h.2 rfl⟩
          | true =>
            refine Iff.trans ?_ (show _ ↔ ((true = true → _) ∧ (true = false → _)) from ⟨fun h => ⟨fun _ => h, fun z => nomatch z⟩, fun h => h.1 rfl⟩)
            cases p.clean with
            | none => exact Iff.rfl
            | some w =>
              simp only [ex_bind, bd_some]
              exact ex_ext fun _ _ => ex_bool
/-- what a try's body is to reach -/
def TX (i : Option Nat) (h : List S) (xs : List String) (N : Env → Prop) (P : SRes → Prop) (y : SRes) : Prop := match y with
  | .exc c ρ1 => c ∈ xs ∧ Bd (trySet i c ρ1) fun ρ2 => Sp (execs h ρ2) (fun ρ3 => N (match i with
    | some j => ρ3.set j none
    | none => ρ3)) (fun y => ∃ r ρ, y = .rt r ρ ∧ P y)
  | y => P y
variable {N : Env → Prop} {P : SRes → Prop} {i : Option Nat} {h b : List S} {xs : List String}
theorem sp_tryx : Sp (exec (.tryx b i h xs) ρ) N P ↔ Sp (execs b ρ) N (TX i h xs N P) := by
  simp only [exec]
  cases execs b ρ with
  | nx ρ1 => exact Iff.rfl
  | bk ρ1 => exact Iff.rfl
  | ct ρ1 => exact Iff.rfl
  | rt r ρ1 => exact Iff.rfl
  | bad => exact Iff.rfl
  | exc c ρ1 =>
    show Sp (if c ∈ xs then (match trySet i c ρ1 with
      | some ρ2 => tryEnd i (execs h ρ2)
      | none => .bad) else .bad) N P ↔ c ∈ xs ∧ Bd (trySet i c ρ1) fun ρ2 => Sp (execs h ρ2) _ _
    split
    · rename_i hc
      refine Iff.trans ?_ (show _ ↔ _ from ⟨fun h => ⟨hc, h⟩, fun h => h.2⟩)
      cases trySet i c ρ1 with
      | none => exact Iff.rfl
      | some ρ2 =>
        simp only [bd_some]
        cases execs h ρ2 with
        | nx ρ3 => exact Iff.rfl
        | rt r ρ3 => exact ⟨fun h => ⟨_, _, rfl, h⟩, fun ⟨_, _, e, h⟩ => h⟩
        | bk ρ3 => exact ⟨fun h => h.elim, fun ⟨_, _, e, h⟩ => nomatch e⟩
        | ct ρ3 => exact ⟨fun h => h.elim, fun ⟨_, _, e, h⟩ => nomatch e⟩
        | exc c ρ3 => exact ⟨fun h => h.elim, fun ⟨_, _, e, h⟩ => nomatch e⟩
        | bad => exact Iff.rfl
    · rename_i hc; exact ⟨fun h => h.elim, fun h => hc h.1⟩
theorem tx_rt {r : R} : TX i h xs N P (.rt r ρ) ↔ P (.rt r ρ) := Iff.rfl
theorem tx_exS {j : Nat} {c : String} : TX (some j) h xs N P (.exc c ρ) ↔ c ∈ xs ∧ Bd (setS ρ j (.shr (.exc c))) fun ρ2 => Sp (execs h ρ2) (fun ρ3 => N (ρ3.set j none)) (fun y => ∃ r ρ, y = .rt r ρ ∧ P y) := Iff.rfl
theorem tx_exN {c : String} : TX none h xs N P (.exc c ρ) ↔ c ∈ xs ∧ Sp (execs h ρ) N (fun y => ∃ r ρ, y = .rt r ρ ∧ P y) := Iff.rfl
theorem tx_q {r : R} : (∃ r' ρ', SRes.rt r ρ = .rt r' ρ' ∧ P (.rt r ρ)) ↔ P (.rt r ρ) := ⟨fun ⟨_, _, _, h⟩ => h, fun h => ⟨_, _, rfl, h⟩⟩
end
section
variable {c : String} {cs xs : List String} {tys : List Tn} {z : Bool} {a : Int} {p q : List Nat} {ts : List T}
theorem wx_ixe : isxSem (.exc c) cs xs tys = if c ∈ xs then some (cs.any (subX c)) else none := rfl
theorem wx_ixn : isxSem .non cs xs tys = if Tn.non ∈ tys then some false else none := rfl
theorem wx_ixl : isxSem (.lst ts) cs xs tys = if Tn.list ∈ tys then some false else none := rfl
theorem wx_ixt : isxSem (.tup ts) cs xs tys = if Tn.tuple ∈ tys then some false else none := rfl
theorem wx_ixs : isxSem (.str p) cs xs tys = if Tn.str ∈ tys then some false else none := rfl
theorem wx_ixi : isxSem (.int a) cs xs tys = if Tn.int ∈ tys then some false else none := rfl
theorem wx_ixb : isxSem (.bl z) cs xs tys = if Tn.bool ∈ tys then some false else none := rfl
theorem wx_ise : Cop.semB .is_ (.exc c) .non = some false := rfl
theorem wx_nse : Cop.semB .isnot (.exc c) .non = some true := rfl
theorem wx_prc : Mth.pre .count (some (.lst ts)) = true := rfl
theorem wx_pre : Mth.pre .endswith (some (.str p)) = true := rfl
theorem wx_cnt {t : T} : Mth.sem .count (.lst ts) [t] = if ((t.flat 28) && (T.flats 28 ts)) = true then some (.val (.int (countT ts t : Nat))) else none := rfl
theorem wx_ends : Mth.sem .endswith (.str p) [.str q] = some (.val (.bl (endsL p q))) := rfl
theorem wx_cnts {xs : List (List Nat)} : Mth.sem .count (.lst (xs.map T.str)) [.str p] = some (.val (.int (xs.count p : Nat))) := by
  rw [wx_cnt, flat_strs]
  have e : countT (xs.map T.str) (.str p) = xs.count p := by
    unfold countT
    rw [List.countP_map]
    exact List.countP_congr fun x _ => by simp [T.eqv]
  rw [e]; rfl
theorem setS_cons {x : List Nat} {xs : List (List Nat)} : setItems (.lst ((x :: xs).map T.str)) = some (.inr (x :: xs)) := by
  have h := strs_map (fun x => x) (x :: xs)
  have h : strs? ((x :: xs).map T.str) = some (x :: xs) := by simpa using h
  simp only [setItems]
  rw [show ints? ((x :: xs).map T.str) = none from rfl, h]; rfl
theorem setI_all {ns : List Int} : setItems (.lst (ns.map T.int)) = some (.inl ns) := by
  have h := ints_map (fun x => x) ns
  have h : ints? (ns.map T.int) = some ns := by simpa using h
  simp only [setItems]
  rw [h]
/-- a set's items in order -/
theorem wx_sets {xs : List (List Nat)} : Spk.sem .sortset [.lst (xs.map T.str)] = if xs.length < 4095 then some (.fresh (.lst ((sortS (onceS xs)).map T.str))) else none := by
  cases xs with
  | nil => simp [Spk.sem, setItems, ints?, onceI, onceS, sortI, sortS]
  | cons x xs => simp only [Spk.sem, setS_cons, Option.bind_some]
theorem wx_seti {ns : List Int} : Spk.sem .sortset [.lst (ns.map T.int)] = if ns.length < 4095 then some (.fresh (.lst ((sortI (onceI ns)).map T.int))) else none := by
  simp only [Spk.sem, setI_all, Option.bind_some]
theorem wx_setx : Spk.sem .sortset [.str p] = if p.length < 4095 then some (.fresh (.lst ((sortS (onceS (p.map fun c => [c]))).map T.str))) else none := by
  simp only [Spk.sem, setItems, Option.bind_some, List.length_map]
theorem wx_lset {xs : List (List Nat)} : Spk.sem .lenset [.lst (xs.map T.str)] = if xs.length < 4095 then some (.val (.int (onceS xs).length)) else none := by
  cases xs with
  | nil => simp [Spk.sem, setItems, ints?, onceI, onceS]
  | cons x xs => simp only [Spk.sem, setS_cons, Option.bind_some]
theorem wx_lseti {ns : List Int} : Spk.sem .lenset [.lst (ns.map T.int)] = if ns.length < 4095 then some (.val (.int (onceI ns).length)) else none := by
  simp only [Spk.sem, setI_all, Option.bind_some]
theorem wx_lsetx : Spk.sem .lenset [.str p] = if p.length < 4095 then some (.val (.int (onceS (p.map fun c => [c])).length)) else none := by
  simp only [Spk.sem, setItems, Option.bind_some, List.length_map]
theorem onceI_mem {l : List Int} {x : Int} : x ∈ onceI l ↔ x ∈ l := by
  induction l with
  | nil => simp [onceI]
  | cons y l ih =>
    simp only [onceI, List.mem_cons, List.mem_filter, decide_eq_true_eq, ih]
    constructor
    · rintro (h | h); exact .inl h; exact .inr h.1
    · rintro (h | h)
      · exact .inl h
      · by_cases e : x = y
        · exact .inl e
        · exact .inr ⟨h, e⟩
theorem onceS_mem {l : List (List Nat)} {x : List Nat} : x ∈ onceS l ↔ x ∈ l := by
  induction l with
  | nil => simp [onceS]
  | cons y l ih =>
    simp only [onceS, List.mem_cons, List.mem_filter, decide_eq_true_eq, ih]
    constructor
    · rintro (h | h); exact .inl h; exact .inr h.1
    · rintro (h | h)
      · exact .inl h
      · by_cases e : x = y
        · exact .inl e
        · exact .inr ⟨h, e⟩
theorem onceI_nd (l : List Int) : (onceI l).Nodup := by
  induction l with
  | nil => exact List.nodup_nil
  | cons y l ih => simp only [onceI, List.nodup_cons, List.mem_filter, decide_eq_true_eq]; exact ⟨fun h => h.2 rfl, ih.filter _⟩
theorem onceS_nd (l : List (List Nat)) : (onceS l).Nodup := by
  induction l with
  | nil => exact List.nodup_nil
  | cons y l ih => simp only [onceS, List.nodup_cons, List.mem_filter, decide_eq_true_eq]; exact ⟨fun h => h.2 rfl, ih.filter _⟩
theorem onceI_len (l : List Int) : (onceI l).length ≤ l.length := by
  induction l with
  | nil => simp [onceI]
  | cons y l ih => simp only [onceI, List.length_cons]; have := List.length_filter_le (fun z => decide (z ≠ y)) (onceI l); omega
theorem onceS_len (l : List (List Nat)) : (onceS l).length ≤ l.length := by
  induction l with
  | nil => simp [onceS]
  | cons y l ih => simp only [onceS, List.length_cons]; have := List.length_filter_le (fun z => decide (z ≠ y)) (onceS l); omega
end
theorem wx_mno {xs : List (List Nat)} : Spk.sem .minOf [.lst (xs.map T.str)] = (minS xs).map fun m => .val (.str m) := by
  have h := strs_map (fun x => x) xs
  have h : strs? (xs.map T.str) = some xs := by simpa using h
  simp only [Spk.sem, h, Option.bind_some]
/-! classes -/
section
variable {K : PySem.W.Frag} {D D' : Addr} {b : Bool}
theorem kit_cl (hd : PySem.W.hasDictIn K D' = true) (ht : PySem.W.typeIn K (.ref D') = some (.type "type")) {t : Value} (hs : PySem.W.subIn K t (.ref D') = some b) : PySem.W.kitCls K t (.ref D') = some b := by
  have hc : (PySem.W.clsIn K D').isSome = true := by
    unfold PySem.W.hasDictIn at hd
    cases e : PySem.W.clsIn K D' with
    | none => rw [e] at hd; cases hd
    | some c => rfl
  unfold PySem.W.kitCls
  simp only
  rw [hc, ht, if_pos (by rfl)]
  exact hs
theorem kit_self : PySem.W.kitOne K (.ref D) (.ref D) = some true := by unfold PySem.W.kitOne; rw [if_pos (by simp)]
theorem kit_true (hd : PySem.W.hasDictIn K D' = true) (ht : PySem.W.typeIn K (.ref D') = some (.type "type")) (hs : PySem.W.subIn K (.ref D) (.ref D') = some true) : PySem.W.kitOne K (.ref D) (.ref D') = some true := by
  unfold PySem.W.kitOne; split
  · rfl
  · exact kit_cl hd ht hs
theorem kit_false (hd : PySem.W.hasDictIn K D' = true) (ht : PySem.W.typeIn K (.ref D') = some (.type "type")) (hs : PySem.W.subIn K (.ref D) (.ref D') = some false) (h1 : PySem.W.subIn K (.ref D) (.ref D) = some true) : PySem.W.kitOne K (.ref D) (.ref D') = some false := by
  unfold PySem.W.kitOne; split
  · rename_i h
    have : D = D' := by simpa using h
    subst this; rw [h1] at hs; cases hs
  · exact kit_cl hd ht hs
theorem kit_ve (hs : PySem.W.subIn K (.ref D) (.type "ValueError") = some true) : PySem.W.kitOne K (.ref D) (.type "ValueError") = some true := by
  unfold PySem.W.kitOne; split
  · rfl
  · unfold PySem.W.kitCls
    simp only
    rw [if_pos (by decide +kernel)]; exact hs
theorem kit_tyc {y : String} (hd : PySem.W.hasDictIn K D' = true) (ht : PySem.W.typeIn K (.ref D') = some (.type "type")) (hs : PySem.W.subIn K (.type y) (.ref D') = some false) : PySem.W.kitOne K (.type y) (.ref D') = some false := by
  unfold PySem.W.kitOne
  rw [if_neg (by simp)]
  exact kit_cl hd ht hs
end
/-! loops over typed items -/
section
variable {N : Env → Prop} {P : SRes → Prop} {ρ : Env}
theorem wp_forR {β : Type} {tg : Tg} {fg : List Nat} {b : List S} {m : Nat} {tT : Nat → T} (en : β → Env) (J : Nat → β → Prop) (b0 : β) (h0 : forgetR ρ fg = en b0) (hJ : J 0 b0)
    (hs : ∀ n c, n < m → J n c → Bd (bindTg tg (tT n) (en c)) fun ρ1 => Sp (execs b ρ1) (fun ρ2 => ∃ c', forgetR ρ2 fg = en c' ∧ J (n + 1) c') (TurnP (fun ρ2 => ∃ c', forgetR ρ2 fg = en c' ∧ J (n + 1) c') (fun ρ2 => N (forgetR ρ2 fg)) P))
    (hq : ∀ c, J m c → N (en c)) : Sp (FL tg fg b ((List.range m).map tT) ρ) N P := by
  refine wp_for en J b0 h0 hJ (fun n c x hx hc => ?_) fun c hc => hq c (by simpa using hc)
  rw [List.getElem?_map, Option.map_eq_some_iff] at hx
  obtain ⟨a, ha, rfl⟩ := hx
  obtain ⟨hl, rfl⟩ := List.getElem?_eq_some_iff.mp ha
  rw [List.getElem_range]
  exact hs n c (by simpa using hl) hc
theorem wp_forR0 {β : Type} {tg : Tg} {fg : List Nat} {b : List S} {m : Nat} {tT : Nat → T} (en : β → Env) (J : Nat → β → Prop) (b0 : β) (h0 : forgetR ρ fg = en b0) (hJ : J 0 b0)
    (hs : ∀ n c, n < m → J n c → Bd (bindTg tg (tT n) (en c)) fun ρ1 => Sp (execs b ρ1) (fun ρ2 => ∃ c', forgetR ρ2 fg = en c' ∧ J (n + 1) c') (fun _ => False))
    (hq : ∀ c, J m c → N (en c)) : Sp (FL tg fg b ((List.range m).map tT) ρ) N P := by
  refine wp_forR en J b0 h0 hJ (fun n c hn hj => ?_) hq
  have s := hs n c hn hj
  obtain ⟨ρ1, e, s⟩ := bd_ex.mp s
  rw [e]
  exact s.mono (fun _ z => z) fun _ z => z.elim
theorem wp_forA {α β : Type} {tg : Tg} {fg : List Nat} {b : List S} {as : List α} {tT : α → T} (en : β → Env) (J : Nat → β → Prop) (b0 : β) (h0 : forgetR ρ fg = en b0) (hJ : J 0 b0)
    (hs : ∀ n c (hn : n < as.length), J n c → Bd (bindTg tg (tT as[n]) (en c)) fun ρ1 => Sp (execs b ρ1) (fun ρ2 => ∃ c', forgetR ρ2 fg = en c' ∧ J (n + 1) c') (TurnP (fun ρ2 => ∃ c', forgetR ρ2 fg = en c' ∧ J (n + 1) c') (fun ρ2 => N (forgetR ρ2 fg)) P))
    (hq : ∀ c, J as.length c → N (en c)) : Sp (FL tg fg b (as.map tT) ρ) N P := by
  refine wp_for en J b0 h0 hJ (fun n c x hx hc => ?_) fun c hc => hq c (by simpa using hc)
  rw [List.getElem?_map, Option.map_eq_some_iff] at hx
  obtain ⟨a, ha, rfl⟩ := hx
  obtain ⟨hl, rfl⟩ := List.getElem?_eq_some_iff.mp ha
  exact hs n c hl hc
theorem wp_forA0 {α β : Type} {tg : Tg} {fg : List Nat} {b : List S} {as : List α} {tT : α → T} (en : β → Env) (J : Nat → β → Prop) (b0 : β) (h0 : forgetR ρ fg = en b0) (hJ : J 0 b0)
    (hs : ∀ n c (hn : n < as.length), J n c → Bd (bindTg tg (tT as[n]) (en c)) fun ρ1 => Sp (execs b ρ1) (fun ρ2 => ∃ c', forgetR ρ2 fg = en c' ∧ J (n + 1) c') (fun _ => False))
    (hq : ∀ c, J as.length c → N (en c)) : Sp (FL tg fg b (as.map tT) ρ) N P := by
  refine wp_forA en J b0 h0 hJ (fun n c hn hj => ?_) hq
  have s := hs n c hn hj
  obtain ⟨ρ1, e, s⟩ := bd_ex.mp s
  rw [e]
  exact s.mono (fun _ z => z) fun _ z => z.elim
end
/-! least texts -/
theorem minS_some {xs : List (List Nat)} {m : List Nat} : minS xs = some m ↔ m ∈ xs ∧ ∀ y ∈ xs, ¬ y < m := by
  have lt_tr : ∀ {a b c : List Nat}, a < b → b < c → a < c := fun h1 h2 => List.lt_trans h1 h2
  have tri : ∀ a b : List Nat, ¬ a < b → ¬ b < a → a = b := fun a b h1 h2 => by
    rcases natL_tri a b with h | h | h
    · exact absurd h h1
    · exact h
    · exact absurd h h2
  have ntr : ∀ {a b c : List Nat}, ¬ b < a → ¬ c < b → ¬ c < a := fun {a b c} h1 h2 h => by
    rcases natL_tri b c with q | q | q
    · exact h1 (lt_tr q h)
    · subst q; exact h1 h
    · exact h2 q
  have irr : ∀ a : List Nat, ¬ a < a := fun a h => List.lt_irrefl a h
  have go : ∀ (r : List (List Nat)) (x : List Nat), (r.foldl (fun m y => if y < m then y else m) x) ∈ x :: r ∧ ∀ y ∈ x :: r, ¬ y < r.foldl (fun m y => if y < m then y else m) x := by
    intro r
    induction r with
    | nil => intro x; exact ⟨by simp, fun y hy => by simp at hy; subst hy; exact irr _⟩
    | cons y r ih =>
      intro x
      simp only [List.foldl_cons]
      split
      · rename_i h
        obtain ⟨i1, i2⟩ := ih y
        refine ⟨List.mem_cons_of_mem _ i1, fun z hz => ?_⟩
        rcases List.mem_cons.mp hz with rfl | hz
        · exact fun q => i2 y (by simp) (lt_tr h q)
        · exact i2 z hz
      · rename_i h
        obtain ⟨i1, i2⟩ := ih x
        refine ⟨by rcases List.mem_cons.mp i1 with e | e
                   · rw [e]; simp
                   · exact List.mem_cons_of_mem _ (List.mem_cons_of_mem _ e), fun z hz => ?_⟩
        rcases List.mem_cons.mp hz with rfl | hz
        · exact i2 z (by simp)
        · rcases List.mem_cons.mp hz with rfl | hz
          · exact ntr (i2 x (by simp)) h
          · exact i2 z (List.mem_cons_of_mem _ hz)
  cases xs with
  | nil => simp [minS]
  | cons x r =>
    obtain ⟨g1, g2⟩ := go r x
    simp only [minS, Option.some.injEq]
    constructor
    · rintro rfl; exact ⟨g1, g2⟩
    · rintro ⟨h1, h2⟩; exact tri _ _ (h2 _ g1) (g2 _ h1)
theorem minS_none {xs : List (List Nat)} : minS xs = none ↔ xs = [] := by cases xs <;> simp [minS]
theorem minS_congr {xs ys : List (List Nat)} (h : ∀ x, x ∈ xs ↔ x ∈ ys) : minS xs = minS ys := by
  cases e : minS xs with
  | none =>
    rw [minS_none] at e; subst e
    have : ys = [] := List.eq_nil_iff_forall_not_mem.mpr fun x hx => by simpa using (h x).mpr hx
    rw [this]; rfl
  | some m =>
    obtain ⟨h1, h2⟩ := minS_some.mp e
    exact (minS_some.mpr ⟨(h m).mp h1, fun y hy => h2 y ((h y).mpr hy)⟩).symm
theorem rd_ok {b fr : Bool} {t : T} {outs : List T} (h : t.atom = true) (h2 : outs.all T.atoms = true) : (b || (t.okR fr && outs.all T.atoms)) = true := by rw [T.okR, h, h2]; simp
theorem rd_okF {b : Bool} {t : T} {outs : List T} (h : t.atoms = true) (h2 : outs.all T.atoms = true) : (b || (t.okR true && outs.all T.atoms)) = true := by rw [T.okR, h, h2]; simp
theorem atoms_ints (ns : List Int) : (T.lst (ns.map T.int)).atoms = true := by simp only [T.atoms, List.all_map]; exact List.all_eq_true.mpr fun _ _ => rfl
theorem atoms_strs (ws : List (List Nat)) : (T.lst (ws.map T.str)).atoms = true := by simp only [T.atoms, List.all_map]; exact List.all_eq_true.mpr fun _ _ => rfl
def optW : Option (List Nat) → T
  | some w => .str w
  | none => .non
theorem optW_atom (o : Option (List Nat)) : (optW o).atom = true := by cases o <;> rfl
def optT : Option Nat → T
  | some p => .int p
  | none => .non
theorem optT_atom (o : Option Nat) : (optT o).atom = true := by cases o <;> rfl
theorem rangeTn {a : Int} (n : Nat) (h : a = (n : Int)) : rangeT 0 a = (List.range n).map fun (k : Nat) => T.int (k : Int) := by
  subst h; rw [rangeT_eq]; simp
section
variable {o o2 : Option (List Nat)} {n n2 : Option Nat}
theorem wx_isow : Cop.semB .is_ (optW o) .non = some o.isNone := by cases o <;> rfl
theorem wx_nsow : Cop.semB .isnot (optW o) .non = some o.isSome := by cases o <;> rfl
theorem wx_isot : Cop.semB .is_ (optT n) .non = some n.isNone := by cases n <;> rfl
theorem wx_nsot : Cop.semB .isnot (optT n) .non = some n.isSome := by cases n <;> rfl
theorem wx_eqow : Cop.semB .eq (optW o) (optW o2) = some (decide (o = o2)) := by
  cases o <;> cases o2 <;> simp [Cop.semB, eqOk, optW, T.flat, T.eqv]
  rename_i a b
  by_cases h : a = b <;> simp [h]
theorem wx_neow : Cop.semB .ne (optW o) (optW o2) = some (!decide (o = o2)) := by
  cases o <;> cases o2 <;> simp [Cop.semB, eqOk, optW, T.flat, T.eqv]
  rename_i a b
  by_cases h : a = b <;> simp [h]
theorem wx_eqot : Cop.semB .eq (optT n) (optT n2) = some (decide (n = n2)) := by
  cases n <;> cases n2 <;> simp [Cop.semB, eqOk, optT, T.flat, T.eqv]
  rename_i a b
  by_cases h : a = b <;> simp [h] <;> omega
theorem wx_neot : Cop.semB .ne (optT n) (optT n2) = some (!decide (n = n2)) := by
  cases n <;> cases n2 <;> simp [Cop.semB, eqOk, optT, T.flat, T.eqv]
  rename_i a b
  by_cases h : a = b <;> simp [h] <;> omega
end
section
variable {a : Int} {ns : List Int} {p : List Nat} {xs : List (List Nat)}
theorem flat_intsT (n : Nat) (ns : List Int) : T.flats n (ns.map T.int) = true := by
  induction ns with
  | nil => cases n <;> rfl
  | cons x l ih => simp only [List.map_cons, T.flats, T.flat, ih, Bool.and_self]
theorem wx_inli : Cop.semB .in_ (.int a) (.lst (ns.map T.int)) = some (decide (a ∈ ns)) := by
  simp only [Cop.semB, inSem, flat_intsT, T.flat, Bool.and_self, if_true, List.any_map]
  congr 1
  rw [Bool.eq_iff_iff, List.any_eq_true, decide_eq_true_eq]
  exact ⟨fun ⟨x, hx, h⟩ => by simp [T.eqv] at h; exact h ▸ hx, fun h => ⟨a, h, by simp [T.eqv]⟩⟩
theorem wx_ninli : Cop.semB .notin (.int a) (.lst (ns.map T.int)) = some (!decide (a ∈ ns)) := by
  have h := wx_inli (a := a) (ns := ns)
  simp only [Cop.semB] at h ⊢
  rw [h]; rfl
theorem wx_insl : Cop.semB .in_ (.str p) (.lst (xs.map T.str)) = some (decide (p ∈ xs)) := by
  have e : Cop.semB .in_ (.str p) (.lst (xs.map T.str)) = if ((T.str p).flat 28) && (T.flats 28 (xs.map T.str)) then some ((xs.map T.str).any fun u => T.eqv u (.str p)) else none := by
    rcases p with _ | ⟨c, _ | ⟨d, r⟩⟩ <;> rfl
  rw [e]
  simp only [ flat_strs, T.flat, Bool.and_self, if_true, List.any_map]
  congr 1
  rw [Bool.eq_iff_iff, List.any_eq_true, decide_eq_true_eq]
  exact ⟨fun ⟨x, hx, h⟩ => by simp [T.eqv] at h; exact h ▸ hx, fun h => ⟨p, h, by simp [T.eqv]⟩⟩
theorem wx_ninsl : Cop.semB .notin (.str p) (.lst (xs.map T.str)) = some (!decide (p ∈ xs)) := by
  have h := wx_insl (p := p) (xs := xs)
  simp only [Cop.semB] at h ⊢
  rw [h]; rfl
end
theorem cut_erase {α : Type} {xs : List α} {i : Int} (h0 : 0 ≤ i) : cut xs none (some i) ++ cut xs (some (i + 1)) none = xs.eraseIdx i.toNat := by
  rw [cut_to _ h0, cut_from _ (by omega), List.eraseIdx_eq_take_drop_succ]
  rw [show (i + 1).toNat = i.toNat + 1 by omega]
theorem cut_le {α : Type} (xs : List α) (a b : Option Int) : (cut xs a b).length ≤ xs.length := by
  unfold cut; rw [List.length_take, List.length_drop]; omega
theorem erase_map {α β : Type} (f : α → β) : ∀ (l : List α) (i : Nat), (l.map f).eraseIdx i = (l.eraseIdx i).map f
  | [], i => by simp
  | a :: l, 0 => by simp
  | a :: l, i + 1 => by simp [erase_map f l i]
theorem pick_ok {α : Type} {xs : List α} {i : Int} (h0 : 0 ≤ i) (h1 : i < xs.length) : pick xs i = some (xs[i.toNat]'(by omega)) := by
  unfold pick
  rw [if_pos h0]
  exact List.getElem?_eq_getElem _
theorem cut_map {α β : Type} (f : α → β) (xs : List α) (a b : Option Int) : cut (xs.map f) a b = (cut xs a b).map f := by
  unfold cut; simp only [List.length_map, List.map_take, List.map_drop]
theorem put_map {α : Type} (f : α → T) {xs : List α} {i : Int} (x : α) (h0 : 0 ≤ i) (h1 : i < xs.length) : putSem (.lst (xs.map f)) (.int i) (f x) = some (.lst ((xs.set i.toNat x).map f)) := by
  rw [wx_pl, if_pos ⟨h0, by rw [List.length_map]; exact h1⟩, List.map_set]
theorem maps_of {α : Type} {f : α → T} {P : α → Prop} : ∀ {ts : List T}, (∀ t ∈ ts, ∃ a, t = f a ∧ P a) → ∃ as : List α, ts = as.map f ∧ ∀ a ∈ as, P a
  | [], _ => ⟨[], rfl, by simp⟩
  | t :: r, h => by
    obtain ⟨a, rfl, ha⟩ := h t (.head _)
    obtain ⟨as, rfl, hs⟩ := maps_of fun t m => h t (.tail _ m)
    exact ⟨a :: as, rfl, fun x m => by (rcases List.mem_cons.mp m with rfl | m) <;> first | exact ha | exact hs x m⟩
theorem wx_isiow {o : Option (List Nat)} : isiSem (optW o) [.str] = some o.isSome := by cases o <;> rfl
theorem wx_isiot {o : Option Nat} : isiSem (optT o) [.int] = some o.isSome := by cases o <;> rfl
theorem wx_ia00 : ([Tn.non].any fun b => Tn.non.isa b) = true := rfl
theorem wx_ia01 : ([Tn.bool].any fun b => Tn.non.isa b) = false := rfl
theorem wx_ia02 : ([Tn.int].any fun b => Tn.non.isa b) = false := rfl
theorem wx_ia03 : ([Tn.str].any fun b => Tn.non.isa b) = false := rfl
theorem wx_ia04 : ([Tn.list].any fun b => Tn.non.isa b) = false := rfl
theorem wx_ia05 : ([Tn.tuple].any fun b => Tn.non.isa b) = false := rfl
theorem wx_ia06 : ([Tn.dict].any fun b => Tn.non.isa b) = false := rfl
theorem wx_ia10 : ([Tn.non].any fun b => Tn.bool.isa b) = false := rfl
theorem wx_ia11 : ([Tn.bool].any fun b => Tn.bool.isa b) = true := rfl
theorem wx_ia12 : ([Tn.int].any fun b => Tn.bool.isa b) = true := rfl
theorem wx_ia13 : ([Tn.str].any fun b => Tn.bool.isa b) = false := rfl
theorem wx_ia14 : ([Tn.list].any fun b => Tn.bool.isa b) = false := rfl
theorem wx_ia15 : ([Tn.tuple].any fun b => Tn.bool.isa b) = false := rfl
theorem wx_ia16 : ([Tn.dict].any fun b => Tn.bool.isa b) = false := rfl
theorem wx_ia20 : ([Tn.non].any fun b => Tn.int.isa b) = false := rfl
theorem wx_ia21 : ([Tn.bool].any fun b => Tn.int.isa b) = false := rfl
theorem wx_ia22 : ([Tn.int].any fun b => Tn.int.isa b) = true := rfl
theorem wx_ia23 : ([Tn.str].any fun b => Tn.int.isa b) = false := rfl
theorem wx_ia24 : ([Tn.list].any fun b => Tn.int.isa b) = false := rfl
theorem wx_ia25 : ([Tn.tuple].any fun b => Tn.int.isa b) = false := rfl
theorem wx_ia26 : ([Tn.dict].any fun b => Tn.int.isa b) = false := rfl
theorem wx_ia30 : ([Tn.non].any fun b => Tn.str.isa b) = false := rfl
theorem wx_ia31 : ([Tn.bool].any fun b => Tn.str.isa b) = false := rfl
theorem wx_ia32 : ([Tn.int].any fun b => Tn.str.isa b) = false := rfl
theorem wx_ia33 : ([Tn.str].any fun b => Tn.str.isa b) = true := rfl
theorem wx_ia34 : ([Tn.list].any fun b => Tn.str.isa b) = false := rfl
theorem wx_ia35 : ([Tn.tuple].any fun b => Tn.str.isa b) = false := rfl
theorem wx_ia36 : ([Tn.dict].any fun b => Tn.str.isa b) = false := rfl
theorem wx_ia40 : ([Tn.non].any fun b => Tn.list.isa b) = false := rfl
theorem wx_ia41 : ([Tn.bool].any fun b => Tn.list.isa b) = false := rfl
theorem wx_ia42 : ([Tn.int].any fun b => Tn.list.isa b) = false := rfl
theorem wx_ia43 : ([Tn.str].any fun b => Tn.list.isa b) = false := rfl
theorem wx_ia44 : ([Tn.list].any fun b => Tn.list.isa b) = true := rfl
theorem wx_ia45 : ([Tn.tuple].any fun b => Tn.list.isa b) = false := rfl
theorem wx_ia46 : ([Tn.dict].any fun b => Tn.list.isa b) = false := rfl
theorem wx_ia50 : ([Tn.non].any fun b => Tn.tuple.isa b) = false := rfl
theorem wx_ia51 : ([Tn.bool].any fun b => Tn.tuple.isa b) = false := rfl
theorem wx_ia52 : ([Tn.int].any fun b => Tn.tuple.isa b) = false := rfl
theorem wx_ia53 : ([Tn.str].any fun b => Tn.tuple.isa b) = false := rfl
theorem wx_ia54 : ([Tn.list].any fun b => Tn.tuple.isa b) = false := rfl
theorem wx_ia55 : ([Tn.tuple].any fun b => Tn.tuple.isa b) = true := rfl
theorem wx_ia56 : ([Tn.dict].any fun b => Tn.tuple.isa b) = false := rfl
theorem wx_ia60 : ([Tn.non].any fun b => Tn.dict.isa b) = false := rfl
theorem wx_ia61 : ([Tn.bool].any fun b => Tn.dict.isa b) = false := rfl
theorem wx_ia62 : ([Tn.int].any fun b => Tn.dict.isa b) = false := rfl
theorem wx_ia63 : ([Tn.str].any fun b => Tn.dict.isa b) = false := rfl
theorem wx_ia64 : ([Tn.list].any fun b => Tn.dict.isa b) = false := rfl
theorem wx_ia65 : ([Tn.tuple].any fun b => Tn.dict.isa b) = false := rfl
theorem wx_ia66 : ([Tn.dict].any fun b => Tn.dict.isa b) = true := rfl
theorem wx_allT {α : Type} {as : List α} : Blt.sem .all [.lst (as.map fun _ => T.bl true)] = some (.val (.bl true)) := by
  rw [wx_all (f := fun _ => true)]; simp
theorem wx_allc {α : Type} {l : List α} : (l.all fun _ => true) = true := by simp
theorem wx_anyc {α : Type} {l : List α} : (l.any fun _ => false) = false := by simp
theorem snocI (ns : List Int) (x : Int) : ns.map T.int ++ [T.int x] = (ns ++ [x]).map T.int := by rw [List.map_append]; rfl
theorem snocS (ns : List (List Nat)) (x : List Nat) : ns.map T.str ++ [T.str x] = (ns ++ [x]).map T.str := by rw [List.map_append]; rfl
theorem atoms_opt {α : Type} (f : α → Option (List Nat)) (as : List α) : (T.lst (as.map fun a => optW (f a))).atoms = true := by
  simp only [T.atoms, List.all_map]; exact List.all_eq_true.mpr fun x _ => optW_atom _
theorem flats_opt {α : Type} (n : Nat) (f : α → Option (List Nat)) (as : List α) : T.flats n (as.map fun a => optW (f a)) = true := by
  induction as with
  | nil => cases n <;> rfl
  | cons a r ih => simp only [List.map_cons, T.flats, ih, Bool.and_true]; cases f a <;> cases n <;> rfl
theorem eqvs_opt {α : Type} (f g : α → Option (List Nat)) (as : List α) (h : ∀ a ∈ as, f a = g a) : T.eqvs (as.map fun a => optW (f a)) (as.map fun a => optW (g a)) = true := by
  induction as with
  | nil => rfl
  | cons a r ih =>
    simp only [List.map_cons, T.eqvs, ih fun x m => h x (.tail _ m), Bool.and_true, ← h a (.head _)]
    cases f a <;> simp [optW, T.eqv]
theorem wx_eqoL {α : Type} {f : α → Option (List Nat)} {as : List α} : Cop.semB .eq (.lst (as.map fun a => optW (f a))) (.lst (as.map fun a => optW (f a))) = some true := by
  have h := flats_opt 29 f as
  have h2 := eqvs_opt f f as fun _ _ => rfl
  simp only [Cop.semB, eqOk, T.flat, h, T.eqv, h2, Bool.and_self, if_true]
theorem wx_neoL {α : Type} {f : α → Option (List Nat)} {as : List α} : Cop.semB .ne (.lst (as.map fun a => optW (f a))) (.lst (as.map fun a => optW (f a))) = some false := by
  have h := flats_opt 29 f as
  have h2 := eqvs_opt f f as fun _ _ => rfl
  simp only [Cop.semB, eqOk, T.flat, h, T.eqv, h2, Bool.and_self, if_true, Bool.not_true, Option.map_some]
theorem wx_ows {w : List Nat} : optW (some w) = .str w := rfl
theorem wx_owz : optW none = .non := rfl
theorem wx_ots {n : Nat} : optT (some n) = .int n := rfl
theorem wx_otz : optT none = .non := rfl
theorem wx_ne11 {a b : Int} : Cop.semB .ne (.lst [.int a]) (.lst [.int b]) = some (!decide (a = b)) := by
  have := wo_nel (a := [a]) (b := [b])
  simpa using this
theorem wx_nel1 {as : List Int} {b : Int} : Cop.semB .ne (.lst (as.map T.int)) (.lst [.int b]) = some (!decide (as = [b])) := wo_nel (b := [b])
theorem wx_dT : decide True = true := rfl
theorem wx_dF : decide False = false := rfl
theorem rangeT0 (n : Nat) : rangeT 0 (n : Int) = ((List.range n).map fun (k : Nat) => (k : Int)).map T.int := by
  rw [rangeT_eq, show ((n : Int) - 0).toNat = n by omega, List.map_map]
  exact List.map_congr_left fun k _ => by simp
theorem wx_on1 {α : Type} : (none : Option α).isNone = true := rfl
theorem wx_on2 {α : Type} : (none : Option α).isSome = false := rfl
theorem wx_on3 {α : Type} {a : α} : (some a).isNone = false := rfl
theorem wx_on4 {α : Type} {a : α} : (some a).isSome = true := rfl
theorem wx_ba1 {b : Bool} : (true && b) = b := rfl
theorem wx_ba2 {b : Bool} : (false && b) = false := rfl
theorem wx_ba3 {b : Bool} : (b && true) = b := by cases b <;> rfl
theorem wx_ba4 {b : Bool} : (b && false) = false := by cases b <;> rfl
theorem wx_bs {b : Bool} : (b == b) = true := by cases b <;> rfl
theorem wx_nen0 {ks : List Nat} : Cop.semB .ne (.lst (ks.map fun (k : Nat) => T.int (k : Int))) (.lst []) = some (!decide (ks = [])) := by
  have := wx_nei0 (a := ks.map fun (k : Nat) => (k : Int))
  rw [List.map_map] at this
  refine this.trans ?_
  cases ks <;> rfl
theorem wx_eqn0 {ks : List Nat} : Cop.semB .eq (.lst (ks.map fun (k : Nat) => T.int (k : Int))) (.lst []) = some (decide (ks = [])) := by
  have := wx_eqi0 (a := ks.map fun (k : Nat) => (k : Int))
  rw [List.map_map] at this
  refine this.trans ?_
  cases ks <;> rfl
theorem wx_nezo {α : Type} {f : α → Option Nat} {as : List α} : Cop.semB .ne (.lst (as.map fun a => optT (f a))) (.lst []) = some (!decide (as = [])) := by
  have h : ∀ (n : Nat) (as : List α), T.flats n (as.map fun a => optT (f a)) = true := by
    intro n as
    induction as with
    | nil => cases n <;> rfl
    | cons a r ih => simp only [List.map_cons, T.flats, ih, Bool.and_true]; cases f a <;> cases n <;> rfl
  have h1 := h 29 as
  cases as with
  | nil => rfl
  | cons a r =>
    simp only [Cop.semB, eqOk, T.flat, h1, T.flats, Bool.and_self, if_true]
    simp [T.eqv, T.eqvs]
theorem flats_pair {α : Type} (n : Nat) (f : α → List Nat) (g : α → Int) (as : List α) : T.flats (n + 1) (as.map fun a => .tup [.str (f a), .int (g a)]) = true := by
  induction as with
  | nil => rfl
  | cons a r ih => simp only [List.map_cons, T.flats, ih, Bool.and_true]; cases n <;> rfl
theorem eqvs_pair {α : Type} (f : α → List Nat) (g : α → Int) (as : List α) : T.eqvs (as.map fun a => .tup [.str (f a), .int (g a)]) (as.map fun a => .tup [.str (f a), .int (g a)]) = true := by
  induction as with
  | nil => rfl
  | cons a r ih => simp [T.eqvs, ih, T.eqv]
theorem wx_nepL {α : Type} {f : α → List Nat} {g : α → Int} {as : List α} : Cop.semB .ne (.lst (as.map fun a => .tup [.str (f a), .int (g a)])) (.lst (as.map fun a => .tup [.str (f a), .int (g a)])) = some false := by
  have h := flats_pair 28 f g as
  have h2 := eqvs_pair f g as
  simp only [Cop.semB, eqOk, T.flat, h, T.eqv, h2, Bool.and_self, if_true, Bool.not_true, Option.map_some]
theorem wx_eqpL {α : Type} {f : α → List Nat} {g : α → Int} {as : List α} : Cop.semB .eq (.lst (as.map fun a => .tup [.str (f a), .int (g a)])) (.lst (as.map fun a => .tup [.str (f a), .int (g a)])) = some true := by
  have h := flats_pair 28 f g as
  have h2 := eqvs_pair f g as
  simp only [Cop.semB, eqOk, T.flat, h, T.eqv, h2, Bool.and_self, if_true]
/-- texts of one sign each -/
def onesT (cs : List Nat) : List T := cs.map fun c => T.str [c]
theorem onesT_len (cs : List Nat) : (onesT cs).length = cs.length := by simp [onesT]
theorem wx_ity {ts : List T} {tys : List Tn} : isiSem (.tup ts) tys = some (tys.any fun b => Tn.tuple.isa b) := rfl
theorem wx_itn {tys : List Tn} : isiSem .non tys = some (tys.any fun b => Tn.non.isa b) := rfl
theorem wx_itd {kvs : List (Kt × T)} {tys : List Tn} : isiSem (.dct kvs) tys = some (tys.any fun b => Tn.dict.isa b) := rfl
theorem wx_gd1 {α : Type} {a b : α} : (some a).getD b = a := rfl
theorem wx_gd2 {α : Type} {b : α} : (none : Option α).getD b = b := rfl
theorem wx_bq1 {b : Bool} : (b == true) = b := by cases b <;> rfl
theorem wx_bq2 {b : Bool} : (b == false) = !b := by cases b <;> rfl
theorem wx_bq3 {b : Bool} : (true == b) = b := by cases b <;> rfl
theorem wx_bq4 {b : Bool} : (false == b) = !b := by cases b <;> rfl
theorem wx_zpt {ts us : List T} : iterSem .zip [.tup ts, .tup us] = some (ts.zipWith (fun t u => .tup [t, u]) us) := rfl
theorem wx_isa00 : Tn.isa .non .non = true := rfl
theorem wx_isa01 : Tn.isa .non .bool = false := rfl
theorem wx_isa02 : Tn.isa .non .int = false := rfl
theorem wx_isa03 : Tn.isa .non .str = false := rfl
theorem wx_isa04 : Tn.isa .non .list = false := rfl
theorem wx_isa05 : Tn.isa .non .tuple = false := rfl
theorem wx_isa06 : Tn.isa .non .dict = false := rfl
theorem wx_isa10 : Tn.isa .bool .non = false := rfl
theorem wx_isa11 : Tn.isa .bool .bool = true := rfl
theorem wx_isa12 : Tn.isa .bool .int = true := rfl
theorem wx_isa13 : Tn.isa .bool .str = false := rfl
theorem wx_isa14 : Tn.isa .bool .list = false := rfl
theorem wx_isa15 : Tn.isa .bool .tuple = false := rfl
theorem wx_isa16 : Tn.isa .bool .dict = false := rfl
theorem wx_isa20 : Tn.isa .int .non = false := rfl
theorem wx_isa21 : Tn.isa .int .bool = false := rfl
theorem wx_isa22 : Tn.isa .int .int = true := rfl
theorem wx_isa23 : Tn.isa .int .str = false := rfl
theorem wx_isa24 : Tn.isa .int .list = false := rfl
theorem wx_isa25 : Tn.isa .int .tuple = false := rfl
theorem wx_isa26 : Tn.isa .int .dict = false := rfl
theorem wx_isa30 : Tn.isa .str .non = false := rfl
theorem wx_isa31 : Tn.isa .str .bool = false := rfl
theorem wx_isa32 : Tn.isa .str .int = false := rfl
theorem wx_isa33 : Tn.isa .str .str = true := rfl
theorem wx_isa34 : Tn.isa .str .list = false := rfl
theorem wx_isa35 : Tn.isa .str .tuple = false := rfl
theorem wx_isa36 : Tn.isa .str .dict = false := rfl
theorem wx_isa40 : Tn.isa .list .non = false := rfl
theorem wx_isa41 : Tn.isa .list .bool = false := rfl
theorem wx_isa42 : Tn.isa .list .int = false := rfl
theorem wx_isa43 : Tn.isa .list .str = false := rfl
theorem wx_isa44 : Tn.isa .list .list = true := rfl
theorem wx_isa45 : Tn.isa .list .tuple = false := rfl
theorem wx_isa46 : Tn.isa .list .dict = false := rfl
theorem wx_isa50 : Tn.isa .tuple .non = false := rfl
theorem wx_isa51 : Tn.isa .tuple .bool = false := rfl
theorem wx_isa52 : Tn.isa .tuple .int = false := rfl
theorem wx_isa53 : Tn.isa .tuple .str = false := rfl
theorem wx_isa54 : Tn.isa .tuple .list = false := rfl
theorem wx_isa55 : Tn.isa .tuple .tuple = true := rfl
theorem wx_isa56 : Tn.isa .tuple .dict = false := rfl
theorem wx_isa60 : Tn.isa .dict .non = false := rfl
theorem wx_isa61 : Tn.isa .dict .bool = false := rfl
theorem wx_isa62 : Tn.isa .dict .int = false := rfl
theorem wx_isa63 : Tn.isa .dict .str = false := rfl
theorem wx_isa64 : Tn.isa .dict .list = false := rfl
theorem wx_isa65 : Tn.isa .dict .tuple = false := rfl
theorem wx_isa66 : Tn.isa .dict .dict = true := rfl
theorem wx_any2 {a b c : Tn} : ([a, b].any fun x => Tn.isa c x) = (Tn.isa c a || Tn.isa c b) := by simp [List.any_cons]
theorem wx_any3 {a b d c : Tn} : ([a, b, d].any fun x => Tn.isa c x) = (Tn.isa c a || (Tn.isa c b || Tn.isa c d)) := by simp [List.any_cons]
theorem wx_any4 {a b d e c : Tn} : ([a, b, d, e].any fun x => Tn.isa c x) = (Tn.isa c a || (Tn.isa c b || (Tn.isa c d || Tn.isa c e))) := by simp [List.any_cons]
theorem wx_bo1 {b : Bool} : (true || b) = true := rfl
theorem wx_bo2 {b : Bool} : (false || b) = b := rfl
theorem wx_bo3 {b : Bool} : (b || true) = true := by cases b <;> rfl
theorem wx_bo4 {b : Bool} : (b || false) = b := by cases b <;> rfl
/-! ### a list's part, answers whose lists are new -/
section
variable {ρ : Env} {t u : T} {a c : Int} {i : Nat} {x : Option Slot} {ts us : List T} {rs : List R} {b : Bool}
theorem wx_stw0 : stwR (some (.own t) :: ρ) 0 a c u = (stwSem t a c u).map fun l => some (.own l) :: ρ := (Eq.refl _).trans rfl
theorem wx_stw1 : stwR (some (.io t) :: ρ) 0 a c u = (stwSem t a c u).map fun l => some (.io l) :: ρ := (Eq.refl _).trans rfl
theorem wx_stwS : stwR (x :: ρ) (i + 1) a c u = (stwR ρ i a c u).map (x :: ·) := by
  unfold stwR
  rw [wz_atS]
  cases slotAt ρ i with
  | none => rfl
  | some s' => cases s' <;> first | rfl | (simp only [Option.map_map]; rfl)
theorem wx_stl : stwSem (.lst ts) a c (.lst us) = if 0 ≤ a ∧ a ≤ c ∧ c ≤ (ts.length : Int) ∧ ts.length + us.length ≤ 16777216 then some (.lst (ts.take a.toNat ++ us ++ ts.drop c.toNat)) else none := rfl
theorem wx_rtup : R.tup? (.val (.tup ts)) = some ts := rfl
theorem wx_pd0 : partsD b [] = some [] := by cases b <;> rfl
theorem wx_pdv : partsD b (.val t :: rs) = if t.isLstT = false then (partsD b rs).map (t :: ·) else none := by
  cases b <;> simp only [partsD] <;> cases t.isLstT <;> rfl
theorem wx_pdf : partsD true (.fresh t :: rs) = (partsD false rs).map (t :: ·) := rfl
theorem wx_il1 : T.isLstT .non = false := rfl
theorem wx_il2 : T.isLstT (.bl b) = false := rfl
theorem wx_il3 : T.isLstT (.int a) = false := rfl
theorem wx_il4 {s : List Nat} : T.isLstT (.str s) = false := rfl
theorem wx_il5 : T.isLstT (.tup ts) = false := rfl
theorem wx_vis0 : visE (x :: ρ) 0 t = some (.shr t) :: ρ.map lockO := (Eq.refl _).trans rfl
theorem wx_visS : visE (x :: ρ) (i + 1) t = lockO x :: visE ρ i t := (Eq.refl _).trans rfl
theorem wx_lk0 : lockO none = none := rfl
theorem wx_lk1 : lockO (some (.shr t)) = some (.shr t) := rfl
theorem wx_lk2 : lockO (some (.own t)) = some (.lck t) := rfl
theorem wx_lk3 : lockO (some (.io t)) = some (.lck t) := rfl
theorem wx_lk4 : lockO (some (.lck t)) = some (.lck t) := rfl
theorem wx_rat : R.atom? (.val t) = if t.atom = true then some t else none := rfl
theorem wx_tat1 : T.atom .non = true := rfl
theorem wx_tat2 : T.atom (.bl b) = true := rfl
theorem wx_tat3 : T.atom (.int a) = true := rfl
theorem wx_tat4 {s : List Nat} : T.atom (.str s) = true := rfl
theorem wx_mr1 : Mut.reads .append = false := rfl
theorem wx_mr2 : Mut.reads .insert = false := rfl
theorem wx_mr3 : Mut.reads .pop = false := rfl
theorem wx_mr4 : Mut.reads .reverse = false := rfl
theorem wx_md1 : Mut.dict .append = false := rfl
theorem wx_md2 : Mut.dict .insert = false := rfl
theorem wx_md3 : Mut.dict .pop = false := rfl
theorem wx_md4 : Mut.dict .reverse = false := rfl
theorem wx_isl1 : T.isLst (.lst ts) = true := rfl
theorem wx_tt2 : (true && b) = b := rfl
theorem wx_g0 : (t :: ts)[0]? = some t := rfl
theorem wx_g1 : (t :: u :: ts)[1]? = some u := rfl
end
theorem pfd_rt {ios : List Bool} {t : T} {ρ : Env} {Q : T → Bool → List T → Prop} {X : String → List T → Prop} : PFD ios Q X (.rt (.deep t) ρ) ↔ Q t false (outsAt ρ 0 ios) := Iff.rfl
theorem pfd_ex {ios : List Bool} {c : String} {ρ : Env} {Q : T → Bool → List T → Prop} {X : String → List T → Prop} : PFD ios Q X (.exc c ρ) ↔ X c (outsAt ρ 0 ios) := Iff.rfl
/-! ### the very same data -/
mutual
theorem eqv_self : ∀ (n : Nat) (t : T), t.flat n = true → T.eqv t t = true
  | _, .non, _ => rfl
  | _, .bl b, _ => by simp [T.eqv]
  | _, .int i, _ => by simp [T.eqv]
  | _, .str s, _ => by simp [T.eqv]
  | 0, .lst _, h => by simp [T.flat] at h
  | 0, .tup _, h => by simp [T.flat] at h
  | 0, .ro _, h => by simp [T.flat] at h
  | 0, .dct _, h => by simp [T.flat] at h
  | 0, .exc _, h => by simp [T.flat] at h
  | n + 1, .lst ts, h => by simp only [T.eqv]; exact eqvs_self n ts (by simpa [T.flat] using h)
  | n + 1, .tup ts, h => by simp only [T.eqv]; exact eqvs_self n ts (by simpa [T.flat] using h)
  | n + 1, .ro _, h => by simp [T.flat] at h
  | n + 1, .dct _, h => by simp [T.flat] at h
  | n + 1, .exc _, h => by simp [T.flat] at h
theorem eqvs_self : ∀ (n : Nat) (t : List T), T.flats n t = true → T.eqvs t t = true
  | _, [], _ => rfl
  | n, t :: ts, h => by
    simp only [T.flats, Bool.and_eq_true] at h
    simp only [T.eqvs, eqv_self n t h.1, eqvs_self n ts h.2, Bool.and_self]
end
theorem ne_sameT {ts : List T} (h : T.datDs 29 ts = true) : Cop.semB .ne (.lst ts) (.lst ts) = some false := by
  have hd : T.datD 30 (.lst ts) = true := by simpa [T.datD] using h
  simp only [Cop.semB]
  split
  · rename_i hk
    simp only [eqOk, Bool.and_self] at hk
    rw [eqv_self 30 _ hk]; rfl
  · rw [if_pos (by unfold sameNe; rw [hd, T.same_self 30 _ hd]; rfl)]
theorem eq_sameT {t : T} (h : T.datD 30 t = true) (hb : t.boxed = true) : Cop.semB .eq t t = some true := by
  simp only [Cop.semB]
  split
  · rename_i hk
    simp only [eqOk, Bool.and_self] at hk
    rw [eqv_self 30 _ hk]
  · rw [if_pos (by unfold sameOk; rw [h, hb, T.same_self 30 _ h]; rfl)]
end MP

namespace MP
open PySem PySem.Spec L2
open PyProof.Rows hiding St
local macro_rules | `(tactic| walk_at "MPG") => `(tactic| simp -implicitDefEqProofs only [ex_lit, ex_glob, ex_var, ex_neg, ex_not, ex_bin, ex_cmp, ex_and1, ex_and, ex_or1, ex_or, ex_evs0, ex_evs, ex_tup, ex_lst, ex_dct0, ex_sub, ex_evO0, ex_evO, ex_slc, ex_rev, ex_call, ex_blt, ex_isi, ex_ite, ex_meth, ex_mut, ex_truth, ex_ok, ex_spec, ex_compK, ex_cmp2, bd_some, bd_none, bd_if, bd_bind, bd_map, onB_bl, pf_rt, pf_ex, sp_ex, sp_set, sp_unp, sp_par, sp_put, sp_ret, sp_retN, sp_brk, sp_cont, sp_pass, sp_raise, sp_forget, sp_freeze, sp_cons, sp_nil, ex_evC0, ex_evC, ex_comp, sp_for, sp_aug, sp_forK, ex_isx, ex_cmp3, sp_tryx, sp_stw, sp_retD, sp_nx, sp_mid0, sp_midC, sp_midB, sp_mut0, sp_mutS, sp_reg, pfd_rt, pfd_ex, tx_rt, tx_exS, tx_exN, tx_q, wz_at0, wz_atS, wz_k0, wz_k1, wz_kS, wz_ka, wz_kb, wz_kc, wz_kd, wz_rda, wz_rdb, wz_rdc, wz_rdd, wz_gv, wz_gf, wz_gl, wz_gotb, wz_gotc, wz_gotd, wz_cv, wz_cf, wz_iv, wz_ti, wz_setS0, wz_setSa, wz_setSb, wz_setSS, wz_srv, wz_srf, wz_tkb, wz_tv, wz_tf, wz_tl, wz_srl, wz_par, wz_put0, wz_put1, wz_putS, wz_ps0, wz_ps1, wz_fg0, wz_fg, wz_d0, wz_da, wz_db, wz_dc, wz_dd, wz_dS, wz_fza, wz_fzb, wz_fzS, wz_o0, wz_ot, wz_of, wz_otc, wz_rv, wz_rf, wz_rl, wz_rlb, wz_po0, wz_pot, wz_pov, wz_pof, wz_pox, wz_reS, wz_re0, wz_re1, wz_cl0, wz_cl, wz_ge0, wz_ge, wo_add, wo_sub, wo_mul, wo_mod, wo_div, wo_pow, wo_adds, wo_addl, wo_muls, wo_mull, wo_lt, wo_le, wo_gt, wo_ge, wo_eqi, wo_nei, wo_eqs, wo_nes, wo_tb, wo_ti, wo_lens, wo_lenl, wo_lent, wo_lenr, wo_abs, wo_min, wo_max, wo_intb, wo_inti, wo_subl, wo_subt, wo_subr, wo_subs, wo_slcs, wo_slcl, wo_revs, wo_revl, wo_isi, wo_isb, wo_iss, wo_isl, wp_p0, wp_p1, wq_wipe0, wq_wipe, wq_clr0, wq_clrS, wq_back0, wq_back, wq_bk0, wq_bkS, wq_bn, wq_lk0, wq_lkv, wq_lkf, wq_lkl, wq_lk1b, wq_lk1c, wq_lk1d, wq_lk1S, wq_ixv, wq_ixf, wq_ixl, wq_tr, wq_vl, wq_vt, wq_vs, wq_tc, wq_tb, wq_trt, wq_tex, wq_mrt, wq_mex, wx_wtb, wx_wtc, wx_mut, wx_mtS, wx_mtb, wx_mtc, wx_mtd, wx_mte, wx_mda, wx_mdb, wx_mdc, wx_mdd, wx_mde, wx_mdf, wx_mdg, wx_re, wx_ra, wx_rp, wx_ri, wx_rr, wx_rc, wx_rs, wx_ma, wx_me, wx_mp, wx_mi, wx_mn, wx_mr, wx_mc, wx_ms, wx_ki, wx_ks, wx_pd, wx_sdi, wx_sds, wx_inds, wx_indi, wx_ninds, wx_nindi, wx_inss, wx_ninss, wx_lts, wx_les, wx_gts, wx_isn, wx_iss, wx_isi, wx_isl, wx_ist, wx_isb, wx_nsn, wx_nss, wx_nsi, wx_nsl, wx_nst, wx_nsb, wx_eqb, wx_neb, wx_len, wx_ll, wx_lt, wx_ld, wx_tl, wx_tt, wx_dd, wx_any, wx_all, wx_sum, wx_srti, wx_srts, wx_find, wx_starts, wx_idxs, wx_get1, wx_get2i, wx_get2b, wx_prd, wx_prj, wx_prf, wx_pri, wx_prl, wx_prs, wx_lr1, wx_lr2, wx_mn1, wx_ds1, wx_ds2, wx_ds3, wx_r2, wx_r3, wx_en, wx_zp, wx_rv, wx_rr2, wx_ka0, wx_ka1, wx_bt, wx_bt0, wx_bt1, wx_eqls, wx_nels, wx_eqi0, wx_nei0, wx_eqs0, wx_nes0, wx_eq00, wx_ne00, wx_pk2, wx_ps23, wx_lstr, wx_srtstr, wx_ixe, wx_ixn, wx_ixl, wx_ixt, wx_ixs, wx_ixi, wx_ixb, wx_ise, wx_nse, wx_prc, wx_pre, wx_cnt, wx_ends, wx_cnts, wx_sets, wx_seti, wx_setx, wx_lset, wx_lseti, wx_lsetx, wx_mno, wx_isow, wx_nsow, wx_isot, wx_nsot, wx_eqow, wx_neow, wx_eqot, wx_neot, wx_inli, wx_ninli, wx_insl, wx_ninsl, wx_isiow, wx_isiot, wx_ia00, wx_ia01, wx_ia02, wx_ia03, wx_ia04, wx_ia05, wx_ia06, wx_ia10, wx_ia11, wx_ia12, wx_ia13, wx_ia14, wx_ia15, wx_ia16, wx_ia20, wx_ia21, wx_ia22, wx_ia23, wx_ia24, wx_ia25, wx_ia26, wx_ia30, wx_ia31, wx_ia32, wx_ia33, wx_ia34, wx_ia35, wx_ia36, wx_ia40, wx_ia41, wx_ia42, wx_ia43, wx_ia44, wx_ia45, wx_ia46, wx_ia50, wx_ia51, wx_ia52, wx_ia53, wx_ia54, wx_ia55, wx_ia56, wx_ia60, wx_ia61, wx_ia62, wx_ia63, wx_ia64, wx_ia65, wx_ia66, wx_allT, wx_allc, wx_anyc, wx_eqoL, wx_neoL, wx_ows, wx_owz, wx_ots, wx_otz, wx_ne11, wx_nel1, wx_dT, wx_dF, wx_on1, wx_on2, wx_on3, wx_on4, wx_ba1, wx_ba2, wx_ba3, wx_ba4, wx_bs, wx_nen0, wx_eqn0, wx_nezo, wx_nepL, wx_eqpL, wx_ity, wx_itn, wx_itd, wx_gd1, wx_gd2, wx_bq1, wx_bq2, wx_bq3, wx_bq4, wx_zpt, wx_isa00, wx_isa01, wx_isa02, wx_isa03, wx_isa04, wx_isa05, wx_isa06, wx_isa10, wx_isa11, wx_isa12, wx_isa13, wx_isa14, wx_isa15, wx_isa16, wx_isa20, wx_isa21, wx_isa22, wx_isa23, wx_isa24, wx_isa25, wx_isa26, wx_isa30, wx_isa31, wx_isa32, wx_isa33, wx_isa34, wx_isa35, wx_isa36, wx_isa40, wx_isa41, wx_isa42, wx_isa43, wx_isa44, wx_isa45, wx_isa46, wx_isa50, wx_isa51, wx_isa52, wx_isa53, wx_isa54, wx_isa55, wx_isa56, wx_isa60, wx_isa61, wx_isa62, wx_isa63, wx_isa64, wx_isa65, wx_isa66, wx_any2, wx_any3, wx_any4, wx_bo1, wx_bo2, wx_bo3, wx_bo4, wx_stw0, wx_stw1, wx_stwS, wx_stl, wx_rtup, wx_pd0, wx_pdv, wx_pdf, wx_il1, wx_il2, wx_il3, wx_il4, wx_il5, wx_vis0, wx_visS, wx_lk0, wx_lk1, wx_lk2, wx_lk3, wx_lk4, wx_rat, wx_tat1, wx_tat2, wx_tat3, wx_tat4, wx_mr1, wx_mr2, wx_mr3, wx_mr4, wx_md1, wx_md2, wx_md3, wx_md4, wx_isl1, wx_tt2, wx_g0, wx_g1, wo_eql, wo_nel, Int.toNat_natCast, List.map_cons, List.map_nil, List.flatMap_nil, List.flatMap_cons, List.append_nil, List.nil_append, List.cons_append, List.length_cons, List.length_nil, List.set_cons_succ, List.set_cons_zero, if_true, Bool.false_eq_true, if_false, Option.bind_some, Option.map_some, Nat.reduceAdd, Nat.reduceSub, Nat.reduceLT, Nat.reduceLeDiff, Nat.zero_add, true_and, false_implies, true_implies, and_true, or_true, true_or, or_false, false_or, Bool.true_eq_false, forall_const, reduceCtorEq, decide_eq_true_eq, decide_eq_false_iff_not, Nat.reduceEqDiff, Bool.not_eq_true, Bool.not_eq_eq_eq_not, Bool.not_true, Bool.not_false, sp_ifs, and_assoc, not_true_eq_false, not_false_eq_true, List.length_map, ne_eq, true_implies, implies_true, Bool.and_eq_true, Bool.or_eq_true, List.getElem?_cons_zero])
local macro_rules | `(tactic| walk_at "MPI") => `(tactic| simp -implicitDefEqProofs only [ex_lit, ex_glob, ex_var, ex_neg, ex_not, ex_bin, ex_cmp, ex_and1, ex_and, ex_or1, ex_or, ex_evs0, ex_evs, ex_tup, ex_lst, ex_dct0, ex_sub, ex_evO0, ex_evO, ex_slc, ex_rev, ex_call, ex_blt, ex_isi, ex_ite, ex_meth, ex_mut, ex_truth, ex_ok, ex_spec, ex_compK, ex_cmp2, bd_some, bd_none, bd_if, bd_bind, bd_map, onB_bl, pf_rt, pf_ex, sp_ex, sp_set, sp_unp, sp_par, sp_put, sp_ret, sp_retN, sp_brk, sp_cont, sp_pass, sp_raise, sp_forget, sp_freeze, sp_cons, sp_nil, ex_evC0, ex_evC, ex_comp, sp_for, sp_aug, sp_forK, ex_isx, ex_cmp3, sp_tryx, sp_stw, sp_retD, sp_nx, sp_mid0, sp_midC, sp_midB, sp_mut0, sp_mutS, sp_reg, pfd_rt, pfd_ex, tx_rt, tx_exS, tx_exN, tx_q, wz_at0, wz_atS, wz_k0, wz_k1, wz_kS, wz_ka, wz_kb, wz_kc, wz_kd, wz_rda, wz_rdb, wz_rdc, wz_rdd, wz_gv, wz_gf, wz_gl, wz_gotb, wz_gotc, wz_gotd, wz_cv, wz_cf, wz_iv, wz_ti, wz_setS0, wz_setSa, wz_setSb, wz_setSS, wz_srv, wz_srf, wz_tkb, wz_tv, wz_tf, wz_tl, wz_srl, wz_par, wz_put0, wz_put1, wz_putS, wz_ps0, wz_ps1, wz_fg0, wz_fg, wz_d0, wz_da, wz_db, wz_dc, wz_dd, wz_dS, wz_fza, wz_fzb, wz_fzS, wz_o0, wz_ot, wz_of, wz_otc, wz_rv, wz_rf, wz_rl, wz_rlb, wz_po0, wz_pot, wz_pov, wz_pof, wz_pox, wz_reS, wz_re0, wz_re1, wz_cl0, wz_cl, wz_ge0, wz_ge, wo_add, wo_sub, wo_mul, wo_mod, wo_div, wo_pow, wo_adds, wo_addl, wo_muls, wo_mull, wo_lt, wo_le, wo_gt, wo_ge, wo_eqi, wo_nei, wo_eqs, wo_nes, wo_tb, wo_ti, wo_lens, wo_lenl, wo_lent, wo_lenr, wo_abs, wo_min, wo_max, wo_intb, wo_inti, wo_subl, wo_subt, wo_subr, wo_subs, wo_slcs, wo_slcl, wo_revs, wo_revl, wo_isi, wo_isb, wo_iss, wo_isl, wp_p0, wp_p1, wq_wipe0, wq_wipe, wq_clr0, wq_clrS, wq_back0, wq_back, wq_bk0, wq_bkS, wq_bn, wq_lk0, wq_lkv, wq_lkf, wq_lkl, wq_lk1b, wq_lk1c, wq_lk1d, wq_lk1S, wq_ixv, wq_ixf, wq_ixl, wq_tr, wq_vl, wq_vt, wq_vs, wq_tc, wq_tb, wq_trt, wq_tex, wq_mrt, wq_mex, wx_wtb, wx_wtc, wx_mut, wx_mtS, wx_mtb, wx_mtc, wx_mtd, wx_mte, wx_mda, wx_mdb, wx_mdc, wx_mdd, wx_mde, wx_mdf, wx_mdg, wx_re, wx_ra, wx_rp, wx_ri, wx_rr, wx_rc, wx_rs, wx_ma, wx_me, wx_mp, wx_mi, wx_mn, wx_mr, wx_mc, wx_ms, wx_ki, wx_ks, wx_pd, wx_sdi, wx_sds, wx_inds, wx_indi, wx_ninds, wx_nindi, wx_inss, wx_ninss, wx_lts, wx_les, wx_gts, wx_isn, wx_iss, wx_isi, wx_isl, wx_ist, wx_isb, wx_nsn, wx_nss, wx_nsi, wx_nsl, wx_nst, wx_nsb, wx_eqb, wx_neb, wx_len, wx_ll, wx_lt, wx_ld, wx_tl, wx_tt, wx_dd, wx_any, wx_all, wx_sum, wx_srti, wx_srts, wx_find, wx_starts, wx_idxs, wx_get1, wx_get2i, wx_get2b, wx_prd, wx_prj, wx_prf, wx_pri, wx_prl, wx_prs, wx_lr1, wx_lr2, wx_mn1, wx_ds1, wx_ds2, wx_ds3, wx_r2, wx_r3, wx_en, wx_zp, wx_rv, wx_rr2, wx_ka0, wx_ka1, wx_bt, wx_bt0, wx_bt1, wx_eqls, wx_nels, wx_eqi0, wx_nei0, wx_eqs0, wx_nes0, wx_eq00, wx_ne00, wx_pk2, wx_ps23, wx_lstr, wx_srtstr, wx_ixe, wx_ixn, wx_ixl, wx_ixt, wx_ixs, wx_ixi, wx_ixb, wx_ise, wx_nse, wx_prc, wx_pre, wx_cnt, wx_ends, wx_cnts, wx_sets, wx_seti, wx_setx, wx_lset, wx_lseti, wx_lsetx, wx_mno, wx_isow, wx_nsow, wx_isot, wx_nsot, wx_eqow, wx_neow, wx_eqot, wx_neot, wx_inli, wx_ninli, wx_insl, wx_ninsl, wx_isiow, wx_isiot, wx_ia00, wx_ia01, wx_ia02, wx_ia03, wx_ia04, wx_ia05, wx_ia06, wx_ia10, wx_ia11, wx_ia12, wx_ia13, wx_ia14, wx_ia15, wx_ia16, wx_ia20, wx_ia21, wx_ia22, wx_ia23, wx_ia24, wx_ia25, wx_ia26, wx_ia30, wx_ia31, wx_ia32, wx_ia33, wx_ia34, wx_ia35, wx_ia36, wx_ia40, wx_ia41, wx_ia42, wx_ia43, wx_ia44, wx_ia45, wx_ia46, wx_ia50, wx_ia51, wx_ia52, wx_ia53, wx_ia54, wx_ia55, wx_ia56, wx_ia60, wx_ia61, wx_ia62, wx_ia63, wx_ia64, wx_ia65, wx_ia66, wx_allT, wx_allc, wx_anyc, wx_eqoL, wx_neoL, wx_ows, wx_owz, wx_ots, wx_otz, wx_ne11, wx_nel1, wx_dT, wx_dF, wx_on1, wx_on2, wx_on3, wx_on4, wx_ba1, wx_ba2, wx_ba3, wx_ba4, wx_bs, wx_nen0, wx_eqn0, wx_nezo, wx_nepL, wx_eqpL, wx_ity, wx_itn, wx_itd, wx_gd1, wx_gd2, wx_bq1, wx_bq2, wx_bq3, wx_bq4, wx_zpt, wx_isa00, wx_isa01, wx_isa02, wx_isa03, wx_isa04, wx_isa05, wx_isa06, wx_isa10, wx_isa11, wx_isa12, wx_isa13, wx_isa14, wx_isa15, wx_isa16, wx_isa20, wx_isa21, wx_isa22, wx_isa23, wx_isa24, wx_isa25, wx_isa26, wx_isa30, wx_isa31, wx_isa32, wx_isa33, wx_isa34, wx_isa35, wx_isa36, wx_isa40, wx_isa41, wx_isa42, wx_isa43, wx_isa44, wx_isa45, wx_isa46, wx_isa50, wx_isa51, wx_isa52, wx_isa53, wx_isa54, wx_isa55, wx_isa56, wx_isa60, wx_isa61, wx_isa62, wx_isa63, wx_isa64, wx_isa65, wx_isa66, wx_any2, wx_any3, wx_any4, wx_bo1, wx_bo2, wx_bo3, wx_bo4, wx_stw0, wx_stw1, wx_stwS, wx_stl, wx_rtup, wx_pd0, wx_pdv, wx_pdf, wx_il1, wx_il2, wx_il3, wx_il4, wx_il5, wx_vis0, wx_visS, wx_lk0, wx_lk1, wx_lk2, wx_lk3, wx_lk4, wx_rat, wx_tat1, wx_tat2, wx_tat3, wx_tat4, wx_mr1, wx_mr2, wx_mr3, wx_mr4, wx_md1, wx_md2, wx_md3, wx_md4, wx_isl1, wx_tt2, wx_g0, wx_g1, wo_eql, wo_nel, Int.toNat_natCast, List.map_cons, List.map_nil, List.flatMap_nil, List.flatMap_cons, List.append_nil, List.nil_append, List.cons_append, List.length_cons, List.length_nil, List.set_cons_succ, List.set_cons_zero, if_true, Bool.false_eq_true, if_false, Option.bind_some, Option.map_some, Nat.reduceAdd, Nat.reduceSub, Nat.reduceLT, Nat.reduceLeDiff, Nat.zero_add, true_and, false_implies, true_implies, and_true, or_true, true_or, or_false, false_or, Bool.true_eq_false, forall_const, reduceCtorEq, decide_eq_true_eq, decide_eq_false_iff_not, Nat.reduceEqDiff, Bool.not_eq_true, Bool.not_eq_eq_eq_not, Bool.not_true, Bool.not_false, sp_ifs])
local macro_rules | `(tactic| walk_at "MPS") => `(tactic| simp -implicitDefEqProofs only [ex_lit, ex_glob, ex_var, ex_neg, ex_not, ex_bin, ex_cmp, ex_and1, ex_and, ex_or1, ex_or, ex_evs0, ex_evs, ex_tup, ex_lst, ex_dct0, ex_sub, ex_evO0, ex_evO, ex_slc, ex_rev, ex_call, ex_blt, ex_isi, ex_ite, ex_meth, ex_mut, ex_truth, ex_ok, ex_spec, ex_compK, ex_cmp2, bd_some, bd_none, bd_if, bd_bind, bd_map, onB_bl, pf_rt, pf_ex, sp_ex, sp_set, sp_unp, sp_par, sp_put, sp_ret, sp_retN, sp_brk, sp_cont, sp_pass, sp_raise, sp_forget, sp_freeze, sp_cons, sp_nil, ex_evC0, ex_evC, ex_comp, sp_for, sp_aug, sp_forK, ex_isx, ex_cmp3, sp_tryx, sp_stw, sp_retD, sp_nx, sp_mid0, sp_midC, sp_midB, sp_mut0, sp_mutS, sp_reg, pfd_rt, pfd_ex, tx_rt, tx_exS, tx_exN, tx_q, wz_at0, wz_atS, wz_k0, wz_k1, wz_kS, wz_ka, wz_kb, wz_kc, wz_kd, wz_rda, wz_rdb, wz_rdc, wz_rdd, wz_gv, wz_gf, wz_gl, wz_gotb, wz_gotc, wz_gotd, wz_cv, wz_cf, wz_iv, wz_ti, wz_setS0, wz_setSa, wz_setSb, wz_setSS, wz_srv, wz_srf, wz_tkb, wz_tv, wz_tf, wz_tl, wz_srl, wz_par, wz_put0, wz_put1, wz_putS, wz_ps0, wz_ps1, wz_fg0, wz_fg, wz_d0, wz_da, wz_db, wz_dc, wz_dd, wz_dS, wz_fza, wz_fzb, wz_fzS, wz_o0, wz_ot, wz_of, wz_otc, wz_rv, wz_rf, wz_rl, wz_rlb, wz_po0, wz_pot, wz_pov, wz_pof, wz_pox, wz_reS, wz_re0, wz_re1, wz_cl0, wz_cl, wz_ge0, wz_ge, wo_add, wo_sub, wo_mul, wo_mod, wo_div, wo_pow, wo_adds, wo_addl, wo_muls, wo_mull, wo_lt, wo_le, wo_gt, wo_ge, wo_eqi, wo_nei, wo_eqs, wo_nes, wo_tb, wo_ti, wo_lens, wo_lenl, wo_lent, wo_lenr, wo_abs, wo_min, wo_max, wo_intb, wo_inti, wo_subl, wo_subt, wo_subr, wo_subs, wo_slcs, wo_slcl, wo_revs, wo_revl, wo_isi, wo_isb, wo_iss, wo_isl, wp_p0, wp_p1, wq_wipe0, wq_wipe, wq_clr0, wq_clrS, wq_back0, wq_back, wq_bk0, wq_bkS, wq_bn, wq_lk0, wq_lkv, wq_lkf, wq_lkl, wq_lk1b, wq_lk1c, wq_lk1d, wq_lk1S, wq_ixv, wq_ixf, wq_ixl, wq_tr, wq_vl, wq_vt, wq_vs, wq_tc, wq_tb, wq_trt, wq_tex, wq_mrt, wq_mex, wx_wtb, wx_wtc, wx_mut, wx_mtS, wx_mtb, wx_mtc, wx_mtd, wx_mte, wx_mda, wx_mdb, wx_mdc, wx_mdd, wx_mde, wx_mdf, wx_mdg, wx_re, wx_ra, wx_rp, wx_ri, wx_rr, wx_rc, wx_rs, wx_ma, wx_me, wx_mp, wx_mi, wx_mn, wx_mr, wx_mc, wx_ms, wx_ki, wx_ks, wx_pd, wx_sdi, wx_sds, wx_inds, wx_indi, wx_ninds, wx_nindi, wx_inss, wx_ninss, wx_lts, wx_les, wx_gts, wx_isn, wx_iss, wx_isi, wx_isl, wx_ist, wx_isb, wx_nsn, wx_nss, wx_nsi, wx_nsl, wx_nst, wx_nsb, wx_eqb, wx_neb, wx_len, wx_ll, wx_lt, wx_ld, wx_tl, wx_tt, wx_dd, wx_any, wx_all, wx_sum, wx_srti, wx_srts, wx_find, wx_starts, wx_idxs, wx_get1, wx_get2i, wx_get2b, wx_prd, wx_prj, wx_prf, wx_pri, wx_prl, wx_prs, wx_lr1, wx_lr2, wx_mn1, wx_ds1, wx_ds2, wx_ds3, wx_r2, wx_r3, wx_en, wx_zp, wx_rv, wx_rr2, wx_ka0, wx_ka1, wx_bt, wx_bt0, wx_bt1, wx_eqls, wx_nels, wx_eqi0, wx_nei0, wx_eqs0, wx_nes0, wx_eq00, wx_ne00, wx_pk2, wx_ps23, wx_lstr, wx_srtstr, wx_ixe, wx_ixn, wx_ixl, wx_ixt, wx_ixs, wx_ixi, wx_ixb, wx_ise, wx_nse, wx_prc, wx_pre, wx_cnt, wx_ends, wx_cnts, wx_sets, wx_seti, wx_setx, wx_lset, wx_lseti, wx_lsetx, wx_mno, wx_isow, wx_nsow, wx_isot, wx_nsot, wx_eqow, wx_neow, wx_eqot, wx_neot, wx_inli, wx_ninli, wx_insl, wx_ninsl, wx_isiow, wx_isiot, wx_ia00, wx_ia01, wx_ia02, wx_ia03, wx_ia04, wx_ia05, wx_ia06, wx_ia10, wx_ia11, wx_ia12, wx_ia13, wx_ia14, wx_ia15, wx_ia16, wx_ia20, wx_ia21, wx_ia22, wx_ia23, wx_ia24, wx_ia25, wx_ia26, wx_ia30, wx_ia31, wx_ia32, wx_ia33, wx_ia34, wx_ia35, wx_ia36, wx_ia40, wx_ia41, wx_ia42, wx_ia43, wx_ia44, wx_ia45, wx_ia46, wx_ia50, wx_ia51, wx_ia52, wx_ia53, wx_ia54, wx_ia55, wx_ia56, wx_ia60, wx_ia61, wx_ia62, wx_ia63, wx_ia64, wx_ia65, wx_ia66, wx_allT, wx_allc, wx_anyc, wx_eqoL, wx_neoL, wx_ows, wx_owz, wx_ots, wx_otz, wx_ne11, wx_nel1, wx_dT, wx_dF, wx_on1, wx_on2, wx_on3, wx_on4, wx_ba1, wx_ba2, wx_ba3, wx_ba4, wx_bs, wx_nen0, wx_eqn0, wx_nezo, wx_nepL, wx_eqpL, wx_ity, wx_itn, wx_itd, wx_gd1, wx_gd2, wx_bq1, wx_bq2, wx_bq3, wx_bq4, wx_zpt, wx_isa00, wx_isa01, wx_isa02, wx_isa03, wx_isa04, wx_isa05, wx_isa06, wx_isa10, wx_isa11, wx_isa12, wx_isa13, wx_isa14, wx_isa15, wx_isa16, wx_isa20, wx_isa21, wx_isa22, wx_isa23, wx_isa24, wx_isa25, wx_isa26, wx_isa30, wx_isa31, wx_isa32, wx_isa33, wx_isa34, wx_isa35, wx_isa36, wx_isa40, wx_isa41, wx_isa42, wx_isa43, wx_isa44, wx_isa45, wx_isa46, wx_isa50, wx_isa51, wx_isa52, wx_isa53, wx_isa54, wx_isa55, wx_isa56, wx_isa60, wx_isa61, wx_isa62, wx_isa63, wx_isa64, wx_isa65, wx_isa66, wx_any2, wx_any3, wx_any4, wx_bo1, wx_bo2, wx_bo3, wx_bo4, wx_stw0, wx_stw1, wx_stwS, wx_stl, wx_rtup, wx_pd0, wx_pdv, wx_pdf, wx_il1, wx_il2, wx_il3, wx_il4, wx_il5, wx_vis0, wx_visS, wx_lk0, wx_lk1, wx_lk2, wx_lk3, wx_lk4, wx_rat, wx_tat1, wx_tat2, wx_tat3, wx_tat4, wx_mr1, wx_mr2, wx_mr3, wx_mr4, wx_md1, wx_md2, wx_md3, wx_md4, wx_isl1, wx_tt2, wx_g0, wx_g1, wo_eql, wo_nel, Int.toNat_natCast, List.map_cons, List.map_nil, List.flatMap_nil, List.flatMap_cons, List.append_nil, List.nil_append, List.cons_append, List.length_cons, List.length_nil, List.set_cons_succ, List.set_cons_zero, if_true, Bool.false_eq_true, if_false, Option.bind_some, Option.map_some, Nat.reduceAdd, Nat.reduceSub, Nat.reduceLT, Nat.reduceLeDiff, Nat.zero_add, true_and, false_implies, true_implies, and_true, or_true, true_or, or_false, false_or, Bool.true_eq_false, forall_const, reduceCtorEq, decide_eq_true_eq, decide_eq_false_iff_not, Nat.reduceEqDiff, Bool.not_eq_true, Bool.not_eq_eq_eq_not, Bool.not_true, Bool.not_false])
local macro_rules | `(tactic| walk_at "MSE") => `(tactic| (first | omega | decide | (simp only [small62, rangeOk, mulOk, divOk, Bool.and_eq_true, Bool.or_eq_true, decide_eq_true_eq, List.length_map, List.length_range, List.length_zipIdx, List.length_drop, List.length_take, List.length_tail, List.length_dropLast, onesT_len, List.length_append, List.length_cons, List.length_nil, List.length_reverse, repL_len]; omega)))
local macro_rules | `(tactic| walk_at "MS1") => `(tactic| (repeat (with_reducible refine And.intro ?_ ?_; (· walk_at "MSE"))))
local macro_rules | `(tactic| walk_at "MS3") => `(tactic| (first | assumption | omega | decide | trivial | rfl | (simp only [small62, rangeOk, mulOk, divOk, Bool.and_eq_true, Bool.or_eq_true, decide_eq_true_eq, List.length_map, List.length_range, List.length_zipIdx, List.length_drop, List.length_take, List.length_tail, List.length_dropLast, onesT_len, List.length_append, List.length_cons, List.length_nil, List.length_reverse, List.length_replicate, repL_len]; omega)))
local macro_rules | `(tactic| walk_at "MSD") => `(tactic| (repeat (with_reducible refine And.intro ?_ ?_; (· walk_at "MS3"))))
local macro_rules | `(tactic| walk_at "MBD") => `(tactic| (first | omega | (simp only [List.length_map, onesT_len, List.length_cons, List.length_nil]; omega) | (split <;> simp only [List.length_map, onesT_len, List.length_cons, List.length_nil] <;> omega)))
local macro_rules | `(tactic| walk_at "MGO") => `(tactic| (first | (walk_at "MPG"; walk_at "MSD") | walk_at "MSD"))
local macro_rules | `(tactic| walk_at "MWS") => `(tactic| (first | (walk_at "MPS"; walk_at "MSD") | walk_at "MSD"))
local macro_rules | `(tactic| walk_at "MXS") => `(tactic| ((try simp only [subX, List.any_cons, List.any_nil, String.reduceEq, decide_false, decide_true, Bool.or_false, Bool.or_true, Bool.false_or, Bool.true_or, Bool.or_self, beq_self_eq_true, wx_bq1, wx_bq2, wx_bq3, wx_bq4, Bool.not_true, Bool.not_false, List.mem_cons, List.not_mem_nil, or_false, or_true, false_or, true_or, Bool.false_eq_true, Bool.true_eq_false, false_implies, true_implies, true_and, and_true, if_true, if_false, reduceCtorEq, imp_self]); walk_at "MGO"))
local macro_rules | `(tactic| walk_at "MNX") => `(tactic| (first | refine ⟨fun hx => absurd hx (by omega), fun _ => ?_⟩ | refine ⟨fun hx => absurd rfl hx, fun _ => ?_⟩ | refine ⟨fun hx => absurd (by omega) hx, fun _ => ?_⟩ | refine fun _ => ?_ | skip))
local macro_rules | `(tactic| walk_at "MCK") => `(tactic| ((try walk_at "MPS"); walk_at "MSD"; first | done | trivial | omega | exact ⟨rfl, fun _ => ⟨rfl, rfl⟩, fun _ => rfl⟩ | exact ⟨fun _ => trivial, fun _ => trivial⟩ | (simp; done) | rfl))
/-! ## the pot of a law's draws -/
structure Pot where
  a : Int
  b : Int
  ha : 0 ≤ a
  hA : a < 10 ^ 240
  hb : 0 ≤ b
  hB : b < 2147483647
def Pot.t (p : Pot) : T := .lst [.int p.a, .int p.b]
theorem divOk_of {m : Int} (h0 : 0 < m) (h1 : m < 1073741824) : divOk m = true := by simp [divOk]; omega
def DrawSp (f : Fn) : Prop := ∀ (p : Pot) (m : Int), 0 < m → divOk m = true → f.Runs [p.t, .int m] (fun t fr outs => ∃ r p', t = .int r ∧ fr = false ∧ outs = [Pot.t p'] ∧ 0 ≤ r ∧ r < m) noX
def PotSp (f : Fn) : Prop := ∀ (ns : List Int) (k : Nat), k ≤ 100 → f.Runs [.ro ns, .int k] (fun t fr outs => ∃ p, t = Pot.t p ∧ fr = true ∧ outs = []) noX
theorem pot_end (p : Pot) (m : Int) (h0 : 0 < m) (h1 : divOk m = true) : (0 < p.a →
      0 < m ∧ divOk m = true ∧ ∃ r p', T.int (p.a % m) = T.int r ∧ [T.lst [T.int (p.a / m), T.int p.b]] = [Pot.t p'] ∧ 0 ≤ r ∧ r < m) ∧
    (¬0 < p.a → mulOk p.b 69621 = true ∧ 0 < (2147483647 : Int) ∧ mulOk ((p.b * 69621 + 12345) % 2147483647) ((p.b * 69621 + 12345) % 2147483647) = true ∧ 0 < (2147483629 : Int) ∧ divOk 64 = true ∧ 0 < m ∧
      ∃ r p', T.int ((p.b * 69621 + 12345) % 2147483647 * ((p.b * 69621 + 12345) % 2147483647) % 2147483629 / 64 % m) = T.int r ∧ [T.lst [T.int p.a, T.int ((p.b * 69621 + 12345) % 2147483647)]] = [Pot.t p'] ∧ 0 ≤ r ∧ r < m) := by
  have e0 := Int.emod_nonneg p.a (show m ≠ 0 by omega)
  have e1 := Int.emod_lt_of_pos p.a h0
  have d0 := Int.ediv_nonneg p.ha (show 0 ≤ m by omega)
  have d1 := Int.ediv_le_self m p.ha
  have hA := p.hA
  have b0 := Int.emod_nonneg (p.b * 69621 + 12345) (show (2147483647 : Int) ≠ 0 by decide)
  have b1 := Int.emod_lt_of_pos (p.b * 69621 + 12345) (show (0 : Int) < 2147483647 by decide)
  refine ⟨fun ha => ⟨h0, h1, _, ⟨p.a / m, p.b, d0, by omega, p.hb, p.hB⟩, rfl, rfl, e0, e1⟩, fun hn => ⟨by simp [mulOk], by decide, ?_, by decide, by decide, h0, _, ⟨p.a, _, p.ha, p.hA, b0, b1⟩, rfl, rfl, Int.emod_nonneg _ (by omega), Int.emod_lt_of_pos _ h0⟩⟩
  simp only [mulOk, Bool.or_eq_true, decide_eq_true_eq]
  exact .inl (.inl ⟨by omega, by omega⟩)
theorem cell_mid {ns : List Int} {k : Nat} {a : Int} : powOk 10 60 = true ∧ powOk (10 ^ Int.toNat 60) 4 = true ∧ 0 < ((10 : Int) ^ Int.toNat 60) ^ Int.toNat 4 ∧
      ∃ y, [some (Slot.shr (T.ro ns)), some (Slot.shr (T.int k)), some (Slot.shr (T.int ((if a < 0 then -a else a) % (10 ^ Int.toNat 60) ^ Int.toNat 4)))] = [some (Slot.shr (T.ro ns)), some (Slot.shr (T.int k)), some (Slot.shr (T.int y))] ∧ 0 ≤ y ∧ y < 10 ^ 240 := by
  have hN : ((10 : Int) ^ Int.toNat 60) ^ Int.toNat 4 = 10 ^ 240 := by decide +kernel
  refine ⟨by decide +kernel, by decide +kernel, by decide +kernel, _, rfl, Int.emod_nonneg _ (by decide +kernel), ?_⟩
  rw [← hN]
  exact Int.emod_lt_of_pos _ (by decide +kernel)
theorem cell_pot {k : Nat} (hk : k ≤ 100) (y : Int) (h0 : 0 ≤ y) (h1 : y < 10 ^ 240) : powOk 10 18 = true ∧ mulOk y (if 10 ^ Int.toNat 18 ≤ y then 1 else 0) = true ∧ 0 < (2147483629 : Int) ∧ mulOk 7919 (k : Int) = true ∧ powOk (y % 2147483629 + 7919 * (k : Int) + 1) 5 = true ∧ 0 < (2147483647 : Int) ∧
      ∃ p, T.lst [T.int (y * if 10 ^ Int.toNat 18 ≤ y then 1 else 0), T.int ((y % 2147483629 + 7919 * (k : Int) + 1) ^ Int.toNat 5 % 2147483647)] = Pot.t p := by
  have b0 := Int.emod_nonneg y (show (2147483629 : Int) ≠ 0 by decide)
  have b1 := Int.emod_lt_of_pos y (show (0 : Int) < 2147483629 by decide)
  refine ⟨by decide +kernel, ?_, by decide, ?_, ?_, by decide, ?_⟩
  · split <;> simp [mulOk]
  · simp only [mulOk, Bool.or_eq_true, decide_eq_true_eq]; exact .inl (.inl (by omega))
  · simp only [powOk, Bool.and_eq_true, Bool.or_eq_true, decide_eq_true_eq]; exact ⟨by omega, .inl ⟨by omega, by omega⟩⟩
  · have c0 : 0 ≤ (y * if 10 ^ Int.toNat 18 ≤ y then 1 else 0) ∧ (y * if 10 ^ Int.toNat 18 ≤ y then 1 else 0) < 10 ^ 240 := by
      split <;> omega
    exact ⟨⟨_, _, c0.1, c0.2, Int.emod_nonneg _ (by decide), Int.emod_lt_of_pos _ (by decide)⟩, rfl⟩
theorem draw_call {f : Fn} {ρ : Env} {i : Nat} {p : Pot} {m : Int} {Q : R → Env → Prop} {X : String → Env → Prop} (hf : f.ios = [true, false]) (sp : DrawSp f) (hs : slotAt ρ i = some (.io p.t) ∨ slotAt ρ i = some (.own p.t)) (h0 : 0 < m) (h1 : divOk m = true)
    (hq : ∀ (r : Int) (p' : Pot), 0 ≤ r → r < m → Q (.val (.int r)) (reo ρ i p'.t)) : Ex (callRes f [.loc i, .val (.int m)] ρ) Q X := by
  refine wp_call (ts := [p.t, .int m]) ?_ ?_ ((sp p m h0 h1).mono ?_ ?_)
  · rw [hf]; exact ⟨by simp [ioIx], by simp [rdIx], rfl⟩
  · rw [hf]
    rcases hs with hs | hs <;> simp [argT, hs, R.clean]
  · rintro _ _ _ ⟨r, p', rfl, rfl, rfl, g0, g1⟩
    rw [hf]
    exact ⟨rfl, hq r p' g0 g1⟩
  · exact fun _ _ h => h.elim

-- lib: pot
/-! ## what is drawn -/
def allI (lo hi : Int) : List T → Prop
  | [] => True
  | .int a :: r => (lo ≤ a ∧ a ≤ hi) ∧ allI lo hi r
  | _ :: _ => False
theorem allI_mem {lo hi : Int} : ∀ {xs : List T}, allI lo hi xs → ∀ x ∈ xs, ∃ a, x = .int a ∧ lo ≤ a ∧ a ≤ hi
  | [], _, x, m => by simp at m
  | .int a :: r, h, x, m => by
    rcases List.mem_cons.mp m with rfl | m
    · exact ⟨a, rfl, h.1⟩
    · exact allI_mem h.2 x m
theorem bd_pickI {xs : List T} {i : Int} {Q : T → Prop} (lo hi : Int) (h0 : 0 ≤ i) (h1 : i < xs.length) (hx : allI lo hi xs) (h : ∀ a : Int, lo ≤ a → a ≤ hi → Q (.int a)) : Bd (pick xs i) Q := by
  obtain ⟨t, e, ht⟩ := pick_in h0 h1
  obtain ⟨a, rfl, g⟩ := allI_mem hx t ht
  rw [e]; exact h a g.1 g.2
theorem bd_pick {α : Type} {xs : List α} {i : Int} {Q : α → Prop} (h0 : 0 ≤ i) (h1 : i < xs.length) (h : ∀ x ∈ xs, Q x) : Bd (pick xs i) Q := by
  obtain ⟨t, e, ht⟩ := pick_in h0 h1
  rw [e]; exact h t ht
def az (c : Nat) : Prop := 97 ≤ c ∧ c ≤ 122
theorem bd_pickAZ {i : Int} {Q : Nat → Prop} (h0 : 0 ≤ i) (h1 : i < 26) (h : ∀ c, az c → Q c) : Bd (pick [97, 98, 99, 100, 101, 102, 103, 104, 105, 106, 107, 108, 109, 110, 111, 112, 113, 114, 115, 116, 117, 118, 119, 120, 121, 122] i) Q := by
  refine bd_pick h0 h1 fun c hc => h c ?_
  simp only [List.mem_cons, List.not_mem_nil, or_false] at hc
  unfold az; omega
theorem bd_pickO {cs : List Nat} {i : Int} {Q : T → Prop} (h0 : 0 ≤ i) (h1 : i < cs.length) (h : ∀ c ∈ cs, Q (.str [c])) : Bd (pick (onesT cs) i) Q := by
  refine bd_pick h0 (by rw [onesT_len]; exact h1) fun x hx => ?_
  obtain ⟨c, hc, rfl⟩ := List.mem_map.mp hx
  exact h c hc
/-- a list's last one, by -1 -/
theorem pick_last {α : Type} {xs : List α} {Q : α → Prop} (h : 0 < xs.length) (hq : ∀ x ∈ xs, Q x) : Bd (pick xs (-1)) Q := by
  unfold pick
  rw [if_neg (by decide), if_pos (by omega)]
  have hl : (-1 + (xs.length : Int)).toNat < xs.length := by omega
  rw [List.getElem?_eq_getElem hl]
  exact hq _ (List.getElem_mem hl)
theorem pick_lastO {cs : List Nat} {Q : T → Prop} (h : 0 < cs.length) (hq : ∀ c ∈ cs, Q (.str [c])) : Bd (pick (onesT cs) (-1)) Q := by
  refine pick_last (by rw [onesT_len]; exact h) fun x hx => ?_
  obtain ⟨c, hc, rfl⟩ := List.mem_map.mp hx
  exact hq c hc
theorem onesT_of {p : Nat → Prop} {ts : List T} (h : ∀ t ∈ ts, one? p t) : ∃ cs : List Nat, ts = onesT cs ∧ ∀ c ∈ cs, p c := ones h
theorem join_onesT {cs : List Nat} (h : cs.length ≤ 16777216) : Mth.sem .join (.str []) [.lst (onesT cs)] = some (.val (.str cs)) := join_sem h
theorem cut_mem {α : Type} {xs : List α} {l h : Option Int} {x : α} (m : x ∈ cut xs l h) : x ∈ xs := by
  unfold cut at m
  exact List.mem_of_mem_drop (List.mem_of_mem_take m)
theorem repL_mem {α : Type} {xs : List α} {k : Int} {x : α} (m : x ∈ repL xs k) : x ∈ xs := by
  unfold repL at m
  obtain ⟨l, hl, hx⟩ := List.mem_flatten.mp m
  rw [List.eq_of_mem_replicate hl] at hx
  exact hx
theorem range_mem {m : Nat} {x : T} (h : x ∈ (List.range m).map fun (k : Nat) => T.int (k : Int)) : ∃ k : Nat, x = .int k ∧ k < m := by
  simp only [List.mem_map, List.mem_range] at h
  obtain ⟨k, hk, rfl⟩ := h
  exact ⟨k, rfl, hk⟩
/-- a row drawn: at most so long, letters alone -/
def RowSp (f : Fn) (hi : Int) : Prop := ∀ (p : Pot) (most : Int), 0 ≤ most → most ≤ hi → f.Runs [p.t, .int most] (fun t fr outs => ∃ (s : List Nat) (p' : Pot), t = .str s ∧ fr = false ∧ outs = [p'.t] ∧ (s.length : Int) ≤ most ∧ ∀ c ∈ s, az c) noX
/-- a text made of signs, as long as told -/
def SizedSp (f : Fn) (hi : Int) : Prop := ∀ (p : Pot) (cs : List Nat) (size : Int), 0 < cs.length → cs.length ≤ 26 → 0 ≤ size → size ≤ hi → f.Runs [p.t, .lst (onesT cs), .int size] (fun t fr outs => ∃ (s : List Nat) (p' : Pot), t = .str s ∧ fr = false ∧ outs = [p'.t] ∧ (s.length : Int) ≤ size ∧ ∀ c ∈ s, c ∈ cs) noX
theorem mulOk_if {a : Int} {c : Prop} [Decidable c] : mulOk a (if c then 1 else 0) = true := by split <;> simp [mulOk]
theorem mulOk_sm {a b : Int} (h : -1000000000 < a ∧ a < 1000000000) (h2 : -1000000000 < b ∧ b < 1000000000) : mulOk a b = true := by
  simp only [mulOk, Bool.or_eq_true, decide_eq_true_eq]; exact .inl (.inl (by omega))
theorem repL_len2 {α : Type} {xs : List α} {k : Int} {a b : Nat} (h : xs.length ≤ a) (h2 : k.toNat ≤ b) : xs.length * k.toNat ≤ a * b ∧ (repL xs k).length ≤ a * b := by
  rw [repL_len, Nat.mul_comm k.toNat]
  exact ⟨Nat.mul_le_mul h h2, Nat.mul_le_mul h h2⟩
theorem rounds_a {n : Nat} {c : Int} (hc : 1 ≤ c) : ∃ m : Nat, (m : Int) ≤ c ∧ (if (if (n : Int) < c then (n : Int) else c) > 1 then (if (n : Int) < c then (n : Int) else c) else 1) = (m : Int) := by
  split <;> split <;> first | exact ⟨c.toNat, by omega, by omega⟩ | exact ⟨1, by omega, rfl⟩ | exact ⟨n, by omega, rfl⟩
theorem rounds_b {n : Nat} {c : Int} (hc : 1 ≤ c) : ∃ m : Nat, (m : Int) ≤ c ∧ (if (if c < (n : Int) then c else (n : Int)) > 1 then (if c < (n : Int) then c else (n : Int)) else 1) = (m : Int) := by
  split <;> split <;> first | exact ⟨c.toNat, by omega, by omega⟩ | exact ⟨1, by omega, rfl⟩ | exact ⟨n, by omega, rfl⟩
theorem divOk_big {m : Int} (h0 : 0 < m) (h1 : m < 100000000000000000000000000000000000000000000000000000000000000000000000000000000) : divOk m = true := by
  simp only [divOk, Bool.and_eq_true, Bool.or_eq_true, decide_eq_true_eq]
  refine ⟨h0, .inr ?_⟩
  have : m.natAbs < 2 ^ 300 := by
    have : (2 : Nat) ^ 300 > 100000000000000000000000000000000000000000000000000000000000000000000000000000000 := by decide +kernel
    omega
  have := (Nat.log2_lt (by omega)).mpr this
  omega
theorem az_cut {xs : List Nat} {l h : Option Int} (z : ∀ c ∈ xs, az c) : ∀ c ∈ cut xs l h, az c := fun c m => z c (cut_mem m)
theorem az_rep {c : Nat} {k : Int} (hc : az c) : ∀ x ∈ repL [c] k, az x := fun x m => by have := repL_mem m; simp at this; subst this; exact hc
theorem az_repL {xs : List Nat} {k : Int} (z : ∀ c ∈ xs, az c) : ∀ x ∈ repL xs k, az x := fun x m => z x (repL_mem m)
theorem az_one {c : Nat} (hc : az c) : ∀ x ∈ [c], az x := fun x m => by simp at m; subst m; exact hc
theorem az_app {xs ys : List Nat} (h : ∀ c ∈ xs, az c) (h2 : ∀ c ∈ ys, az c) : ∀ c ∈ xs ++ ys, az c := fun c m => (List.mem_append.mp m).elim (h c) (h2 c)
theorem az_rev {xs : List Nat} (h : ∀ c ∈ xs, az c) : ∀ c ∈ xs.reverse, az c := fun c m => h c (List.mem_reverse.mp m)
theorem rep1_len (c : Nat) (k : Int) : (repL [c] k).length = k.toNat := by rw [repL_len]; simp
theorem cut_mid_len {xs : List Nat} {l h : Int} (h0 : 0 ≤ l) (h1 : l ≤ h) (h2 : h ≤ xs.length) : ((cut xs (some l) (some h)).length : Int) = h - l := by
  rw [cut_mid _ h0 (by omega), List.length_take, List.length_drop]; omega
theorem cut_to_len {xs : List Nat} {h : Int} (h0 : 0 ≤ h) : (cut xs none (some h)).length = min h.toNat xs.length := by rw [cut_to _ h0, List.length_take]
theorem cut_from_len {xs : List Nat} {h : Int} (h0 : 0 ≤ h) : (cut xs (some h) none).length = xs.length - h.toNat := by rw [cut_from _ h0, List.length_drop]
/-- signs to draw from: a text of two to twenty-six letters -/
def azB (c : Nat) : Bool := decide (97 ≤ c) && decide (c ≤ 122)
def signsB (cs : List Nat) : Bool := decide (2 ≤ cs.length) && decide (cs.length ≤ 26) && cs.all azB
structure Signs (cs : List Nat) : Prop where
  two : 2 ≤ cs.length
  most : cs.length ≤ 26
  az : ∀ c ∈ cs, az c
theorem signs_of {cs : List Nat} (h : signsB cs = true) : Signs cs := by
  simp only [signsB, Bool.and_eq_true, decide_eq_true_eq, List.all_eq_true, azB] at h
  exact ⟨h.1.1, h.1.2, fun c hc => h.2 c hc⟩
theorem bd_pickG {xs : List (List Nat)} {i : Int} {Q : T → Prop} (h0 : 0 ≤ i) (h1 : i < xs.length) (hx : xs.all signsB = true) (h : ∀ cs, Signs cs → Q (.str cs)) : Bd (pick (xs.map T.str) i) Q := by
  refine bd_pick h0 (by simpa using h1) fun x hm => ?_
  obtain ⟨cs, hc, rfl⟩ := List.mem_map.mp hm
  exact h cs (signs_of (List.all_eq_true.mp hx cs hc))
theorem bd_pickC {cs : List Nat} {i : Int} {Q : Nat → Prop} (h0 : 0 ≤ i) (h1 : i < cs.length) (h : ∀ c ∈ cs, Q c) : Bd (pick cs i) Q := bd_pick h0 h1 h
theorem sort_ones (tx : List Nat) : ∃ tx' : List Nat, sortS (tx.map fun c => [c]) = tx'.map (fun c => [c]) ∧ tx'.Perm tx := by
  have p := sortS_perm (tx.map fun c => [c])
  generalize sortS (tx.map fun c => [c]) = xs at p
  refine ⟨xs.map fun l => l.headD 0, ?_, ?_⟩
  · rw [List.map_map]
    conv => lhs; rw [← List.map_id xs]
    refine List.map_congr_left fun x hx => ?_
    obtain ⟨c, _, rfl⟩ := List.mem_map.mp (p.mem_iff.mp hx)
    rfl
  · have := p.map fun l : List Nat => l.headD 0
    rw [List.map_map] at this
    have e : (tx.map ((fun l : List Nat => l.headD 0) ∘ fun c => [c])) = tx := by
      conv => rhs; rw [← List.map_id tx]
      exact List.map_congr_left fun x _ => rfl
    rw [e] at this; exact this
theorem sort_onesT (tx : List Nat) : ∃ tx' : List Nat, (sortS (tx.map fun c => [c])).map T.str = onesT tx' ∧ tx'.Perm tx := by
  obtain ⟨tx', e, p⟩ := sort_ones tx
  exact ⟨tx', by rw [e, List.map_map]; rfl, p⟩
theorem cut_to_le {xs : List Nat} {h : Int} (h0 : 0 ≤ h) : ((cut xs none (some h)).length : Int) ≤ h ∧ (cut xs none (some h)).length ≤ xs.length := by
  rw [cut_to _ h0, List.length_take]; omega
theorem cut_to_pos {xs : List Nat} {h : Int} (h0 : 0 < h) (h1 : 0 < xs.length) : 0 < (cut xs none (some h)).length := by
  rw [cut_to _ (by omega), List.length_take]; omega
theorem cut_split {xs : List Nat} {h : Int} (h0 : 0 ≤ h) : (cut xs none (some h)).length + (cut xs (some h) none).length = xs.length := by
  rw [cut_to _ h0, cut_from _ h0, List.length_take, List.length_drop]; omega
theorem cut_split1 {xs : List Nat} {h : Int} (h0 : 0 ≤ h) (h1 : h < xs.length) : (cut xs none (some h)).length + 1 + (cut xs (some (h + 1)) none).length = xs.length := by
  rw [cut_to _ h0, cut_from _ (by omega), List.length_take, List.length_drop]; omega
theorem repL60 {xs : List Nat} {b : Nat} (h : xs.length ≤ b) : xs.length * Int.toNat 60 ≤ b * 60 ∧ (repL xs 60).length ≤ b * 60 ∧ (0 < xs.length → 0 < (repL xs 60).length) := by
  have e : Int.toNat 60 = 60 := rfl
  rw [repL_len, e]; omega
theorem mulOk_l {a b : Int} (h : -1000000000 < a ∧ a < 1000000000) : mulOk a b = true := by
  simp only [mulOk, Bool.or_eq_true, decide_eq_true_eq]; exact .inl (.inl (by omega))
theorem mulOk_r {a b : Int} (h : -1000000000 < b ∧ b < 1000000000) : mulOk a b = true := by
  simp only [mulOk, Bool.or_eq_true, decide_eq_true_eq]; exact .inl (.inr (by omega))
theorem powOk5 {w : Int} (h0 : 0 ≤ w) (h1 : w < 1000000000000) : powOk w 5 = true := by
  simp only [powOk, Bool.and_eq_true, Bool.or_eq_true, decide_eq_true_eq]; exact ⟨by omega, .inl ⟨by omega, by omega⟩⟩
theorem onesT_erase : ∀ (l : List Nat) (i : Nat), (onesT l).eraseIdx i = onesT (l.eraseIdx i)
  | [], i => rfl
  | c :: l, 0 => rfl
  | c :: l, i + 1 => by
    show T.str [c] :: (onesT l).eraseIdx i = T.str [c] :: onesT (l.eraseIdx i)
    rw [onesT_erase l i]
def azs (cs : List Nat) : Bool := cs.all azB
theorem azs_of {cs : List Nat} (h : azs cs = true) : ∀ c ∈ cs, az c := by
  simp only [azs, List.all_eq_true, azB, Bool.and_eq_true, decide_eq_true_eq] at h
  exact h
def letters26 : List Nat := [97, 98, 99, 100, 101, 102, 103, 104, 105, 106, 107, 108, 109, 110, 111, 112, 113, 114, 115, 116, 117, 118, 119, 120, 121, 122]
theorem letters26_az : ∀ c ∈ letters26, az c := azs_of (by decide)
theorem cut_mid_len2 {xs : List Nat} {l h : Int} (h0 : 0 ≤ l) (h1 : l ≤ h) : ((cut xs (some l) (some h)).length : Int) ≤ h - l ∧ (cut xs (some l) (some h)).length ≤ xs.length := by
  rw [cut_mid _ h0 (by omega), List.length_take, List.length_drop]; omega

-- lib: draw
/-! ## words in rows -/
def wordAt (s : List Nat) (b e : Nat) : List Nat := (s.drop b).take (e - b)
theorem cut_word (s : List Nat) (b e : Nat) : cut s (some (b : Int)) (some (e : Int)) = wordAt s b e := by
  rw [cut_mid _ (Int.natCast_nonneg b) (Int.natCast_nonneg e)]; rfl
theorem cut_word1 (s : List Nat) (b e : Nat) : cut s (some (b : Int)) (some ((e : Int) + 1)) = wordAt s b (e + 1) := cut_word s b (e + 1)
theorem cut_word2 (s : List Nat) (b e : Nat) : cut s (some (b : Int)) (some ((b : Int) + (e : Int))) = (s.drop b).take e := by
  rw [cut_mid _ (by omega) (by omega)]
  congr 1; omega
theorem cut_head (s : List Nat) (e : Nat) : cut s none (some (e : Int)) = s.take e := by rw [cut_to _ (Int.natCast_nonneg e)]; rfl
theorem cut_tail (s : List Nat) (e : Nat) : cut s (some (e : Int)) none = s.drop e := by rw [cut_from _ (Int.natCast_nonneg e)]; rfl
theorem wordAt_len {s : List Nat} {b e : Nat} (h : e ≤ s.length) : (wordAt s b e).length = e - b := by
  unfold wordAt; rw [List.length_take, List.length_drop]; omega
def earlier (s : List Nat) (b e : Nat) : Bool := (List.range b).any (subAtL s (wordAt s b e))
theorem hasL_iff {s t : List Nat} : hasL s t = true ↔ ∃ i, i + t.length ≤ s.length ∧ (s.drop i).take t.length = t := by
  unfold hasL
  rw [List.any_eq_true]
  constructor
  · rintro ⟨i, hi, h⟩
    rw [List.mem_range] at hi
    exact ⟨i, by omega, subAtL_iff.mp h⟩
  · rintro ⟨i, hi, h⟩
    exact ⟨i, by rw [List.mem_range]; omega, subAtL_iff.mpr h⟩
theorem earlier_iff {s : List Nat} {b e : Nat} : earlier s b e = true ↔ ∃ i, i < b ∧ (s.drop i).take (wordAt s b e).length = wordAt s b e := by
  unfold earlier
  rw [List.any_eq_true]
  simp only [List.mem_range, subAtL_iff]
theorem earlier_has {s : List Nat} {b e : Nat} (h : b < e) (h2 : e ≤ s.length) : earlier s b e = hasL (s.take (e - 1)) (wordAt s b e) := by
  have hl := wordAt_len (b := b) h2
  rw [Bool.eq_iff_iff, earlier_iff, hasL_iff, hl]
  constructor
  · rintro ⟨i, hi, g⟩
    refine ⟨i, by rw [List.length_take]; omega, ?_⟩
    rw [← g, List.drop_take, List.take_take]; congr 1; omega
  · rintro ⟨i, hi, g⟩
    rw [List.length_take] at hi
    refine ⟨i, by omega, ?_⟩
    rw [← g, List.drop_take, List.take_take]; congr 1; omega
/-- the cutting into new stretches -/
def newF (s : List Nat) (a : List (Nat × Nat) × Nat) (k : Nat) : List (Nat × Nat) × Nat := if earlier s a.2 (k + 1) then a else (a.1 ++ [(a.2, k + 1)], k + 1)
def newS (s : List Nat) : List (Nat × Nat) := ((List.range s.length).foldl (newF s) ([], 0)).1
def pairT (p : Nat × Nat) : T := .tup [.int p.1, .int p.2]
def firstC (s : List Nat) : List Int := (newS s).map fun p => (p.2 : Int) - 1
theorem foldl_pre {α β : Type} (P : α → List β → Prop) {f : α → β → α} {s0 : α} {as : List β} (h0 : P s0 []) (hs : ∀ s pre a post, as = pre ++ a :: post → P s pre → P (f s a) (pre ++ [a])) : ∀ n, n ≤ as.length → P ((as.take n).foldl f s0) (as.take n) := by
  intro n
  induction n with
  | zero => intro _; exact h0
  | succ n ih =>
    intro h
    have e : as.take (n + 1) = as.take n ++ [as[n]] := by rw [List.take_add_one, List.getElem?_eq_getElem (by omega)]; rfl
    rw [e, List.foldl_append]
    exact hs _ _ as[n] (as.drop (n + 1)) (by rw [← List.drop_eq_getElem_cons (by omega), List.take_append_drop]) (ih (by omega))
theorem range_split {n : Nat} {pre post : List Nat} {a : Nat} (h : List.range n = pre ++ a :: post) : pre = List.range a ∧ a < n := by
  have e : (List.range n)[pre.length]? = some a := by rw [h]; simp
  have hl : pre.length < n := by have := congrArg List.length h; simp at this; omega
  rw [List.getElem?_range hl] at e
  cases e
  refine ⟨?_, hl⟩
  have := congrArg (List.take pre.length) h
  rw [List.take_range, List.take_left, Nat.min_eq_left (by omega)] at this
  exact this.symm
theorem newS_inv (s : List Nat) : ∀ n, n ≤ s.length → ∀ r, r = (List.range n).foldl (newF s) ([], 0) → r.2 ≤ n ∧ r.1.length ≤ n ∧ ∀ p ∈ r.1, p.1 < p.2 ∧ p.2 ≤ n := by
  intro n
  induction n with
  | zero => intro _ r e; subst e; simp
  | succ n ih =>
    intro h r e
    rw [List.range_succ, List.foldl_append] at e
    obtain ⟨h1, h2, h3⟩ := ih (by omega) _ rfl
    generalize (List.range n).foldl (newF s) ([], 0) = q at *
    subst e
    simp only [List.foldl_cons, List.foldl_nil, newF]
    split
    · exact ⟨by omega, by omega, fun p hp => by have := h3 p hp; omega⟩
    · refine ⟨by simp, by simp; omega, fun p hp => ?_⟩
      rcases List.mem_append.mp hp with hp | hp
      · have := h3 p hp; omega
      · simp at hp; subst hp; dsimp only; omega
theorem newS_len (s : List Nat) : (newS s).length ≤ s.length := (newS_inv s _ (Nat.le_refl _) _ rfl).2.1
theorem newS_mem {s : List Nat} {p : Nat × Nat} (h : p ∈ newS s) : p.1 < p.2 ∧ p.2 ≤ s.length := (newS_inv s _ (Nat.le_refl _) _ rfl).2.2 p h
theorem firstC_len (s : List Nat) : (firstC s).length ≤ s.length := by rw [firstC, List.length_map]; exact newS_len s
theorem cut_sub {s t : List Nat} {i : Nat} : cut s (some (i : Int)) (some ((i : Int) + (t.length : Int))) = t ↔ subAtL s t i = true := by rw [cut_word2, subAtL_iff]
theorem lt_succ_split {P : Nat → Prop} {n : Nat} (h : ∀ i, i < n → P i) (hn : P n) : ∀ i, i < n + 1 → P i := fun i hi => by
  rcases Nat.lt_or_ge i n with z | z
  · exact h i z
  · have : i = n := by omega
    subst this; exact hn
theorem nsub_false {s t : List Nat} {i : Nat} (h : ¬ subAtL s t i = true) : subAtL s t i = false := by simpa using h
/-- the places of a word -/
def plcs (row word : List Nat) : List Nat := (List.range (row.length + 1 - word.length)).filter fun k => subAtL row word k
theorem plcs_len (row word : List Nat) : (plcs row word).length ≤ row.length + 1 := by
  unfold plcs
  refine Nat.le_trans (List.length_filter_le _ _) ?_
  rw [List.length_range]; omega
theorem plcs_mem {row word : List Nat} {k : Nat} : k ∈ plcs row word ↔ k + word.length ≤ row.length ∧ (row.drop k).take word.length = word := by
  unfold plcs
  rw [List.mem_filter, List.mem_range, subAtL_iff]
  constructor
  · rintro ⟨h, h2⟩; exact ⟨by omega, h2⟩
  · rintro ⟨h, h2⟩; exact ⟨by omega, h2⟩
theorem plcs_lt (row word : List Nat) : (plcs row word).Pairwise (· < ·) := List.pairwise_lt_range.filter _

-- lib: words
/-! ## marks: dicts of keys, sums ahead -/
instance memKt (k : Kt) (ks : List Kt) : Decidable (k ∈ ks) := @List.instDecidableMemOfLawfulBEq Kt instBEqOfDecidableEq inferInstance k ks
def onK (ks : List Kt) : List (Kt × T) := ks.map fun k => (k, .bl true)
def addK (ks : List Kt) (k : Kt) : List Kt := if k ∈ ks then ks else ks ++ [k]
theorem onK_len (ks : List Kt) : (onK ks).length = ks.length := by simp only [onK, List.length_map]
theorem putK (ks : List Kt) (w : Kt) : putT (onK ks) w (.bl true) = onK (addK ks w) := by
  unfold putT addK
  have e : ((onK ks).any fun kv => decide (kv.1 = w)) = decide (w ∈ ks) := by
    unfold onK
    rw [List.any_map, Bool.eq_iff_iff, List.any_eq_true, decide_eq_true_eq]
    constructor
    · rintro ⟨x, hx, h⟩
      have h : x = w := of_decide_eq_true h
      exact h ▸ hx
    · exact fun h => ⟨w, h, decide_eq_true rfl⟩
  rw [e]
  by_cases h : w ∈ ks
  · rw [if_pos (decide_eq_true h), if_pos h]
    unfold onK
    rw [List.map_map]
    refine List.map_congr_left fun x _ => ?_
    show (if x = w then (w, T.bl true) else (x, .bl true)) = _
    by_cases z : x = w
    · rw [z, if_pos rfl]
    · rw [if_neg z]
  · rw [if_neg (by rw [decide_eq_false h]; decide), if_neg h]
    unfold onK
    rw [List.map_append]; rfl
theorem mergeK (ks l : List Kt) : mergeT (onK ks) (onK l) = onK (l.foldl addK ks) := by
  induction l generalizing ks with
  | nil => rfl
  | cons k l ih =>
    show mergeT (putT (onK ks) k (.bl true)) (onK l) = _
    rw [putK, ih]; rfl
theorem addK_mem {ks : List Kt} {w x : Kt} : x ∈ addK ks w ↔ x ∈ ks ∨ x = w := by
  unfold addK; split
  · rename_i h; exact ⟨.inl, fun z => z.elim id fun e => e ▸ h⟩
  · rw [List.mem_append, List.mem_singleton]
theorem foldK_mem {ws ks : List Kt} {x : Kt} : x ∈ ws.foldl addK ks ↔ x ∈ ks ∨ x ∈ ws := by
  induction ws generalizing ks with
  | nil => simp
  | cons w ws ih => rw [List.foldl_cons, ih, addK_mem, List.mem_cons, or_assoc]
theorem addK_len (ks : List Kt) (w : Kt) : (addK ks w).length ≤ ks.length + 1 := by unfold addK; split <;> simp
theorem foldK_len (ws ks : List Kt) : (ws.foldl addK ks).length ≤ ks.length + ws.length := by
  induction ws generalizing ks with
  | nil => simp
  | cons w ws ih =>
    have := ih (addK ks w)
    have := addK_len ks w
    simp only [List.foldl_cons, List.length_cons]; omega
theorem getK (ks : List Kt) (k : Kt) : (getT (onK ks) k).isSome = decide (k ∈ ks) := by
  unfold getT onK
  rw [Option.isSome_map, List.find?_map, Option.isSome_map, Bool.eq_iff_iff, List.find?_isSome, decide_eq_true_eq]
  constructor
  · rintro ⟨x, hx, h⟩
    have h : x = k := of_decide_eq_true h
    exact h ▸ hx
  · exact fun h => ⟨k, h, decide_eq_true rfl⟩
theorem pairs_ints (ms : List Int) : pairs? (ms.map fun m => .tup [.int m, .bl true]) = some (onK (ms.map .inl)) := by
  induction ms with
  | nil => rfl
  | cons m ms ih => simp only [List.map_cons, pairs?, pair?, T.k?, Option.map_some, Option.bind_some, ih]; rfl
/-- the keys of dict([(m, True) for m in ms]) -/
def heldK (ms : List Int) : List Kt := (ms.map Sum.inl).foldl addK []
theorem dict_ints (ms : List Int) : Blt.sem .dict [.lst (ms.map fun m => .tup [.int m, .bl true])] = some (.fresh (.dct (onK (heldK ms)))) := by
  show (pairs? (ms.map fun m => T.tup [.int m, .bl true])).map _ = _
  rw [pairs_ints]
  show some (R.fresh (.dct (mergeT (onK []) (onK _)))) = _
  rw [mergeK]; rfl
theorem heldK_mem {ms : List Int} {m : Int} : Sum.inl m ∈ heldK ms ↔ m ∈ ms := by
  unfold heldK
  rw [foldK_mem, List.mem_map]
  simp
theorem heldK_len (ms : List Int) : (heldK ms).length ≤ ms.length := by
  have := foldK_len (ms.map Sum.inl) []
  simp only [List.length_nil, List.length_map, Nat.zero_add] at this
  exact this
/-- how many places ahead of n are marks -/
def aheadN (ms : List Int) (n : Nat) : Nat := (List.range n).countP fun (p : Nat) => decide ((p : Int) ∈ ms)
theorem aheadN_succ (ms : List Int) (n : Nat) : aheadN ms (n + 1) = aheadN ms n + if (n : Int) ∈ ms then 1 else 0 := by
  unfold aheadN
  rw [List.range_succ, List.countP_append, List.countP_singleton]
  simp only [decide_eq_true_eq]
def aheadL (ms : List Int) (n : Nat) : List Int := (List.range (n + 1)).map fun i => (aheadN ms i : Int)
theorem aheadL_len (ms : List Int) (n : Nat) : (aheadL ms n).length = n + 1 := by simp [aheadL]
theorem aheadL_succ (ms : List Int) (n : Nat) : aheadL ms (n + 1) = aheadL ms n ++ [(aheadN ms (n + 1) : Int)] := by
  unfold aheadL; rw [List.range_succ (n := n + 1), List.map_append]; rfl
theorem aheadN_lt {ms : List Int} {a b : Nat} (h : a ≤ b) : aheadN ms a < aheadN ms b ↔ ∃ q : Nat, a ≤ q ∧ q < b ∧ (q : Int) ∈ ms := by
  induction b with
  | zero =>
    have : a = 0 := by omega
    subst this
    exact ⟨fun h => absurd h (Nat.lt_irrefl _), fun ⟨q, _, h, _⟩ => absurd h (Nat.not_lt_zero _)⟩
  | succ b ih =>
    rcases Nat.lt_or_ge b a with hb | hb
    · have : a = b + 1 := by omega
      subst this
      exact ⟨fun h => absurd h (Nat.lt_irrefl _), fun ⟨q, h1, h2, _⟩ => absurd h1 (by omega)⟩
    · have ih := ih hb
      have mono : aheadN ms a ≤ aheadN ms b := by
        unfold aheadN
        exact List.Sublist.countP_le (List.range_sublist.mpr hb)
      rw [aheadN_succ]
      by_cases hm : (b : Int) ∈ ms
      · rw [if_pos hm]
        exact ⟨fun _ => ⟨b, hb, by omega, hm⟩, fun _ => by omega⟩
      · rw [if_neg hm, Nat.add_zero, ih]
        constructor
        · rintro ⟨q, h1, h2, h3⟩; exact ⟨q, h1, by omega, h3⟩
        · rintro ⟨q, h1, h2, h3⟩
          refine ⟨q, h1, ?_, h3⟩
          rcases Nat.lt_or_ge q b with h | h
          · exact h
          · have : q = b := by omega
            subst this; exact absurd h3 hm
/-- is a place from a to below b a mark -/
def hits (ms : List Int) (a b : Nat) : Bool := decide (aheadN ms a < aheadN ms b)
/-- the first place of a word that stands over a mark -/
def overP (row : List Nat) (ms : List Int) (word : List Nat) : Option Nat := (List.range (row.length + 1 - word.length)).find? fun p => hits ms p (p + word.length) && subAtL row word p
theorem pick_end {α : Type} (xs : List α) (x : α) : pick (xs ++ [x]) (-1) = some x := by
  unfold pick
  rw [if_neg (by decide), if_pos (by simp; omega)]
  have : (-1 + ((xs ++ [x]).length : Int)).toNat = xs.length := by simp; omega
  rw [this]; simp
theorem aheadL_end (ms : List Int) (n : Nat) : pick ((aheadL ms n).map T.int) (-1) = some (.int (aheadN ms n : Int)) := by
  unfold aheadL
  rw [List.range_succ, List.map_append, List.map_append, List.map_singleton, List.map_singleton, pick_end]
theorem aheadL_at {ms : List Int} {n i : Nat} (h : i ≤ n) : pick ((aheadL ms n).map T.int) (i : Int) = some (.int (aheadN ms i : Int)) := by
  unfold pick
  rw [if_pos (Int.natCast_nonneg i), Int.toNat_natCast, List.getElem?_map, aheadL, List.getElem?_map, List.getElem?_range (by omega)]
  rfl
theorem find_range {p : Nat → Bool} {n : Nat} {o : Option Nat} : (∀ k, k < n → p k = false) → ∀ i, i ≤ n → ((List.range i).find? p) = none := by
  intro h i hi
  rw [List.find?_eq_none]
  intro x hx
  rw [List.mem_range] at hx
  rw [h x (by omega)]; decide
theorem find_first {p : Nat → Bool} {n k : Nat} (hk : k < n) (h : p k = true) (h2 : ∀ i, i < k → p i = false) : (List.range n).find? p = some k := by
  rw [List.find?_range_eq_some]
  exact ⟨h, by simpa using hk, fun j hj => by rw [h2 j hj]; rfl⟩
theorem find_nil {p : Nat → Bool} {n : Nat} (h : ∀ i, i < n → p i = false) : (List.range n).find? p = none := by
  rw [List.find?_eq_none]
  intro x hx
  rw [List.mem_range] at hx
  rw [h x hx]; decide
theorem subAtL_len {s t : List Nat} {i : Nat} : (decide ((s.drop i).take t.length = t)) = subAtL s t i := rfl
/-- places, one behind the other, all below n -/
def Spots (n : Nat) (acc : List T) : Prop := ∃ ms : List Int, acc = ms.map T.int ∧ ms.length ≤ n ∧ ms.Pairwise (· < ·) ∧ ∀ m ∈ ms, 0 ≤ m ∧ m < n
theorem Spots.nil : Spots 0 [] := ⟨[], rfl, by simp, List.Pairwise.nil, by simp⟩
theorem Spots.add {n : Nat} {acc : List T} (h : Spots n acc) : Spots (n + 1) (acc ++ [.int (n : Int)]) := by
  obtain ⟨ms, rfl, h1, h2, h3⟩ := h
  refine ⟨ms ++ [(n : Int)], by simp, by simp; omega, ?_, fun m hm => ?_⟩
  · rw [List.pairwise_append]
    refine ⟨h2, by simp, fun a ha b hb => ?_⟩
    simp at hb; subst hb; exact (h3 a ha).2
  · rcases List.mem_append.mp hm with hm | hm
    · have := h3 m hm; omega
    · simp at hm; subst hm; omega
theorem Spots.skip {n : Nat} {acc : List T} (h : Spots n acc) : Spots (n + 1) acc := by
  obtain ⟨ms, rfl, h1, h2, h3⟩ := h
  exact ⟨ms, rfl, by omega, h2, fun m hm => by have := h3 m hm; omega⟩
theorem range_get {m n : Nat} {x : T} (h : ((List.range m).map fun (k : Nat) => T.int (k : Int))[n]? = some x) : x = .int (n : Int) ∧ n < m := by
  rw [List.getElem?_map, Option.map_eq_some_iff] at h
  obtain ⟨a, ha, rfl⟩ := h
  obtain ⟨hl, rfl⟩ := List.getElem?_eq_some_iff.mp ha
  rw [List.getElem_range]
  exact ⟨rfl, by simpa using hl⟩
theorem hits_iff {ms : List Int} {a b : Nat} (h : a ≤ b) : hits ms a b = true ↔ ∃ m ∈ ms, (a : Int) ≤ m ∧ m < b := by
  unfold hits
  rw [decide_eq_true_eq, aheadN_lt h]
  constructor
  · rintro ⟨q, h1, h2, h3⟩; exact ⟨q, h3, by omega, by omega⟩
  · rintro ⟨m, h1, h2, h3⟩
    refine ⟨m.toNat, by omega, by omega, ?_⟩
    rw [Int.toNat_of_nonneg (by omega)]; exact h1
theorem hits_filter {ms : List Int} {a b : Nat} (h : a ≤ b) : (ms.filter fun m => decide ((a : Int) ≤ m) && decide (m < b)) ≠ [] ↔ hits ms a b = true := by
  rw [hits_iff h, ne_eq, List.filter_eq_nil_iff]
  constructor
  · intro hn
    refine Classical.byContradiction fun hc => hn fun m hm hp => hc ⟨m, hm, ?_⟩
    simpa using hp
  · rintro ⟨m, hm, hp⟩ hn
    exact hn m hm (by simpa using hp)
/-- the least one from n - j on -/
def fromB (p : Nat → Bool) (n j : Nat) : Option Nat := (List.range' (n - j) j).find? p
theorem fromB_succ {p : Nat → Bool} {n j : Nat} (h : j < n) : fromB p n (j + 1) = if p (n - 1 - j) then some (n - 1 - j) else fromB p n j := by
  unfold fromB
  have e : n - (j + 1) = n - 1 - j := by omega
  have e2 : n - 1 - j + 1 = n - j := by omega
  rw [e, List.range'_succ, List.find?_cons, e2]
  cases p (n - 1 - j) <;> rfl
theorem fromB_all {p : Nat → Bool} {n : Nat} : fromB p n n = (List.range n).find? p := by
  unfold fromB; rw [Nat.sub_self, List.range_eq_range']

-- lib: marks words
/-! ## words that stand over no mark -/
def wordM (row : List Nat) (k m : Nat) : List Nat := (row.drop k).take m
/-- the words of m letters, place by place -/
def wordsN (row : List Nat) (m : Nat) : List (List Nat) := (List.range (row.length + 1 - m)).map fun k => wordM row k m
theorem wordM_len {row : List Nat} {k m : Nat} (h : k + m ≤ row.length) : (wordM row k m).length = m := by unfold wordM; rw [List.length_take, List.length_drop]; omega
theorem wordsN_mem {row : List Nat} {m : Nat} {w : List Nat} : w ∈ wordsN row m ↔ ∃ k, k + m ≤ row.length ∧ wordM row k m = w := by
  unfold wordsN
  rw [List.mem_map]
  constructor
  · rintro ⟨k, hk, rfl⟩; exact ⟨k, by have := List.mem_range.mp hk; omega, rfl⟩
  · rintro ⟨k, hk, rfl⟩; exact ⟨k, List.mem_range.mpr (by omega), rfl⟩
/-- stands somewhere over a mark -/
def metW (row : List Nat) (ms : List Int) (w : List Nat) : Bool := (List.range (row.length + 1 - w.length)).any fun k => hits ms k (k + w.length) && subAtL row w k
theorem metW_iff {row : List Nat} {ms : List Int} {w : List Nat} : metW row ms w = true ↔ ∃ k, k + w.length ≤ row.length ∧ hits ms k (k + w.length) = true ∧ wordM row k w.length = w := by
  unfold metW
  rw [List.any_eq_true]
  constructor
  · rintro ⟨k, hk, h⟩
    rw [Bool.and_eq_true, subAtL_iff] at h
    by_cases hl : k + w.length ≤ row.length
    · exact ⟨k, hl, h.1, h.2⟩
    · have := List.mem_range.mp hk; omega
  · rintro ⟨k, hk, h1, h2⟩
    exact ⟨k, List.mem_range.mpr (by omega), by rw [Bool.and_eq_true, subAtL_iff]; exact ⟨h1, h2⟩⟩
theorem metW_over {row : List Nat} {ms : List Int} {w : List Nat} : metW row ms w = (overP row ms w).isSome := by
  unfold metW overP
  rw [Bool.eq_iff_iff, List.any_eq_true, List.find?_isSome]
/-- the least word of m letters that stands, but over no mark -/
def lackM (row : List Nat) (ms : List Int) (m : Nat) : Option (List Nat) := minS ((wordsN row m).filter fun w => !metW row ms w)
/-- the first one in the order of words -/
def lackP (row : List Nat) (ms : List Int) : Option (List Nat) := (List.range row.length).findSome? fun i => lackM row ms (i + 1)
theorem lackM_some {row : List Nat} {ms : List Int} {m : Nat} {w : List Nat} (h : lackM row ms m = some w) : w.length = m ∧ metW row ms w = false ∧ ∃ k, k + m ≤ row.length ∧ wordM row k m = w := by
  obtain ⟨h1, _⟩ := minS_some.mp h
  rw [List.mem_filter] at h1
  obtain ⟨k, hk, rfl⟩ := wordsN_mem.mp h1.1
  exact ⟨wordM_len hk, by simpa using h1.2, k, hk, rfl⟩
theorem lackM_none {row : List Nat} {ms : List Int} {m : Nat} : lackM row ms m = none ↔ ∀ k, k + m ≤ row.length → metW row ms (wordM row k m) = true := by
  unfold lackM
  rw [minS_none, List.filter_eq_nil_iff]
  constructor
  · intro h k hk
    have := h _ (wordsN_mem.mpr ⟨k, hk, rfl⟩)
    simpa using this
  · intro h w hw
    obtain ⟨k, hk, rfl⟩ := wordsN_mem.mp hw
    simp [h k hk]
theorem lackP_none {row : List Nat} {ms : List Int} : lackP row ms = none ↔ ∀ k m, 0 < m → k + m ≤ row.length → metW row ms (wordM row k m) = true := by
  unfold lackP
  rw [List.findSome?_eq_none_iff]
  constructor
  · intro h k m hm hk
    have := h (m - 1) (List.mem_range.mpr (by omega))
    rw [show m - 1 + 1 = m by omega] at this
    exact lackM_none.mp this k hk
  · intro h i hi
    exact lackM_none.mpr fun k hk => h k (i + 1) (by omega) hk
theorem lackP_some {row : List Nat} {ms : List Int} {w : List Nat} (h : lackP row ms = some w) : 0 < w.length ∧ metW row ms w = false ∧ (∃ k, k + w.length ≤ row.length ∧ wordM row k w.length = w) ∧ ∀ m, 0 < m → m < w.length → lackM row ms m = none := by
  unfold lackP at h
  obtain ⟨l1, i, l2, e, h1, h2⟩ := List.findSome?_eq_some_iff.mp h
  obtain ⟨e1, hi⟩ := range_split e
  obtain ⟨h3, h4, h5⟩ := lackM_some h1
  refine ⟨by omega, h4, by rw [h3]; exact h5, fun m hm hm2 => ?_⟩
  have := h2 (m - 1) (by rw [e1]; exact List.mem_range.mpr (by omega))
  rwa [show m - 1 + 1 = m by omega] at this
/-- by any list of the words with just those that are met -/
theorem lackM_by {row : List Nat} {ms : List Int} {m : Nat} {met others : List (List Nat)} (h1 : ∀ w, w ∈ met ↔ ∃ k, k + m ≤ row.length ∧ hits ms k (k + m) = true ∧ wordM row k m = w) (h2 : ∀ w, w ∈ others → ∃ k, k + m ≤ row.length ∧ wordM row k m = w)
    (h3 : ∀ k, k + m ≤ row.length → hits ms k (k + m) = false → wordM row k m ∈ others) : minS (others.filter fun w => decide (w ∉ met)) = lackM row ms m := by
  have hm : ∀ w, (∃ k, k + m ≤ row.length ∧ wordM row k m = w) → (w ∈ met ↔ metW row ms w = true) := by
    rintro w ⟨k, hk, rfl⟩
    rw [h1, metW_iff, wordM_len hk]
  refine minS_congr fun w => ?_
  rw [List.mem_filter, List.mem_filter, wordsN_mem, decide_eq_true_eq]
  constructor
  · rintro ⟨a, b⟩
    have s := h2 w a
    exact ⟨s, by rw [hm w s] at b; simpa using b⟩
  · rintro ⟨s, b⟩
    have nm : w ∉ met := by rw [hm w s]; simpa using b
    obtain ⟨k, hk, rfl⟩ := s
    refine ⟨h3 k hk ?_, nm⟩
    cases q : hits ms k (k + m) with
    | false => rfl
    | true => exact absurd ((h1 _).mpr ⟨k, hk, q, rfl⟩) nm
theorem lackP_first {row : List Nat} {ms : List Int} {n : Nat} {w : List Nat} (hn : n < row.length) (hj : ∀ i, i < n → lackM row ms (i + 1) = none) (e : lackM row ms (n + 1) = some w) : lackP row ms = some w := by
  unfold lackP
  rw [List.findSome?_eq_some_iff]
  refine ⟨List.range n, n, (List.range (row.length - n - 1)).map (· + (n + 1)), ?_, e, fun i hi => hj i (List.mem_range.mp hi)⟩
  apply List.ext_getElem
  · simp; omega
  · intro i h1 h2
    simp only [List.getElem_range, List.getElem_append, List.length_range]
    split
    · rfl
    · rename_i h3
      rw [List.getElem_cons]
      split
      · omega
      · simp <;> omega
theorem lackP_all {row : List Nat} {ms : List Int} (hj : ∀ i, i < row.length → lackM row ms (i + 1) = none) : lackP row ms = none := by
  unfold lackP
  rw [List.findSome?_eq_none_iff]
  exact fun i hi => hj i (List.mem_range.mp hi)
theorem lt_succ_all {P : Nat → Prop} {n : Nat} (h : ∀ i, i < n → P i) (e : P n) : ∀ i, i < n + 1 → P i := fun i hi => by
  rcases Nat.lt_succ_iff_lt_or_eq.mp hi with q | rfl
  · exact h i q
  · exact e
/-! ## nets -/
theorem hits_mono {ms ns : List Int} {a b : Nat} (hab : a ≤ b) (h : ∀ m ∈ ms, m ∈ ns) (hh : hits ms a b = true) : hits ns a b = true := by
  rw [hits_iff hab] at *
  obtain ⟨m, hm, q⟩ := hh
  exact ⟨m, h m hm, q⟩
/-- a net: rising places of the row over which each word stands -/
structure Net (row : List Nat) (ms : List Int) : Prop where
  up : ms.Pairwise (· < ·)
  at_ : ∀ m ∈ ms, 0 ≤ m ∧ m < row.length
  no : lackP row ms = none
theorem Net.nd {row : List Nat} {ms : List Int} (h : Net row ms) : ms.Nodup := h.up.imp fun h => by omega
theorem up_len {n : Nat} {ms : List Int} (up : ms.Pairwise (· < ·)) (at_ : ∀ m ∈ ms, 0 ≤ m ∧ m < (n : Int)) : ms.length ≤ n := by
  have h1 : (ms.map Int.toNat).Nodup := by
    rw [List.Nodup, List.pairwise_map]
    exact List.Pairwise.imp_of_mem (fun {a b} ha hb h e => by have := at_ a ha; have := at_ b hb; omega) up
  have h2 : ∀ x ∈ ms.map Int.toNat, x ∈ List.range n := fun x hx => by
    obtain ⟨m, hm, rfl⟩ := List.mem_map.mp hx
    have := at_ m hm
    exact List.mem_range.mpr (by omega)
  have := (List.nodup_iff_count.mp h1)
  have h3 : (ms.map Int.toNat).length ≤ (List.range n).length := List.Nodup.length_le_of_subset h1 h2
  simpa using h3
theorem Net.len {row : List Nat} {ms : List Int} (h : Net row ms) : ms.length ≤ row.length := up_len h.up h.at_
theorem Net.pos {row : List Nat} {ms : List Int} (h : Net row ms) (hr : 0 < row.length) : 0 < ms.length := by
  have := lackP_none.mp h.no 0 1 (by omega) (by omega)
  obtain ⟨k, _, h2, _⟩ := metW_iff.mp this
  obtain ⟨m, hm, _⟩ := (hits_iff (by omega)).mp h2
  exact List.length_pos_of_mem hm
theorem net_all (row : List Nat) : Net row ((List.range row.length).map fun (k : Nat) => (k : Int)) := by
  refine ⟨List.Pairwise.map _ (fun a b h => by omega) List.pairwise_lt_range, fun m hm => ?_, lackP_none.mpr fun k m hm hk => ?_⟩
  · obtain ⟨k, hk, rfl⟩ := List.mem_map.mp hm
    have := List.mem_range.mp hk; omega
  · refine metW_iff.mpr ⟨k, by rw [wordM_len hk]; exact hk, ?_, by rw [wordM_len hk]⟩
    rw [wordM_len hk, hits_iff (by omega)]
    exact ⟨(k : Int), List.mem_map.mpr ⟨k, List.mem_range.mpr (by omega), rfl⟩, by omega, by omega⟩
theorem erase_up {ms : List Int} {i : Nat} (h : ms.Pairwise (· < ·)) : (ms.eraseIdx i).Pairwise (· < ·) := h.sublist (List.eraseIdx_sublist _ _)
theorem erase_mem {α : Type} {ms : List α} {i : Nat} {m : α} (h : m ∈ ms.eraseIdx i) : m ∈ ms := (List.eraseIdx_sublist _ _).mem h

-- lib: draw
/-! ## lists of numbers with one odd thing in them -/
def OddT (t : T) : Prop := t = .non ∨ (∃ s, t = .str s) ∨ (∃ a : Int, t = .tup [.int a]) ∨ (∃ a : Int, t = .lst [.int a]) ∨ (∃ b, t = .bl b) ∨ t = .dct []
def oddL (as : List Int) (t : T) (bs : List Int) : List T := as.map T.int ++ [t] ++ bs.map T.int
theorem oddL_len (as : List Int) (t : T) (bs : List Int) : (oddL as t bs).length = as.length + 1 + bs.length := by simp [oddL]; omega
theorem oddL_lt {as : List Int} {t : T} {bs : List Int} {n : Nat} (h : n < as.length) : (oddL as t bs)[n]? = some (.int as[n]) := by
  unfold oddL
  rw [List.append_assoc, List.getElem?_append_left (by rw [List.length_map]; exact h), List.getElem?_map, List.getElem?_eq_getElem h]; rfl
theorem oddL_at {as : List Int} {t : T} {bs : List Int} : (oddL as t bs)[as.length]? = some t := by
  unfold oddL
  rw [List.append_assoc, List.getElem?_append_right (by simp)]
  simp
theorem flats_app : ∀ {n : Nat} {a b : List T}, T.flats n a = true → T.flats n b = true → T.flats n (a ++ b) = true
  | _, [], _, _, h => h
  | n, x :: a, b, h1, h2 => by
    rw [T.flats, Bool.and_eq_true] at h1
    rw [List.cons_append, T.flats, h1.1, flats_app h1.2 h2]; rfl
theorem datDs_app : ∀ {n : Nat} {a b : List T}, T.datDs n a = true → T.datDs n b = true → T.datDs n (a ++ b) = true
  | _, [], _, _, h => h
  | n, x :: a, b, h1, h2 => by
    rw [T.datDs, Bool.and_eq_true] at h1
    rw [List.cons_append, T.datDs, h1.1, datDs_app h1.2 h2]; rfl
theorem flats_I {n : Nat} : ∀ ms : List Int, T.flats n (ms.map T.int) = true
  | [] => by cases n <;> rfl
  | m :: ms => by
    rw [List.map_cons, T.flats, flats_I ms]
    cases n <;> rfl
theorem datDs_J {n : Nat} : ∀ ms : List Int, T.datDs n (ms.map T.int) = true
  | [] => by cases n <;> rfl
  | m :: ms => by
    rw [List.map_cons, T.datDs, datDs_J ms]
    cases n <;> rfl
theorem ne_flatT {ts : List T} (h : T.flats 29 ts = true) : Cop.semB .ne (.lst ts) (.lst ts) = some false := by
  have hf : T.flat 30 (.lst ts) = true := by simpa [T.flat] using h
  simp only [Cop.semB]
  rw [if_pos (by unfold eqOk; rw [hf]; rfl), eqv_self 30 _ hf]; rfl
theorem ne_oddL {as : List Int} {t : T} {bs : List Int} (h : OddT t) : Cop.semB .ne (.lst (oddL as t bs)) (.lst (oddL as t bs)) = some false := by
  rcases h with rfl | ⟨s, rfl⟩ | ⟨a, rfl⟩ | ⟨a, rfl⟩ | ⟨b, rfl⟩ | rfl
  · exact ne_flatT (flats_app (flats_app (flats_I as) rfl) (flats_I bs))
  · exact ne_flatT (flats_app (flats_app (flats_I as) rfl) (flats_I bs))
  · exact ne_flatT (flats_app (flats_app (flats_I as) rfl) (flats_I bs))
  · exact ne_flatT (flats_app (flats_app (flats_I as) rfl) (flats_I bs))
  · exact ne_flatT (flats_app (flats_app (flats_I as) rfl) (flats_I bs))
  · exact ne_sameT (datDs_app (datDs_app (datDs_J as) rfl) (datDs_J bs))
def ThingL (ts : List T) : Prop := ts.length ≤ 70 ∧ ((∃ ms : List Int, ts = ms.map T.int) ∨ ∃ (as bs : List Int) (t : T), OddT t ∧ ts = oddL as t bs)
theorem ThingL.ints {ms : List Int} (h : ms.length ≤ 70) : ThingL (ms.map T.int) := ⟨by rw [List.length_map]; exact h, .inl ⟨ms, rfl⟩⟩
theorem ThingL.odd {as bs : List Int} {t : T} (ht : OddT t) (h : as.length + bs.length ≤ 60) : ThingL (as.map T.int ++ [t] ++ bs.map T.int) := ⟨by simp; omega, .inr ⟨as, bs, t, ht, rfl⟩⟩
theorem rangeT_ints (a b : Int) : rangeT a b = ((List.range (b - a).toNat).map fun (j : Nat) => a + (j : Int)).map T.int := by rw [rangeT_eq, List.map_map]; rfl
theorem dec_ok : ∀ c : Nat, c < 60 → (sok (decS (c : Int)) = true ∧ (c : Int).natAbs.log2 < 1920) := by decide +kernel
theorem dec_some {v : Int} (h0 : 0 ≤ v) (h1 : v < 60) : Blt.str.sem [T.int v] = some (.val (.str (decS v))) := by
  obtain ⟨c, rfl⟩ := Int.eq_ofNat_of_zero_le h0
  simp only [Blt.sem]
  rw [if_pos (dec_ok c (by omega))]

-- lib: lacks
/-! ## nets, and the leaner ones -/
def okM (n : Nat) (a : Int) : List Int → Bool
  | [] => true
  | m :: r => decide (a < m) && decide (m < (n : Int)) && okM n m r
theorem okM_of {n : Nat} {a : Int} {ms : List Int} (up : ms.Pairwise (· < ·)) (h : ∀ m ∈ ms, a < m ∧ m < (n : Int)) : okM n a ms = true := by
  induction ms generalizing a with
  | nil => rfl
  | cons m r ih =>
    rw [List.pairwise_cons] at up
    have h1 := h m (.head _)
    unfold okM
    simp only [Bool.and_eq_true, decide_eq_true_eq]
    exact ⟨⟨h1.1, h1.2⟩, ih up.2 fun x hx => ⟨up.1 x hx, (h x (.tail _ hx)).2⟩⟩
theorem okM_iff {n : Nat} {a : Int} {ms : List Int} : okM n a ms = true ↔ ms.Pairwise (· < ·) ∧ ∀ m ∈ ms, a < m ∧ m < (n : Int) := by
  refine ⟨fun h => ?_, fun h => okM_of h.1 h.2⟩
  induction ms generalizing a with
  | nil => exact ⟨.nil, by simp⟩
  | cons m r ih =>
    unfold okM at h
    simp only [Bool.and_eq_true, decide_eq_true_eq] at h
    obtain ⟨i1, i2⟩ := ih h.2
    refine ⟨List.pairwise_cons.mpr ⟨fun x hx => (i2 x hx).1, i1⟩, fun x hx => ?_⟩
    rcases List.mem_cons.mp hx with rfl | hx
    · exact h.1
    · exact ⟨by have := (i2 x hx).1; omega, (i2 x hx).2⟩
/-- without the one -/
def lessM (ms : List Int) (m : Int) : List Int := ms.filter fun x => decide (x ≠ m)
theorem lessM_mem {ms : List Int} {m x : Int} : x ∈ lessM ms m ↔ x ∈ ms ∧ x ≠ m := by unfold lessM; rw [List.mem_filter, decide_eq_true_eq]
theorem lessM_len (ms : List Int) (m : Int) : (lessM ms m).length ≤ ms.length := List.length_filter_le _ _
theorem lessM_up {ms : List Int} {m : Int} (h : ms.Pairwise (· < ·)) : (lessM ms m).Pairwise (· < ·) := h.filter _
/-- one step of the leaning -/
def leanF (row : List Nat) (left : List Int) (m : Int) : List Int := if lackP row (lessM left m) = none then lessM left m else left
def leanL (row : List Nat) (ms : List Int) : List Int := ms.foldl (leanF row) ms
theorem leanF_sub {row : List Nat} {left : List Int} {m x : Int} (h : x ∈ leanF row left m) : x ∈ left := by
  unfold leanF at h; split at h
  · exact (lessM_mem.mp h).1
  · exact h
theorem leanF_net {row : List Nat} {left : List Int} {m : Int} (h : Net row left) : Net row (leanF row left m) := by
  unfold leanF; split
  · exact ⟨lessM_up h.up, fun x hx => h.at_ x (lessM_mem.mp hx).1, by assumption⟩
  · exact h
theorem lean_net {row : List Nat} : ∀ {l left : List Int}, Net row left → Net row (l.foldl (leanF row) left)
  | [], _, h => h
  | m :: l, left, h => lean_net (l := l) (leanF_net h)
theorem lean_sub {row : List Nat} : ∀ {l left : List Int} {x : Int}, x ∈ l.foldl (leanF row) left → x ∈ left
  | [], _, _, h => h
  | m :: l, left, x, h => leanF_sub (lean_sub (l := l) h)
theorem lack_mono {row : List Nat} {ms ns : List Int} (h : ∀ m ∈ ms, m ∈ ns) (e : lackP row ms = none) : lackP row ns = none := by
  rw [lackP_none] at e ⊢
  intro k m hm hk
  have := e k m hm hk
  rw [metW_iff] at this ⊢
  obtain ⟨k2, a, b, c⟩ := this
  exact ⟨k2, a, hits_mono (by omega) h b, c⟩
theorem lean_min {row : List Nat} : ∀ {l left : List Int} {x : Int}, x ∈ l → x ∈ l.foldl (leanF row) left → lackP row (lessM (l.foldl (leanF row) left) x) ≠ none
  | m :: l, left, x, hx, h => by
    rw [List.foldl_cons] at h ⊢
    rcases List.mem_cons.mp hx with rfl | hx
    · have h1 := lean_sub h
      intro e
      have e2 : lackP row (lessM left x) = none := lack_mono (fun y hy => by
        have := lessM_mem.mp hy
        exact lessM_mem.mpr ⟨leanF_sub (lean_sub this.1), this.2⟩) e
      unfold leanF at h1
      rw [if_pos e2] at h1
      exact (lessM_mem.mp h1).2 rfl
    · exact lean_min hx h
theorem lean_id {row : List Nat} {ms : List Int} (h : ∀ x ∈ ms, lackP row (lessM ms x) ≠ none) : leanL row ms = ms := by
  have : ∀ l : List Int, (∀ x ∈ l, x ∈ ms) → l.foldl (leanF row) ms = ms := by
    intro l
    induction l with
    | nil => intro _; rfl
    | cons m l ih =>
      intro hl
      rw [List.foldl_cons]
      have : leanF row ms m = ms := by unfold leanF; rw [if_neg (h m (hl m (.head _)))]
      rw [this]
      exact ih fun x hx => hl x (.tail _ hx)
  exact this ms fun _ h => h
theorem leanL_net {row : List Nat} {ms : List Int} (h : Net row ms) : Net row (leanL row ms) := lean_net h
theorem leanL_min {row : List Nat} {ms : List Int} {x : Int} (h : x ∈ leanL row ms) : lackP row (lessM (leanL row ms) x) ≠ none := lean_min (lean_sub h) h
theorem leanL_twice {row : List Nat} {ms : List Int} : leanL row (leanL row ms) = leanL row ms := lean_id fun _ h => leanL_min h
theorem Net.ok {row : List Nat} {ms : List Int} (h : Net row ms) : okM row.length (-1) ms = true := okM_of h.up fun m hm => by have := h.at_ m hm; omega
theorem Net.pos_ {row : List Nat} {ms : List Int} (h : Net row ms) : ∀ m ∈ ms, 0 ≤ m := fun m hm => (h.at_ m hm).1
theorem fold_take {α β : Type} {f : β → α → β} {xs : List α} {b : β} {n : Nat} (h : n < xs.length) : (xs.take (n + 1)).foldl f b = f ((xs.take n).foldl f b) xs[n] := by
  rw [← List.take_append_getElem h, List.foldl_append]; rfl
theorem isNone_false {α : Type} {o : Option α} : o.isNone = false ↔ o ≠ none := by cases o <;> simp
theorem isNone_true {α : Type} {o : Option α} : o.isNone = true ↔ o = none := by cases o <;> simp
/-! ## growing -/
theorem lack_at {row : List Nat} {ms : List Int} {w : List Nat} (h : lackP row ms = some w) : 0 < w.length ∧ ∃ i, firstL row w = some i ∧ i + w.length ≤ row.length ∧ ∀ r : Int, 0 ≤ r → r < w.length → (i : Int) + r ∉ ms := by
  obtain ⟨h0, h1, ⟨k, hk, e⟩, _⟩ := lackP_some h
  refine ⟨h0, ?_⟩
  have hs : subAtL row w k = true := subAtL_iff.mpr e
  have hf : (firstL row w).isSome = true := by
    unfold firstL
    rw [List.find?_isSome]
    exact ⟨k, List.mem_range.mpr (by omega), hs⟩
  obtain ⟨i, hi⟩ := Option.isSome_iff_exists.mp hf
  refine ⟨i, hi, ?_, fun r r0 r1 hm => ?_⟩
  · have := List.mem_range.mp (List.mem_of_find?_eq_some hi); omega
  · have hl := List.mem_range.mp (List.mem_of_find?_eq_some hi)
    have hsub : subAtL row w i = true := List.find?_some hi
    have : metW row ms w = true := metW_iff.mpr ⟨i, by omega, (hits_iff (by omega)).mpr ⟨_, hm, by omega, by omega⟩, subAtL_iff.mp hsub⟩
    rw [h1] at this; cases this
theorem sortI_up {ms : List Int} (h : ms.Nodup) : (sortI ms).Pairwise (· < ·) := by
  have h1 := sortI_le ms
  have h2 : (sortI ms).Nodup := (sortI_perm ms).nodup_iff.mpr h
  exact (h1.and h2).imp fun ⟨a, b⟩ => by omega
structure Grown (row : List Nat) (n : Nat) (ms : List Int) : Prop where
  up : ms.Pairwise (· < ·)
  at_ : ∀ m ∈ ms, 0 ≤ m ∧ m < row.length
  no : lackP row ms = none ∨ ms.length = n
theorem Grown.len {row : List Nat} {n : Nat} {ms : List Int} (h : Grown row n ms) : ms.length ≤ row.length := up_len h.up h.at_
theorem Grown.nd {row : List Nat} {n : Nat} {ms : List Int} (h : Grown row n ms) : ms.Nodup := h.up.imp fun h => by omega
theorem Grown.pos {row : List Nat} {n : Nat} {ms : List Int} (h : Grown row n ms) : ∀ m ∈ ms, 0 ≤ m := fun m hm => (h.at_ m hm).1
theorem grown0 (row : List Nat) : Grown row 0 [] := ⟨.nil, by simp, .inr rfl⟩
theorem grown_done {row : List Nat} {n : Nat} {ms : List Int} (h : Grown row n ms) (e : lackP row ms = none) : Grown row (n + 1) ms := ⟨h.up, h.at_, .inl e⟩
theorem grown_add {row : List Nat} {n : Nat} {ms : List Int} {x : Int} (h : Grown row n ms) (hw : lackP row ms ≠ none) (hx : x ∉ ms) (h0 : 0 ≤ x) (h1 : x < row.length) : Grown row (n + 1) (sortI (ms ++ [x])) := by
  have p := sortI_perm (ms ++ [x])
  refine ⟨sortI_up ?_, fun m hm => ?_, .inr ?_⟩
  · rw [List.nodup_append]
    exact ⟨h.nd, by simp, fun a ha b hb => by rw [List.mem_singleton] at hb; subst hb; exact fun e => hx (e ▸ ha)⟩
  · have hm := p.mem_iff.mp hm
    rw [List.mem_append, List.mem_singleton] at hm
    rcases hm with hm | rfl
    · exact h.at_ m hm
    · exact ⟨h0, h1⟩
  · rw [p.length_eq, List.length_append, h.no.resolve_left hw]; rfl
theorem full_net {row : List Nat} {ms : List Int} (up : ms.Pairwise (· < ·)) (at_ : ∀ m ∈ ms, 0 ≤ m ∧ m < (row.length : Int)) (h : ms.length = row.length) : Net row ms := by
  refine ⟨up, at_, lack_mono (fun m hm => ?_) (net_all row).no⟩
  obtain ⟨k, hk, rfl⟩ := List.mem_map.mp hm
  have hk := List.mem_range.mp hk
  refine Classical.byContradiction fun hn => ?_
  have h1 : ((ms ++ [(k : Int)]).map Int.toNat).Nodup := by
    rw [List.Nodup, List.pairwise_map, List.pairwise_append]
    refine ⟨List.Pairwise.imp_of_mem (fun {a b} ha hb h e => by have := at_ a ha; have := at_ b hb; omega) up, List.pairwise_singleton _ _, fun a ha b hb e => ?_⟩
    rw [List.mem_singleton] at hb; subst hb
    have := at_ a ha
    exact hn (by rw [show (k : Int) = a by omega]; exact ha)
  have h2 : ∀ x ∈ (ms ++ [(k : Int)]).map Int.toNat, x ∈ List.range row.length := fun x hx => by
    obtain ⟨m, hm, rfl⟩ := List.mem_map.mp hx
    rw [List.mem_append, List.mem_singleton] at hm
    rcases hm with hm | rfl
    · have := at_ m hm; exact List.mem_range.mpr (by omega)
    · exact List.mem_range.mpr (by omega)
  have h3 : ((ms ++ [(k : Int)]).map Int.toNat).length ≤ (List.range row.length).length := List.Nodup.length_le_of_subset h1 h2
  simp at h3; omega
theorem Grown.net {row : List Nat} {ms : List Int} (h : Grown row row.length ms) : Net row ms := by
  rcases h.no with e | e
  · exact ⟨h.up, h.at_, e⟩
  · exact full_net h.up h.at_ e
/-- the lacking word of a net but one stands by that one alone -/
theorem only_met {row w : List Nat} {ms : List Int} {m : Int} (h : Net row ms) (e : lackP row (lessM ms m) = some w) (hm : m ∈ ms) : ms.filter (fun x : Int => metW row [x] w) = [m] := by
  obtain ⟨w0, hw, ⟨k, hk, ek⟩, _⟩ := lackP_some e
  have hq : ∀ x ∈ ms, (metW row [x] w = true ↔ x = m) := by
    have hno : ∀ x ∈ ms, metW row [x] w = true → x = m := fun x hx hmet => by
      refine Classical.byContradiction fun hne => ?_
      obtain ⟨k2, a, b, c⟩ := metW_iff.mp hmet
      have : metW row (lessM ms m) w = true := metW_iff.mpr ⟨k2, a, hits_mono (by omega) (fun y hy => by rw [List.mem_singleton] at hy; subst hy; exact lessM_mem.mpr ⟨hx, hne⟩) b, c⟩
      rw [hw] at this; cases this
    have hall : metW row ms w = true := by
      have := lackP_none.mp h.no k w.length w0 hk
      rwa [ek] at this
    obtain ⟨k2, a, b, c⟩ := metW_iff.mp hall
    obtain ⟨y, hy, y1, y2⟩ := (hits_iff (by omega)).mp b
    have hy2 : metW row [y] w = true := metW_iff.mpr ⟨k2, a, (hits_iff (by omega)).mpr ⟨y, by simp, y1, y2⟩, c⟩
    have := hno y hy hy2
    subst this
    exact fun x hx => ⟨hno x hx, fun e => e ▸ hy2⟩
  have e1 : ms.filter (fun x : Int => metW row [x] w) = ms.filter fun x => decide (x = m) := List.filter_congr fun x hx => by
    rw [Bool.eq_iff_iff, hq x hx, decide_eq_true_eq]
  rw [e1]
  have : ∀ l : List Int, l.Nodup → m ∈ l → l.filter (fun x => decide (x = m)) = [m] := by
    intro l
    induction l with
    | nil => intro _ h; cases h
    | cons a r ih =>
      intro nd hmem
      rw [List.nodup_cons] at nd
      rw [List.filter_cons]
      by_cases ha : a = m
      · subst ha
        rw [if_pos (decide_eq_true rfl)]
        have : r.filter (fun x => decide (x = a)) = [] := List.filter_eq_nil_iff.mpr fun x hx => by
          rw [decide_eq_true_eq]; rintro rfl; exact nd.1 hx
        rw [this]
      · rw [if_neg (by rw [decide_eq_true_eq]; exact ha)]
        exact ih nd.2 ((List.mem_cons.mp hmem).resolve_left fun e => ha e.symm)
  exact this ms h.nd hm
theorem pick_nat {ms : List Int} {i : Nat} (h : i < ms.length) : pick (ms.map T.int) (i : Int) = some (.int (ms.getD i 0)) := by
  unfold pick
  rw [if_pos (Int.natCast_nonneg i), Int.toNat_natCast, List.getElem?_map, List.getElem?_eq_getElem h, List.getD_eq_getElem?_getD, List.getElem?_eq_getElem h]; rfl
theorem pick_str {s : List Nat} {i : Nat} (h : i < s.length) : pick s (i : Int) = some (s.getD i 0) := by
  unfold pick
  rw [if_pos (Int.natCast_nonneg i), Int.toNat_natCast, List.getElem?_eq_getElem h, List.getD_eq_getElem?_getD, List.getElem?_eq_getElem h]; rfl
theorem dec_two {a b : Prop} [Decidable a] [Decidable b] [Decidable (a ∧ b)] : (a → decide b = decide (a ∧ b)) ∧ (¬ a → false = decide (a ∧ b)) :=
  ⟨fun h => by rw [Bool.eq_iff_iff, decide_eq_true_eq, decide_eq_true_eq]; exact ⟨fun g => ⟨h, g⟩, fun g => g.2⟩, fun h => (decide_eq_false fun g => h g.1).symm⟩
theorem isSome_false {α : Type} {o : Option α} : o.isSome = false ↔ o = none := by cases o <;> simp

-- lib: words nets
/-! ## cuttings -/
def partsOk (row : List Nat) : Nat → List Nat → Bool
  | b, [] => decide (row.length ≤ b) || earlier row b row.length
  | b, c :: r => (decide (c ≤ b) || earlier row b c) && partsOk row (c + 1) r
theorem sub_earlier {row : List Nat} {b p q e : Nat} (h1 : b ≤ p) (h2 : p < q) (h3 : q ≤ e) (h4 : e ≤ row.length) (h : earlier row b e = true) : earlier row p q = true := by
  obtain ⟨i, hi, g⟩ := earlier_iff.mp h
  rw [wordAt_len h4] at g
  refine earlier_iff.mpr ⟨i + (p - b), by omega, ?_⟩
  rw [wordAt_len (by omega)]
  have e1 : (row.drop (i + (p - b))).take (q - p) = (((row.drop i).take (e - b)).drop (p - b)).take (q - p) := by
    rw [List.drop_take, List.drop_drop, List.take_take, Nat.min_eq_left (by omega)]
  have e2 : wordAt row p q = ((wordAt row b e).drop (p - b)).take (q - p) := by
    unfold wordAt
    rw [List.drop_take, List.drop_drop, List.take_take, Nat.min_eq_left (by omega), show b + (p - b) = p by omega]
  rw [e1, e2, g]
/-- the greedy chain of new stretches from b to e -/
def chainG (row : List Nat) : Nat → List (Nat × Nat) → Nat → Prop
  | b, [], e => b = e
  | b, x :: r, e => x.1 = b ∧ x.1 < x.2 ∧ earlier row x.1 x.2 = false ∧ (x.1 + 1 = x.2 ∨ earlier row x.1 (x.2 - 1) = true) ∧ chainG row x.2 r e
theorem chainG_snoc {row : List Nat} : ∀ {ps : List (Nat × Nat)} {b e q : Nat}, chainG row b ps e → e < q → earlier row e q = false → (e + 1 = q ∨ earlier row e (q - 1) = true) → chainG row b (ps ++ [(e, q)]) q
  | [], b, e, q, h, h1, h2, h3 => by
    simp only [chainG] at h; subst h
    exact ⟨rfl, h1, h2, h3, rfl⟩
  | x :: r, b, e, q, h, h1, h2, h3 => ⟨h.1, h.2.1, h.2.2.1, h.2.2.2.1, chainG_snoc h.2.2.2.2 h1 h2 h3⟩
theorem newS_chain (s : List Nat) : ∀ n, n ≤ s.length → ∀ r, r = (List.range n).foldl (newF s) ([], 0) → chainG s 0 r.1 r.2 ∧ r.2 ≤ n ∧ (r.2 < n → earlier s r.2 n = true) := by
  intro n
  induction n with
  | zero => intro _ r e; subst e; exact ⟨rfl, Nat.le_refl _, fun h => absurd h (by simp)⟩
  | succ n ih =>
    intro h r e
    rw [List.range_succ, List.foldl_append] at e
    obtain ⟨h1, h2, h3⟩ := ih (by omega) _ rfl
    generalize (List.range n).foldl (newF s) ([], 0) = q at *
    subst e
    simp only [List.foldl_cons, List.foldl_nil, newF]
    split
    · rename_i he
      exact ⟨h1, by omega, fun _ => he⟩
    · rename_i he
      refine ⟨chainG_snoc h1 (by omega) (by simpa using he) ?_, Nat.le_refl _, fun h => absurd h (by simp)⟩
      rcases Nat.lt_or_ge q.2 n with z | z
      · exact .inr (h3 z)
      · exact .inl (by omega)
/-- the end of the last stretch -/
def lastG (s : List Nat) : Nat := ((List.range s.length).foldl (newF s) ([], 0)).2
theorem newS_g (s : List Nat) : chainG s 0 (newS s) (lastG s) ∧ lastG s ≤ s.length ∧ (lastG s < s.length → earlier s (lastG s) s.length = true) := newS_chain s _ (Nat.le_refl _) _ rfl
theorem chain_parts {row : List Nat} : ∀ {ps : List (Nat × Nat)} {b e : Nat}, chainG row b ps e → (e < row.length → earlier row e row.length = true) → partsOk row b (ps.map fun x => x.2 - 1) = true
  | [], b, e, h, h2 => by
    simp only [chainG] at h; subst h
    simp only [List.map_nil, partsOk, Bool.or_eq_true, decide_eq_true_eq]
    rcases Nat.lt_or_ge b row.length with z | z
    · exact .inr (h2 z)
    · exact .inl z
  | x :: r, b, e, h, h2 => by
    obtain ⟨a1, a2, a3, a4, a5⟩ := h
    have ih := chain_parts a5 h2
    simp only [List.map_cons, partsOk, Bool.and_eq_true, Bool.or_eq_true, decide_eq_true_eq]
    refine ⟨?_, by rw [show x.2 - 1 + 1 = x.2 by omega]; exact ih⟩
    rcases a4 with a4 | a4
    · exact .inl (by omega)
    · rw [← a1]; exact .inr a4
theorem chain_mem {row : List Nat} : ∀ {ps : List (Nat × Nat)} {b e : Nat}, chainG row b ps e → ∀ x ∈ ps, b ≤ x.1 ∧ x.1 < x.2 ∧ x.2 ≤ e ∧ earlier row x.1 x.2 = false
  | [], _, _, _, x, hx => by cases hx
  | y :: r, b, e, h, x, hx => by
    obtain ⟨a1, a2, a3, a4, a5⟩ := h
    have ih := chain_mem a5
    have he : y.2 ≤ e := by
      cases r with
      | nil => simp only [chainG] at a5; omega
      | cons z r => have := ih z (.head _); omega
    rcases List.mem_cons.mp hx with rfl | hx
    · exact ⟨by omega, a2, he, a3⟩
    · have := ih x hx; exact ⟨by omega, this.2.1, this.2.2.1, this.2.2.2⟩
theorem chain_apart {row : List Nat} : ∀ {ps : List (Nat × Nat)} {b e : Nat}, chainG row b ps e → ps.Pairwise fun x y => x.2 ≤ y.1
  | [], _, _, _ => .nil
  | y :: r, b, e, h => by
    obtain ⟨a1, a2, a3, a4, a5⟩ := h
    exact List.pairwise_cons.mpr ⟨fun x hx => (chain_mem a5 x hx).1, chain_apart a5⟩
/-- a cutting has an end in each new stretch -/
theorem cut_in {row : List Nat} : ∀ {cs : List Nat} {b p q : Nat}, partsOk row b cs = true → (∀ c ∈ cs, c < row.length) → b ≤ p → p < q → q ≤ row.length → earlier row p q = false → ∃ c ∈ cs, p ≤ c ∧ c < q
  | [], b, p, q, h, _, h1, h2, h3, h4 => by
    simp only [partsOk, Bool.or_eq_true, decide_eq_true_eq] at h
    rcases h with h | h
    · omega
    · rw [sub_earlier h1 h2 h3 (Nat.le_refl _) h] at h4; cases h4
  | c :: r, b, p, q, h, hc, h1, h2, h3, h4 => by
    simp only [partsOk, Bool.and_eq_true, Bool.or_eq_true, decide_eq_true_eq] at h
    have hcn := hc c (.head _)
    by_cases z : c < p
    · obtain ⟨d, hd, g⟩ := cut_in h.2 (fun d m => hc d (.tail _ m)) (by omega) h2 h3 h4
      exact ⟨d, .tail _ hd, g⟩
    · by_cases y : c < q
      · exact ⟨c, .head _, by omega, y⟩
      · rcases h.1 with k | k
        · omega
        · rw [sub_earlier h1 h2 (by omega) (by omega) k] at h4; cases h4
theorem newS_in {s : List Nat} {cs : List Nat} (h : partsOk s 0 cs = true) (hc : ∀ c ∈ cs, c < s.length) {x : Nat × Nat} (hx : x ∈ newS s) : ∃ c ∈ cs, x.1 ≤ c ∧ c < x.2 := by
  obtain ⟨g1, g2, g3⟩ := newS_g s
  have := chain_mem g1 x hx
  exact cut_in h hc (Nat.zero_le _) this.2.1 (by omega) this.2.2.2
/-- no cutting is shorter than the greedy one -/
theorem newS_fewest {s : List Nat} {cs : List Nat} (h : partsOk s 0 cs = true) (hc : ∀ c ∈ cs, c < s.length) : (newS s).length ≤ cs.length := by
  obtain ⟨g1, g2, g3⟩ := newS_g s
  let f : Nat × Nat → Nat := fun x => (cs.find? fun c => decide (x.1 ≤ c) && decide (c < x.2)).getD 0
  have hf : ∀ x ∈ newS s, f x ∈ cs ∧ x.1 ≤ f x ∧ f x < x.2 := fun x hx => by
    obtain ⟨c, hcm, c1, c2⟩ := newS_in h hc hx
    have : (cs.find? fun c => decide (x.1 ≤ c) && decide (c < x.2)).isSome = true := by
      rw [List.find?_isSome]
      exact ⟨c, hcm, by rw [Bool.and_eq_true, decide_eq_true_eq, decide_eq_true_eq]; exact ⟨c1, c2⟩⟩
    obtain ⟨d, hd⟩ := Option.isSome_iff_exists.mp this
    have hm := List.mem_of_find?_eq_some hd
    have hp := List.find?_some hd
    rw [Bool.and_eq_true, decide_eq_true_eq, decide_eq_true_eq] at hp
    show (cs.find? fun c => decide (x.1 ≤ c) && decide (c < x.2)).getD 0 ∈ cs ∧ _
    have e : f x = d := by show (cs.find? fun c => decide (x.1 ≤ c) && decide (c < x.2)).getD 0 = d; rw [hd]; rfl
    rw [e, hd]
    exact ⟨hm, hp.1, hp.2⟩
  have nd : ((newS s).map f).Nodup := by
    rw [List.Nodup, List.pairwise_map]
    exact List.Pairwise.imp_of_mem (fun {x y} hx hy hxy e => by have := hf x hx; have := hf y hy; omega) (chain_apart g1)
  have := List.Nodup.length_le_of_subset nd fun c hcm => by
    obtain ⟨x, hx, rfl⟩ := List.mem_map.mp hcm
    exact (hf x hx).1
  rwa [List.length_map] at this
def partsE (row : List Nat) : Nat → List Nat → Bool
  | _, [] => true
  | b, e :: r => (decide (e ≤ b) || earlier row b e) && partsE row (e + 1) r
theorem parts_E (row : List Nat) : ∀ (cs : List Nat) (b : Nat), partsOk row b cs = partsE row b (cs ++ [row.length])
  | [], b => by simp [partsOk, partsE]
  | c :: r, b => by simp only [partsOk, partsE, List.cons_append, parts_E row r]
def cutD (row : List Nat) : Nat → List Int → Bool
  | b, [] => decide (b = row.length) || earlier row b row.length
  | b, m :: r => (decide ((b : Int) ≤ m) && decide (m < (row.length : Int))) && ((decide (m ≤ (b : Int)) || earlier row b m.toNat) && cutD row (m.toNat + 1) r)
theorem cutD_iff {row : List Nat} : ∀ {ms : List Int} {b : Nat}, b ≤ row.length → (cutD row b ms = true ↔ okM row.length ((b : Int) - 1) ms = true ∧ partsOk row b (ms.map Int.toNat) = true)
  | [], b, hb => by
    simp only [cutD, okM, List.map_nil, partsOk, Bool.or_eq_true, decide_eq_true_eq, true_and]
    constructor
    · rintro (h | h)
      · exact .inl (by omega)
      · exact .inr h
    · rintro (h | h)
      · exact .inl (by omega)
      · exact .inr h
  | m :: r, b, hb => by
    simp only [cutD, okM, List.map_cons, partsOk, Bool.and_eq_true, Bool.or_eq_true, decide_eq_true_eq]
    constructor
    · rintro ⟨⟨h1, h2⟩, h3, h4⟩
      have ih := (cutD_iff (ms := r) (b := m.toNat + 1) (by omega)).mp h4
      rw [show (((m.toNat + 1 : Nat) : Int) - 1) = m by omega] at ih
      exact ⟨⟨⟨by omega, h2⟩, ih.1⟩, h3.imp (fun h => by omega) id, ih.2⟩
    · rintro ⟨⟨⟨h1, h2⟩, h3⟩, h4, h5⟩
      have ih := (cutD_iff (ms := r) (b := m.toNat + 1) (by omega)).mpr ⟨by rw [show (((m.toNat + 1 : Nat) : Int) - 1) = m by omega]; exact h3, h5⟩
      exact ⟨⟨by omega, h2⟩, h4.imp (fun h => by omega) id, ih⟩
theorem okM_cast {n : Nat} {ms : List Int} (h : okM n (-1) ms = true) : ms = (ms.map Int.toNat).map fun (k : Nat) => (k : Int) := by
  rw [List.map_map]
  conv => lhs; rw [← List.map_id ms]
  refine List.map_congr_left fun m hm => ?_
  have := (okM_iff.mp h).2 m hm
  show m = ((m.toNat : Nat) : Int)
  omega
theorem has_early {row : List Nat} {b e : Nat} (h : b < e) (h2 : e ≤ row.length) : hasL (cut row none (some ((e : Int) - 1))) (cut row (some (b : Int)) (some (e : Int))) = earlier row b e := by
  rw [cut_to _ (by omega), cut_word, earlier_has h h2, show ((e : Int) - 1).toNat = e - 1 by omega]
theorem has_early_end {row : List Nat} {b : Nat} (h : b < row.length) : hasL (cut row none (some ((row.length : Int) - 1))) (cut row (some (b : Int)) none) = earlier row b row.length := by
  rw [← has_early h (Nat.le_refl _), cut_tail, cut_word]
  unfold wordAt
  rw [List.take_of_length_le (by rw [List.length_drop]; omega)]
theorem behind_at {row : List Nat} {k : Nat} (hk : k < (newS row).length) : ∃ v : Int, pick (T.int 0 :: (newS row).map fun q => T.int (q.2 : Int)) (k : Int) = some (.int v) ∧ v ≤ ((newS row)[k].1 : Int) := by
  have hp := chain_apart (newS_g row).1
  rw [List.pairwise_iff_getElem] at hp
  unfold pick
  rw [if_pos (Int.natCast_nonneg k), Int.toNat_natCast]
  cases k with
  | zero => exact ⟨0, rfl, Int.natCast_nonneg _⟩
  | succ k =>
    rw [List.getElem?_cons_succ, List.getElem?_map, List.getElem?_eq_getElem (by omega)]
    exact ⟨_, rfl, by have := hp k (k + 1) (by omega) hk (by omega); omega⟩
theorem newS_new {row : List Nat} {x : Nat × Nat} (hx : x ∈ newS row) : x.1 < x.2 ∧ x.2 ≤ row.length ∧ earlier row x.1 x.2 = false := by
  obtain ⟨g1, g2, _⟩ := newS_g row
  have := chain_mem g1 x hx
  exact ⟨this.2.1, by omega, this.2.2.2⟩
/-- what stands so far, told by what may follow -/
def Pre (row cs : List Nat) (b : Nat) : Prop := ∀ r, partsOk row b r = true → partsOk row 0 (cs ++ r) = true
theorem Pre.nil (row : List Nat) : Pre row [] 0 := fun _ h => h
theorem Pre.add {row cs : List Nat} {b c : Nat} (h : Pre row cs b) (hc : c ≤ b ∨ earlier row b c = true) : Pre row (cs ++ [c]) (c + 1) := fun r hr => by
  rw [List.append_assoc]
  refine h _ ?_
  show partsOk row b (c :: r) = true
  simp only [partsOk, Bool.and_eq_true, Bool.or_eq_true, decide_eq_true_eq]
  exact ⟨hc, hr⟩
theorem Pre.done {row cs : List Nat} {b : Nat} (h : Pre row cs b) (hb : row.length ≤ b ∨ earlier row b row.length = true) : partsOk row 0 cs = true := by
  have := h [] (by simp only [partsOk, Bool.or_eq_true, decide_eq_true_eq]; exact hb)
  rwa [List.append_nil] at this
theorem far_first {row : List Nat} {b : Nat} (hb : b < row.length) {F : List Nat} (hF : F = (List.range (row.length - b)).filter fun k => !earlier row b (b + k + 1)) : ∃ (fs : List Int) (last : Nat), cut (F.map fun (k : Nat) => T.int ((b + k : Nat) : Int)) none (some 1) = fs.map T.int ∧ pick (fs.map T.int ++ [T.int ((row.length : Int) - 1)]) 0 = some (.int (last : Int)) ∧ b ≤ last ∧ last < row.length ∧ (∀ c, b < c → c ≤ last → earlier row b c = true) ∧ (fs = [] → earlier row b row.length = true) ∧ fs.length ≤ 1 := by
  have hh : F.head? = (List.range (row.length - b)).find? fun k => !earlier row b (b + k + 1) := by rw [hF, List.head?_filter]
  cases e : F with
  | nil =>
    rw [e] at hh
    have hall := List.find?_eq_none.mp hh.symm
    have hal : ∀ c, b < c → c ≤ row.length → earlier row b c = true := fun c h1 h2 => by
      have := hall (c - b - 1) (List.mem_range.mpr (by omega))
      rw [show b + (c - b - 1) + 1 = c by omega] at this
      simpa using this
    refine ⟨[], row.length - 1, rfl, ?_, by omega, by omega, fun c h1 h2 => hal c h1 (by omega), fun _ => hal _ hb (Nat.le_refl _), by simp⟩
    show some (T.int ((row.length : Int) - 1)) = _
    rw [show ((row.length - 1 : Nat) : Int) = (row.length : Int) - 1 by omega]
  | cons k r =>
    rw [e] at hh
    obtain ⟨h1, l1, l2, e2, h3⟩ := List.find?_eq_some_iff_append.mp hh.symm
    obtain ⟨e3, hk⟩ := range_split e2
    refine ⟨[((b + k : Nat) : Int)], b + k, ?_, rfl, by omega, by omega, fun c h1 h2 => ?_, fun h => (nomatch h), by simp⟩
    · rw [cut_to _ (by omega)]; rfl
    · have := h3 (c - b - 1) (by rw [e3]; exact List.mem_range.mpr (by omega))
      rw [show b + (c - b - 1) + 1 = c by omega] at this
      simpa using this
/-! ## every set of ends is a number's bits -/
def bitsN (n x : Nat) : List Nat := (List.range n).filter fun p => x.testBit p
theorem bits_of (f : Nat → Bool) : ∀ n, ∃ x, x < 2 ^ n ∧ ∀ p, p < n → x.testBit p = f p
  | 0 => ⟨0, by simp, fun p hp => absurd hp (by omega)⟩
  | n + 1 => by
    obtain ⟨x, hx, hp⟩ := bits_of f n
    by_cases h : f n = true
    · refine ⟨2 ^ n + x, by rw [Nat.pow_succ]; omega, fun p hpn => ?_⟩
      rcases Nat.lt_succ_iff_lt_or_eq.mp hpn with z | rfl
      · rw [Nat.testBit_two_pow_add_gt z]; exact hp p z
      · rw [Nat.testBit_two_pow_add_eq, Nat.testBit_lt_two_pow hx, h]; rfl
    · refine ⟨x, by rw [Nat.pow_succ]; omega, fun p hpn => ?_⟩
      rcases Nat.lt_succ_iff_lt_or_eq.mp hpn with z | rfl
      · exact hp p z
      · rw [Nat.testBit_lt_two_pow hx]; simpa using h
theorem bit_eq (x p : Nat) : decide (Builtin.bitAnd ((x : Int) / 2 ^ p) 1 = 1) = x.testBit p := by
  have e : ((x : Int) / 2 ^ p) = ((x / 2 ^ p : Nat) : Int) := by simp
  rw [e]
  have e2 : Builtin.bitAnd ((x / 2 ^ p : Nat) : Int) 1 = (((x / 2 ^ p) &&& 1 : Nat) : Int) := by
    rfl
  rw [e2, Nat.testBit, Nat.shiftRight_eq_div_pow, Nat.and_comm]
  rcases Nat.mod_two_eq_zero_or_one (x / 2 ^ p) with h | h <;> simp [Nat.one_and_eq_mod_two, h]
theorem shl_one {n : Nat} (h : n ≤ 60) : Bop.sem .shl (.int 1) (.int (n : Int)) = some (.val (.int ((2 ^ n : Nat) : Int))) := by
  have h1 : (0 : Int) ≤ n ∧ (n : Int) ≤ 1000000 ∧ (1 : Int).natAbs < 2 ^ 64 := ⟨by omega, by omega, by decide⟩
  simp only [Bop.sem, if_pos h1]
  simp
theorem up_ext {a b : List Nat} (ha : a.Pairwise (· < ·)) (hb : b.Pairwise (· < ·)) (h : ∀ x, x ∈ a ↔ x ∈ b) : a = b := by
  have na : a.Nodup := ha.imp fun h => by omega
  have nb : b.Nodup := hb.imp fun h => by omega
  have p : a.Perm b := (List.perm_ext_iff_of_nodup na nb).mpr h
  have e : a.map (fun (k : Nat) => (k : Int)) = b.map (fun (k : Nat) => (k : Int)) := by
    rw [← sortI_lt (ns := a.map fun (k : Nat) => (k : Int)) (List.Pairwise.map _ (fun x y h => by omega) ha), ← sortI_lt (ns := b.map fun (k : Nat) => (k : Int)) (List.Pairwise.map _ (fun x y h => by omega) hb)]
    exact sortI_congr (p.map _)
  have := congrArg (List.map Int.toNat) e
  simpa [List.map_map, Function.comp_def] using this
def endsN (row : List Nat) : List Nat := (newS row).map fun x => x.2 - 1
theorem endsN_lt {row : List Nat} : ∀ c ∈ endsN row, c < row.length := fun c hc => by
  obtain ⟨x, hx, rfl⟩ := List.mem_map.mp hc
  have := newS_new hx; omega
theorem endsN_up (row : List Nat) : (endsN row).Pairwise (· < ·) := by
  unfold endsN
  rw [List.pairwise_map]
  exact List.Pairwise.imp_of_mem (fun {x y} hx hy h => by have := newS_new hx; have := newS_new hy; omega) (chain_apart (newS_g row).1)
theorem endsN_ok (row : List Nat) : partsOk row 0 (endsN row) = true := by
  obtain ⟨g1, g2, g3⟩ := newS_g row
  exact chain_parts g1 g3
theorem firstC_ends (row : List Nat) : firstC row = (endsN row).map fun (k : Nat) => (k : Int) := by
  unfold firstC endsN
  rw [List.map_map]
  refine List.map_congr_left fun x hx => ?_
  have := newS_new hx
  show (x.2 : Int) - 1 = ((x.2 - 1 : Nat) : Int)
  omega
theorem cast_nat (cs : List Nat) : (cs.map fun (k : Nat) => (k : Int)).map Int.toNat = cs := by
  rw [List.map_map]; simp [Function.comp_def]
theorem cutD_nat {row cs : List Nat} (up : cs.Pairwise (· < ·)) (hlt : ∀ c ∈ cs, c < row.length) (h : partsOk row 0 cs = true) : cutD row 0 (cs.map fun (k : Nat) => (k : Int)) = true := by
  rw [cutD_iff (Nat.zero_le _), cast_nat]
  refine ⟨okM_of (List.Pairwise.map _ (fun x y h => by omega) up) fun m hm => ?_, h⟩
  obtain ⟨k, hk, rfl⟩ := List.mem_map.mp hm
  have := hlt k hk; omega
theorem bitsN_up (n x : Nat) : (bitsN n x).Pairwise (· < ·) := List.pairwise_lt_range.filter _
theorem bitsN_lt {n x : Nat} : ∀ c ∈ bitsN n x, c < n := fun c hc => List.mem_range.mp (List.mem_filter.mp hc).1
def shortest (row : List Nat) (k : Nat) (found : Nat) : Prop := (found = row.length ∨ ∃ x, found = (bitsN row.length x).length ∧ cutD row 0 ((bitsN row.length x).map fun (k : Nat) => (k : Int)) = true) ∧ found ≤ row.length ∧ ∀ x, x < k → cutD row 0 ((bitsN row.length x).map fun (k : Nat) => (k : Int)) = true → found ≤ (bitsN row.length x).length
theorem shortest_is {row : List Nat} {c : Nat} (h : shortest row (2 ^ row.length) c) : c = (newS row).length := by
  obtain ⟨h1, h2, h3⟩ := h
  have hge : (newS row).length ≤ c := by
    rcases h1 with h1 | ⟨x, e, hx⟩
    · rw [h1]; exact newS_len row
    · have := (cutD_iff (Nat.zero_le _)).mp hx
      rw [cast_nat] at this
      rw [e]; exact newS_fewest this.2 bitsN_lt
  obtain ⟨x, hx, hb⟩ := bits_of (fun p => decide (p ∈ endsN row)) row.length
  have e : bitsN row.length x = endsN row := up_ext (bitsN_up _ _) (endsN_up row) fun p => by
    unfold bitsN
    rw [List.mem_filter, List.mem_range]
    constructor
    · rintro ⟨a, b⟩
      rw [hb p a] at b
      exact of_decide_eq_true b
    · intro q
      have hp := endsN_lt p q
      exact ⟨hp, by rw [hb p hp]; exact decide_eq_true q⟩
  have hle := h3 x hx (by rw [e]; exact cutD_nat (endsN_up row) endsN_lt (endsN_ok row))
  rw [e] at hle
  unfold endsN at hle
  rw [List.length_map] at hle
  omega
theorem shr_nat (x : Int) (p : Nat) : Bop.sem .shr (.int x) (.int (p : Int)) = some (.val (.int (x / 2 ^ p))) := by
  have h : (0 : Int) ≤ (p : Int) := Int.natCast_nonneg p
  simp only [Bop.sem, if_pos h, Int.toNat_natCast]
theorem band_int (x y : Int) : Bop.sem .band (.int x) (.int y) = some (.val (.int (Builtin.bitAnd x y))) := rfl
/-- without one end it is no cutting -/
theorem erase_bad {row : List Nat} {i : Nat} (hi : i < (newS row).length) : partsOk row 0 ((endsN row).eraseIdx i) = false := by
  cases e : partsOk row 0 ((endsN row).eraseIdx i) with
  | false => rfl
  | true =>
    exfalso
    have hp := chain_apart (newS_g row).1
    rw [List.pairwise_iff_getElem] at hp
    obtain ⟨c, hc, c1, c2⟩ := newS_in e (fun c hc => endsN_lt c ((List.eraseIdx_sublist _ _).mem hc)) (List.getElem_mem hi)
    obtain ⟨j, hj, hne, hjc⟩ := List.mem_eraseIdx_iff_getElem.mp hc
    unfold endsN at hj hjc
    rw [List.length_map] at hj
    rw [List.getElem_map] at hjc
    have hx := newS_new (List.getElem_mem hj)
    have hy := newS_new (List.getElem_mem hi)
    rcases Nat.lt_or_gt_of_ne hne with z | z
    · have := hp j i hj hi z; omega
    · have := hp i j hi hj z; omega
theorem firstC_erase {row : List Nat} {i : Nat} : ((firstC row).eraseIdx i).map Int.toNat = (endsN row).eraseIdx i := by
  rw [firstC_ends, erase_map, cast_nat]

noncomputable def B_is_whole : List S := [.ret (.and_ [.isi (.var 0) [.int], .un .not (.isi (.var 0) [.bool])])]
noncomputable def F_is_whole : Fn := mkFn [false] 1 B_is_whole
-- lib: lacks oddl
theorem sp_is_whole (a : Int) : F_is_whole.Runs [.int a] (fun t fr outs => t = .bl true ∧ fr = false ∧ outs = []) noX := by
  refine run_of rfl ?_
  rw [show env0 1 [false] [.int a] = [some (.shr (.int a))] from rfl, B_is_whole]

  walk_at "MWS"
theorem sp_is_whole_odd (t : T) (h : OddT t) : F_is_whole.Runs [t] (fun r fr outs => r = .bl false ∧ fr = false ∧ outs = []) noX := by
  refine run_of rfl ?_
  rw [show env0 1 [false] [t] = [some (.shr (t))] from rfl, B_is_whole]
  rcases h with rfl | ⟨s, rfl⟩ | ⟨a, rfl⟩ | ⟨a, rfl⟩ | ⟨b, rfl⟩ | rfl
  · walk_at "MGO"
  · walk_at "MGO"
  · walk_at "MGO"
  · walk_at "MGO"
  · walk_at "MGO"
  · walk_at "MGO"


noncomputable def B_are_marks : List S := [.set 2 (.un .neg (.lit (.int 1))), .for_ (.n 3) .val [.var 1] [.ifs (.or_ [.un .not (.call "is_whole" F_is_whole [.var 3]), .cmp .le (.var 3) (.var 2), .cmp .ge (.var 3) (.blt .len [.var 0])]) [.ret (.lit (.bl false))] [], .set 2 (.var 3)] [3], .ret (.lit (.bl true))]
noncomputable def F_are_marks : Fn := mkFn [false, false] 4 B_are_marks
-- lib: nets oddl
theorem sp_are_marks (row : List Nat) (ms : List Int) (h : row.length ≤ 1000000) : F_are_marks.Runs [.str row, .lst (ms.map T.int)] (fun t fr outs => t = .bl (okM row.length (-1) ms) ∧ fr = false ∧ outs = []) noX := by
  refine run_of rfl ?_
  rw [show env0 4 [false, false] [.str row, .lst (ms.map T.int)] = [some (.shr (.str row)), some (.shr (.lst (ms.map T.int))), none, none] from rfl, B_are_marks]

  walk_at "MWS"
  refine wp_forA (fun c : Int => [some (.shr (.str row)), some (.shr (.lst (ms.map T.int))), some (.shr (.int c)), none]) (fun n c => okM row.length (-1) ms = okM row.length c (ms.drop n)) (-1) rfl (by simp) (fun n c hn hj => ?_) fun c hj => ?_
  · walk_at "MGO"
    walk_at "MSD"; refine wp_callN (sp_is_whole ms[n]) rfl rfl ?_; rintro _ fr0 _ ⟨rfl, rfl, rfl⟩; refine ⟨by first | rfl | exact rd_ok (optW_atom _) rfl | exact rd_ok (optT_atom _) rfl | exact rd_okF (atoms_ints _) rfl | exact rd_okF (atoms_strs _) rfl | exact rd_okF (atoms_opt _ _) rfl, ?_⟩; rw [show F_is_whole.ios = [false] from rfl]; walk_at "MGO"
    rw [List.drop_eq_getElem_cons hn] at hj
    rw [okM] at hj
    refine ⟨fun h1 => ?_, fun h1 => ⟨by omega, fun h2 => ?_, fun h2 => ⟨ms[n], rfl, ?_⟩⟩⟩
    · rw [hj, decide_eq_false (by omega)]; rfl
    · rw [hj, decide_eq_false (p := ms[n] < (row.length : Int)) (by omega), Bool.and_false]; rfl
    · rw [hj, decide_eq_true (by omega), decide_eq_true (by omega)]; rfl
  · rw [List.drop_length] at hj
    rw [hj]
    walk_at "MGO"
    rfl
theorem sp_are_marks_odd (row : List Nat) (as bs : List Int) (t : T) (ht : OddT t) (h : row.length ≤ 1000000) : F_are_marks.Runs [.str row, .lst (oddL as t bs)] (fun r fr outs => r = .bl false ∧ fr = false ∧ outs = []) noX := by
  refine run_of rfl ?_
  rw [show env0 4 [false, false] [.str row, .lst (oddL as t bs)] = [some (.shr (.str row)), some (.shr (.lst (oddL as t bs))), none, none] from rfl, B_are_marks]
  walk_at "MWS"
  refine wp_for (fun c : Int => [some (.shr (.str row)), some (.shr (.lst (oddL as t bs))), some (.shr (.int c)), none]) (fun n c => n ≤ as.length) (-1) rfl (Nat.zero_le _) (fun n c x hx hn => ?_) fun c hc => ?_
  · rcases Nat.lt_or_ge n as.length with z | z
    · rw [oddL_lt z] at hx
      cases hx
      walk_at "MGO"
      walk_at "MSD"; refine wp_callN (sp_is_whole as[n]) rfl rfl ?_; rintro _ fr0 _ ⟨rfl, rfl, rfl⟩; refine ⟨by first | rfl | exact rd_ok (optW_atom _) rfl | exact rd_ok (optT_atom _) rfl | exact rd_okF (atoms_ints _) rfl | exact rd_okF (atoms_strs _) rfl | exact rd_okF (atoms_opt _ _) rfl, ?_⟩; rw [show F_is_whole.ios = [false] from rfl]; walk_at "MGO"
      exact fun _ => ⟨by omega, fun _ => ⟨_, rfl, by omega⟩⟩
    · obtain rfl : n = as.length := by omega
      rw [oddL_at] at hx
      cases hx
      walk_at "MGO"
      walk_at "MSD"; refine wp_callN (sp_is_whole_odd t ht) rfl rfl ?_; rintro _ fr0 _ ⟨rfl, rfl, rfl⟩; refine ⟨by first | rfl | exact rd_ok (optW_atom _) rfl | exact rd_ok (optT_atom _) rfl | exact rd_okF (atoms_ints _) rfl | exact rd_okF (atoms_strs _) rfl | exact rd_okF (atoms_opt _ _) rfl, ?_⟩; rw [show F_is_whole.ios = [false] from rfl]; walk_at "MGO"
  · rw [oddL_len] at hc
    omega


noncomputable def B_stands_earlier : List S := [.set 3 (.slc (.var 0) [.var 1] [.var 2]), .ret (.blt .any [.comp (.cmp .eq (.slc (.var 0) [.var 4] [.bin .add (.var 4) (.blt .len [.var 3])]) (.var 3)) (.n 4) .range [.var 1] [] [("place", 4)]])]
noncomputable def F_stands_earlier : Fn := mkFn [false, false, false] 5 B_stands_earlier
-- lib: words
theorem sp_stands_earlier (row : List Nat) (b e : Nat) (h : row.length ≤ 1000000) (hb : b ≤ 1000000) : F_stands_earlier.Runs [.str row, .int b, .int e] (fun t fr outs => t = .bl (earlier row b e) ∧ fr = false ∧ outs = []) noX := by
  refine run_of rfl ?_
  rw [show env0 5 [false, false, false] [.str row, .int b, .int e] = [some (.shr (.str row)), some (.shr (.int b)), some (.shr (.int e)), none, none] from rfl, B_stands_earlier]
  walk_at "MPS"
  rw [cut_word]
  walk_at "MS1"
  refine wp_compE (fun k => .bl (subAtL row (wordAt row b e) k)) (fun k : Nat => .int k) (List.range b) (fun k hk => ?_) ?_
  · walk_at "MPS"
    refine ⟨?_, by omega, ?_⟩
    · have := cut_len row (some b) (some e); rw [cut_word] at this; omega
    · rw [cut_word2]; rfl
  · walk_at "MPS"
    rfl


noncomputable def B_is_cutting : List S := [.ifs (.un .not (.call "are_marks" F_are_marks [.var 0, .var 1])) [.ret (.lit (.bl false))] [], .set 2 (.lit (.int 0)), .for_ (.n 3) .val [.bin .add (.var 1) (.lst [.blt .len [.var 0]])] [.ifs (.and_ [.cmp .lt (.var 2) (.var 3), .un .not (.call "stands_earlier" F_stands_earlier [.var 0, .var 2, .var 3])]) [.ret (.lit (.bl false))] [], .set 2 (.bin .add (.var 3) (.lit (.int 1)))] [3], .ret (.lit (.bl true))]
noncomputable def F_is_cutting : Fn := mkFn [false, false] 4 B_is_cutting
-- lib: cuts oddl
theorem sp_is_cutting (row : List Nat) (ms : List Int) (h : row.length ≤ 60) (h2 : ms.length ≤ 1000000) : F_is_cutting.Runs [.str row, .lst (ms.map T.int)] (fun t fr outs => t = .bl (okM row.length (-1) ms && partsOk row 0 (ms.map Int.toNat)) ∧ fr = false ∧ outs = []) noX := by
  refine run_of rfl ?_
  rw [show env0 4 [false, false] [.str row, .lst (ms.map T.int)] = [some (.shr (.str row)), some (.shr (.lst (ms.map T.int))), none, none] from rfl, B_is_cutting]

  walk_at "MGO"
  walk_at "MSD"; refine wp_callN (sp_are_marks row ms (by first | assumption | omega | decide | (simp only [List.length_map, List.length_reverse, List.length_append, List.length_cons, List.length_nil, onesT_len]; omega))) rfl rfl ?_; rintro _ fr0 _ ⟨rfl, rfl, rfl⟩; refine ⟨by first | rfl | exact rd_ok (optW_atom _) rfl | exact rd_ok (optT_atom _) rfl | exact rd_okF (atoms_ints _) rfl | exact rd_okF (atoms_strs _) rfl | exact rd_okF (atoms_opt _ _) rfl, ?_⟩; rw [show F_are_marks.ios = [false, false] from rfl]; walk_at "MGO"
  refine ⟨fun he => by rw [he]; rfl, fun he => ?_⟩
  obtain ⟨cs, hcs⟩ : ∃ cs, cs = ms.map Int.toNat := ⟨_, rfl⟩
  have hms := okM_cast he
  have hlen : cs.length = ms.length := by rw [hcs, List.length_map]
  have hlt : ∀ c ∈ cs, c < row.length := fun c hc => by
    rw [hcs] at hc
    obtain ⟨m, hm, rfl⟩ := List.mem_map.mp hc
    have := (okM_iff.mp he).2 m hm
    omega
  rw [he, ← hcs, Bool.true_and, parts_E]
  rw [← hcs] at hms
  obtain ⟨es, hes⟩ : ∃ es, es = cs ++ [row.length] := ⟨_, rfl⟩
  have hel : ∀ e ∈ es, e ≤ row.length := fun e m => by
    rw [hes, List.mem_append, List.mem_singleton] at m
    rcases m with m | rfl
    · have := hlt e m; omega
    · exact Nat.le_refl _
  rw [← hes, show ms.map T.int ++ [T.int (row.length : Int)] = es.map fun (k : Nat) => T.int (k : Int) by rw [hes, hms]; simp [List.map_map, Function.comp_def]]
  refine ⟨by omega, by omega, ?_⟩
  refine wp_forA (fun c : Nat => [some (.shr (.str row)), some (.shr (.lst (ms.map T.int))), some (.shr (.int (c : Int))), none]) (fun j c => c ≤ row.length + 1 ∧ partsE row 0 es = partsE row c (es.drop j)) 0 rfl ⟨by omega, by simp⟩ (fun j c hj hc => ?_) fun c hc => ?_
  · obtain ⟨c1, c2⟩ := hc
    have hem := hel _ (List.getElem_mem hj)
    rw [List.drop_eq_getElem_cons hj, partsE] at c2
    walk_at "MGO"
    refine ⟨fun h1 => ?_, fun h1 => ?_⟩
    · walk_at "MSD"; refine wp_callN (sp_stands_earlier row c es[j] (by first | assumption | omega | decide | (simp only [List.length_map, List.length_reverse, List.length_append, List.length_cons, List.length_nil, onesT_len]; omega)) (by first | assumption | omega | decide | (simp only [List.length_map, List.length_reverse, List.length_append, List.length_cons, List.length_nil, onesT_len]; omega))) rfl rfl ?_; rintro _ fr0 _ ⟨rfl, rfl, rfl⟩; refine ⟨by first | rfl | exact rd_ok (optW_atom _) rfl | exact rd_ok (optT_atom _) rfl | exact rd_okF (atoms_ints _) rfl | exact rd_okF (atoms_strs _) rfl | exact rd_okF (atoms_opt _ _) rfl, ?_⟩; rw [show F_stands_earlier.ios = [false, false, false] from rfl]; walk_at "MGO"
      refine ⟨fun e => by rw [c2, decide_eq_false (by omega), e]; rfl, fun e => ⟨es[j] + 1, by rw [show ((es[j] : Int) + 1) = ((es[j] + 1 : Nat) : Int) by omega], by omega, by rw [c2, e, Bool.or_true, Bool.true_and]⟩⟩
    · exact ⟨es[j] + 1, by rw [show ((es[j] : Int) + 1) = ((es[j] + 1 : Nat) : Int) by omega], by omega, by rw [c2, decide_eq_true (by omega), Bool.true_or, Bool.true_and]⟩
  · obtain ⟨c1, c2⟩ := hc
    rw [List.drop_length] at c2
    rw [c2]
    walk_at "MGO"
    rfl
theorem sp_is_cutting_odd (row : List Nat) (as bs : List Int) (t : T) (ht : OddT t) (h : row.length ≤ 60) : F_is_cutting.Runs [.str row, .lst (oddL as t bs)] (fun r fr outs => r = .bl false ∧ fr = false ∧ outs = []) noX := by
  refine run_of rfl ?_
  rw [show env0 4 [false, false] [.str row, .lst (oddL as t bs)] = [some (.shr (.str row)), some (.shr (.lst (oddL as t bs))), none, none] from rfl, B_is_cutting]
  walk_at "MGO"
  walk_at "MSD"; refine wp_callN (sp_are_marks_odd row as bs t ht (by omega)) rfl rfl ?_; rintro _ fr0 _ ⟨rfl, rfl, rfl⟩; refine ⟨by first | rfl | exact rd_ok (optW_atom _) rfl | exact rd_ok (optT_atom _) rfl | exact rd_okF (atoms_ints _) rfl | exact rd_okF (atoms_strs _) rfl | exact rd_okF (atoms_opt _ _) rfl, ?_⟩; rw [show F_are_marks.ios = [false, false] from rfl]; walk_at "MGO"


noncomputable def B__law_pot : List S := [.set 2 (.lit (.int 0)), .ifs (.cmp .lt (.var 1) (.blt .len [.var 0])) [.set 2 (.bin .mod (.blt .abs [.sub (.var 0) (.var 1)]) (.bin .pow (.bin .pow (.lit (.int 10)) (.lit (.int 60))) (.lit (.int 4))))] [], .ret (.lst [.bin .mul (.var 2) (.blt .int [.cmp .ge (.var 2) (.bin .pow (.lit (.int 10)) (.lit (.int 18)))]), .bin .mod (.bin .pow (.bin .add (.bin .add (.bin .mod (.var 2) (.lit (.int 2147483629))) (.bin .mul (.lit (.int 7919)) (.var 1))) (.lit (.int 1))) (.lit (.int 5))) (.lit (.int 2147483647))])]
noncomputable def F__law_pot : Fn := mkFn [false, false] 3 B__law_pot
-- lib: draw
theorem sp__law_pot : PotSp F__law_pot := by
  intro ns k hk
  refine run_of rfl ?_
  rw [show env0 3 [false, false] [.ro ns, .int k] = [some (.shr (.ro ns)), some (.shr (.int k)), none] from rfl, B__law_pot]
  walk_at "MPS"
  refine wp_join (fun c : Int => [some (.shr (.ro ns)), some (.shr (.int k)), some (.shr (.int c))]) (fun c => 0 ≤ c ∧ c < 10 ^ 240) ?_ ?_
  · walk_at "MPS"
    refine ⟨fun h => ?_, fun h => ⟨0, rfl, by decide, by decide +kernel⟩⟩
    obtain ⟨a, e, _⟩ := pick_in (xs := ns) (i := (k : Int)) (by omega) h
    rw [e]
    walk_at "MPS"
    exact cell_mid
  · walk_at "MPS"
    rintro y ⟨h0, h1⟩
    exact cell_pot hk y h0 h1


noncomputable def B__law_take : List S := [.ifs (.cmp .gt (.sub (.var 0) (.lit (.int 0))) (.lit (.int 0))) [.set 2 (.bin .mod (.sub (.var 0) (.lit (.int 0))) (.var 1)), .put 0 (.lit (.int 0)) (.bin .fdiv (.sub (.var 0) (.lit (.int 0))) (.var 1)), .ret (.var 2)] [], .forget [2], .put 0 (.lit (.int 1)) (.bin .mod (.bin .add (.bin .mul (.sub (.var 0) (.lit (.int 1))) (.lit (.int 69621))) (.lit (.int 12345))) (.lit (.int 2147483647))), .ret (.bin .mod (.bin .fdiv (.bin .mod (.bin .mul (.sub (.var 0) (.lit (.int 1))) (.sub (.var 0) (.lit (.int 1)))) (.lit (.int 2147483629))) (.lit (.int 64))) (.var 1))]
noncomputable def F__law_take : Fn := mkFn [true, false] 3 B__law_take
-- lib: draw
theorem sp__law_take : DrawSp F__law_take := by
  intro p m h0 h1
  refine run_of rfl ?_
  rw [show env0 3 [true, false] [p.t, .int m] = [some (.io (p.t)), some (.shr (.int m)), none] from rfl, B__law_take]
  simp only [sp_cons, sp_ifs, sp_nil]
  simp -implicitDefEqProofs only [ex_lit, ex_glob, ex_var, ex_neg, ex_not, ex_bin, ex_cmp, ex_and1, ex_and, ex_or1, ex_or, ex_evs0, ex_evs, ex_tup, ex_lst, ex_dct0, ex_sub, ex_evO0, ex_evO, ex_slc, ex_rev, ex_call, ex_blt, ex_isi, ex_ite, ex_meth, ex_mut, ex_truth, ex_ok, ex_spec, ex_compK, ex_cmp2, bd_some, bd_none, bd_if, bd_bind, bd_map, onB_bl, pf_rt, pf_ex, sp_ex, sp_set, sp_unp, sp_par, sp_put, sp_ret, sp_retN, sp_brk, sp_cont, sp_pass, sp_raise, sp_forget, sp_freeze, sp_cons, sp_nil, ex_evC0, ex_evC, ex_comp, sp_for, sp_aug, sp_forK, ex_isx, ex_cmp3, sp_tryx, sp_stw, sp_retD, sp_nx, sp_mid0, sp_midC, sp_midB, sp_mut0, sp_mutS, sp_reg, pfd_rt, pfd_ex, tx_rt, tx_exS, tx_exN, tx_q, wz_at0, wz_atS, wz_k0, wz_k1, wz_kS, wz_ka, wz_kb, wz_kc, wz_kd, wz_rda, wz_rdb, wz_rdc, wz_rdd, wz_gv, wz_gf, wz_gl, wz_gotb, wz_gotc, wz_gotd, wz_cv, wz_cf, wz_iv, wz_ti, wz_setS0, wz_setSa, wz_setSb, wz_setSS, wz_srv, wz_srf, wz_tkb, wz_tv, wz_tf, wz_tl, wz_srl, wz_par, wz_put0, wz_put1, wz_putS, wz_ps0, wz_ps1, wz_fg0, wz_fg, wz_d0, wz_da, wz_db, wz_dc, wz_dd, wz_dS, wz_fza, wz_fzb, wz_fzS, wz_o0, wz_ot, wz_of, wz_otc, wz_rv, wz_rf, wz_rl, wz_rlb, wz_po0, wz_pot, wz_pov, wz_pof, wz_pox, wz_reS, wz_re0, wz_re1, wz_cl0, wz_cl, wz_ge0, wz_ge, wo_add, wo_sub, wo_mul, wo_mod, wo_div, wo_pow, wo_adds, wo_addl, wo_muls, wo_mull, wo_lt, wo_le, wo_gt, wo_ge, wo_eqi, wo_nei, wo_eqs, wo_nes, wo_tb, wo_ti, wo_lens, wo_lenl, wo_lent, wo_lenr, wo_abs, wo_min, wo_max, wo_intb, wo_inti, wo_subl, wo_subt, wo_subr, wo_subs, wo_slcs, wo_slcl, wo_revs, wo_revl, wo_isi, wo_isb, wo_iss, wo_isl, wp_p0, wp_p1, wq_wipe0, wq_wipe, wq_clr0, wq_clrS, wq_back0, wq_back, wq_bk0, wq_bkS, wq_bn, wq_lk0, wq_lkv, wq_lkf, wq_lkl, wq_lk1b, wq_lk1c, wq_lk1d, wq_lk1S, wq_ixv, wq_ixf, wq_ixl, wq_tr, wq_vl, wq_vt, wq_vs, wq_tc, wq_tb, wq_trt, wq_tex, wq_mrt, wq_mex, wx_wtb, wx_wtc, wx_mut, wx_mtS, wx_mtb, wx_mtc, wx_mtd, wx_mte, wx_mda, wx_mdb, wx_mdc, wx_mdd, wx_mde, wx_mdf, wx_mdg, wx_re, wx_ra, wx_rp, wx_ri, wx_rr, wx_rc, wx_rs, wx_ma, wx_me, wx_mp, wx_mi, wx_mn, wx_mr, wx_mc, wx_ms, wx_ki, wx_ks, wx_pd, wx_sdi, wx_sds, wx_inds, wx_indi, wx_ninds, wx_nindi, wx_inss, wx_ninss, wx_lts, wx_les, wx_gts, wx_isn, wx_iss, wx_isi, wx_isl, wx_ist, wx_isb, wx_nsn, wx_nss, wx_nsi, wx_nsl, wx_nst, wx_nsb, wx_eqb, wx_neb, wx_len, wx_ll, wx_lt, wx_ld, wx_tl, wx_tt, wx_dd, wx_any, wx_all, wx_sum, wx_srti, wx_srts, wx_find, wx_starts, wx_idxs, wx_get1, wx_get2i, wx_get2b, wx_prd, wx_prj, wx_prf, wx_pri, wx_prl, wx_prs, wx_lr1, wx_lr2, wx_mn1, wx_ds1, wx_ds2, wx_ds3, wx_r2, wx_r3, wx_en, wx_zp, wx_rv, wx_rr2, wx_ka0, wx_ka1, wx_bt, wx_bt0, wx_bt1, wx_eqls, wx_nels, wx_eqi0, wx_nei0, wx_eqs0, wx_nes0, wx_eq00, wx_ne00, wx_pk2, wx_ps23, wx_lstr, wx_srtstr, wx_ixe, wx_ixn, wx_ixl, wx_ixt, wx_ixs, wx_ixi, wx_ixb, wx_ise, wx_nse, wx_prc, wx_pre, wx_cnt, wx_ends, wx_cnts, wx_sets, wx_seti, wx_setx, wx_lset, wx_lseti, wx_lsetx, wx_mno, wx_isow, wx_nsow, wx_isot, wx_nsot, wx_eqow, wx_neow, wx_eqot, wx_neot, wx_inli, wx_ninli, wx_insl, wx_ninsl, wx_isiow, wx_isiot, wx_ia00, wx_ia01, wx_ia02, wx_ia03, wx_ia04, wx_ia05, wx_ia06, wx_ia10, wx_ia11, wx_ia12, wx_ia13, wx_ia14, wx_ia15, wx_ia16, wx_ia20, wx_ia21, wx_ia22, wx_ia23, wx_ia24, wx_ia25, wx_ia26, wx_ia30, wx_ia31, wx_ia32, wx_ia33, wx_ia34, wx_ia35, wx_ia36, wx_ia40, wx_ia41, wx_ia42, wx_ia43, wx_ia44, wx_ia45, wx_ia46, wx_ia50, wx_ia51, wx_ia52, wx_ia53, wx_ia54, wx_ia55, wx_ia56, wx_ia60, wx_ia61, wx_ia62, wx_ia63, wx_ia64, wx_ia65, wx_ia66, wx_allT, wx_allc, wx_anyc, wx_eqoL, wx_neoL, wx_ows, wx_owz, wx_ots, wx_otz, wx_ne11, wx_nel1, wx_dT, wx_dF, wx_on1, wx_on2, wx_on3, wx_on4, wx_ba1, wx_ba2, wx_ba3, wx_ba4, wx_bs, wx_nen0, wx_eqn0, wx_nezo, wx_nepL, wx_eqpL, wx_ity, wx_itn, wx_itd, wx_gd1, wx_gd2, wx_bq1, wx_bq2, wx_bq3, wx_bq4, wx_zpt, wx_isa00, wx_isa01, wx_isa02, wx_isa03, wx_isa04, wx_isa05, wx_isa06, wx_isa10, wx_isa11, wx_isa12, wx_isa13, wx_isa14, wx_isa15, wx_isa16, wx_isa20, wx_isa21, wx_isa22, wx_isa23, wx_isa24, wx_isa25, wx_isa26, wx_isa30, wx_isa31, wx_isa32, wx_isa33, wx_isa34, wx_isa35, wx_isa36, wx_isa40, wx_isa41, wx_isa42, wx_isa43, wx_isa44, wx_isa45, wx_isa46, wx_isa50, wx_isa51, wx_isa52, wx_isa53, wx_isa54, wx_isa55, wx_isa56, wx_isa60, wx_isa61, wx_isa62, wx_isa63, wx_isa64, wx_isa65, wx_isa66, wx_any2, wx_any3, wx_any4, wx_bo1, wx_bo2, wx_bo3, wx_bo4, wx_stw0, wx_stw1, wx_stwS, wx_stl, wx_rtup, wx_pd0, wx_pdv, wx_pdf, wx_il1, wx_il2, wx_il3, wx_il4, wx_il5, wx_vis0, wx_visS, wx_lk0, wx_lk1, wx_lk2, wx_lk3, wx_lk4, wx_rat, wx_tat1, wx_tat2, wx_tat3, wx_tat4, wx_mr1, wx_mr2, wx_mr3, wx_mr4, wx_md1, wx_md2, wx_md3, wx_md4, wx_isl1, wx_tt2, wx_g0, wx_g1, wo_eql, wo_nel, Int.toNat_natCast, List.map_cons, List.map_nil, List.flatMap_nil, List.flatMap_cons, List.append_nil, List.nil_append, List.cons_append, List.length_cons, List.length_nil, List.set_cons_succ, List.set_cons_zero, if_true, Bool.false_eq_true, if_false, Option.bind_some, Option.map_some, Nat.reduceAdd, Nat.reduceSub, Nat.reduceLT, Nat.reduceLeDiff, Nat.zero_add, true_and, false_implies, true_implies, and_true, or_true, true_or, or_false, false_or, Bool.true_eq_false, forall_const, reduceCtorEq, decide_eq_true_eq, decide_eq_false_iff_not, Nat.reduceEqDiff, Bool.not_eq_true, Bool.not_eq_eq_eq_not, Bool.not_true, Bool.not_false, Pot.t]
  exact pot_end p m h0 h1


noncomputable def B__law_copies : List S := [.set 3 (.lit (.str [])), .whl (.cmp .lt (.blt .len [.var 3]) (.var 2)) [.set 4 (.call "_law_take" F__law_take [.var 0, .bin .add (.blt .len [.var 3]) (.lit (.int 1))]), .set 3 (.bin .add (.bin .add (.var 3) (.slc (.var 3) [.var 4] [.bin .add (.var 4) (.call "_law_take" F__law_take [.var 0, .lit (.int 8)])])) (.sub (.var 1) (.call "_law_take" F__law_take [.var 0, .blt .len [.var 1]])))] [4], .ret (.slc (.var 3) [] [.var 2])]
noncomputable def F__law_copies : Fn := mkFn [true, false, false] 5 B__law_copies
-- lib: draw
theorem sp__law_copies : SizedSp F__law_copies 100000 := by
  intro p cs size hc hc2 h0 h1
  refine run_of rfl ?_
  rw [show env0 5 [true, false, false] [p.t, .lst (onesT cs), .int size] = [some (.io (p.t)), some (.shr (.lst (onesT cs))), some (.shr (.int size)), none, none] from rfl, B__law_copies]
  have hl := onesT_len cs
  walk_at "MPS"
  refine wp_whl0 (fun y : Pot × List Nat => [some (.io (y.1.t)), some (.shr (.lst (onesT cs))), some (.shr (.int size)), some (.shr (.str y.2)), none]) (fun y => (∀ c ∈ y.2, c ∈ cs) ∧ (y.2.length : Int) ≤ size + 10) (fun y => (size - y.2.length).toNat) (p, []) rfl ⟨by simp, by show ((0 : Nat) : Int) ≤ _; omega⟩ ?_ ?_
  · rintro ⟨q, row⟩ ⟨g0, g1⟩
    dsimp only at g0 g1
    walk_at "MPS"
    refine ⟨by omega, fun h => ?_, fun h => ⟨(q, row), rfl, ⟨g0, g1⟩, rfl⟩⟩
    walk_at "MS1"; refine draw_call rfl sp__law_take (by first | exact .inl rfl | exact .inr rfl) (by first | omega | decide) (by first | exact divOk_of (by omega) (by omega) | exact divOk_big (by omega) (by omega) | exact divOk_big (by decide +kernel) (by decide +kernel)) fun r p1 a0 a1 => ?_; walk_at "MPS"
    walk_at "MS1"; refine draw_call rfl sp__law_take (by first | exact .inl rfl | exact .inr rfl) (by first | omega | decide) (by first | exact divOk_of (by omega) (by omega) | exact divOk_big (by omega) (by omega) | exact divOk_big (by decide +kernel) (by decide +kernel)) fun r2 p2 b0 b1 => ?_; walk_at "MPS"
    have k1 := cut_len row (some r) (some (r + r2))
    walk_at "MS1"; refine draw_call rfl sp__law_take (by first | exact .inl rfl | exact .inr rfl) (by first | omega | decide) (by first | exact divOk_of (by omega) (by omega) | exact divOk_big (by omega) (by omega) | exact divOk_big (by decide +kernel) (by decide +kernel)) fun r3 p3 d0 d1 => ?_; walk_at "MPS"
    refine bd_pickO d0 (by omega) fun c hc => ?_
    walk_at "MPS"
    refine ⟨by simp only [List.length_append, List.length_cons, List.length_nil]; omega, (p3, _), rfl, ⟨fun x hx => ?_, ?_⟩, ?_⟩
    · simp only [List.mem_append, List.mem_singleton] at hx
      rcases hx with (hx | hx) | rfl
      · exact g0 x hx
      · exact g0 x (cut_mem hx)
      · exact hc
    · have k2 : (cut row (some r) (some (r + r2))).length ≤ 7 := by rw [cut_mid _ (by omega) (by omega), List.length_take]; omega
      simp only [List.length_append, List.length_cons, List.length_nil]; omega
    · simp only [List.length_append, List.length_cons, List.length_nil]; omega
  · rintro ⟨q, row⟩ ⟨g0, g1⟩
    dsimp only at g0 g1
    walk_at "MPS"
    walk_at "MS1"; refine ⟨_, q, rfl, rfl, ?_, fun c hc => g0 c (cut_mem hc)⟩
    rw [cut_to _ h0, List.length_take]; omega


noncomputable def B__law_grown : List S := [.par 3 4 (.sub (.var 1) (.un .neg (.lit (.int 1)))) (.sub (.var 1) (.lit (.int 0))), .whl (.cmp .lt (.blt .len [.var 4]) (.var 2)) [.par 3 4 (.var 4) (.bin .add (.bin .mul (.var 4) (.bin .add (.lit (.int 1)) (.call "_law_take" F__law_take [.var 0, .lit (.int 3)]))) (.var 3))] [], .ret (.slc (.var 4) [] [.var 2])]
noncomputable def F__law_grown : Fn := mkFn [true, false, false] 5 B__law_grown
-- lib: draw
theorem sp__law_grown : SizedSp F__law_grown 100000 := by
  intro p cs size hc hc2 h0 h1
  refine run_of rfl ?_
  rw [show env0 5 [true, false, false] [p.t, .lst (onesT cs), .int size] = [some (.io (p.t)), some (.shr (.lst (onesT cs))), some (.shr (.int size)), none, none] from rfl, B__law_grown]
  have hl := onesT_len cs
  walk_at "MPS"
  refine pick_lastO hc fun e he => ?_
  walk_at "MPS"
  refine bd_pickO (by decide) (by omega) fun l hl => ?_
  walk_at "MPS"
  refine wp_whl0 (fun y : Pot × List Nat × List Nat => [some (.io (y.1.t)), some (.shr (.lst (onesT cs))), some (.shr (.int size)), some (.shr (.str y.2.1)), some (.shr (.str y.2.2))]) (fun y => (∀ c ∈ y.2.1, c ∈ cs) ∧ (∀ c ∈ y.2.2, c ∈ cs) ∧ y.2.1.length ≤ 100000 ∧ y.2.2.length ≤ 1000000 ∧ 0 < y.2.1.length ∧ 0 < y.2.2.length) (fun y => (size - y.2.2.length).toNat) (p, [e], [l]) rfl ⟨by simpa using he, by simpa using hl, by simp⟩ ?_ ?_
  · rintro ⟨q, a, b⟩ ⟨g0, g1, g2, g3, g4, g5⟩
    dsimp only at g0 g1 g2 g3 g4 g5
    walk_at "MPS"
    refine ⟨by omega, fun h => ?_, fun h => ⟨(q, a, b), rfl, ⟨g0, g1, g2, g3, g4, g5⟩, rfl⟩⟩
    walk_at "MS1"; refine draw_call rfl sp__law_take (by first | exact .inl rfl | exact .inr rfl) (by first | omega | decide) (by first | exact divOk_of (by omega) (by omega) | exact divOk_big (by omega) (by omega) | exact divOk_big (by decide +kernel) (by decide +kernel)) fun r p1 a0 a1 => ?_; walk_at "MPS"
    have k0 : (1 + r).toNat ≤ 3 := by omega
    have k1 : b.length * (1 + r).toNat ≤ b.length * 3 := Nat.mul_le_mul_left _ k0
    have k2 : b.length * 1 ≤ b.length * (1 + r).toNat := Nat.mul_le_mul_left _ (by omega)
    have k3 := repL_len b (1 + r)
    rw [Nat.mul_comm] at k3
    walk_at "MS1"; refine ⟨(p1, b, _), rfl, ⟨g1, fun c hc => ?_, ?_, ?_, ?_, ?_⟩, ?_⟩
    · rcases List.mem_append.mp hc with hc | hc
      · exact g1 c (repL_mem hc)
      · exact g0 c hc
    all_goals dsimp only
    all_goals try simp only [List.length_append]
    all_goals omega
  · rintro ⟨q, a, b⟩ ⟨g0, g1, g2, g3, g4, g5⟩
    dsimp only at g0 g1 g2 g3 g4 g5
    walk_at "MPS"
    walk_at "MS1"; refine ⟨_, q, rfl, rfl, ?_, fun c hc => g1 c (cut_mem hc)⟩
    rw [cut_to _ h0, List.length_take]; omega


noncomputable def B__law_row : List S := [.set 2 (.call "_law_take" F__law_take [.var 0, .lit (.int 8)]), .set 3 (.call "_law_take" F__law_take [.var 0, .bin .add (.var 1) (.lit (.int 1))]), .set 4 (.call "_law_take" F__law_take [.var 0, .lit (.int 26)]), .set 5 (.sub (.lst [.lit (.int 1), .lit (.int 3), .lit (.int 7), .lit (.int 11), .lit (.int 25)]) (.call "_law_take" F__law_take [.var 0, .lit (.int 5)])), .set 6 (.sub (.lst [.bin .add (.lit (.int 1)) (.call "_law_take" F__law_take [.var 0, .lit (.int 5)]), .lit (.int 26)]) (.blt .int [.cmp .eq (.call "_law_take" F__law_take [.var 0, .lit (.int 8)]) (.lit (.int 7))])), .set 7 (.comp (.sub (.lit (.str [97, 98, 99, 100, 101, 102, 103, 104, 105, 106, 107, 108, 109, 110, 111, 112, 113, 114, 115, 116, 117, 118, 119, 120, 121, 122])) (.bin .mod (.bin .add (.var 4) (.bin .mul (.var 5) (.var 8))) (.lit (.int 26)))) (.n 8) .range [.var 6] [] [("k", 8)]), .freeze 7, .ifs (.cmp .eq (.var 2) (.lit (.int 0))) [.ret (.bin .mul (.sub (.var 7) (.lit (.int 0))) (.var 3))] [], .ifs (.cmp .eq (.var 2) (.lit (.int 1))) [.ret (.meth .join (.lit (.str [])) [.comp (.sub (.var 7) (.call "_law_take" F__law_take [.var 0, .blt .len [.var 7]])) (.n 8) .range [.var 3] [] [("k", 8)]])] [], .ifs (.cmp .eq (.var 2) (.lit (.int 2))) [.ret (.meth .join (.lit (.str [])) [.comp (.sub (.var 7) (.bin .mul (.bin .sub (.blt .len [.var 7]) (.lit (.int 1))) (.blt .int [.cmp .eq (.call "_law_take" F__law_take [.var 0, .lit (.int 7)]) (.lit (.int 0))]))) (.n 8) .range [.var 3] [] [("k", 8)]])] [], .ifs (.cmp .eq (.var 2) (.lit (.int 3))) [.ret (.call "_law_grown" F__law_grown [.var 0, .var 7, .var 3])] [], .ifs (.cmp .gt (.var 2) (.lit (.int 5))) [.ret (.call "_law_copies" F__law_copies [.var 0, .var 7, .var 3])] [], .set 9 (.meth .join (.lit (.str [])) [.comp (.sub (.var 7) (.call "_law_take" F__law_take [.var 0, .blt .len [.var 7]])) (.n 8) .range [.bin .add (.lit (.int 1)) (.call "_law_take" F__law_take [.var 0, .lit (.int 6)])] [] [("k", 8)]]), .set 10 (.slc (.bin .mul (.var 9) (.bin .add (.var 3) (.lit (.int 1)))) [] [.var 3]), .set 11 (.call "_law_take" F__law_take [.var 0, .bin .add (.var 3) (.lit (.int 1))]), .ifs (.or_ [.cmp .eq (.var 2) (.lit (.int 4)), .cmp .eq (.var 11) (.var 3)]) [.ret (.var 10)] [], .ret (.bin .add (.bin .add (.slc (.var 10) [] [.var 11]) (.sub (.var 7) (.call "_law_take" F__law_take [.var 0, .blt .len [.var 7]]))) (.slc (.var 10) [.bin .add (.var 11) (.lit (.int 1))] []))]
noncomputable def F__law_row : Fn := mkFn [true, false] 12 B__law_row
-- lib: draw
theorem sp__law_row : RowSp F__law_row 1000 := by
  intro p most h0 h1
  refine run_of rfl ?_
  rw [show env0 12 [true, false] [p.t, .int most] = [some (.io (p.t)), some (.shr (.int most)), none, none, none, none, none, none, none, none, none, none] from rfl, B__law_row]
  walk_at "MPS"
  walk_at "MS1"; refine draw_call rfl sp__law_take (by first | exact .inl rfl | exact .inr rfl) (by first | omega | decide) (by first | exact divOk_of (by omega) (by omega) | exact divOk_big (by omega) (by omega) | exact divOk_big (by decide +kernel) (by decide +kernel)) fun way p1 a0 a1 => ?_; walk_at "MPS"
  walk_at "MS1"; refine draw_call rfl sp__law_take (by first | exact .inl rfl | exact .inr rfl) (by first | omega | decide) (by first | exact divOk_of (by omega) (by omega) | exact divOk_big (by omega) (by omega) | exact divOk_big (by decide +kernel) (by decide +kernel)) fun size p2 b0 b1 => ?_; walk_at "MPS"
  walk_at "MS1"; refine draw_call rfl sp__law_take (by first | exact .inl rfl | exact .inr rfl) (by first | omega | decide) (by first | exact divOk_of (by omega) (by omega) | exact divOk_big (by omega) (by omega) | exact divOk_big (by decide +kernel) (by decide +kernel)) fun first p3 c0 c1 => ?_; walk_at "MPS"
  walk_at "MS1"; refine draw_call rfl sp__law_take (by first | exact .inl rfl | exact .inr rfl) (by first | omega | decide) (by first | exact divOk_of (by omega) (by omega) | exact divOk_big (by omega) (by omega) | exact divOk_big (by decide +kernel) (by decide +kernel)) fun r4 p4 d0 d1 => ?_; walk_at "MPS"
  walk_at "MS1"; refine bd_pickI (0) (30) (by walk_at "MBD") (by walk_at "MBD") (by first | (simp only [allI, and_true]; done) | (simp only [allI, and_true]; omega) | (simp only [allI, and_true, Int.reduceToNat, Int.reducePow]; omega)) fun step s0 s1 => ?_; walk_at "MPS"
  walk_at "MS1"; refine draw_call rfl sp__law_take (by first | exact .inl rfl | exact .inr rfl) (by first | omega | decide) (by first | exact divOk_of (by omega) (by omega) | exact divOk_big (by omega) (by omega) | exact divOk_big (by decide +kernel) (by decide +kernel)) fun r5 p5 e0 e1 => ?_; walk_at "MPS"
  walk_at "MS1"; refine draw_call rfl sp__law_take (by first | exact .inl rfl | exact .inr rfl) (by first | omega | decide) (by first | exact divOk_of (by omega) (by omega) | exact divOk_big (by omega) (by omega) | exact divOk_big (by decide +kernel) (by decide +kernel)) fun r6 p6 f0 f1 => ?_; walk_at "MPS"
  walk_at "MS1"; refine bd_pickI (1) (26) (by walk_at "MBD") (by walk_at "MBD") (by first | (simp only [allI, and_true]; done) | (simp only [allI, and_true]; omega) | (simp only [allI, and_true, Int.reduceToNat, Int.reducePow]; omega)) fun many m0 m1 => ?_; walk_at "MPS"
  walk_at "MS1"; refine wp_compA (one? az) (fun x hx => ?_) fun ts hl hp => ?_
  · obtain ⟨k, rfl, hk⟩ := range_mem hx
    walk_at "MPS"
    have m0 := Int.emod_nonneg (first + step * (k : Int)) (show (26 : Int) ≠ 0 by decide)
    have m1 := Int.emod_lt_of_pos (first + step * (k : Int)) (show (0 : Int) < 26 by decide)
    have hx : mulOk step (k : Int) = true := by simp only [mulOk, Bool.or_eq_true, decide_eq_true_eq]; exact .inl (.inl (by omega))
    refine ⟨hx, by decide, bd_pickAZ m0 m1 fun c hc => ?_⟩
    walk_at "MPS"
    exact ⟨c, rfl, hc⟩
  obtain ⟨cs, rfl, hcs⟩ := onesT_of hp
  rw [onesT_len, List.length_map, List.length_range] at hl
  have hl2 := onesT_len cs
  walk_at "MPS"
  have az' : ∀ {s : List Nat}, (∀ c ∈ s, c ∈ cs) → ∀ c ∈ s, az c := fun h c m => hcs c (h c m)
  walk_at "MS1"; rw [sp_ifs]; walk_at "MPS"; walk_at "MS1"; refine ⟨fun h => ?_, fun h => ?_⟩
  · walk_at "MS1"; refine bd_pickO (by walk_at "MBD") (by walk_at "MBD") fun c hc => ?_; walk_at "MPS"
    refine ⟨⟨by simp; omega, by omega, by omega⟩, _, p6, rfl, rfl, ?_, fun x hx => ?_⟩
    · rw [repL_len]; simp; omega
    · have := repL_mem hx; simp at this; subst this; exact hcs _ hc
  walk_at "MS1"; rw [sp_ifs]; walk_at "MPS"; walk_at "MS1"; refine ⟨fun h => ?_, fun h => ?_⟩
  · walk_at "MS1"; refine wp_compD 0 Pot.t p6 (one? (· ∈ cs)) rfl (fun q x hx => ?_) fun q ts hl hp => ?_
    · obtain ⟨k, rfl, hk⟩ := range_mem hx
      walk_at "MPS"
      walk_at "MS1"; refine draw_call rfl sp__law_take (by first | exact .inl rfl | exact .inr rfl) (by first | omega | decide) (by first | exact divOk_of (by omega) (by omega) | exact divOk_big (by omega) (by omega) | exact divOk_big (by decide +kernel) (by decide +kernel)) fun r7 p7 g0 g1 => ?_; walk_at "MPS"
      walk_at "MS1"; refine bd_pickO (by walk_at "MBD") (by walk_at "MBD") fun c hc => ?_; walk_at "MPS"
      exact ⟨_, rfl, c, rfl, hc⟩
    obtain ⟨tx, rfl, htx⟩ := onesT_of hp; rw [onesT_len, List.length_map, List.length_range] at hl; walk_at "MPS"; rw [join_onesT (by omega)]; walk_at "MPS"
    exact ⟨tx, q, rfl, rfl, by omega, az' htx⟩
  walk_at "MS1"; rw [sp_ifs]; walk_at "MPS"; walk_at "MS1"; refine ⟨fun h => ?_, fun h => ?_⟩
  · walk_at "MS1"; refine wp_compD 0 Pot.t p6 (one? (· ∈ cs)) rfl (fun q x hx => ?_) fun q ts hl hp => ?_
    · obtain ⟨k, rfl, hk⟩ := range_mem hx
      walk_at "MPS"
      walk_at "MS1"; refine draw_call rfl sp__law_take (by first | exact .inl rfl | exact .inr rfl) (by first | omega | decide) (by first | exact divOk_of (by omega) (by omega) | exact divOk_big (by omega) (by omega) | exact divOk_big (by decide +kernel) (by decide +kernel)) fun r7 p7 g0 g1 => ?_; walk_at "MPS"
      refine ⟨mulOk_if, ?_⟩
      split
      · rw [Int.mul_one]
        walk_at "MS1"; refine bd_pickO (by walk_at "MBD") (by walk_at "MBD") fun c hc => ?_; walk_at "MPS"
        exact ⟨_, rfl, c, rfl, hc⟩
      · rw [Int.mul_zero]
        walk_at "MS1"; refine bd_pickO (by walk_at "MBD") (by walk_at "MBD") fun c hc => ?_; walk_at "MPS"
        exact ⟨_, rfl, c, rfl, hc⟩
    obtain ⟨tx, rfl, htx⟩ := onesT_of hp; rw [onesT_len, List.length_map, List.length_range] at hl; walk_at "MPS"; rw [join_onesT (by omega)]; walk_at "MPS"
    exact ⟨tx, q, rfl, rfl, by omega, az' htx⟩
  walk_at "MS1"; rw [sp_ifs]; walk_at "MPS"; walk_at "MS1"; refine ⟨fun h => ?_, fun h => ?_⟩
  · walk_at "MS1"; refine wp_callN (sp__law_grown p6 cs size (by omega) (by omega) b0 (by omega)) rfl rfl ?_; rintro _ fr0 _ ⟨s, p7, rfl, rfl, rfl, h5, h6⟩; refine ⟨rfl, ?_⟩; rw [show F__law_grown.ios = [true, false, false] from rfl]; walk_at "MPS"
    exact ⟨s, p7, rfl, rfl, by omega, az' h6⟩
  walk_at "MS1"; rw [sp_ifs]; walk_at "MPS"; walk_at "MS1"; refine ⟨fun h => ?_, fun h => ?_⟩
  · walk_at "MS1"; refine wp_callN (sp__law_copies p6 cs size (by omega) (by omega) b0 (by omega)) rfl rfl ?_; rintro _ fr0 _ ⟨s, p7, rfl, rfl, rfl, h5, h6⟩; refine ⟨rfl, ?_⟩; rw [show F__law_copies.ios = [true, false, false] from rfl]; walk_at "MPS"
    exact ⟨s, p7, rfl, rfl, by omega, az' h6⟩
  walk_at "MS1"; refine draw_call rfl sp__law_take (by first | exact .inl rfl | exact .inr rfl) (by first | omega | decide) (by first | exact divOk_of (by omega) (by omega) | exact divOk_big (by omega) (by omega) | exact divOk_big (by decide +kernel) (by decide +kernel)) fun r7 p7 g0 g1 => ?_; walk_at "MPS"
  walk_at "MS1"; refine wp_compD 0 Pot.t p7 (one? (· ∈ cs)) rfl (fun q x hx => ?_) fun q ts hl hp => ?_
  · obtain ⟨k, rfl, hk⟩ := range_mem hx
    walk_at "MPS"
    walk_at "MS1"; refine draw_call rfl sp__law_take (by first | exact .inl rfl | exact .inr rfl) (by first | omega | decide) (by first | exact divOk_of (by omega) (by omega) | exact divOk_big (by omega) (by omega) | exact divOk_big (by decide +kernel) (by decide +kernel)) fun r8 p8 i0 i1 => ?_; walk_at "MPS"
    walk_at "MS1"; refine bd_pickO (by walk_at "MBD") (by walk_at "MBD") fun c hc => ?_; walk_at "MPS"
    exact ⟨_, rfl, c, rfl, hc⟩
  obtain ⟨part, rfl, hpart⟩ := onesT_of hp; rw [onesT_len, List.length_map, List.length_range] at hl; walk_at "MPS"; rw [join_onesT (by omega)]; walk_at "MPS"
  have k0 := repL_len2 (xs := part) (k := size + 1) (a := 10) (b := 1001) (by omega) (by omega)
  have k1 := cut_len (repL part (size + 1)) none (some size)
  have k2 : (cut (repL part (size + 1)) none (some size)).length ≤ size.toNat := by rw [cut_to _ b0, List.length_take]; omega
  walk_at "MS1"
  walk_at "MS1"; refine draw_call rfl sp__law_take (by first | exact .inl rfl | exact .inr rfl) (by first | omega | decide) (by first | exact divOk_of (by omega) (by omega) | exact divOk_big (by omega) (by omega) | exact divOk_big (by decide +kernel) (by decide +kernel)) fun at_ p9 i0 i1 => ?_; walk_at "MPS"
  have k3 : ∀ c ∈ cut (repL part (size + 1)) none (some size), az c := fun c m => hcs c (hpart c (repL_mem (cut_mem m)))
  generalize cut (repL part (size + 1)) none (some size) = row at *
  walk_at "MS1"; rw [sp_ifs]; walk_at "MPS"; walk_at "MS1"; refine ⟨fun h => ?_, fun h => ?_⟩
  · exact ⟨row, p9, rfl, rfl, by omega, k3⟩
  refine ⟨fun _ => ⟨row, p9, rfl, rfl, by omega, k3⟩, fun hat => ?_⟩
  walk_at "MS1"; refine draw_call rfl sp__law_take (by first | exact .inl rfl | exact .inr rfl) (by first | omega | decide) (by first | exact divOk_of (by omega) (by omega) | exact divOk_big (by omega) (by omega) | exact divOk_big (by decide +kernel) (by decide +kernel)) fun r10 p10 j0 j1 => ?_; walk_at "MPS"
  walk_at "MS1"; refine bd_pickO (by walk_at "MBD") (by walk_at "MBD") fun c hc => ?_; walk_at "MPS"
  have k4 : (cut row none (some at_)).length + 1 + (cut row (some (at_ + 1)) none).length ≤ size.toNat := by
    rw [cut_to _ i0, cut_from _ (by omega), List.length_take, List.length_drop]; omega
  walk_at "MS1"
  refine ⟨_, p10, rfl, rfl, by simp only [List.length_append, List.length_cons, List.length_nil]; omega, fun x hx => ?_⟩
  simp only [List.mem_append, List.mem_singleton] at hx
  rcases hx with (hx | rfl) | hx
  · exact k3 x (cut_mem hx)
  · exact hcs _ hc
  · exact k3 x (cut_mem hx)


noncomputable def B__law_any : List S := [.set 2 (.lst []), .set 3 (.lit (.int 0)), .whl (.cmp .lt (.var 3) (.blt .len [.var 1])) [.set 4 (.slc (.comp (.var 5) (.n 5) .range [.var 3, .blt .len [.var 1]] [.cmp .notin (.slc (.var 1) [.var 3] [.bin .add (.var 5) (.lit (.int 1))]) (.slc (.var 1) [] [.var 5])] [("place", 5)]) [] [.lit (.int 1)]), .freeze 4, .set 6 (.sub (.bin .add (.var 4) (.lst [.bin .sub (.blt .len [.var 1]) (.lit (.int 1))])) (.lit (.int 0))), .ifs (.and_ [.cmp .eq (.var 4) (.lst []), .cmp .gt (.call "_law_take" F__law_take [.var 0, .lit (.int 3)]) (.lit (.int 0))]) [.ret (.var 2)] [], .ex (.mut .append 2 [.bin .sub (.var 6) (.sub (.lst [.lit (.int 0), .call "_law_take" F__law_take [.var 0, .bin .add (.bin .sub (.var 6) (.var 3)) (.lit (.int 1))]]) (.call "_law_take" F__law_take [.var 0, .lit (.int 2)]))]), .set 3 (.bin .add (.sub (.var 2) (.un .neg (.lit (.int 1)))) (.lit (.int 1)))] [4, 6], .ret (.var 2)]
noncomputable def F__law_any : Fn := mkFn [true, false] 7 B__law_any
-- lib: cuts draw
theorem sp__law_any (p : Pot) (row : List Nat) (h : row.length ≤ 60) : F__law_any.Runs [p.t, .str row] (fun t fr outs => ∃ (cs : List Nat) (p' : Pot), t = .lst (cs.map fun (k : Nat) => T.int (k : Int)) ∧ fr = true ∧ outs = [p'.t] ∧ partsOk row 0 cs = true ∧ cs.length ≤ row.length ∧ ∀ c ∈ cs, c < row.length) noX := by
  refine run_of rfl ?_
  rw [show env0 7 [true, false] [p.t, .str row] = [some (.io (p.t)), some (.shr (.str row)), none, none, none, none, none] from rfl, B__law_any]

  walk_at "MWS"
  refine wp_whl (fun y : Pot × List Nat × Nat => [some (.io (y.1.t)), some (.shr (.str row)), some (.own (.lst (y.2.1.map fun (k : Nat) => T.int (k : Int)))), some (.shr (.int (y.2.2 : Int))), none, none, none]) (fun y => Pre row y.2.1 y.2.2 ∧ y.2.1.length ≤ y.2.2 ∧ y.2.2 ≤ row.length ∧ ∀ c ∈ y.2.1, c < row.length) (fun y => row.length - y.2.2) (p, [], 0) rfl ⟨Pre.nil row, by simp, by simp, by simp⟩ (fun y hy => ?_)
  obtain ⟨q, cs, b⟩ := y
  obtain ⟨j1, j2, j3, j4⟩ := hy
  dsimp only at j1 j2 j3 j4 ⊢
  walk_at "MGO"
  refine ⟨fun hb => ?_, fun hb => ⟨cs, q, rfl, rfl, j1.done (.inl (by omega)), by omega, j4⟩⟩
  rw [rangeT_eq, show ((row.length : Int) - (b : Int)).toNat = row.length - b by omega]
  walk_at "MSD"
  refine wp_compM (fun k : Nat => !earlier row b (b + k + 1)) (fun k : Nat => T.int ((b + k : Nat) : Int)) (fun k : Nat => T.int ((b : Int) + (k : Int))) (List.range (row.length - b)) (fun k hk => ?_) ?_
  · have hk := List.mem_range.mp hk
    walk_at "MWS"
    have h1 := has_early (row := row) (b := b) (e := b + k + 1) (by omega) (by omega)
    rw [show (((b + k + 1 : Nat) : Int) - 1) = (b : Int) + (k : Int) by omega, show ((b + k + 1 : Nat) : Int) = (b : Int) + (k : Int) + 1 by omega] at h1
    rw [h1]
    walk_at "MGO"
    exact ⟨by simp, fun _ => by rw [show ((b + k : Nat) : Int) = (b : Int) + (k : Int) by omega]⟩
  obtain ⟨F, hF⟩ : ∃ F, F = (List.range (row.length - b)).filter fun k => !earlier row b (b + k + 1) := ⟨_, rfl⟩
  have hFl : F.length ≤ row.length := by
    have := List.length_filter_le (fun k => !earlier row b (b + k + 1)) (List.range (row.length - b))
    rw [List.length_range] at this; rw [hF]; omega
  obtain ⟨fs, last, f1, f2, f3, f4, f5, f6, f7⟩ := far_first (row := row) (b := b) (by omega) hF
  rw [← hF]
  walk_at "MWS"
  rw [f1]
  refine ⟨by rw [List.length_map]; omega, ?_⟩
  rw [f2]
  walk_at "MWS"
  refine wp_join (fun y : Pot => [some (.io (y.t)), some (.shr (.str row)), some (.own (.lst (cs.map fun (k : Nat) => T.int (k : Int)))), some (.shr (.int (b : Int))), some (.shr (.lst (fs.map T.int))), none, some (.shr (.int (last : Int)))]) (fun _ => True) ?_ fun q2 _ => ?_
  · walk_at "MGO"
    refine ⟨fun he => ?_, fun _ => ⟨q, rfl⟩⟩
    walk_at "MS1"; refine draw_call rfl sp__law_take (by first | exact .inl rfl | exact .inr rfl) (by first | omega | decide) (by first | exact divOk_of (by omega) (by omega) | exact divOk_big (by omega) (by omega) | exact divOk_big (by decide +kernel) (by decide +kernel)) fun r0 q3 a0 a1 => ?_; walk_at "MPS"
    walk_at "MGO"
    exact ⟨fun _ => ⟨cs, q3, rfl, rfl, j1.done (.inr (f6 he)), by omega, j4⟩, fun _ => ⟨q3, rfl⟩⟩
  · walk_at "MWS"
    walk_at "MS1"; refine draw_call rfl sp__law_take (by first | exact .inl rfl | exact .inr rfl) (by first | omega | decide) (by first | exact divOk_of (by omega) (by omega) | exact divOk_big (by omega) (by omega) | exact divOk_big (by decide +kernel) (by decide +kernel)) fun r1 q4 a0 a1 => ?_; walk_at "MPS"
    walk_at "MSD"
    walk_at "MS1"; refine draw_call rfl sp__law_take (by first | exact .inl rfl | exact .inr rfl) (by first | omega | decide) (by first | exact divOk_of (by omega) (by omega) | exact divOk_big (by omega) (by omega) | exact divOk_big (by decide +kernel) (by decide +kernel)) fun r2 q5 b0 b1 => ?_; walk_at "MPS"
    walk_at "MSD"
    walk_at "MS1"; refine bd_pickI (0) (r1) (by walk_at "MBD") (by walk_at "MBD") (by first | (simp only [allI, and_true]; done) | (simp only [allI, and_true]; omega) | (simp only [allI, and_true, Int.reduceToNat, Int.reducePow]; omega)) fun v v0 v1 => ?_; walk_at "MPS"
    obtain ⟨c, hc⟩ := Int.eq_ofNat_of_zero_le (show 0 ≤ (last : Int) - v by omega)
    rw [hc]
    walk_at "MGO"
    rw [pick_end]
    walk_at "MGO"
    refine ⟨(q5, cs ++ [c], c + 1), ?_, j1.add ?_, ?_, ?_, fun x hx => ?_, ?_⟩
    · rw [List.map_append, show ((c : Int) + 1) = ((c + 1 : Nat) : Int) by omega]; rfl
    · rcases Nat.lt_or_ge b c with z | z
      · exact .inr (f5 c z (by omega))
      · exact .inl z
    · show (cs ++ [c]).length ≤ c + 1
      rw [List.length_append]
      show cs.length + 1 ≤ c + 1
      omega
    · show c + 1 ≤ row.length
      omega
    · rcases List.mem_append.mp hx with hx | hx
      · exact j4 x hx
      · rw [List.mem_singleton] at hx; omega
    · show row.length - (c + 1) < row.length - b
      omega


noncomputable def B__law_cutting_due : List S := [.set 2 (.lit (.int 0)), .for_ (.n 3) .val [.var 1] [.ifs (.or_ [.un .not (.isi (.var 3) [.int]), .isi (.var 3) [.bool], .un .not (.cmp2 .le .lt (.var 2) (.var 3) (.blt .len [.var 0]))]) [.ret (.lit (.bl false))] [], .ifs (.and_ [.cmp .gt (.var 3) (.var 2), .cmp .notin (.slc (.var 0) [.var 2] [.var 3]) (.slc (.var 0) [] [.bin .sub (.var 3) (.lit (.int 1))])]) [.ret (.lit (.bl false))] [], .set 2 (.bin .add (.var 3) (.lit (.int 1)))] [3], .ret (.or_ [.cmp .eq (.var 2) (.blt .len [.var 0]), .cmp .in_ (.slc (.var 0) [.var 2] []) (.slc (.var 0) [] [.bin .sub (.blt .len [.var 0]) (.lit (.int 1))])])]
noncomputable def F__law_cutting_due : Fn := mkFn [false, false] 4 B__law_cutting_due
-- lib: cuts oddl
theorem sp__law_cutting_due (row : List Nat) (ms : List Int) (h : row.length ≤ 60) (h2 : ms.length ≤ 1000000) : F__law_cutting_due.Runs [.str row, .lst (ms.map T.int)] (fun t fr outs => t = .bl (cutD row 0 ms) ∧ fr = false ∧ outs = []) noX := by
  refine run_of rfl ?_
  rw [show env0 4 [false, false] [.str row, .lst (ms.map T.int)] = [some (.shr (.str row)), some (.shr (.lst (ms.map T.int))), none, none] from rfl, B__law_cutting_due]

  walk_at "MWS"
  refine wp_forA (fun c : Nat => [some (.shr (.str row)), some (.shr (.lst (ms.map T.int))), some (.shr (.int (c : Int))), none]) (fun j c => c ≤ row.length ∧ cutD row 0 ms = cutD row c (ms.drop j)) 0 rfl ⟨by omega, by simp⟩ (fun j c hj hc => ?_) fun c hc => ?_
  · obtain ⟨c1, c2⟩ := hc
    rw [List.drop_eq_getElem_cons hj, cutD] at c2
    walk_at "MGO"
    by_cases hv : (c : Int) ≤ ms[j]
    · obtain ⟨e, he⟩ := Int.eq_ofNat_of_zero_le (show 0 ≤ ms[j] by omega)
      rw [he] at c2 hv ⊢
      rw [Int.toNat_natCast, decide_eq_true hv, Bool.true_and] at c2
      refine ⟨fun _ => ⟨by omega, fun h1 => by rw [c2, decide_eq_false h1]; rfl, fun h1 => ⟨fun h3 => ?_, fun h3 => ?_⟩⟩, fun h1 => absurd hv h1⟩
      · rw [has_early (by omega) (by omega)]
        rw [decide_eq_true h1, Bool.true_and, decide_eq_false (show ¬ ((e : Int) ≤ (c : Int)) by omega), Bool.false_or] at c2
        refine ⟨by omega, by omega, fun h4 => by rw [c2, h4]; rfl, fun h4 => ⟨e + 1, by rw [show ((e : Int) + 1) = ((e + 1 : Nat) : Int) by omega], by omega, by rw [c2, h4]; rfl⟩⟩
      · rw [decide_eq_true h1, Bool.true_and, decide_eq_true (show (e : Int) ≤ (c : Int) by omega), Bool.true_or, Bool.true_and] at c2
        exact ⟨e + 1, by rw [show ((e : Int) + 1) = ((e + 1 : Nat) : Int) by omega], by omega, c2⟩
    · exact ⟨fun h1 => absurd h1 hv, fun _ => by rw [c2, decide_eq_false hv]; rfl⟩
  · obtain ⟨c1, c2⟩ := hc
    rw [List.drop_length, cutD] at c2
    rw [c2]
    walk_at "MGO"
    refine ⟨fun h1 => by rw [decide_eq_true (show c = row.length by omega)]; rfl, fun h1 => ⟨by omega, by omega, by omega, ?_⟩⟩
    rw [has_early_end (by omega), decide_eq_false (show ¬ c = row.length by omega), Bool.false_or]
theorem sp__law_cutting_due_odd (row : List Nat) (as bs : List Int) (t : T) (ht : OddT t) (h : row.length ≤ 60) : F__law_cutting_due.Runs [.str row, .lst (oddL as t bs)] (fun r fr outs => r = .bl false ∧ fr = false ∧ outs = []) noX := by
  refine run_of rfl ?_
  rw [show env0 4 [false, false] [.str row, .lst (oddL as t bs)] = [some (.shr (.str row)), some (.shr (.lst (oddL as t bs))), none, none] from rfl, B__law_cutting_due]
  walk_at "MWS"
  refine wp_for (fun c : Nat => [some (.shr (.str row)), some (.shr (.lst (oddL as t bs))), some (.shr (.int (c : Int))), none]) (fun j c => j ≤ as.length ∧ c ≤ row.length) 0 rfl ⟨Nat.zero_le _, Nat.zero_le _⟩ (fun j c x hx hc => ?_) fun c hc => ?_
  · obtain ⟨hj, c1⟩ := hc
    rcases Nat.lt_or_ge j as.length with z | z
    · rw [oddL_lt z] at hx
      cases hx
      walk_at "MGO"
      by_cases hv : (c : Int) ≤ as[j]
      · obtain ⟨e, he⟩ := Int.eq_ofNat_of_zero_le (show 0 ≤ as[j] by omega)
        rw [he] at hv ⊢
        refine fun _ => ⟨by omega, fun h1 => ⟨fun h3 => ?_, fun h3 => ?_⟩⟩
        · rw [has_early (by omega) (by omega)]
          exact ⟨by omega, by omega, fun h4 => ⟨e + 1, by rw [show ((e : Int) + 1) = ((e + 1 : Nat) : Int) by omega], by omega, by omega⟩⟩
        · exact ⟨e + 1, by rw [show ((e : Int) + 1) = ((e + 1 : Nat) : Int) by omega], by omega, by omega⟩
      · exact fun h1 => absurd h1 hv
    · obtain rfl : j = as.length := by omega
      rw [oddL_at] at hx
      cases hx
      rcases ht with rfl | ⟨s, rfl⟩ | ⟨a, rfl⟩ | ⟨a, rfl⟩ | ⟨b, rfl⟩ | rfl
      · walk_at "MGO"
      · walk_at "MGO"
      · walk_at "MGO"
      · walk_at "MGO"
      · walk_at "MGO"
      · walk_at "MGO"
  · rw [oddL_len] at hc
    exact absurd hc.1 (by omega)


noncomputable def B__law_otherwise : List S := [.set 4 (.call "_law_take" F__law_take [.var 0, .bin .add (.blt .len [.var 3]) (.lit (.int 1))]), .set 5 (.call "_law_take" F__law_take [.var 0, .bin .add (.blt .len [.var 2]) (.lit (.int 1))]), .ifs (.or_ [.cmp .eq (.var 1) (.lit (.int 1)), .cmp .eq (.var 3) (.lst [])]) [.ret (.sub (.lst [.lst [], .lst [.var 5], .lst [.lit (.int 0)], .spec .lrange1 [.blt .len [.var 2]]]) (.call "_law_take" F__law_take [.var 0, .lit (.int 4)]))] [], .set 4 (.bin .mod (.var 4) (.blt .len [.var 3])), .ifs (.cmp .eq (.var 1) (.lit (.int 2))) [.ret (.bin .add (.slc (.var 3) [] [.var 4]) (.slc (.var 3) [.bin .add (.var 4) (.lit (.int 1))] []))] [], .ifs (.cmp .eq (.var 1) (.lit (.int 3))) [.ret (.blt .sorted [.bin .add (.var 3) (.lst [.var 5])])] [], .ifs (.cmp .eq (.var 1) (.lit (.int 4))) [.ret (.bin .add (.bin .add (.slc (.var 3) [] [.var 4]) (.lst [.bin .add (.sub (.var 3) (.var 4)) (.sub (.lst [.lit (.int 1), .un .neg (.lit (.int 1)), .lit (.int 2), .un .neg (.lit (.int 2)), .lit (.int 5)]) (.call "_law_take" F__law_take [.var 0, .lit (.int 5)]))])) (.slc (.var 3) [.bin .add (.var 4) (.lit (.int 1))] []))] [], .ifs (.cmp .eq (.var 1) (.lit (.int 5))) [.set 6 (.bin .add (.bin .add (.slc (.var 3) [] [.var 4]) (.bin .mul (.slc (.var 3) [.var 4] [.bin .add (.var 4) (.lit (.int 1))]) (.lit (.int 2)))) (.slc (.var 3) [.bin .add (.var 4) (.lit (.int 1))] [])), .freeze 6, .ret (.sub (.lst [.rev (.var 3), .var 6]) (.call "_law_take" F__law_take [.var 0, .lit (.int 2)]))] [], .forget [6], .ifs (.cmp .eq (.var 1) (.lit (.int 6))) [.set 7 (.sub (.lst [.lit .non, .blt .str [.sub (.var 3) (.var 4)], .tup [.sub (.var 3) (.var 4)], .lst [.sub (.var 3) (.var 4)], .lit (.bl true), .lit (.bl false), .dct0, .lit (.str [97])]) (.call "_law_take" F__law_take [.var 0, .lit (.int 8)])), .ret (.bin .add (.bin .add (.slc (.var 3) [] [.var 4]) (.lst [.var 7])) (.slc (.var 3) [.bin .add (.var 4) (.lit (.int 1))] []))] [], .forget [7], .ifs (.cmp .eq (.var 1) (.lit (.int 7))) [.ret (.bin .add (.var 3) (.lst [.sub (.lst [.blt .len [.var 2], .un .neg (.lit (.int 1)), .bin .pow (.lit (.int 10)) (.lit (.int 59)), .bin .sub (.lit (.int 0)) (.bin .pow (.lit (.int 10)) (.lit (.int 58))), .bin .add (.blt .len [.var 2]) (.lit (.int 1))]) (.call "_law_take" F__law_take [.var 0, .lit (.int 5)])]))] [], .ret (.blt .sorted [.comp (.var 8) (.n 8) .range [.blt .len [.var 2]] [.cmp .eq (.call "_law_take" F__law_take [.var 0, .lit (.int 3)]) (.lit (.int 0))] [("one", 8)]])]
noncomputable def F__law_otherwise : Fn := mkFn [true, false, false, false] 9 B__law_otherwise
-- lib: oddl draw
theorem sp__law_otherwise (p : Pot) (way : Int) (row : List Nat) (ms : List Int) (h : row.length ≤ 60) (hml : ms.length ≤ row.length) (hmb : ∀ m ∈ ms, 0 ≤ m ∧ m < 60) : F__law_otherwise.Runs [p.t, .int way, .str row, .lst (ms.map T.int)] (fun t fr outs => ∃ (ts : List T) (p' : Pot), t = .lst ts ∧ outs = [p'.t] ∧ ThingL ts) noX := by
  refine run_of rfl ?_
  rw [show env0 9 [true, false, false, false] [p.t, .int way, .str row, .lst (ms.map T.int)] = [some (.io (p.t)), some (.shr (.int way)), some (.shr (.str row)), some (.shr (.lst (ms.map T.int))), none, none, none, none, none] from rfl, B__law_otherwise]
  have hpick : ∀ (pl r : Int), 0 ≤ r → r < 4 → Bd (pick [T.lst [], T.lst [T.int pl], T.lst [T.int 0], T.lst (rangeT 0 (row.length : Int))] r) fun t => ∃ ts, t = .lst ts ∧ ThingL ts := fun pl r h0 h1 => by
    refine bd_pick h0 (by simp only [List.length_cons, List.length_nil]; omega) fun x hx => ?_
    simp only [List.mem_cons, List.not_mem_nil, or_false] at hx
    rcases hx with rfl | rfl | rfl | rfl
    · exact ⟨_, rfl, ThingL.ints (ms := []) (by decide)⟩
    · exact ⟨_, rfl, ThingL.ints (ms := [pl]) (by simp)⟩
    · exact ⟨_, rfl, ThingL.ints (ms := [0]) (by simp)⟩
    · rw [rangeT_ints]
      exact ⟨_, rfl, ThingL.ints (by simp; omega)⟩
  have hro : rangeOk 0 (row.length : Int) = true := by simp only [rangeOk, small62, Bool.and_eq_true, decide_eq_true_eq]; omega
  walk_at "MGO"
  walk_at "MS1"; refine draw_call rfl sp__law_take (by first | exact .inl rfl | exact .inr rfl) (by first | omega | decide) (by first | exact divOk_of (by omega) (by omega) | exact divOk_big (by omega) (by omega) | exact divOk_big (by decide +kernel) (by decide +kernel)) fun a p1 a0 a1 => ?_; walk_at "MPS"
  walk_at "MGO"
  walk_at "MS1"; refine draw_call rfl sp__law_take (by first | exact .inl rfl | exact .inr rfl) (by first | omega | decide) (by first | exact divOk_of (by omega) (by omega) | exact divOk_big (by omega) (by omega) | exact divOk_big (by decide +kernel) (by decide +kernel)) fun pl p2 b0 b1 => ?_; walk_at "MPS"
  walk_at "MGO"
  refine ⟨fun hw => ⟨by omega, hro, ?_⟩, fun hw => ⟨fun he => ⟨by omega, hro, ?_⟩, fun he => ⟨?_, ?_⟩⟩⟩
  · walk_at "MS1"; refine draw_call rfl sp__law_take (by first | exact .inl rfl | exact .inr rfl) (by first | omega | decide) (by first | exact divOk_of (by omega) (by omega) | exact divOk_big (by omega) (by omega) | exact divOk_big (by decide +kernel) (by decide +kernel)) fun r p3 c0 c1 => ?_; walk_at "MPS"
    walk_at "MGO"
    refine bd_ex.mpr ?_
    obtain ⟨t, e, ts, rfl, ht⟩ := bd_ex.mp (hpick pl r c0 c1)
    exact ⟨_, e, ts, p3, rfl, rfl, ht⟩
  · walk_at "MS1"; refine draw_call rfl sp__law_take (by first | exact .inl rfl | exact .inr rfl) (by first | omega | decide) (by first | exact divOk_of (by omega) (by omega) | exact divOk_big (by omega) (by omega) | exact divOk_big (by decide +kernel) (by decide +kernel)) fun r p3 c0 c1 => ?_; walk_at "MPS"
    walk_at "MGO"
    refine bd_ex.mpr ?_
    obtain ⟨t, e, ts, rfl, ht⟩ := bd_ex.mp (hpick pl r c0 c1)
    exact ⟨_, e, ts, p3, rfl, rfl, ht⟩
  · have : 0 < ms.length := List.length_pos_iff.mpr he
    omega
  have hp : 0 < ms.length := List.length_pos_iff.mpr he
  obtain ⟨i, hi⟩ := Int.eq_ofNat_of_zero_le (Int.emod_nonneg a (show (ms.length : Int) ≠ 0 by omega))
  have hil : i < ms.length := by
    have := Int.emod_lt_of_pos a (show 0 < (ms.length : Int) by omega)
    omega
  have hA : cut ms none (some (i : Int)) = ms.take i := by rw [cut_to _ (by omega)]; rfl
  have hB : cut ms (some ((i : Int) + 1)) none = ms.drop (i + 1) := by rw [cut_from _ (by omega)]; rfl
  have hC : cut ms (some (i : Int)) (some ((i : Int) + 1)) = (ms.drop i).take 1 := by rw [cut_mid _ (by omega) (by omega)]; rw [show ((i : Int) + 1).toNat - (i : Int).toNat = 1 by omega]; rfl
  have hP : pick (ms.map T.int) (i : Int) = some (.int (ms.getD i 0)) := by
    unfold pick
    rw [if_pos (Int.natCast_nonneg i), Int.toNat_natCast, List.getElem?_map, List.getElem?_eq_getElem hil, List.getD_eq_getElem?_getD, List.getElem?_eq_getElem hil]; rfl
  rw [hi]
  simp only [cut_map, hA, hB, hC, hP]
  have htk : (ms.take i).length + (ms.drop (i + 1)).length ≤ 60 := by rw [List.length_take, List.length_drop]; omega
  have htk2 : (ms.take i).length ≤ 60 := by omega
  have hod : ∀ t, OddT t → ThingL ((ms.take i).map T.int ++ [t] ++ (ms.drop (i + 1)).map T.int) := fun t ht => ThingL.odd ht htk
  have hin : ∀ v : Int, ThingL ((ms.take i).map T.int ++ [T.int v] ++ (ms.drop (i + 1)).map T.int) := fun v => by
    have := ThingL.ints (ms := ms.take i ++ [v] ++ ms.drop (i + 1)) (by simp only [List.length_append, List.length_cons, List.length_nil]; omega)
    rwa [List.map_append, List.map_append] at this
  have hlm : ((ms.take i).map T.int).length = (ms.take i).length := List.length_map _
  have hlm2 : ((ms.drop (i + 1)).map T.int).length = (ms.drop (i + 1)).length := List.length_map _
  walk_at "MGO"
  refine ⟨fun hw2 => ⟨by omega, _, p2, rfl, rfl, ?_⟩, fun hw2 => ⟨fun hw3 => ⟨by omega, ?_⟩, fun hw3 => ⟨fun hw4 => ?_, fun hw4 => ⟨fun hw5 => ?_, fun hw5 => ⟨fun hw6 => ?_, fun hw6 => ⟨fun hw7 => ?_, fun hw7 => ?_⟩⟩⟩⟩⟩⟩
  · rw [← List.map_append]
    exact ThingL.ints (by rw [List.length_append]; omega)
  · rw [snocI]
    walk_at "MGO"
    exact ⟨_, p2, rfl, rfl, ThingL.ints (by rw [(sortI_perm _).length_eq, List.length_append]; simp only [List.length_cons, List.length_nil]; omega)⟩
  · walk_at "MS1"; refine draw_call rfl sp__law_take (by first | exact .inl rfl | exact .inr rfl) (by first | omega | decide) (by first | exact divOk_of (by omega) (by omega) | exact divOk_big (by omega) (by omega) | exact divOk_big (by decide +kernel) (by decide +kernel)) fun r p3 c0 c1 => ?_; walk_at "MPS"
    walk_at "MGO"
    refine bd_pick c0 (by simp only [List.length_cons, List.length_nil]; omega) fun x hx => ?_
    obtain ⟨v, rfl⟩ : ∃ v : Int, x = .int v := by
      simp only [List.mem_cons, List.not_mem_nil, or_false] at hx
      rcases hx with rfl | rfl | rfl | rfl | rfl <;> exact ⟨_, rfl⟩
    walk_at "MGO"
    rw [cut_map, hA, cut_map, hB]
    walk_at "MGO"
    exact ⟨_, p3, rfl, rfl, hin _⟩
  · have hD : (ms.drop i).take 1 = [ms.getD i 0] := by
      rw [List.drop_eq_getElem_cons hil, List.take_succ_cons, List.take_zero, List.getD_eq_getElem?_getD, List.getElem?_eq_getElem hil]; rfl
    simp only [cut_map, hA, hB, hC, hD]
    have hR : repL (([ms.getD i 0] : List Int).map T.int) 2 = [ms.getD i 0, ms.getD i 0].map T.int := rfl
    have hR2 : repL [T.int (ms.getD i 0)] 2 = [ms.getD i 0, ms.getD i 0].map T.int := rfl
    simp only [hR]
    refine ⟨by show 1 * 2 ≤ _; decide, by decide, by decide, ?_, ?_, ?_⟩
    · rw [List.length_map]; show _ + 2 ≤ _; omega
    · rw [List.length_append, List.length_map, List.length_map]; show _ + 2 + _ ≤ _; omega
    walk_at "MS1"; refine draw_call rfl sp__law_take (by first | exact .inl rfl | exact .inr rfl) (by first | omega | decide) (by first | exact divOk_of (by omega) (by omega) | exact divOk_big (by omega) (by omega) | exact divOk_big (by decide +kernel) (by decide +kernel)) fun r p3 c0 c1 => ?_; walk_at "MPS"
    walk_at "MGO"
    simp only [cut_map, hA, hB, hC, hD, hR, hR2]
    refine bd_pick c0 (by simp only [List.length_cons, List.length_nil]; omega) fun x hx => ?_
    obtain ⟨ts, rfl, ht⟩ : ∃ ts, x = .lst ts ∧ ThingL ts := by
      simp only [List.mem_cons, List.not_mem_nil, or_false] at hx
      rcases hx with rfl | rfl
      · exact ⟨_, rfl, by rw [← List.map_reverse]; exact ThingL.ints (by rw [List.length_reverse]; omega)⟩
      · refine ⟨_, rfl, ?_⟩
        have := ThingL.ints (ms := ms.take i ++ [ms.getD i 0, ms.getD i 0] ++ ms.drop (i + 1)) (by simp only [List.length_append, List.length_cons, List.length_nil]; omega)
        rwa [List.map_append, List.map_append] at this
    walk_at "MGO"
    exact ⟨ts, p3, rfl, rfl, ht⟩
  · have hgm : ms.getD i 0 ∈ ms := by
      rw [List.getD_eq_getElem?_getD, List.getElem?_eq_getElem hil]; exact List.getElem_mem hil
    obtain ⟨v0, v1⟩ := hmb _ hgm
    generalize ms.getD i 0 = v at v0 v1 hP ⊢
    rw [dec_some v0 v1]
    walk_at "MGO"
    rw [hP]
    walk_at "MGO"
    rw [hP]
    walk_at "MGO"
    walk_at "MS1"; refine draw_call rfl sp__law_take (by first | exact .inl rfl | exact .inr rfl) (by first | omega | decide) (by first | exact divOk_of (by omega) (by omega) | exact divOk_big (by omega) (by omega) | exact divOk_big (by decide +kernel) (by decide +kernel)) fun r p3 c0 c1 => ?_; walk_at "MPS"
    walk_at "MGO"
    refine bd_pick c0 (by simp only [List.length_cons, List.length_nil]; omega) fun x hx => ?_
    have hx : OddT x := by
      simp only [List.mem_cons, List.not_mem_nil, or_false] at hx
      rcases hx with rfl | rfl | rfl | rfl | rfl | rfl | rfl | rfl
      · exact .inl rfl
      · exact .inr (.inl ⟨_, rfl⟩)
      · exact .inr (.inr (.inl ⟨_, rfl⟩))
      · exact .inr (.inr (.inr (.inl ⟨_, rfl⟩)))
      · exact .inr (.inr (.inr (.inr (.inl ⟨_, rfl⟩))))
      · exact .inr (.inr (.inr (.inr (.inl ⟨_, rfl⟩))))
      · exact .inr (.inr (.inr (.inr (.inr rfl))))
      · exact .inr (.inl ⟨_, rfl⟩)
    walk_at "MGO"
    rw [cut_map, hA, cut_map, hB]
    walk_at "MGO"
    exact ⟨_, p3, rfl, rfl, hod _ hx⟩
  · refine ⟨by omega, by decide, by decide, by omega, ?_⟩
    walk_at "MS1"; refine draw_call rfl sp__law_take (by first | exact .inl rfl | exact .inr rfl) (by first | omega | decide) (by first | exact divOk_of (by omega) (by omega) | exact divOk_big (by omega) (by omega) | exact divOk_big (by decide +kernel) (by decide +kernel)) fun r p3 c0 c1 => ?_; walk_at "MPS"
    walk_at "MGO"
    refine bd_pick c0 (by simp only [List.length_cons, List.length_nil]; omega) fun x hx => ?_
    obtain ⟨v, rfl⟩ : ∃ v : Int, x = .int v := by
      simp only [List.mem_cons, List.not_mem_nil, or_false] at hx
      rcases hx with rfl | rfl | rfl | rfl | rfl <;> exact ⟨_, rfl⟩
    walk_at "MGO"
    rw [snocI]
    exact ⟨_, p3, rfl, rfl, ThingL.ints (by rw [List.length_append]; simp only [List.length_cons, List.length_nil]; omega)⟩
  · refine ⟨by omega, by rw [List.length_range]; omega, ?_⟩
    refine wp_comp1 0 Pot.t p2 (fun n _ acc => ∃ l : List Int, acc = l.map T.int ∧ l.length ≤ n) rfl ⟨[], rfl, Nat.le_refl _⟩ (fun n p3 acc x hx hj => ?_) fun p3 acc hj => ?_
    · obtain ⟨l, rfl, hl⟩ := hj
      obtain ⟨n', rfl, hn⟩ := range_mem (List.mem_of_getElem? hx)
      walk_at "MGO"
      walk_at "MS1"; refine draw_call rfl sp__law_take (by first | exact .inl rfl | exact .inr rfl) (by first | omega | decide) (by first | exact divOk_of (by omega) (by omega) | exact divOk_big (by omega) (by omega) | exact divOk_big (by decide +kernel) (by decide +kernel)) fun r2 p4 c0 c1 => ?_; walk_at "MPS"
      walk_at "MGO"
      refine ⟨fun _ => ⟨p4, rfl, l ++ [(n' : Int)], by rw [List.map_append]; rfl, by rw [List.length_append]; simp only [List.length_cons, List.length_nil]; omega⟩, fun _ => ⟨p4, rfl, l, rfl, by omega⟩⟩
    · obtain ⟨l, rfl, hl⟩ := hj
      rw [List.length_map, List.length_range] at hl
      walk_at "MGO"
      exact ⟨_, p3, rfl, rfl, ThingL.ints (by rw [(sortI_perm _).length_eq]; omega)⟩


noncomputable def B_law : List S := [.for_ (.n 1) .range [.blt .max [.lit (.int 1), .blt .min [.lit (.int 63), .blt .len [.var 0]]]] [.set 2 (.call "_law_pot" F__law_pot [.var 0, .var 1]), .set 3 (.comp (.call "_law_take" F__law_take [.var 2, .lit (.int 9)]) (.n 4) .range [.lit (.int 4)] [] [("turn", 4)]), .freeze 3, .set 5 (.call "_law_row" F__law_row [.var 2, .sub (.lst [.lit (.int 40), .lit (.int 60)]) (.blt .int [.cmp .eq (.call "_law_take" F__law_take [.var 2, .lit (.int 4)]) (.lit (.int 3))])]), .set 6 (.call "_law_any" F__law_any [.var 2, .var 5]), .freeze 6, .for_ (.n 7) .val [.bin .add (.var 3) (.lst [.lit (.int 0)])] [.set 8 (.blt .list [.var 6]), .freeze 8, .ifs (.cmp .gt (.var 7) (.lit (.int 0))) [.set 8 (.call "_law_otherwise" F__law_otherwise [.var 2, .var 7, .var 5, .var 6]), .freeze 8] [], .set 9 (.blt .list [.var 8]), .freeze 9, .set 10 (.call "is_cutting" F_is_cutting [.var 5, .var 9]), .set 11 (.call "_law_cutting_due" F__law_cutting_due [.var 5, .var 8]), .ifs (.or_ [.un .not (.isi (.var 10) [.bool]), .cmp .ne (.var 10) (.var 11), .cmp .ne (.var 9) (.var 8)]) [.ret (.lit (.bl false))] []] [7, 8, 9, 10, 11]] [1, 2, 3, 5, 6, 7, 8, 9, 10, 11], .ret (.and_ [.cmp .is_ (.call "is_cutting" F_is_cutting [.lit (.str []), .lst []]) (.lit (.bl true)), .cmp .is_ (.call "is_cutting" F_is_cutting [.lit (.str [97]), .lst []]) (.lit (.bl false)), .cmp .is_ (.call "is_cutting" F_is_cutting [.lit (.str [97, 97]), .lst [.lit (.int 1)]]) (.lit (.bl false))])]
noncomputable def F_law : Fn := mkFn [false] 12 B_law
-- lib: oddl cuts draw
theorem sp_is_cutting_c0 : F_is_cutting.Runs [.str [], .lst []] (fun t fr outs => t = .bl true ∧ fr = false ∧ outs = []) noX := by
  have := sp_is_cutting [] [] (by decide) (by decide)
  rwa [show (okM ([] : List Nat).length (-1) [] && partsOk [] 0 (([] : List Int).map Int.toNat)) = true from by decide] at this
theorem sp_is_cutting_c1 : F_is_cutting.Runs [.str [97], .lst []] (fun t fr outs => t = .bl false ∧ fr = false ∧ outs = []) noX := by
  have := sp_is_cutting [97] [] (by decide) (by decide)
  rwa [show (okM ([97] : List Nat).length (-1) [] && partsOk [97] 0 (([] : List Int).map Int.toNat)) = false from by decide] at this
theorem sp_is_cutting_c2 : F_is_cutting.Runs [.str [97, 97], .lst [.int 1]] (fun t fr outs => t = .bl false ∧ fr = false ∧ outs = []) noX := by
  have := sp_is_cutting [97, 97] [1] (by decide) (by decide)
  rwa [show (okM ([97, 97] : List Nat).length (-1) [1] && partsOk [97, 97] 0 (([1] : List Int).map Int.toNat)) = false from by decide] at this
theorem sp_law (ns : List Int) (hn : ns.length ≤ 63) : F_law.Runs [.ro ns] (fun t fr outs => t = .bl true ∧ outs = []) noX := by
  refine run_of rfl ?_
  rw [show env0 12 [false] [.ro ns] = [some (.shr (.ro ns)), none, none, none, none, none, none, none, none, none, none, none] from rfl, B_law]
  walk_at "MPS"
  obtain ⟨m, hm, em⟩ := rounds_a (n := ns.length) (c := 63) (by decide)
  rw [em]
  walk_at "MS1"
  refine wp_for0 (fun _ : Unit => [some (.shr (.ro ns)), none, none, none, none, none, none, none, none, none, none, none]) (fun _ _ => True) () (by walk_at "MPS") trivial (fun n c x hx _ => ?_) fun _ _ => ?_
  · obtain ⟨k, rfl, hk⟩ := range_mem (List.mem_of_getElem? hx)
    walk_at "MPS"
    walk_at "MSD"; refine wp_callN (sp__law_pot ns k (by omega)) rfl rfl ?_; rintro _ fr0 _ ⟨p, rfl, rfl, rfl⟩; refine ⟨by first | rfl | exact rd_ok (optW_atom _) rfl | exact rd_ok (optT_atom _) rfl | exact rd_okF (atoms_ints _) rfl | exact rd_okF (atoms_strs _) rfl | exact rd_okF (atoms_opt _ _) rfl, ?_⟩; rw [show F__law_pot.ios = [false, false] from rfl]; walk_at "MGO"
    obtain ⟨four, h4⟩ : ∃ m : Nat, m = Int.toNat 4 := ⟨_, rfl⟩
    rw [← h4]
    refine wp_comp1 2 Pot.t p (fun n _ acc => ∃ l : List Int, acc = l.map T.int ∧ l.length ≤ n) rfl ⟨[], rfl, Nat.le_refl _⟩ (fun n q acc x hx hj => ?_) fun q acc hj => ?_
    · obtain ⟨l, rfl, hl⟩ := hj
      obtain ⟨n', rfl, hn'⟩ := range_mem (List.mem_of_getElem? hx)
      walk_at "MGO"
      walk_at "MS1"; refine draw_call rfl sp__law_take (by first | exact .inl rfl | exact .inr rfl) (by first | omega | decide) (by first | exact divOk_of (by omega) (by omega) | exact divOk_big (by omega) (by omega) | exact divOk_big (by decide +kernel) (by decide +kernel)) fun r2 p4 c0 c1 => ?_; walk_at "MPS"
      walk_at "MGO"
      exact ⟨p4, rfl, l ++ [r2], by rw [List.map_append]; rfl, by rw [List.length_append]; simp only [List.length_cons, List.length_nil]; omega⟩
    obtain ⟨ws, rfl, hws⟩ := hj
    rw [List.length_map, List.length_range] at hws
    have hws : ws.length ≤ 4 := Nat.le_trans hws (by rw [h4]; decide)
    walk_at "MGO"
    walk_at "MS1"; refine draw_call rfl sp__law_take (by first | exact .inl rfl | exact .inr rfl) (by first | omega | decide) (by first | exact divOk_of (by omega) (by omega) | exact divOk_big (by omega) (by omega) | exact divOk_big (by decide +kernel) (by decide +kernel)) fun r p2 a0 a1 => ?_; walk_at "MPS"
    walk_at "MGO"
    refine bd_pick (by split <;> decide) (by split <;> decide) fun x hx => ?_
    obtain ⟨most, rfl, m0, m1⟩ : ∃ most : Int, x = .int most ∧ 40 ≤ most ∧ most ≤ 60 := by
      simp only [List.mem_cons, List.not_mem_nil, or_false] at hx
      rcases hx with rfl | rfl
      · exact ⟨40, rfl, by decide, by decide⟩
      · exact ⟨60, rfl, by decide, by decide⟩
    walk_at "MGO"
    walk_at "MSD"; refine wp_callN (sp__law_row p2 most (by omega) (by omega)) rfl rfl ?_; rintro _ fr0 _ ⟨row, p3, rfl, rfl, rfl, hl, hz⟩; refine ⟨by first | rfl | exact rd_ok (optW_atom _) rfl | exact rd_ok (optT_atom _) rfl | exact rd_okF (atoms_ints _) rfl | exact rd_okF (atoms_strs _) rfl | exact rd_okF (atoms_opt _ _) rfl, ?_⟩; rw [show F__law_row.ios = [true, false] from rfl]; walk_at "MGO"
    walk_at "MSD"; refine wp_callN (sp__law_any _ _ (by first | assumption | omega | decide | (simp only [List.length_map, List.length_reverse, List.length_append, List.length_cons, List.length_nil, onesT_len]; omega))) rfl rfl ?_; rintro _ fr0 _ ⟨cs, p4, rfl, rfl, rfl, c1, c2, c3⟩; refine ⟨by first | rfl | exact rd_ok (optW_atom _) rfl | exact rd_ok (optT_atom _) rfl | exact rd_okF (atoms_ints _) rfl | exact rd_okF (atoms_strs _) rfl | exact rd_okF (atoms_opt _ _) rfl, ?_⟩; rw [show F__law_any.ios = [true, false] from rfl]; walk_at "MGO"
    obtain ⟨ms, hms⟩ : ∃ ms : List Int, ms = cs.map fun (k : Nat) => (k : Int) := ⟨_, rfl⟩
    have hcm : (cs.map fun (k : Nat) => T.int (k : Int)) = ms.map T.int := by rw [hms, List.map_map]; rfl
    have hml : ms.length = cs.length := by rw [hms, List.length_map]
    have hmb : ∀ m ∈ ms, 0 ≤ m ∧ m < 60 := fun m hm => by
      rw [hms] at hm
      obtain ⟨c, hc2, rfl⟩ := List.mem_map.mp hm
      have := c3 c hc2
      omega
    walk_at "MGO"
    rw [hcm, snocI]
    refine wp_forA0 (as := ws ++ [0]) (fun q : Pot => [some (.shr (.ro ns)), some (.shr (.int k)), some (.own (q.t)), some (.shr (.lst (ws.map T.int))), none, some (.shr (.str row)), some (.shr (.lst (ms.map T.int))), none, none, none, none, none]) (fun _ _ => True) p4 rfl trivial (fun n q hn _ => ?_) fun q _ => ?_
    · generalize (ws ++ [0])[n] = w
      walk_at "MWS"
      refine wp_join0 (fun y : Pot × List T => [some (.shr (.ro ns)), some (.shr (.int k)), some (.own (y.1.t)), some (.shr (.lst (ws.map T.int))), none, some (.shr (.str row)), some (.shr (.lst (ms.map T.int))), some (.shr (.int w)), some (.shr (.lst y.2)), none, none, none]) (fun y => ThingL y.2) ?_ fun y hy => ?_
      · walk_at "MGO"
        refine ⟨fun hw => ?_, fun hw => ⟨(q, _), rfl, ThingL.ints (by omega)⟩⟩
        refine wp_callN (sp__law_otherwise q w row ms (by omega) (by omega) hmb) rfl rfl ?_
        rintro _ fr0 _ ⟨ts, p5, rfl, rfl, ht⟩
        refine ⟨rfl, ?_⟩
        rw [show F__law_otherwise.ios = [true, false, false, false] from rfl]
        cases fr0
        all_goals
          walk_at "MGO"
          exact ⟨(p5, ts), rfl, ht⟩
      · obtain ⟨q, ts⟩ := y
        dsimp only at hy ⊢
        obtain ⟨hlen, ⟨xs, rfl⟩ | ⟨as, bs, t, ht, rfl⟩⟩ := hy
        · rw [List.length_map] at hlen
          walk_at "MGO"
          walk_at "MSD"; refine wp_callN (sp_is_cutting row xs (by omega) (by omega)) rfl rfl ?_; rintro _ fr0 _ ⟨rfl, rfl, rfl⟩; refine ⟨by first | rfl | exact rd_ok (optW_atom _) rfl | exact rd_ok (optT_atom _) rfl | exact rd_okF (atoms_ints _) rfl | exact rd_okF (atoms_strs _) rfl | exact rd_okF (atoms_opt _ _) rfl, ?_⟩; rw [show F_is_cutting.ios = [false, false] from rfl]; walk_at "MGO"
          walk_at "MSD"; refine wp_callN (sp__law_cutting_due row xs (by omega) (by omega)) rfl rfl ?_; rintro _ fr0 _ ⟨rfl, rfl, rfl⟩; refine ⟨by first | rfl | exact rd_ok (optW_atom _) rfl | exact rd_ok (optT_atom _) rfl | exact rd_okF (atoms_ints _) rfl | exact rd_okF (atoms_strs _) rfl | exact rd_okF (atoms_opt _ _) rfl, ?_⟩; rw [show F__law_cutting_due.ios = [false, false] from rfl]; walk_at "MGO"
          have he : (okM row.length (-1) xs && partsOk row 0 (xs.map Int.toNat)) = cutD row 0 xs := by
            rw [Bool.eq_iff_iff, Bool.and_eq_true, cutD_iff (Nat.zero_le _)]
            exact Iff.rfl
          rw [he]
          exact ⟨fun h => absurd h (by simp), fun _ => ⟨q, rfl⟩⟩
        · walk_at "MGO"
          walk_at "MSD"; refine wp_callN (sp_is_cutting_odd row as bs t ht (by omega)) rfl rfl ?_; rintro _ fr0 _ ⟨rfl, rfl, rfl⟩; refine ⟨by first | rfl | exact rd_ok (optW_atom _) rfl | exact rd_ok (optT_atom _) rfl | exact rd_okF (atoms_ints _) rfl | exact rd_okF (atoms_strs _) rfl | exact rd_okF (atoms_opt _ _) rfl, ?_⟩; rw [show F_is_cutting.ios = [false, false] from rfl]; walk_at "MGO"
          walk_at "MSD"; refine wp_callN (sp__law_cutting_due_odd row as bs t ht (by omega)) rfl rfl ?_; rintro _ fr0 _ ⟨rfl, rfl, rfl⟩; refine ⟨by first | rfl | exact rd_ok (optW_atom _) rfl | exact rd_ok (optT_atom _) rfl | exact rd_okF (atoms_ints _) rfl | exact rd_okF (atoms_strs _) rfl | exact rd_okF (atoms_opt _ _) rfl, ?_⟩; rw [show F__law_cutting_due.ios = [false, false] from rfl]; walk_at "MGO"
          rw [ne_oddL ht]
          walk_at "MGO"
          exact ⟨q, rfl⟩
    · walk_at "MGO"
      exact ⟨(), trivial⟩
  · walk_at "MGO"
    walk_at "MSD"; refine wp_callN (sp_is_cutting_c0) rfl rfl ?_; rintro _ fr0 _ ⟨rfl, rfl, rfl⟩; refine ⟨by first | rfl | exact rd_ok (optW_atom _) rfl | exact rd_ok (optT_atom _) rfl | exact rd_okF (atoms_ints _) rfl | exact rd_okF (atoms_strs _) rfl | exact rd_okF (atoms_opt _ _) rfl, ?_⟩; rw [show F_is_cutting.ios = [false, false] from rfl]; walk_at "MGO"
    walk_at "MSD"; refine wp_callN (sp_is_cutting_c1) rfl rfl ?_; rintro _ fr0 _ ⟨rfl, rfl, rfl⟩; refine ⟨by first | rfl | exact rd_ok (optW_atom _) rfl | exact rd_ok (optT_atom _) rfl | exact rd_okF (atoms_ints _) rfl | exact rd_okF (atoms_strs _) rfl | exact rd_okF (atoms_opt _ _) rfl, ?_⟩; rw [show F_is_cutting.ios = [false, false] from rfl]; walk_at "MGO"
    walk_at "MSD"; refine wp_callN (sp_is_cutting_c2) rfl rfl ?_; rintro _ fr0 _ ⟨rfl, rfl, rfl⟩; refine ⟨by first | rfl | exact rd_ok (optW_atom _) rfl | exact rd_ok (optT_atom _) rfl | exact rd_okF (atoms_ints _) rfl | exact rd_okF (atoms_strs _) rfl | exact rd_okF (atoms_opt _ _) rfl, ?_⟩; rw [show F_is_cutting.ios = [false, false] from rfl]; walk_at "MGO"


theorem runs_law_ {f : Fn} {ns : List Int} (h : f.Runs [.ro ns] (fun t fr outs => t = .bl true ∧ outs = []) noX) : ∃ fr, f.run [.ro ns] = .ok (.bl true) fr [] := by
  unfold Fn.Runs at h
  cases q : f.run [.ro ns] with
  | ok t fr outs => rw [q] at h; obtain ⟨rfl, rfl⟩ := h; exact ⟨fr, rfl⟩
  | exc c outs => rw [q] at h; exact h.elim
  | bad => rw [q] at h; exact h.elim
theorem law_runs (ns : List Int) (h : ns.length ≤ 63) : ∃ fr, F_law.run [.ro ns] = .ok (.bl true) fr [] := runs_law_ (sp_law ns h)
end MP
namespace MP
open PySem PySem.Spec L2
open PyProof.Rows hiding St
def topS (i : Nat) : Stmt := PySem.Challenge.pw_meetstretch_k28_cuttings_judged.main.body.getD i (.Pass ⟨0, 0, 0, 0⟩)
theorem NeedOk.mono {P : Program} {w : World} {K : PySem.W.Frag} {mg : Str → Option Value} {base : Heap} {j k : Nat} {n : Need} (h : NeedOk P w K mg base j n) (l : j ≤ k) : NeedOk P w K mg base k n := by
  cases n with
  | fn nm f => obtain ⟨a, fd, ps, F, r⟩ := h; exact ⟨a, fd, ps, F.mono l, r⟩
  | _ => exact h
def NeedsOk (P : Program) (w : World) (K : PySem.W.Frag) (mg : Str → Option Value) (base : Heap) (k : Nat) : List Need → Prop
  | [] => True
  | n :: ns => NeedOk P w K mg base k n ∧ NeedsOk P w K mg base k ns
theorem needs_of {P : Program} {w : World} {K : PySem.W.Frag} {mg : Str → Option Value} {base : Heap} {k : Nat} : ∀ {l : List Need}, NeedsOk P w K mg base k l → ∀ n ∈ l, NeedOk P w K mg base k n
  | [], _, n, m => by simp at m
  | a :: l, h, n, m => by
    rcases List.mem_cons.mp m with rfl | m
    · exact h.1
    · exact needs_of h.2 n m
section
variable {P : Program} {w : World} {K : PySem.W.Frag} {mg : Str → Option Value} {base : Heap}
theorem sc_is_whole : FnScope ["thing"] ["thing"] (defScope (topS 1)) := ⟨rfl, rfl, rfl, by decide +kernel, rfl, by decide +kernel, by decide +kernel⟩
theorem ck_is_whole : ckSs ["thing"] (defScope (topS 1)) B_is_whole (defBody (topS 1)) = true := by decide +kernel
theorem nl_is_whole : sneedsL B_is_whole = [.bi "isinstance", .bi "int", .bi "isinstance", .bi "bool"] := rfl
theorem nd_is_whole {a : Addr} {fd : FuncData} (Fu : L2.Fun K "is_whole" "is_whole" (topS 1) a fd) (m : mg ("is_whole" : Str) = some (.ref a)) (z_isinstance : mg ("isinstance" : Str) = none) (z_int : mg ("int" : Str) = none) (z_bool : mg ("bool" : Str) = none) : NeedOk P w K mg base 1 (.fn "is_whole" F_is_whole) := by
  refine ⟨a, fd, ["thing"], fn_sound (k := 0) (N := ["thing"]) Fu sc_is_whole rfl ck_is_whole ?_, m, Fu.kp, Fu.binds (ps := ["thing"]) fun _ _ _ _ _ _ us hl => match us, hl with | [_], _ => rfl⟩
  rw [nl_is_whole]
  exact needs_of ⟨z_isinstance, z_int, z_isinstance, z_bool, trivial⟩
theorem sc_are_marks : FnScope ["row", "thing", "ahead", "mark"] ["row", "thing"] (defScope (topS 2)) := ⟨rfl, rfl, rfl, by decide +kernel, rfl, by decide +kernel, by decide +kernel⟩
theorem ck_are_marks : ckSs ["row", "thing", "ahead", "mark"] (defScope (topS 2)) B_are_marks (defBody (topS 2)) = true := by decide +kernel
theorem nl_are_marks : sneedsL B_are_marks = [.bi "range", .bi "range", .fn "is_whole" F_is_whole, .bi "len"] := rfl
theorem nd_are_marks {a : Addr} {fd : FuncData} (Fu : L2.Fun K "are_marks" "are_marks" (topS 2) a fd) (m : mg ("are_marks" : Str) = some (.ref a)) (z_range : mg ("range" : Str) = none) (h_is_whole : NeedOk P w K mg base 1 (.fn "is_whole" F_is_whole)) (z_len : mg ("len" : Str) = none) : NeedOk P w K mg base 2 (.fn "are_marks" F_are_marks) := by
  refine ⟨a, fd, ["row", "thing"], fn_sound (k := 1) (N := ["row", "thing", "ahead", "mark"]) Fu sc_are_marks rfl ck_are_marks ?_, m, Fu.kp, Fu.binds (ps := ["row", "thing"]) fun _ _ _ _ _ _ us hl => match us, hl with | [_, _], _ => rfl⟩
  rw [nl_are_marks]
  exact needs_of ⟨z_range, z_range, h_is_whole.mono (by decide), z_len, trivial⟩
theorem sc_stands_earlier : FnScope ["row", "begin", "behind", "word", "place"] ["row", "begin", "behind"] (defScope (topS 4)) := ⟨rfl, rfl, rfl, by decide +kernel, rfl, by decide +kernel, by decide +kernel⟩
theorem ck_stands_earlier : ckSs ["row", "begin", "behind", "word", "place"] (defScope (topS 4)) B_stands_earlier (defBody (topS 4)) = true := by decide +kernel
theorem nl_stands_earlier : sneedsL B_stands_earlier = [.bi "any", .bi "range", .bi "range", .bi "len"] := rfl
theorem nd_stands_earlier {a : Addr} {fd : FuncData} (Fu : L2.Fun K "stands_earlier" "stands_earlier" (topS 4) a fd) (m : mg ("stands_earlier" : Str) = some (.ref a)) (z_any : mg ("any" : Str) = none) (z_range : mg ("range" : Str) = none) (z_len : mg ("len" : Str) = none) : NeedOk P w K mg base 1 (.fn "stands_earlier" F_stands_earlier) := by
  refine ⟨a, fd, ["row", "begin", "behind"], fn_sound (k := 0) (N := ["row", "begin", "behind", "word", "place"]) Fu sc_stands_earlier rfl ck_stands_earlier ?_, m, Fu.kp, Fu.binds (ps := ["row", "begin", "behind"]) fun _ _ _ _ _ _ us hl => match us, hl with | [_, _, _], _ => rfl⟩
  rw [nl_stands_earlier]
  exact needs_of ⟨z_any, z_range, z_range, z_len, trivial⟩
theorem sc_is_cutting : FnScope ["row", "thing", "begin", "end"] ["row", "thing"] (defScope (topS 5)) := ⟨rfl, rfl, rfl, by decide +kernel, rfl, by decide +kernel, by decide +kernel⟩
theorem ck_is_cutting : ckSs ["row", "thing", "begin", "end"] (defScope (topS 5)) B_is_cutting (defBody (topS 5)) = true := by decide +kernel
theorem nl_is_cutting : sneedsL B_is_cutting = [.fn "are_marks" F_are_marks, .bi "range", .bi "range", .bi "len", .fn "stands_earlier" F_stands_earlier] := rfl
theorem nd_is_cutting {a : Addr} {fd : FuncData} (Fu : L2.Fun K "is_cutting" "is_cutting" (topS 5) a fd) (m : mg ("is_cutting" : Str) = some (.ref a)) (h_are_marks : NeedOk P w K mg base 2 (.fn "are_marks" F_are_marks)) (z_range : mg ("range" : Str) = none) (z_len : mg ("len" : Str) = none) (h_stands_earlier : NeedOk P w K mg base 1 (.fn "stands_earlier" F_stands_earlier)) : NeedOk P w K mg base 3 (.fn "is_cutting" F_is_cutting) := by
  refine ⟨a, fd, ["row", "thing"], fn_sound (k := 2) (N := ["row", "thing", "begin", "end"]) Fu sc_is_cutting rfl ck_is_cutting ?_, m, Fu.kp, Fu.binds (ps := ["row", "thing"]) fun _ _ _ _ _ _ us hl => match us, hl with | [_, _], _ => rfl⟩
  rw [nl_is_cutting]
  exact needs_of ⟨h_are_marks.mono (by decide), z_range, z_range, z_len, h_stands_earlier.mono (by decide), trivial⟩
theorem sc__law_pot : FnScope ["script", "k", "cell"] ["script", "k"] (defScope (topS 7)) := ⟨rfl, rfl, rfl, by decide +kernel, rfl, by decide +kernel, by decide +kernel⟩
theorem ck__law_pot : ckSs ["script", "k", "cell"] (defScope (topS 7)) B__law_pot (defBody (topS 7)) = true := by decide +kernel
theorem nl__law_pot : sneedsL B__law_pot = [.bi "len", .bi "abs", .bi "int"] := rfl
theorem nd__law_pot {a : Addr} {fd : FuncData} (Fu : L2.Fun K "_law_pot" "_law_pot" (topS 7) a fd) (m : mg ("_law_pot" : Str) = some (.ref a)) (z_len : mg ("len" : Str) = none) (z_abs : mg ("abs" : Str) = none) (z_int : mg ("int" : Str) = none) : NeedOk P w K mg base 1 (.fn "_law_pot" F__law_pot) := by
  refine ⟨a, fd, ["script", "k"], fn_sound (k := 0) (N := ["script", "k", "cell"]) Fu sc__law_pot rfl ck__law_pot ?_, m, Fu.kp, Fu.binds (ps := ["script", "k"]) fun _ _ _ _ _ _ us hl => match us, hl with | [_, _], _ => rfl⟩
  rw [nl__law_pot]
  exact needs_of ⟨z_len, z_abs, z_int, trivial⟩
theorem sc__law_take : FnScope ["pot", "many", "found"] ["pot", "many"] (defScope (topS 8)) := ⟨rfl, rfl, rfl, by decide +kernel, rfl, by decide +kernel, by decide +kernel⟩
theorem ck__law_take : ckSs ["pot", "many", "found"] (defScope (topS 8)) B__law_take (defBody (topS 8)) = true := by decide +kernel
theorem nl__law_take : sneedsL B__law_take = [] := rfl
theorem nd__law_take {a : Addr} {fd : FuncData} (Fu : L2.Fun K "_law_take" "_law_take" (topS 8) a fd) (m : mg ("_law_take" : Str) = some (.ref a))  : NeedOk P w K mg base 1 (.fn "_law_take" F__law_take) := by
  refine ⟨a, fd, ["pot", "many"], fn_sound (k := 0) (N := ["pot", "many", "found"]) Fu sc__law_take rfl ck__law_take ?_, m, Fu.kp, Fu.binds (ps := ["pot", "many"]) fun _ _ _ _ _ _ us hl => match us, hl with | [_, _], _ => rfl⟩
  rw [nl__law_take]
  exact needs_of trivial
theorem sc__law_copies : FnScope ["pot", "some", "size", "row", "begin"] ["pot", "some", "size"] (defScope (topS 9)) := ⟨rfl, rfl, rfl, by decide +kernel, rfl, by decide +kernel, by decide +kernel⟩
theorem ck__law_copies : ckSs ["pot", "some", "size", "row", "begin"] (defScope (topS 9)) B__law_copies (defBody (topS 9)) = true := by decide +kernel
theorem nl__law_copies : sneedsL B__law_copies = [.bi "len", .fn "_law_take" F__law_take, .bi "len", .fn "_law_take" F__law_take, .fn "_law_take" F__law_take, .bi "len"] := rfl
theorem nd__law_copies {a : Addr} {fd : FuncData} (Fu : L2.Fun K "_law_copies" "_law_copies" (topS 9) a fd) (m : mg ("_law_copies" : Str) = some (.ref a)) (z_len : mg ("len" : Str) = none) (h__law_take : NeedOk P w K mg base 1 (.fn "_law_take" F__law_take)) : NeedOk P w K mg base 2 (.fn "_law_copies" F__law_copies) := by
  refine ⟨a, fd, ["pot", "some", "size"], fn_sound (k := 1) (N := ["pot", "some", "size", "row", "begin"]) Fu sc__law_copies rfl ck__law_copies ?_, m, Fu.kp, Fu.binds (ps := ["pot", "some", "size"]) fun _ _ _ _ _ _ us hl => match us, hl with | [_, _, _], _ => rfl⟩
  rw [nl__law_copies]
  exact needs_of ⟨z_len, h__law_take.mono (by decide), z_len, h__law_take.mono (by decide), h__law_take.mono (by decide), z_len, trivial⟩
theorem sc__law_grown : FnScope ["pot", "some", "size", "early", "late"] ["pot", "some", "size"] (defScope (topS 10)) := ⟨rfl, rfl, rfl, by decide +kernel, rfl, by decide +kernel, by decide +kernel⟩
theorem ck__law_grown : ckSs ["pot", "some", "size", "early", "late"] (defScope (topS 10)) B__law_grown (defBody (topS 10)) = true := by decide +kernel
theorem nl__law_grown : sneedsL B__law_grown = [.bi "len", .fn "_law_take" F__law_take] := rfl
theorem nd__law_grown {a : Addr} {fd : FuncData} (Fu : L2.Fun K "_law_grown" "_law_grown" (topS 10) a fd) (m : mg ("_law_grown" : Str) = some (.ref a)) (z_len : mg ("len" : Str) = none) (h__law_take : NeedOk P w K mg base 1 (.fn "_law_take" F__law_take)) : NeedOk P w K mg base 2 (.fn "_law_grown" F__law_grown) := by
  refine ⟨a, fd, ["pot", "some", "size"], fn_sound (k := 1) (N := ["pot", "some", "size", "early", "late"]) Fu sc__law_grown rfl ck__law_grown ?_, m, Fu.kp, Fu.binds (ps := ["pot", "some", "size"]) fun _ _ _ _ _ _ us hl => match us, hl with | [_, _, _], _ => rfl⟩
  rw [nl__law_grown]
  exact needs_of ⟨z_len, h__law_take.mono (by decide), trivial⟩
theorem sc__law_row : FnScope ["pot", "most", "way", "size", "first", "step", "many", "some", "k", "part", "row", "at"] ["pot", "most"] (defScope (topS 11)) := ⟨rfl, rfl, rfl, by decide +kernel, rfl, by decide +kernel, by decide +kernel⟩
theorem ck__law_row : ckSs ["pot", "most", "way", "size", "first", "step", "many", "some", "k", "part", "row", "at"] (defScope (topS 11)) B__law_row (defBody (topS 11)) = true := by decide +kernel
theorem nl__law_row : sneedsL B__law_row = [.fn "_law_take" F__law_take, .fn "_law_take" F__law_take, .fn "_law_take" F__law_take, .fn "_law_take" F__law_take, .fn "_law_take" F__law_take, .bi "int", .fn "_law_take" F__law_take, .bi "range", .bi "range", .bi "range", .bi "range", .fn "_law_take" F__law_take, .bi "len", .bi "range", .bi "range", .bi "len", .bi "int", .fn "_law_take" F__law_take, .fn "_law_grown" F__law_grown, .fn "_law_copies" F__law_copies, .bi "range", .bi "range", .fn "_law_take" F__law_take, .fn "_law_take" F__law_take, .bi "len", .fn "_law_take" F__law_take, .fn "_law_take" F__law_take, .bi "len"] := rfl
theorem nd__law_row {a : Addr} {fd : FuncData} (Fu : L2.Fun K "_law_row" "_law_row" (topS 11) a fd) (m : mg ("_law_row" : Str) = some (.ref a)) (h__law_take : NeedOk P w K mg base 1 (.fn "_law_take" F__law_take)) (z_int : mg ("int" : Str) = none) (z_range : mg ("range" : Str) = none) (z_len : mg ("len" : Str) = none) (h__law_grown : NeedOk P w K mg base 2 (.fn "_law_grown" F__law_grown)) (h__law_copies : NeedOk P w K mg base 2 (.fn "_law_copies" F__law_copies)) : NeedOk P w K mg base 3 (.fn "_law_row" F__law_row) := by
  refine ⟨a, fd, ["pot", "most"], fn_sound (k := 2) (N := ["pot", "most", "way", "size", "first", "step", "many", "some", "k", "part", "row", "at"]) Fu sc__law_row rfl ck__law_row ?_, m, Fu.kp, Fu.binds (ps := ["pot", "most"]) fun _ _ _ _ _ _ us hl => match us, hl with | [_, _], _ => rfl⟩
  rw [nl__law_row]
  exact needs_of ⟨h__law_take.mono (by decide), h__law_take.mono (by decide), h__law_take.mono (by decide), h__law_take.mono (by decide), h__law_take.mono (by decide), z_int, h__law_take.mono (by decide), z_range, z_range, z_range, z_range, h__law_take.mono (by decide), z_len, z_range, z_range, z_len, z_int, h__law_take.mono (by decide), h__law_grown.mono (by decide), h__law_copies.mono (by decide), z_range, z_range, h__law_take.mono (by decide), h__law_take.mono (by decide), z_len, h__law_take.mono (by decide), h__law_take.mono (by decide), z_len, trivial⟩
theorem sc__law_any : FnScope ["pot", "row", "cuts", "begin", "far", "place", "last"] ["pot", "row"] (defScope (topS 12)) := ⟨rfl, rfl, rfl, by decide +kernel, rfl, by decide +kernel, by decide +kernel⟩
theorem ck__law_any : ckSs ["pot", "row", "cuts", "begin", "far", "place", "last"] (defScope (topS 12)) B__law_any (defBody (topS 12)) = true := by decide +kernel
theorem nl__law_any : sneedsL B__law_any = [.bi "len", .bi "range", .bi "range", .bi "len", .bi "len", .fn "_law_take" F__law_take, .fn "_law_take" F__law_take, .fn "_law_take" F__law_take] := rfl
theorem nd__law_any {a : Addr} {fd : FuncData} (Fu : L2.Fun K "_law_any" "_law_any" (topS 12) a fd) (m : mg ("_law_any" : Str) = some (.ref a)) (z_len : mg ("len" : Str) = none) (z_range : mg ("range" : Str) = none) (h__law_take : NeedOk P w K mg base 1 (.fn "_law_take" F__law_take)) : NeedOk P w K mg base 2 (.fn "_law_any" F__law_any) := by
  refine ⟨a, fd, ["pot", "row"], fn_sound (k := 1) (N := ["pot", "row", "cuts", "begin", "far", "place", "last"]) Fu sc__law_any rfl ck__law_any ?_, m, Fu.kp, Fu.binds (ps := ["pot", "row"]) fun _ _ _ _ _ _ us hl => match us, hl with | [_, _], _ => rfl⟩
  rw [nl__law_any]
  exact needs_of ⟨z_len, z_range, z_range, z_len, z_len, h__law_take.mono (by decide), h__law_take.mono (by decide), h__law_take.mono (by decide), trivial⟩
theorem sc__law_cutting_due : FnScope ["row", "thing", "begin", "end"] ["row", "thing"] (defScope (topS 13)) := ⟨rfl, rfl, rfl, by decide +kernel, rfl, by decide +kernel, by decide +kernel⟩
theorem ck__law_cutting_due : ckSs ["row", "thing", "begin", "end"] (defScope (topS 13)) B__law_cutting_due (defBody (topS 13)) = true := by decide +kernel
theorem nl__law_cutting_due : sneedsL B__law_cutting_due = [.bi "range", .bi "range", .bi "isinstance", .bi "int", .bi "isinstance", .bi "bool", .bi "len", .bi "len", .bi "len"] := rfl
theorem nd__law_cutting_due {a : Addr} {fd : FuncData} (Fu : L2.Fun K "_law_cutting_due" "_law_cutting_due" (topS 13) a fd) (m : mg ("_law_cutting_due" : Str) = some (.ref a)) (z_range : mg ("range" : Str) = none) (z_isinstance : mg ("isinstance" : Str) = none) (z_int : mg ("int" : Str) = none) (z_bool : mg ("bool" : Str) = none) (z_len : mg ("len" : Str) = none) : NeedOk P w K mg base 1 (.fn "_law_cutting_due" F__law_cutting_due) := by
  refine ⟨a, fd, ["row", "thing"], fn_sound (k := 0) (N := ["row", "thing", "begin", "end"]) Fu sc__law_cutting_due rfl ck__law_cutting_due ?_, m, Fu.kp, Fu.binds (ps := ["row", "thing"]) fun _ _ _ _ _ _ us hl => match us, hl with | [_, _], _ => rfl⟩
  rw [nl__law_cutting_due]
  exact needs_of ⟨z_range, z_range, z_isinstance, z_int, z_isinstance, z_bool, z_len, z_len, z_len, trivial⟩
theorem sc__law_otherwise : FnScope ["pot", "way", "row", "cuts", "at", "place", "twice", "odd", "one"] ["pot", "way", "row", "cuts"] (defScope (topS 14)) := ⟨rfl, rfl, rfl, by decide +kernel, rfl, by decide +kernel, by decide +kernel⟩
theorem ck__law_otherwise : ckSs ["pot", "way", "row", "cuts", "at", "place", "twice", "odd", "one"] (defScope (topS 14)) B__law_otherwise (defBody (topS 14)) = true := by decide +kernel
theorem nl__law_otherwise : sneedsL B__law_otherwise = [.fn "_law_take" F__law_take, .bi "len", .fn "_law_take" F__law_take, .bi "len", .bi "list", .bi "range", .bi "len", .fn "_law_take" F__law_take, .bi "len", .bi "sorted", .fn "_law_take" F__law_take, .fn "_law_take" F__law_take, .bi "str", .fn "_law_take" F__law_take, .bi "len", .bi "len", .fn "_law_take" F__law_take, .bi "sorted", .bi "range", .bi "range", .bi "len", .fn "_law_take" F__law_take] := rfl
theorem nd__law_otherwise {a : Addr} {fd : FuncData} (Fu : L2.Fun K "_law_otherwise" "_law_otherwise" (topS 14) a fd) (m : mg ("_law_otherwise" : Str) = some (.ref a)) (h__law_take : NeedOk P w K mg base 1 (.fn "_law_take" F__law_take)) (z_len : mg ("len" : Str) = none) (z_list : mg ("list" : Str) = none) (z_range : mg ("range" : Str) = none) (z_sorted : mg ("sorted" : Str) = none) (z_str : mg ("str" : Str) = none) : NeedOk P w K mg base 2 (.fn "_law_otherwise" F__law_otherwise) := by
  refine ⟨a, fd, ["pot", "way", "row", "cuts"], fn_sound (k := 1) (N := ["pot", "way", "row", "cuts", "at", "place", "twice", "odd", "one"]) Fu sc__law_otherwise rfl ck__law_otherwise ?_, m, Fu.kp, Fu.binds (ps := ["pot", "way", "row", "cuts"]) fun _ _ _ _ _ _ us hl => match us, hl with | [_, _, _, _], _ => rfl⟩
  rw [nl__law_otherwise]
  exact needs_of ⟨h__law_take.mono (by decide), z_len, h__law_take.mono (by decide), z_len, z_list, z_range, z_len, h__law_take.mono (by decide), z_len, z_sorted, h__law_take.mono (by decide), h__law_take.mono (by decide), z_str, h__law_take.mono (by decide), z_len, z_len, h__law_take.mono (by decide), z_sorted, z_range, z_range, z_len, h__law_take.mono (by decide), trivial⟩
theorem sc_law : FnScope ["script", "k", "pot", "ways", "turn", "row", "cuts", "way", "thing", "handed", "found", "due"] ["script"] (defScope (topS 15)) := ⟨rfl, rfl, rfl, by decide +kernel, rfl, by decide +kernel, by decide +kernel⟩
theorem ck_law : ckSs ["script", "k", "pot", "ways", "turn", "row", "cuts", "way", "thing", "handed", "found", "due"] (defScope (topS 15)) B_law (defBody (topS 15)) = true := by decide +kernel
theorem nl_law : sneedsL B_law = [.bi "range", .bi "range", .bi "max", .bi "min", .bi "len", .fn "_law_pot" F__law_pot, .bi "range", .bi "range", .fn "_law_take" F__law_take, .fn "_law_row" F__law_row, .bi "int", .fn "_law_take" F__law_take, .fn "_law_any" F__law_any, .bi "range", .bi "range", .bi "list", .fn "_law_otherwise" F__law_otherwise, .bi "list", .fn "is_cutting" F_is_cutting, .fn "_law_cutting_due" F__law_cutting_due, .bi "isinstance", .bi "bool", .fn "is_cutting" F_is_cutting, .fn "is_cutting" F_is_cutting, .fn "is_cutting" F_is_cutting] := rfl
theorem nd_law {a : Addr} {fd : FuncData} (Fu : L2.Fun K "law" "law" (topS 15) a fd) (m : mg ("law" : Str) = some (.ref a)) (z_range : mg ("range" : Str) = none) (z_max : mg ("max" : Str) = none) (z_min : mg ("min" : Str) = none) (z_len : mg ("len" : Str) = none) (h__law_pot : NeedOk P w K mg base 1 (.fn "_law_pot" F__law_pot)) (h__law_take : NeedOk P w K mg base 1 (.fn "_law_take" F__law_take)) (h__law_row : NeedOk P w K mg base 3 (.fn "_law_row" F__law_row)) (z_int : mg ("int" : Str) = none) (h__law_any : NeedOk P w K mg base 2 (.fn "_law_any" F__law_any)) (z_list : mg ("list" : Str) = none) (h__law_otherwise : NeedOk P w K mg base 2 (.fn "_law_otherwise" F__law_otherwise)) (h_is_cutting : NeedOk P w K mg base 3 (.fn "is_cutting" F_is_cutting)) (h__law_cutting_due : NeedOk P w K mg base 1 (.fn "_law_cutting_due" F__law_cutting_due)) (z_isinstance : mg ("isinstance" : Str) = none) (z_bool : mg ("bool" : Str) = none) : NeedOk P w K mg base 4 (.fn "law" F_law) := by
  refine ⟨a, fd, ["script"], fn_sound (k := 3) (N := ["script", "k", "pot", "ways", "turn", "row", "cuts", "way", "thing", "handed", "found", "due"]) Fu sc_law rfl ck_law ?_, m, Fu.kp, Fu.binds (ps := ["script"]) fun _ _ _ _ _ _ us hl => match us, hl with | [_], _ => rfl⟩
  rw [nl_law]
  exact needs_of ⟨z_range, z_range, z_max, z_min, z_len, h__law_pot.mono (by decide), z_range, z_range, h__law_take.mono (by decide), h__law_row.mono (by decide), z_int, h__law_take.mono (by decide), h__law_any.mono (by decide), z_range, z_range, z_list, h__law_otherwise.mono (by decide), z_list, h_is_cutting.mono (by decide), h__law_cutting_due.mono (by decide), z_isinstance, z_bool, h_is_cutting.mono (by decide), h_is_cutting.mono (by decide), h_is_cutting.mono (by decide), trivial⟩
end
theorem all_mk {l : PySem.W.OpenLaw} {w : World} {K : PySem.W.Frag} {h : Heap} {mg : Str → Option Value} {fa f0 f1 f2 f3 f4 f5 f6 f7 f8 f9 f10 f11 f12 : Addr} (X : K.In h) (G : h.Ns mainGlobals mg) (hfa : mg ("law" : Str) = some (.ref fa))
    {od0 an0 : Option Addr} {sl0 : Array (Option Value)} {oc0 kV0 dc0 pm0 cd0 ct0 : Value}
    {od1 an1 : Option Addr} {sl1 : Array (Option Value)} {oc1 kV1 dc1 pm1 cd1 ct1 : Value}
    {od2 an2 : Option Addr} {sl2 : Array (Option Value)} {oc2 kV2 dc2 pm2 cd2 ct2 : Value}
    {od3 an3 : Option Addr} {sl3 : Array (Option Value)} {oc3 kV3 dc3 pm3 cd3 ct3 : Value}
    {od4 an4 : Option Addr} {sl4 : Array (Option Value)} {oc4 kV4 dc4 pm4 cd4 ct4 : Value}
    {od5 an5 : Option Addr} {sl5 : Array (Option Value)} {oc5 kV5 dc5 pm5 cd5 ct5 : Value}
    {od6 an6 : Option Addr} {sl6 : Array (Option Value)} {oc6 kV6 dc6 pm6 cd6 ct6 : Value}
    {od7 an7 : Option Addr} {sl7 : Array (Option Value)} {oc7 kV7 dc7 pm7 cd7 ct7 : Value}
    {od8 an8 : Option Addr} {sl8 : Array (Option Value)} {oc8 kV8 dc8 pm8 cd8 ct8 : Value}
    {od9 an9 : Option Addr} {sl9 : Array (Option Value)} {oc9 kV9 dc9 pm9 cd9 ct9 : Value}
    {od10 an10 : Option Addr} {sl10 : Array (Option Value)} {oc10 kV10 dc10 pm10 cd10 ct10 : Value}
    {od11 an11 : Option Addr} {sl11 : Array (Option Value)} {oc11 kV11 dc11 pm11 cd11 ct11 : Value}
    {od12 an12 : Option Addr} {sl12 : Array (Option Value)} {oc12 kV12 dc12 pm12 cd12 ct12 : Value}
    (a0 : PySem.W.nsIn K mainGlobals "is_whole" = some (some (.ref f0))) (l0 : K.lookup f0 = some ⟨oc0, od0, .func (PySem.W.fnOf "is_whole" "is_whole" (defArgs (topS 1)) (defBody (topS 1)) (defScope (topS 1)) .none kV0 dc0 pm0 an0 cd0 ct0), sl0⟩) (c0 : PySem.W.codeIn K cd0 "is_whole" = true) (k0 : PySem.W.keepIn K (.ref f0) = true)
    (a1 : PySem.W.nsIn K mainGlobals "are_marks" = some (some (.ref f1))) (l1 : K.lookup f1 = some ⟨oc1, od1, .func (PySem.W.fnOf "are_marks" "are_marks" (defArgs (topS 2)) (defBody (topS 2)) (defScope (topS 2)) .none kV1 dc1 pm1 an1 cd1 ct1), sl1⟩) (c1 : PySem.W.codeIn K cd1 "are_marks" = true) (k1 : PySem.W.keepIn K (.ref f1) = true)
    (a2 : PySem.W.nsIn K mainGlobals "stands_earlier" = some (some (.ref f2))) (l2 : K.lookup f2 = some ⟨oc2, od2, .func (PySem.W.fnOf "stands_earlier" "stands_earlier" (defArgs (topS 4)) (defBody (topS 4)) (defScope (topS 4)) .none kV2 dc2 pm2 an2 cd2 ct2), sl2⟩) (c2 : PySem.W.codeIn K cd2 "stands_earlier" = true) (k2 : PySem.W.keepIn K (.ref f2) = true)
    (a3 : PySem.W.nsIn K mainGlobals "is_cutting" = some (some (.ref f3))) (l3 : K.lookup f3 = some ⟨oc3, od3, .func (PySem.W.fnOf "is_cutting" "is_cutting" (defArgs (topS 5)) (defBody (topS 5)) (defScope (topS 5)) .none kV3 dc3 pm3 an3 cd3 ct3), sl3⟩) (c3 : PySem.W.codeIn K cd3 "is_cutting" = true) (k3 : PySem.W.keepIn K (.ref f3) = true)
    (a4 : PySem.W.nsIn K mainGlobals "_law_pot" = some (some (.ref f4))) (l4 : K.lookup f4 = some ⟨oc4, od4, .func (PySem.W.fnOf "_law_pot" "_law_pot" (defArgs (topS 7)) (defBody (topS 7)) (defScope (topS 7)) .none kV4 dc4 pm4 an4 cd4 ct4), sl4⟩) (c4 : PySem.W.codeIn K cd4 "_law_pot" = true) (k4 : PySem.W.keepIn K (.ref f4) = true)
    (a5 : PySem.W.nsIn K mainGlobals "_law_take" = some (some (.ref f5))) (l5 : K.lookup f5 = some ⟨oc5, od5, .func (PySem.W.fnOf "_law_take" "_law_take" (defArgs (topS 8)) (defBody (topS 8)) (defScope (topS 8)) .none kV5 dc5 pm5 an5 cd5 ct5), sl5⟩) (c5 : PySem.W.codeIn K cd5 "_law_take" = true) (k5 : PySem.W.keepIn K (.ref f5) = true)
    (a6 : PySem.W.nsIn K mainGlobals "_law_copies" = some (some (.ref f6))) (l6 : K.lookup f6 = some ⟨oc6, od6, .func (PySem.W.fnOf "_law_copies" "_law_copies" (defArgs (topS 9)) (defBody (topS 9)) (defScope (topS 9)) .none kV6 dc6 pm6 an6 cd6 ct6), sl6⟩) (c6 : PySem.W.codeIn K cd6 "_law_copies" = true) (k6 : PySem.W.keepIn K (.ref f6) = true)
    (a7 : PySem.W.nsIn K mainGlobals "_law_grown" = some (some (.ref f7))) (l7 : K.lookup f7 = some ⟨oc7, od7, .func (PySem.W.fnOf "_law_grown" "_law_grown" (defArgs (topS 10)) (defBody (topS 10)) (defScope (topS 10)) .none kV7 dc7 pm7 an7 cd7 ct7), sl7⟩) (c7 : PySem.W.codeIn K cd7 "_law_grown" = true) (k7 : PySem.W.keepIn K (.ref f7) = true)
    (a8 : PySem.W.nsIn K mainGlobals "_law_row" = some (some (.ref f8))) (l8 : K.lookup f8 = some ⟨oc8, od8, .func (PySem.W.fnOf "_law_row" "_law_row" (defArgs (topS 11)) (defBody (topS 11)) (defScope (topS 11)) .none kV8 dc8 pm8 an8 cd8 ct8), sl8⟩) (c8 : PySem.W.codeIn K cd8 "_law_row" = true) (k8 : PySem.W.keepIn K (.ref f8) = true)
    (a9 : PySem.W.nsIn K mainGlobals "_law_any" = some (some (.ref f9))) (l9 : K.lookup f9 = some ⟨oc9, od9, .func (PySem.W.fnOf "_law_any" "_law_any" (defArgs (topS 12)) (defBody (topS 12)) (defScope (topS 12)) .none kV9 dc9 pm9 an9 cd9 ct9), sl9⟩) (c9 : PySem.W.codeIn K cd9 "_law_any" = true) (k9 : PySem.W.keepIn K (.ref f9) = true)
    (a10 : PySem.W.nsIn K mainGlobals "_law_cutting_due" = some (some (.ref f10))) (l10 : K.lookup f10 = some ⟨oc10, od10, .func (PySem.W.fnOf "_law_cutting_due" "_law_cutting_due" (defArgs (topS 13)) (defBody (topS 13)) (defScope (topS 13)) .none kV10 dc10 pm10 an10 cd10 ct10), sl10⟩) (c10 : PySem.W.codeIn K cd10 "_law_cutting_due" = true) (k10 : PySem.W.keepIn K (.ref f10) = true)
    (a11 : PySem.W.nsIn K mainGlobals "_law_otherwise" = some (some (.ref f11))) (l11 : K.lookup f11 = some ⟨oc11, od11, .func (PySem.W.fnOf "_law_otherwise" "_law_otherwise" (defArgs (topS 14)) (defBody (topS 14)) (defScope (topS 14)) .none kV11 dc11 pm11 an11 cd11 ct11), sl11⟩) (c11 : PySem.W.codeIn K cd11 "_law_otherwise" = true) (k11 : PySem.W.keepIn K (.ref f11) = true)
    (a12 : PySem.W.nsIn K mainGlobals "law" = some (some (.ref f12))) (l12 : K.lookup f12 = some ⟨oc12, od12, .func (PySem.W.fnOf "law" "law" (defArgs (topS 15)) (defBody (topS 15)) (defScope (topS 15)) .none kV12 dc12 pm12 an12 cd12 ct12), sl12⟩) (c12 : PySem.W.codeIn K cd12 "law" = true) (k12 : PySem.W.keepIn K (.ref f12) = true)
    (z0 : PySem.W.nsIn K mainGlobals "isinstance" = some none)
    (z1 : PySem.W.nsIn K mainGlobals "int" = some none)
    (z2 : PySem.W.nsIn K mainGlobals "bool" = some none)
    (z3 : PySem.W.nsIn K mainGlobals "range" = some none)
    (z4 : PySem.W.nsIn K mainGlobals "len" = some none)
    (z5 : PySem.W.nsIn K mainGlobals "any" = some none)
    (z6 : PySem.W.nsIn K mainGlobals "abs" = some none)
    (z7 : PySem.W.nsIn K mainGlobals "list" = some none)
    (z8 : PySem.W.nsIn K mainGlobals "sorted" = some none)
    (z9 : PySem.W.nsIn K mainGlobals "str" = some none)
    (z10 : PySem.W.nsIn K mainGlobals "max" = some none)
    (z11 : PySem.W.nsIn K mainGlobals "min" = some none)
    : ∃ fd : FuncData, (∀ (s : Shared) (v : Value), BindsTo s fd ⟨[v], []⟩ [("script", v)]) ∧ ∀ base : Heap, K.In base → base.Ns mainGlobals mg → FnOk l.prog w K mg base (L2.CX l.prog w) 4 fa fd ["script"] (spTop K F_law) := by
  have e := hfa.symm.trans (PySem.W.mg_of X G a12)
  cases e
  have y0 := PySem.W.mg_none_of X G z0
  have y1 := PySem.W.mg_none_of X G z1
  have y2 := PySem.W.mg_none_of X G z2
  have y3 := PySem.W.mg_none_of X G z3
  have y4 := PySem.W.mg_none_of X G z4
  have y5 := PySem.W.mg_none_of X G z5
  have y6 := PySem.W.mg_none_of X G z6
  have y7 := PySem.W.mg_none_of X G z7
  have y8 := PySem.W.mg_none_of X G z8
  have y9 := PySem.W.mg_none_of X G z9
  have y10 := PySem.W.mg_none_of X G z10
  have y11 := PySem.W.mg_none_of X G z11
  refine ⟨PySem.W.fnOf "law" "law" (defArgs (topS 15)) (defBody (topS 15)) (defScope (topS 15)) .none kV12 dc12 pm12 an12 cd12 ct12, fun s v => .of_eq rfl, fun base _ _ => ?_⟩
  have n_is_whole : NeedOk l.prog w K mg base 1 (.fn "is_whole" F_is_whole) := nd_is_whole (L2.fun_mk (st := topS 1) l0 c0 k0) (PySem.W.mg_of X G a0) y0 y1 y2
  have n_are_marks : NeedOk l.prog w K mg base 2 (.fn "are_marks" F_are_marks) := nd_are_marks (L2.fun_mk (st := topS 2) l1 c1 k1) (PySem.W.mg_of X G a1) y3 n_is_whole y4
  have n_stands_earlier : NeedOk l.prog w K mg base 1 (.fn "stands_earlier" F_stands_earlier) := nd_stands_earlier (L2.fun_mk (st := topS 4) l2 c2 k2) (PySem.W.mg_of X G a2) y5 y3 y4
  have n_is_cutting : NeedOk l.prog w K mg base 3 (.fn "is_cutting" F_is_cutting) := nd_is_cutting (L2.fun_mk (st := topS 5) l3 c3 k3) (PySem.W.mg_of X G a3) n_are_marks y3 y4 n_stands_earlier
  have n__law_pot : NeedOk l.prog w K mg base 1 (.fn "_law_pot" F__law_pot) := nd__law_pot (L2.fun_mk (st := topS 7) l4 c4 k4) (PySem.W.mg_of X G a4) y4 y6 y1
  have n__law_take : NeedOk l.prog w K mg base 1 (.fn "_law_take" F__law_take) := nd__law_take (L2.fun_mk (st := topS 8) l5 c5 k5) (PySem.W.mg_of X G a5) 
  have n__law_copies : NeedOk l.prog w K mg base 2 (.fn "_law_copies" F__law_copies) := nd__law_copies (L2.fun_mk (st := topS 9) l6 c6 k6) (PySem.W.mg_of X G a6) y4 n__law_take
  have n__law_grown : NeedOk l.prog w K mg base 2 (.fn "_law_grown" F__law_grown) := nd__law_grown (L2.fun_mk (st := topS 10) l7 c7 k7) (PySem.W.mg_of X G a7) y4 n__law_take
  have n__law_row : NeedOk l.prog w K mg base 3 (.fn "_law_row" F__law_row) := nd__law_row (L2.fun_mk (st := topS 11) l8 c8 k8) (PySem.W.mg_of X G a8) n__law_take y1 y3 y4 n__law_grown n__law_copies
  have n__law_any : NeedOk l.prog w K mg base 2 (.fn "_law_any" F__law_any) := nd__law_any (L2.fun_mk (st := topS 12) l9 c9 k9) (PySem.W.mg_of X G a9) y4 y3 n__law_take
  have n__law_cutting_due : NeedOk l.prog w K mg base 1 (.fn "_law_cutting_due" F__law_cutting_due) := nd__law_cutting_due (L2.fun_mk (st := topS 13) l10 c10 k10) (PySem.W.mg_of X G a10) y3 y0 y1 y2 y4
  have n__law_otherwise : NeedOk l.prog w K mg base 2 (.fn "_law_otherwise" F__law_otherwise) := nd__law_otherwise (L2.fun_mk (st := topS 14) l11 c11 k11) (PySem.W.mg_of X G a11) n__law_take y4 y7 y3 y8 y9
  have F : FnOk l.prog w K mg base (L2.CX l.prog w) 4 _ _ ["script"] (spOf K mg F_law) := fn_sound (k := 3) (N := ["script", "k", "pot", "ways", "turn", "row", "cuts", "way", "thing", "handed", "found", "due"]) (L2.fun_mk (st := topS 15) l12 c12 k12) sc_law rfl ck_law (by
    rw [nl_law]
    exact needs_of ⟨y3, y3, y10, y11, y4, n__law_pot.mono (by decide), y3, y3, n__law_take.mono (by decide), n__law_row.mono (by decide), y1, n__law_take.mono (by decide), n__law_any.mono (by decide), y3, y3, y7, n__law_otherwise.mono (by decide), y7, n_is_cutting.mono (by decide), n__law_cutting_due.mono (by decide), y0, y2, n_is_cutting.mono (by decide), n_is_cutting.mono (by decide), n_is_cutting.mono (by decide), trivial⟩)
  exact F.imp fun vs H Q E h => top_of rfl h
theorem law_walk {l : PySem.W.OpenLaw} {q : Program} {loose : List Str} {XP : (Str → Option Value) → Heap → Prop} {YP : World → Heap → Prop} {d : DefRec} {K : Params → PySem.W.Frag} (hn : l.most = some 63) (hdf : d.params.defaults = [])
    (hY : ∀ (w : World) (h : Heap), YP w h → (K w.params).In h)
    (F : ∀ (w : World) (mg : Str → Option Value) (fa : Addr) (h : Heap), (K w.params).In h → h.Ns mainGlobals mg → mg d.name = some (.ref fa) →
      ∃ fd : FuncData, (∀ (s : Shared) (u : Value), BindsTo s fd ⟨[u], []⟩ [("script", u)]) ∧ ∀ base : Heap, (K w.params).In base → base.Ns mainGlobals mg → FnOk l.prog w (K w.params) mg base (L2.CX l.prog w) 4 fa fd ["script"] (spTop (K w.params) F_law)) :
    PySem.W.WalkO q loose XP YP l.row.toRowW d [] (fun f vs => PySem.call f vs) :=
  L2.walk_of (n := 63) (k := 4) (x := "script") (CX := fun w => L2.CX l.prog w) (sp := fun w => spTop (K w.params) F_law) hn (by decide) hdf ⟨rfl, by decide, by decide⟩ hY F (fun _ _ a ns hl _ hS => ⟨a, ns, rfl, hS, law_runs ns hl, fun _ => rfl⟩) fun _ _ _ _ _ ⟨_, _, _, _, _, _, _, _, _, _, _, _, z⟩ => z
end MP
open PySem PySem.W PyProof.Rows
set_option maxHeartbeats 0 in
theorem PySem.Challenge.cw_meetstretch_k28_cuttings_judged_holds : PySem.Challenge.rw_meetstretch_k28_cuttings_judged.Holds := by
  w_on; o_law; k_head; (case hw => w_witness2)
  k_fill
  refine MP.law_walk (l := PySem.Challenge.rw_meetstretch_k28_cuttings_judged) rfl rfl (fun w h Y => PySem.W.kIn_of Y) ?F
  case F =>
    intro w mg fa h KX G hmg
    refine' MP.all_mk KX G hmg ?a0 ?l0 ?c0 ?k0 ?a1 ?l1 ?c1 ?k1 ?a2 ?l2 ?c2 ?k2 ?a3 ?l3 ?c3 ?k3 ?a4 ?l4 ?c4 ?k4 ?a5 ?l5 ?c5 ?k5 ?a6 ?l6 ?c6 ?k6 ?a7 ?l7 ?c7 ?k7 ?a8 ?l8 ?c8 ?k8 ?a9 ?l9 ?c9 ?k9 ?a10 ?l10 ?c10 ?k10 ?a11 ?l11 ?c11 ?k11 ?a12 ?l12 ?c12 ?k12 ?z0 ?z1 ?z2 ?z3 ?z4 ?z5 ?z6 ?z7 ?z8 ?z9 ?z10 ?z11
    (case a0 => k_is); (case l0 => k_is); (case c0 => k_is); (case k0 => k_is); (case a1 => k_is); (case l1 => k_is); (case c1 => k_is); (case k1 => k_is); (case a2 => k_is); (case l2 => k_is); (case c2 => k_is); (case k2 => k_is); (case a3 => k_is); (case l3 => k_is); (case c3 => k_is); (case k3 => k_is); (case a4 => k_is); (case l4 => k_is); (case c4 => k_is); (case k4 => k_is); (case a5 => k_is); (case l5 => k_is); (case c5 => k_is); (case k5 => k_is); (case a6 => k_is); (case l6 => k_is); (case c6 => k_is); (case k6 => k_is); (case a7 => k_is); (case l7 => k_is); (case c7 => k_is); (case k7 => k_is); (case a8 => k_is); (case l8 => k_is); (case c8 => k_is); (case k8 => k_is); (case a9 => k_is); (case l9 => k_is); (case c9 => k_is); (case k9 => k_is); (case a10 => k_is); (case l10 => k_is); (case c10 => k_is); (case k10 => k_is); (case a11 => k_is); (case l11 => k_is); (case c11 => k_is); (case k11 => k_is); (case a12 => k_is); (case l12 => k_is); (case c12 => k_is); (case k12 => k_is); (case z0 => k_is); (case z1 => k_is); (case z2 => k_is); (case z3 => k_is); (case z4 => k_is); (case z5 => k_is); (case z6 => k_is); (case z7 => k_is); (case z8 => k_is); (case z9 => k_is); (case z10 => k_is); (case z11 => k_is)
