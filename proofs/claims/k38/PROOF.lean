import PyProof.Rows.All
import Wide.All
import OpenK.AllK
import Wide.FinOn
import HandS.ForMost
import HandS.EndBits
import HandS.Wide
import HandS.Flow
import HandS.Rev
import HandS.Style
import HandS.TupAny
import PySem.Challenge.RW_droveway_k38_legs_and_loads_one_behind_a
set_option Elab.async false
set_option linter.all false
set_option maxRecDepth 100000
set_option maxHeartbeats 4000000
/-! L3: values without tuples' and frozen lists' addresses; what a reading (L2) asks, said over them. -/
namespace L3
abbrev St := L2.St
open PySem PySem.Spec PyProof.Rows L2

/-- a value: data, or the address of a thing that may change -/
inductive PV where
  | none | bool (b : Bool) | int (i : Int) | w (n : Nat) | tup (xs : List PV) | lst (xs : List PV) | ro (xs : List PV) | obj (a : Addr)

/-- the module as the walk knows it: the written part, the words (texts) by number, the classes by number -/
structure Ct where
  K : PySem.W.Frag
  S : List Str
  T : Nat → Addr

/-- the ghost: what never changes any more; what others hold meanwhile -/
structure GH where
  z : Hp
  f : Hp
def GH.put (G : GH) (p : Addr) (o : HO) : GH := ⟨upd G.z p o, G.f⟩

mutual
inductive RP (c : Ct) (G : GH) : V → PV → Prop
  | none : RP c G .non .none
  | bool (b : Bool) : RP c G (.bl b) (.bool b)
  | int (i : Int) : RP c G (.int i) (.int i)
  | w {n : Nat} {x : Str} : c.S[n]? = some x → RP c G (.str x) (.w n)
  | tup {a : Addr} {xs : List V} {ps : List PV} : SqT c.K G.z a xs → xs.length ≤ sizeLine → RPs c G xs ps → RP c G (.ref a) (.tup ps)
  | lst {a : Addr} {xs : List V} {ps : List PV} : G.z a = some (.lst xs) → xs.length ≤ sizeLine → RPs c G xs ps → RP c G (.ref a) (.lst ps)
  | ro {a : Addr} {xs : List V} {ps : List PV} : SqL c.K G.z a xs → xs.length ≤ sizeLine → RPs c G xs ps → RP c G (.ref a) (.ro ps)
  | obj (a : Addr) : RP c G (.ref a) (.obj a)
inductive RPs (c : Ct) (G : GH) : List V → List PV → Prop
  | nil : RPs c G [] []
  | cons {v : V} {vs : List V} {p : PV} {ps : List PV} : RP c G v p → RPs c G vs ps → RPs c G (v :: vs) (p :: ps)
end

/-- a key of a dict: an int or a word -/
inductive PK where
  | i (n : Int) | w (n : Nat)
  deriving DecidableEq

/-- what may change -/
inductive MO where
  | lst (xs : List PV)
  | dic (kvs : List (PK × PV))
  | ins (c : Nat) (fs : List (Nat × PV))
  | lock (m : MO)

abbrev Mem := Addr → Option MO
def updM (M : Mem) (a : Addr) (o : MO) : Mem := fun b => if b = a then some o else M b
theorem updM_same {M : Mem} {a : Addr} {o : MO} : updM M a o a = some o := by unfold updM; rw [if_pos rfl]
theorem updM_ne {M : Mem} {a b : Addr} {o : MO} (h : b ≠ a) : updM M a o b = M b := by unfold updM; rw [if_neg h]
theorem updM_updM {M : Mem} {a : Addr} {o u : MO} : updM (updM M a o) a u = updM M a u := by
  funext b; unfold updM; split <;> rfl
theorem ne_of_M {M : Mem} {a b : Addr} {o : MO} (h : M a = some o) (h' : M b = none) : a ≠ b := by
  intro e; subst e; rw [h] at h'; cases h'

def RK (c : Ct) : Key → PK → Prop
  | .inl i, .i j => i = j
  | .inr x, .w n => c.S[n]? = some x
  | _, _ => False
inductive RKVs (c : Ct) (G : GH) : List (Key × V) → List (PK × PV) → Prop
  | nil : RKVs c G [] []
  | cons {k : Key} {v : V} {q : PK} {p : PV} {kvs : List (Key × V)} {qps : List (PK × PV)} : RK c k q → RP c G v p → RKVs c G kvs qps → RKVs c G ((k, v) :: kvs) ((q, p) :: qps)
inductive RFs (c : Ct) (G : GH) : List (Str × V) → List (Nat × PV) → Prop
  | nil : RFs c G [] []
  | cons {f : Str} {n : Nat} {v : V} {p : PV} {fs : List (Str × V)} {gs : List (Nat × PV)} : c.S[n]? = some f → RP c G v p → RFs c G fs gs → RFs c G ((f, v) :: fs) ((n, p) :: gs)

inductive RO (c : Ct) (G : GH) : HO → MO → Prop
  | lst {xs : List V} {ps : List PV} : xs.length ≤ sizeLine → RPs c G xs ps → RO c G (.lst xs) (.lst ps)
  | dic {kvs : List (Key × V)} {qps : List (PK × PV)} : RKVs c G kvs qps → RO c G (.dK kvs) (.dic qps)
  | ins {k : Nat} {dx : Addr} {fs : List (Str × V)} {gs : List (Nat × PV)} : RFs c G fs gs → RO c G (.ins (c.T k) dx fs) (.ins k gs)
  | lock {o : Obj} {u : HO} {m : MO} : RO c G u m → RO c G (.frz o u) (.lock m)

/-- the ghost only grows -/
def EH (H H' : Hp) : Prop := ∀ a o, H a = some o → H' a = some o
def Ex (G G' : GH) : Prop := EH G.z G'.z ∧ G'.f = G.f
theorem Ex.refl (G : GH) : Ex G G := ⟨fun _ _ h => h, rfl⟩
theorem Ex.trans {G G1 G2 : GH} (a : Ex G G1) (b : Ex G1 G2) : Ex G G2 := ⟨fun x o h => b.1 x o (a.1 x o h), b.2.trans a.2⟩
theorem Ex.new {G : GH} {p : Addr} {o : HO} (h : G.z p = none) : Ex G (G.put p o) := ⟨fun a u e => by
  show upd G.z p o a = some u
  rw [upd_ne (ne_of_none e h)]
  exact e, rfl⟩
/-- an object that G does not know may change -/
theorem EH.mut {G H : Hp} {p : Addr} {o : HO} (e : EH G H) (h : G p = none) : EH G (upd H p o) := fun a u ha => by
  rw [upd_ne (ne_of_none ha h)]
  exact e a u ha
theorem EH.both {G H : Hp} {p : Addr} {o : HO} (e : EH G H) : EH (upd G p o) (upd H p o) := fun a u ha => by
  unfold upd at ha ⊢
  split
  · rename_i h
    rw [if_pos h] at ha
    exact ha
  · rename_i h
    rw [if_neg h] at ha
    exact e a u ha
theorem EH.none {G H : Hp} {p : Addr} (e : EH G H) (h : H p = none) : G p = none := by
  cases q : G p with
  | none => rfl
  | some o => rw [e p o q] at h; cases h
theorem ex_rd {H H' : Hp} {a : Addr} {u : HO} (e : EH H H') (h : Rd H a u) : Rd H' a u := by
  rcases h with h | ⟨o, h⟩
  · exact Or.inl (e a _ h)
  · exact Or.inr ⟨o, e a _ h⟩
theorem ex_l {K : PySem.W.Frag} {H H' : Hp} {a : Addr} {xs : List V} (e : EH H H') (h : SqL K H a xs) : SqL K H' a xs := by
  rcases h with h | h
  · exact Or.inl (ex_rd e h)
  · exact Or.inr h
theorem ex_t {K : PySem.W.Frag} {H H' : Hp} {a : Addr} {xs : List V} (e : EH H H') (h : SqT K H a xs) : SqT K H' a xs := by
  rcases h with h | h
  · exact Or.inl (ex_rd e h)
  · exact Or.inr h

mutual
theorem RP.monoZ {c : Ct} {G G' : GH} (e : EH G.z G'.z) : ∀ {v : V} {p : PV}, RP c G v p → RP c G' v p
  | _, _, .none => .none
  | _, _, .bool b => .bool b
  | _, _, .int i => .int i
  | _, _, .w h => .w h
  | _, _, .tup h l r => .tup (ex_t e h) l (RPs.monoZ e r)
  | _, _, .lst h l r => .lst (e _ _ h) l (RPs.monoZ e r)
  | _, _, .ro h l r => .ro (ex_l e h) l (RPs.monoZ e r)
  | _, _, .obj a => .obj a
theorem RPs.monoZ {c : Ct} {G G' : GH} (e : EH G.z G'.z) : ∀ {vs : List V} {ps : List PV}, RPs c G vs ps → RPs c G' vs ps
  | _, _, .nil => .nil
  | _, _, .cons h r => .cons (RP.monoZ e h) (RPs.monoZ e r)
end
theorem RKVs.monoZ {c : Ct} {G G' : GH} (e : EH G.z G'.z) : ∀ {vs : List (Key × V)} {ps : List (PK × PV)}, RKVs c G vs ps → RKVs c G' vs ps
  | _, _, .nil => .nil
  | _, _, .cons k h r => .cons k (RP.monoZ e h) (RKVs.monoZ e r)
theorem RFs.monoZ {c : Ct} {G G' : GH} (e : EH G.z G'.z) : ∀ {vs : List (Str × V)} {ps : List (Nat × PV)}, RFs c G vs ps → RFs c G' vs ps
  | _, _, .nil => .nil
  | _, _, .cons k h r => .cons k (RP.monoZ e h) (RFs.monoZ e r)
theorem RO.monoZ {c : Ct} {G G' : GH} (e : EH G.z G'.z) : ∀ {o : HO} {m : MO}, RO c G o m → RO c G' o m
  | _, _, .lst l h => .lst l (RPs.monoZ e h)
  | _, _, .dic h => .dic (RKVs.monoZ e h)
  | _, _, .ins h => .ins (RFs.monoZ e h)
  | _, _, .lock h => .lock (RO.monoZ e h)
theorem RP.mono {c : Ct} {G G' : GH} {v : V} {p : PV} (e : Ex G G') (h : RP c G v p) : RP c G' v p := h.monoZ e.1
theorem RPs.mono {c : Ct} {G G' : GH} {vs : List V} {ps : List PV} (e : Ex G G') (h : RPs c G vs ps) : RPs c G' vs ps := h.monoZ e.1
theorem RKVs.mono {c : Ct} {G G' : GH} {vs : List (Key × V)} {ps : List (PK × PV)} (e : Ex G G') (h : RKVs c G vs ps) : RKVs c G' vs ps := h.monoZ e.1
theorem RFs.mono {c : Ct} {G G' : GH} {vs : List (Str × V)} {ps : List (Nat × PV)} (e : Ex G G') (h : RFs c G vs ps) : RFs c G' vs ps := h.monoZ e.1
theorem RO.mono {c : Ct} {G G' : GH} {o : HO} {m : MO} (e : Ex G G') (h : RO c G o m) : RO c G' o m := h.monoZ e.1
theorem RPs.length {c : Ct} {G : GH} : ∀ {vs : List V} {ps : List PV}, RPs c G vs ps → vs.length = ps.length
  | _, _, .nil => rfl
  | _, _, .cons _ r => congrArg (· + 1) (RPs.length r)
theorem RPs.get {c : Ct} {G : GH} : ∀ {vs : List V} {ps : List PV} {i : Nat} {p : PV}, RPs c G vs ps → ps[i]? = some p → ∃ v, vs[i]? = some v ∧ RP c G v p
  | _, _, _, _, .nil, e => by simp at e
  | _, _, 0, _, .cons r _, e => by simp at e; subst e; exact ⟨_, rfl, r⟩
  | _, _, i + 1, p, .cons _ t, e => by
    obtain ⟨u, h1, h2⟩ := RPs.get (i := i) (p := p) t (by simpa using e)
    exact ⟨u, by simpa using h1, h2⟩
theorem RPs.getV {c : Ct} {G : GH} : ∀ {vs : List V} {ps : List PV} {i : Nat} {v : V}, RPs c G vs ps → vs[i]? = some v → ∃ p, ps[i]? = some p ∧ RP c G v p
  | _, _, _, _, .nil, e => by simp at e
  | _, _, 0, _, .cons r _, e => by simp at e; subst e; exact ⟨_, rfl, r⟩
  | _, _, i + 1, p, .cons _ t, e => by
    obtain ⟨u, h1, h2⟩ := RPs.getV (i := i) (v := p) t (by simpa using e)
    exact ⟨u, by simpa using h1, h2⟩
theorem RPs.append {c : Ct} {G : GH} : ∀ {vs us : List V} {ps qs : List PV}, RPs c G vs ps → RPs c G us qs → RPs c G (vs ++ us) (ps ++ qs)
  | _, _, _, _, .nil, s => s
  | _, _, _, _, .cons r t, s => .cons r (RPs.append t s)
theorem RPs.take {c : Ct} {G : GH} : ∀ {vs : List V} {ps : List PV} (n : Nat), RPs c G vs ps → RPs c G (vs.take n) (ps.take n)
  | _, _, 0, _ => .nil
  | _, _, _ + 1, .nil => .nil
  | _, _, n + 1, .cons r t => .cons r (RPs.take n t)
theorem RPs.drop {c : Ct} {G : GH} : ∀ {vs : List V} {ps : List PV} (n : Nat), RPs c G vs ps → RPs c G (vs.drop n) (ps.drop n)
  | _, _, 0, r => r
  | _, _, _ + 1, .nil => .nil
  | _, _, n + 1, .cons _ t => RPs.drop n t
theorem RPs.set {c : Ct} {G : GH} {v : V} {p : PV} (h : RP c G v p) : ∀ {vs : List V} {ps : List PV} (n : Nat), RPs c G vs ps → RPs c G (vs.set n v) (ps.set n p)
  | _, _, _, .nil => .nil
  | _, _, 0, .cons _ t => .cons h t
  | _, _, n + 1, .cons r t => .cons r (RPs.set h n t)
theorem RPs.reverse {c : Ct} {G : GH} : ∀ {vs : List V} {ps : List PV}, RPs c G vs ps → RPs c G vs.reverse ps.reverse
  | _, _, .nil => .nil
  | _, _, .cons r t => by
    rw [List.reverse_cons, List.reverse_cons]
    exact (RPs.reverse t).append (.cons r .nil)

/-! ### the state: the ghost, the slots, the memory -/
abbrev FEnv := List (Option PV)
def RelM (c : Ct) (G : GH) (H : Hp) (M : Mem) : Prop := ∀ p m, M p = some m → (G.z p = none ∧ G.f p = none) ∧ ∃ o, H p = some o ∧ RO c G o m
structure RH (c : Ct) (G : GH) (H : Hp) (M : Mem) : Prop where
  ex : EH G.z H
  mem : RelM c G H M
  fr : ∀ a o, G.f a = some o → H a = some o ∧ G.z a = none
structure RE (c : Ct) (G : GH) (σ : St) (ρ : FEnv) : Prop where
  len : σ.length = ρ.length
  at_ : ∀ (i : Nat) (p : PV), ρ[i]? = some (some p) → ∃ v, σ[i]? = some (some v) ∧ RP c G v p

theorem RE.monoZ {c : Ct} {G G' : GH} {σ : St} {ρ : FEnv} (e : EH G.z G'.z) (h : RE c G σ ρ) : RE c G' σ ρ :=
  ⟨h.len, fun i p q => let ⟨v, a, b⟩ := h.at_ i p q; ⟨v, a, b.monoZ e⟩⟩
theorem RE.mono {c : Ct} {G G' : GH} {σ : St} {ρ : FEnv} (e : Ex G G') (h : RE c G σ ρ) : RE c G' σ ρ := h.monoZ e.1
theorem RE.set {c : Ct} {G : GH} {σ : St} {ρ : FEnv} {v : V} {p : PV} (h : RE c G σ ρ) (i : Nat) (r : RP c G v p) : RE c G (σ.set i (some v)) (ρ.set i (some p)) := by
  refine ⟨by rw [List.length_set, List.length_set]; exact h.len, fun j q e => ?_⟩
  by_cases hj : i = j
  · subst hj
    have hl : i < (ρ.set i (some p)).length := (List.getElem?_eq_some_iff.mp e).1
    rw [List.length_set] at hl
    rw [List.getElem?_set_self hl] at e
    cases e
    exact ⟨v, List.getElem?_set_self (by rw [h.len]; exact hl), r⟩
  · rw [List.getElem?_set_ne hj] at e ⊢
    exact h.at_ j q e
theorem RelM.none {c : Ct} {G : GH} {H : Hp} {M : Mem} (h : RelM c G H M) {p : Addr} (e : H p = none) : M p = none := by
  cases q : M p with
  | none => rfl
  | some m => obtain ⟨_, o, e2, _⟩ := h p m q; rw [e] at e2; cases e2
theorem RH.nof {c : Ct} {G : GH} {H : Hp} {M : Mem} (h : RH c G H M) {p : Addr} (e : H p = none) : G.f p = none := by
  cases q : G.f p with
  | none => rfl
  | some m => have e2 := (h.fr p m q).1; rw [e] at e2; cases e2
/-- a frozen new thing -/
theorem RH.frozen {c : Ct} {G : GH} {H : Hp} {M : Mem} (h : RH c G H M) {p : Addr} (o : HO) (e : H p = none) : RH c (G.put p o) (upd H p o) M := by
  have g : G.z p = none := h.ex.none e
  refine ⟨h.ex.both, fun q m hq => ?_, fun a u ha => ?_⟩
  · obtain ⟨g1, u, h1, r⟩ := h.mem q m hq
    have ne : q ≠ p := ne_of_none h1 e
    exact ⟨⟨by show upd G.z p o q = none; rw [upd_ne ne]; exact g1.1, g1.2⟩, u, by rw [upd_ne ne]; exact h1, r.mono (Ex.new g)⟩
  · obtain ⟨h1, h2⟩ := h.fr a u ha
    have ne : a ≠ p := ne_of_none h1 e
    exact ⟨by rw [upd_ne ne]; exact h1, by show upd G.z p o a = none; rw [upd_ne ne]; exact h2⟩
/-- a new thing that may change -/
theorem RH.made {c : Ct} {G : GH} {H : Hp} {M : Mem} (h : RH c G H M) {p : Addr} {o : HO} {m : MO} (e : H p = none) (r : RO c G o m) : RH c G (upd H p o) (updM M p m) := by
  have g : G.z p = none := h.ex.none e
  refine ⟨h.ex.mut g, fun q m' hq => ?_, fun a u ha => ?_⟩
  · by_cases ne : q = p
    · subst ne
      rw [updM_same] at hq
      cases hq
      exact ⟨⟨g, h.nof e⟩, o, upd_same, r⟩
    · rw [updM_ne ne] at hq
      obtain ⟨g1, u, h1, r⟩ := h.mem q m' hq
      exact ⟨g1, u, by rw [upd_ne ne]; exact h1, r⟩
  · obtain ⟨h1, h2⟩ := h.fr a u ha
    exact ⟨by rw [upd_ne (ne_of_none h1 e)]; exact h1, h2⟩
/-- a thing changed -/
theorem RH.changed {c : Ct} {G : GH} {H : Hp} {M : Mem} (h : RH c G H M) {p : Addr} {o : HO} {m m0 : MO} (e : M p = some m0) (r : RO c G o m) : RH c G (upd H p o) (updM M p m) := by
  obtain ⟨g, u0, h0, r0⟩ := h.mem p m0 e
  refine ⟨h.ex.mut g.1, fun q m' hq => ?_, fun a u ha => ?_⟩
  · by_cases ne : q = p
    · subst ne
      rw [updM_same] at hq
      cases hq
      exact ⟨g, o, upd_same, r⟩
    · rw [updM_ne ne] at hq
      obtain ⟨g1, u, h1, r⟩ := h.mem q m' hq
      exact ⟨g1, u, by rw [upd_ne ne]; exact h1, r⟩
  · obtain ⟨h1, h2⟩ := h.fr a u ha
    have ne : a ≠ p := fun z => by
      rw [z, g.2] at ha
      cases ha
    exact ⟨by rw [upd_ne ne]; exact h1, h2⟩
/-- a new address that the memory does not know -/
theorem RH.beside {c : Ct} {G : GH} {H : Hp} {M : Mem} (h : RH c G H M) {p : Addr} (o : HO) (e : H p = none) : RH c G (upd H p o) M := by
  have g : G.z p = none := h.ex.none e
  refine ⟨h.ex.mut g, fun q m' hq => ?_, fun a u ha => ?_⟩
  · obtain ⟨g1, u, h1, r⟩ := h.mem q m' hq
    have ne : q ≠ p := ne_of_none h1 e
    exact ⟨g1, u, by rw [upd_ne ne]; exact h1, r⟩
  · obtain ⟨h1, h2⟩ := h.fr a u ha
    exact ⟨by rw [upd_ne (ne_of_none h1 e)]; exact h1, h2⟩

/-! ### the readings over these -/
abbrev FK := PV → Mem → Prop
abbrev FE := FEnv → Mem → FK → Prop
abbrev FT := FEnv → Mem → (Bool → Mem → Prop) → Prop
abbrev FA := FEnv → Mem → (List PV → Mem → Prop) → Prop
structure FEnds where
  nx : FEnv → Mem → Prop
  rt : FK
  bk : FEnv → Mem → Prop := fun _ _ => False
  ct : FEnv → Mem → Prop := fun _ _ => False
abbrev FS := FEnds → FEnv → Mem → Prop
abbrev FG := PV → FEnv → Mem → (FEnv → Mem → Prop) → Prop
abbrev FGs := List PV → FEnv → Mem → (FEnv → Mem → Prop) → Prop

def LE (c : Ct) (te : TE) (fe : FE) : Prop := ∀ (G : GH) (σ : St) (H : Hp) (ρ : FEnv) (M : Mem) (P : FK) (Q : VK), RH c G H M → RE c G σ ρ → fe ρ M P →
  (∀ (v : V) (H' : Hp) (G' : GH) (p : PV) (M' : Mem), Ex G G' → RH c G' H' M' → RP c G' v p → P p M' → Q v H') → te σ H Q
def LT (c : Ct) (tt : TT) (ft : FT) : Prop := ∀ (G : GH) (σ : St) (H : Hp) (ρ : FEnv) (M : Mem) (P : Bool → Mem → Prop) (Q : Bool → Hp → Prop), RH c G H M → RE c G σ ρ → ft ρ M P →
  (∀ (b : Bool) (H' : Hp) (G' : GH) (M' : Mem), Ex G G' → RH c G' H' M' → P b M' → Q b H') → tt σ H Q
def LA (c : Ct) (n : Nat) (ta : TA) (fa : FA) : Prop := ∀ (G : GH) (σ : St) (H : Hp) (ρ : FEnv) (M : Mem) (P : List PV → Mem → Prop) (Q : List V → Hp → Prop), RH c G H M → RE c G σ ρ → fa ρ M P →
  (∀ (vs : List V) (H' : Hp) (G' : GH) (ps : List PV) (M' : Mem), Ex G G' → RH c G' H' M' → RPs c G' vs ps → vs.length = n → P ps M' → Q vs H') → ta σ H Q
/-- what is wanted behind a statement, at L2 and here -/
structure REnds (c : Ct) (G : GH) (D : Ends) (D3 : FEnds) : Prop where
  nx : ∀ (G' : GH) (σ : St) (H : Hp) (ρ : FEnv) (M : Mem), Ex G G' → RH c G' H M → RE c G' σ ρ → D3.nx ρ M → D.nx σ H
  bk : ∀ (G' : GH) (σ : St) (H : Hp) (ρ : FEnv) (M : Mem), Ex G G' → RH c G' H M → RE c G' σ ρ → D3.bk ρ M → D.bk σ H
  ct : ∀ (G' : GH) (σ : St) (H : Hp) (ρ : FEnv) (M : Mem), Ex G G' → RH c G' H M → RE c G' σ ρ → D3.ct ρ M → D.ct σ H
  rt : ∀ (G' : GH) (v : V) (H : Hp) (p : PV) (M : Mem), Ex G G' → RH c G' H M → RP c G' v p → D3.rt p M → D.rt v H
def LS (c : Ct) (ts : TS) (fs : FS) : Prop := ∀ (G : GH) (σ : St) (H : Hp) (ρ : FEnv) (M : Mem) (D3 : FEnds) (D : Ends), RH c G H M → RE c G σ ρ → fs D3 ρ M → REnds c G D D3 → ts D σ H
def LG (c : Ct) (g : TG) (fg : FG) : Prop := ∀ (G : GH) (σ : St) (H : Hp) (ρ : FEnv) (M : Mem) (v : V) (p : PV) (P : FEnv → Mem → Prop) (Q : St → Hp → Prop), RH c G H M → RE c G σ ρ → RP c G v p → fg p ρ M P →
  (∀ (G' : GH) (σ' : St) (H' : Hp) (ρ' : FEnv) (M' : Mem), Ex G G' → RH c G' H' M' → RE c G' σ' ρ' → P ρ' M' → Q σ' H') → g v σ H Q
def LGs (c : Ct) (n : Nat) (g : TGs) (fg : FGs) : Prop := ∀ (G : GH) (σ : St) (H : Hp) (ρ : FEnv) (M : Mem) (vs : List V) (ps : List PV) (P : FEnv → Mem → Prop) (Q : St → Hp → Prop), RH c G H M → RE c G σ ρ → RPs c G vs ps → fg ps ρ M P →
  (∀ (G' : GH) (σ' : St) (H' : Hp) (ρ' : FEnv) (M' : Mem), Ex G G' → RH c G' H' M' → RE c G' σ' ρ' → P ρ' M' → Q σ' H') → vs.length = n ∧ g vs σ H Q
theorem REnds.mono {c : Ct} {G G' : GH} {D : Ends} {D3 : FEnds} (e : Ex G G') (h : REnds c G D D3) : REnds c G' D D3 :=
  ⟨fun G2 σ H ρ M e2 => h.nx G2 σ H ρ M (e.trans e2), fun G2 σ H ρ M e2 => h.bk G2 σ H ρ M (e.trans e2), fun G2 σ H ρ M e2 => h.ct G2 σ H ρ M (e.trans e2), fun G2 v H p M e2 => h.rt G2 v H p M (e.trans e2)⟩
end L3
/-! L3: the rules: names, constants, operators, tests, displays, indexes, slices, statements -/
namespace L3
open PySem PySem.Spec PyProof.Rows L2

/-! ### judgements: a piece of syntax and its reading -/
abbrev ct (X : Cx) (S : List Str) (T : Nat → Addr) : Ct := ⟨X.K, S, T⟩
def QE (X : Cx) (S : List Str) (T : Nat → Addr) (e : Expr) (f : FE) : Prop := ∃ t, PE X e t ∧ LE (ct X S T) t f
def QT (X : Cx) (S : List Str) (T : Nat → Addr) (e : Expr) (f : FT) : Prop := ∃ t, PT X e t ∧ LT (ct X S T) t f
def QW (X : Cx) (S : List Str) (T : Nat → Addr) (e : Expr) (f : FT) : Prop := ∃ t, PW X e t ∧ LT (ct X S T) t f
def QA (X : Cx) (S : List Str) (T : Nat → Addr) (es : List Expr) (n : Nat) (f : FA) : Prop := ∃ t, PA X es t ∧ LA (ct X S T) n t f
def QS (X : Cx) (S : List Str) (T : Nat → Addr) (s : Stmt) (f : FS) : Prop := ∃ t, PS X s t ∧ LS (ct X S T) t f
def QSs (X : Cx) (S : List Str) (T : Nat → Addr) (s : List Stmt) (f : FS) : Prop := ∃ t, PSs X s t ∧ LS (ct X S T) t f
def QG (X : Cx) (S : List Str) (T : Nat → Addr) (e : Expr) (f : FG) : Prop := ∃ t, PG X e t ∧ LG (ct X S T) t f
def QGs (X : Cx) (S : List Str) (T : Nat → Addr) (es : List Expr) (n : Nat) (f : FGs) : Prop := ∃ t, PGs X es t ∧ LGs (ct X S T) n t f

/-! ### helpers that whnf runs -/
noncomputable def nth {α : Type} (l : List α) : Nat → Option α := List.rec (motive := fun _ => Nat → Option α) (fun _ => none) (fun x _ ih n => Nat.casesOn (motive := fun _ => Option α) n (some x) ih) l
theorem nth_eq {α : Type} : ∀ (l : List α) (n : Nat), nth l n = l[n]?
  | [], _ => by
    show none = _
    simp
  | x :: _, 0 => by
    show some x = _
    simp
  | _ :: r, n + 1 => by
    show nth r n = _
    rw [nth_eq r n, List.getElem?_cons_succ]
noncomputable def setN {α : Type} (l : List α) : Nat → α → List α := List.rec (motive := fun _ => Nat → α → List α) (fun _ _ => []) (fun x r ih n y => Nat.casesOn (motive := fun _ => List α) n (y :: r) (fun m => x :: ih m y)) l
theorem setN_eq {α : Type} : ∀ (l : List α) (n : Nat) (y : α), setN l n y = l.set n y
  | [], _, _ => rfl
  | _ :: _, 0, _ => rfl
  | x :: r, n + 1, y => congrArg (x :: ·) (setN_eq r n y)
/-- if -/
structure cnd (b : Bool) (A B : Prop) : Prop where
  yes : b = true → A
  no : b = false → B
/-- a thing in the memory -/
def rd (M : Mem) (p : Addr) (k : MO → Prop) : Prop := ∃ o, M p = some o ∧ k o
def rdL (M : Mem) (p : Addr) (k : List PV → Prop) : Prop := ∃ xs, M p = some (.lst xs) ∧ k xs

section
variable {X : Cx} {S : List Str} {T : Nat → Addr} {c : Ct}

/-! ### names and constants -/
noncomputable def fVar (i : Nat) : FE := fun ρ M P => match nth ρ i with
  | some (some p) => P p M
  | _ => False
theorem le_var {i : Nat} : LE c (tVar i) (fVar i) := fun G σ H ρ M P Q h r hf k => by
  unfold fVar at hf
  cases e : nth ρ i with
  | none => rw [e] at hf; exact hf.elim
  | some o =>
    cases o with
    | none => rw [e] at hf; exact hf.elim
    | some p =>
      rw [e] at hf
      rw [nth_eq] at e
      obtain ⟨v, h1, h2⟩ := r.at_ i p e
      exact ⟨v, h1, k v H G p M (Ex.refl G) h h2 hf⟩
theorem qv (i : Nat) {x : Str} {pos : Pos} (hN : X.N[i]? = some x := by rfl) (hv : Vis X.env.scope x := by first | exact Or.inl rfl | exact Or.inr (Or.inl rfl) | exact Or.inr (Or.inr rfl)) (hd : (x == ("__debug__" : Str)) = false := by decide)
    (hcd : (x == ("__classdict__" : Str)) = false := by decide) : QE X S T (.Name x pos) (fVar i) := ⟨_, pe_var hN hv hd hcd, le_var⟩
noncomputable def fC (p : PV) : FE := fun _ M P => P p M
theorem le_c {v : V} {p : PV} (h : ∀ G, RP c G v p) : LE c (tC v) (fC p) := fun G σ H ρ M P Q h0 r hf k => k v H G p M (Ex.refl G) h0 (h G) hf
theorem qc_int {i : Int} {j : Nat} {pos : Pos} : QE X S T (.Constant (.int i) j pos) (fC (.int i)) := ⟨_, pe_int, le_c fun _ => .int i⟩
theorem qc_bl {b : Bool} {j : Nat} {pos : Pos} : QE X S T (.Constant (.bool b) j pos) (fC (.bool b)) := ⟨_, pe_bl, le_c fun _ => .bool b⟩
theorem qc_non {j : Nat} {pos : Pos} : QE X S T (.Constant .none j pos) (fC .none) := ⟨_, pe_non, le_c fun _ => .none⟩
theorem qc_w {x : Str} {j : Nat} {pos : Pos} (n : Nat) (h : S[n]? = some x := by rfl) : QE X S T (.Constant (.str x) j pos) (fC (.w n)) := ⟨_, pe_str, le_c fun _ => .w h⟩
theorem qg_int {x : Str} {i : Int} {t : Tok} {pos : Pos} (hm : X.mg x = some (.int i t)) (hg : Gl X x := by rfl) (hd : (x == ("__debug__" : Str)) = false := by decide) : QE X S T (.Name x pos) (fC (.int i)) :=
  ⟨_, pe_glob hg hm (v := .int i) ⟨_, rfl⟩ hd, le_c fun _ => .int i⟩

/-! ### operators -/
abbrev F2 := PV → PV → Mem → FK → Prop
/-- an operation on values -/
def LR (c : Ct) (r : R2) (f : F2) : Prop := ∀ (G : GH) (H : Hp) (M : Mem) (x y : V) (p q : PV) (P : FK) (Q : VK), RH c G H M → RP c G x p → RP c G y q → f p q M P →
  (∀ (v : V) (H' : Hp) (G' : GH) (p' : PV) (M' : Mem), Ex G G' → RH c G' H' M' → RP c G' v p' → P p' M' → Q v H') → r x y H Q
noncomputable def fOp (f : F2) (fa fb : FE) : FE := fun ρ M P => fa ρ M fun x M1 => fb ρ M1 fun y M2 => f x y M2 P
theorem le_op {r : R2} {f : F2} {ta tb : TE} {fa fb : FE} (hr : LR c r f) (ha : LE c ta fa) (hb : LE c tb fb) : LE c (tOp r ta tb) (fOp f fa fb) := fun G σ H ρ M P Q h re hf k =>
  ha G σ H ρ M _ _ h re hf fun v1 H1 G1 p1 M1 e1 h1 r1 q1 => hb G1 σ H1 ρ M1 _ _ h1 (re.mono e1) q1 fun v2 H2 G2 p2 M2 e2 h2 r2 q2 =>
    hr G2 H2 M2 v1 v2 p1 p2 P Q h2 (r1.mono e2) r2 q2 fun v H' G' p' M' e3 => k v H' G' p' M' ((e1.trans e2).trans e3)
def i2 (g : Int → Int → PV) : F2 := fun x y M P => match x, y with
  | .int i, .int j => P (g i j) M
  | _, _ => False
def i2c (C : Int → Int → Prop) (g : Int → Int → PV) : F2 := fun x y M P => match x, y with
  | .int i, .int j => C i j ∧ P (g i j) M
  | _, _ => False
theorem lr_i0 {g : Int → Int → V} {f : Int → Int → PV} (hg : ∀ G i j, RP c G (g i j) (f i j)) : LR c (rI0 g) (i2 f) := fun G H M x y p q P Q h rx ry hf k => by
  cases rx <;> cases ry <;> first | exact hf.elim | exact ⟨_, _, rfl, rfl, k _ H G _ M (Ex.refl G) h (hg _ _ _) hf⟩
theorem lr_i {C : Int → Int → Prop} {g : Int → Int → V} {f : Int → Int → PV} (hg : ∀ G i j, RP c G (g i j) (f i j)) : LR c (rI C g) (i2c C f) := fun G H M x y p q P Q h rx ry hf k => by
  cases rx <;> cases ry <;> first | exact hf.elim | exact ⟨_, _, rfl, rfl, hf.1, k _ H G _ M (Ex.refl G) h (hg _ _ _) hf.2⟩
theorem LR.or {r r' : R2} {f f' : F2} (h : LR c r f) (h' : LR c r' f') : LR c (fun x y H Q => r x y H Q ∨ r' x y H Q) (fun x y M P => f x y M P ∨ f' x y M P) := fun G H M x y p q P Q hh rx ry hf k =>
  hf.elim (fun z => .inl (h G H M x y p q P Q hh rx ry z k)) (fun z => .inr (h' G H M x y p q P Q hh rx ry z k))
/-- products: within what the model reckons -/
def CMulB (i j : Int) : Prop := i.natAbs.log2 + j.natAbs.log2 < 100000000
theorem CMulB.ok {i j : Int} (h : CMulB i j) : IntMulOk i j := by
  have b : ∀ x : Int, Builtin.Int.intBits x ≤ x.natAbs.log2 + 1 := fun x => by
    unfold Builtin.Int.intBits
    split <;> omega
  have h1 := b i
  have h2 := b j
  have h3 : i.natAbs.log2 + j.natAbs.log2 < 100000000 := h
  have e : bitsLine = 134217728 := by decide
  unfold IntMulOk
  intro z
  rw [Bool.and_eq_true] at z
  have z2 := z.2
  unfold Builtin.Int.intTooBig at z2
  have z3 := of_decide_eq_true z2
  rw [e] at z3
  omega
theorem op_mulB : OpR X (binaryOp .Mult) (rI CMulB fun i j => .int (i * j)) := opI fun _ _ _ _ _ _ _ hc q => mul_int q hc.ok
def fAdd := i2 fun i j => .int (i + j)
def fSub := i2 fun i j => .int (i - j)
def fMul := i2c CMulB fun i j => .int (i * j)
def fMod := i2c (fun _ j => 0 < j) fun i j => .int (i % j)
def fDiv := i2c CDivW fun i j => .int (i / j)
def fPow := i2c CPow fun i j => .int (i ^ j.toNat)
def fLt := i2 fun i j => .bool (decide (i < j))
def fLe := i2 fun i j => .bool (decide (i ≤ j))
def fGt := i2 fun i j => .bool (decide (j < i))
def fGe := i2 fun i j => .bool (decide (j ≤ i))
variable {a b e : Expr} {fa fb : FE} {pos : Pos}
theorem q_op {op : Operator} {r : R2} {f : F2} (ho : OpR X (binaryOp op) r) (hr : LR (ct X S T) r f) (ha : QE X S T a fa) (hb : QE X S T b fb) : QE X S T (.BinOp a op b pos) (fOp f fa fb) := by
  obtain ⟨ta, pa, la⟩ := ha
  obtain ⟨tb, pb, lb⟩ := hb
  exact ⟨_, pe_op ho pa pb, le_op hr la lb⟩
theorem q_add (ha : QE X S T a fa) (hb : QE X S T b fb) : QE X S T (.BinOp a .Add b pos) (fOp fAdd fa fb) := q_op op_add (lr_i0 fun _ _ _ => .int _) ha hb
theorem q_sub (ha : QE X S T a fa) (hb : QE X S T b fb) : QE X S T (.BinOp a .Sub b pos) (fOp fSub fa fb) := q_op op_sub (lr_i0 fun _ _ _ => .int _) ha hb
theorem q_mul (ha : QE X S T a fa) (hb : QE X S T b fb) : QE X S T (.BinOp a .Mult b pos) (fOp fMul fa fb) := q_op op_mulB (lr_i fun _ _ _ => .int _) ha hb
theorem q_mod (ha : QE X S T a fa) (hb : QE X S T b fb) : QE X S T (.BinOp a .Mod b pos) (fOp fMod fa fb) := q_op op_mod (lr_i fun _ _ _ => .int _) ha hb
theorem q_div (ha : QE X S T a fa) (hb : QE X S T b fb) : QE X S T (.BinOp a .FloorDiv b pos) (fOp fDiv fa fb) := q_op op_fdivW (lr_i fun _ _ _ => .int _) ha hb
theorem q_pow (ha : QE X S T a fa) (hb : QE X S T b fb) : QE X S T (.BinOp a .Pow b pos) (fOp fPow fa fb) := q_op op_pow (lr_i fun _ _ _ => .int _) ha hb

/-! ### comparisons, tests -/
noncomputable def fTest (f : FE) : FT := fun ρ M P => f ρ M fun x M1 => match x with
  | .bool b => P b M1
  | _ => False
theorem lt_test {t : TE} {f : FE} (h : LE c t f) : LT c (tTest t) (fTest f) := fun G σ H ρ M P Q hh re hf k =>
  h G σ H ρ M _ _ hh re hf fun v H' G' p M' e h' r q => by
    cases r <;> first | exact (False.elim q) | exact ⟨_, rfl, k _ H' G' M' e h' q⟩
theorem lt_B {t : TE} {f : FE} (h : LE c t f) : LT c (tB t) (fTest f) := lt_test h
theorem q_cmp {op : CmpOp} {r : R2} {f : F2} (ho : OpR X (compareOp op) r) (hr : LR (ct X S T) r f) (ha : QE X S T a fa) (hb : QE X S T b fb) (hm : behindInMarks op b = false) : QE X S T (.Compare a [op] [b] pos) (fOp f fa fb) := by
  obtain ⟨ta, pa, la⟩ := ha
  obtain ⟨tb, pb, lb⟩ := hb
  exact ⟨_, pe_cmpR ho pa pb hm, le_op hr la lb⟩
theorem qt_cmp {op : CmpOp} {r : R2} {f : F2} (ho : OpR X (compareOp op) r) (hr : LR (ct X S T) r f) (ha : QE X S T a fa) (hb : QE X S T b fb) (hm : behindInMarks op b = false) : QT X S T (.Compare a [op] [b] pos) (fTest (fOp f fa fb)) := by
  obtain ⟨ta, pa, la⟩ := ha
  obtain ⟨tb, pb, lb⟩ := hb
  exact ⟨_, pt_cmpR ho pa pb hm, lt_test (le_op hr la lb)⟩
theorem q_lt (ha : QE X S T a fa) (hb : QE X S T b fb) : QE X S T (.Compare a [.Lt] [b] pos) (fOp fLt fa fb) := q_cmp op_lt (lr_i0 fun _ _ _ => .bool _) ha hb (nomark _)
theorem q_le (ha : QE X S T a fa) (hb : QE X S T b fb) : QE X S T (.Compare a [.LtE] [b] pos) (fOp fLe fa fb) := q_cmp op_le (lr_i0 fun _ _ _ => .bool _) ha hb (nomark _)
theorem q_gt (ha : QE X S T a fa) (hb : QE X S T b fb) : QE X S T (.Compare a [.Gt] [b] pos) (fOp fGt fa fb) := q_cmp op_gt (lr_i0 fun _ _ _ => .bool _) ha hb (nomark _)
theorem q_ge (ha : QE X S T a fa) (hb : QE X S T b fb) : QE X S T (.Compare a [.GtE] [b] pos) (fOp fGe fa fb) := q_cmp op_ge (lr_i0 fun _ _ _ => .bool _) ha hb (nomark _)
theorem qt_lt (ha : QE X S T a fa) (hb : QE X S T b fb) : QT X S T (.Compare a [.Lt] [b] pos) (fTest (fOp fLt fa fb)) := qt_cmp op_lt (lr_i0 fun _ _ _ => .bool _) ha hb (nomark _)
theorem qt_le (ha : QE X S T a fa) (hb : QE X S T b fb) : QT X S T (.Compare a [.LtE] [b] pos) (fTest (fOp fLe fa fb)) := qt_cmp op_le (lr_i0 fun _ _ _ => .bool _) ha hb (nomark _)
theorem qt_gt (ha : QE X S T a fa) (hb : QE X S T b fb) : QT X S T (.Compare a [.Gt] [b] pos) (fTest (fOp fGt fa fb)) := qt_cmp op_gt (lr_i0 fun _ _ _ => .bool _) ha hb (nomark _)
theorem qt_ge (ha : QE X S T a fa) (hb : QE X S T b fb) : QT X S T (.Compare a [.GtE] [b] pos) (fTest (fOp fGe fa fb)) := qt_cmp op_ge (lr_i0 fun _ _ _ => .bool _) ha hb (nomark _)
/-- any expression that gives a bool, as a test -/
theorem qt_val (h : QE X S T e fa) (he : ∀ whole, isTrue e X.env whole = (do let v ← whole; standAt e.pos; holding [v] (truthy v)) := by intro _; rfl) : QT X S T e (fTest fa) := by
  obtain ⟨t, p, l⟩ := h
  exact ⟨_, pt_val p he, lt_B l⟩
/-- a < b < c -/
noncomputable def fChain (f f' : F2) (fa fb fc : FE) : FE := fun ρ M P => fa ρ M fun x M1 => fb ρ M1 fun y M2 => f x y M2 fun z M3 => match z with
  | .bool k => cnd k (fc ρ M3 fun u M4 => f' y u M4 P) (P (.bool false) M3)
  | _ => False
noncomputable def fAnd (fa fb : FT) : FT := fun ρ M P => fa ρ M fun k M1 => cnd k (fb ρ M1 P) (P false M1)
noncomputable def fOr (fa fb : FT) : FT := fun ρ M P => fa ρ M fun k M1 => cnd k (P true M1) (fb ρ M1 P)
noncomputable def fNot (fa : FT) : FT := fun ρ M P => fa ρ M fun k M1 => P (!k) M1
variable {ga gb : FT} {rest : List Expr}
theorem lt_and {ta tb : TT} (ha : LT c ta ga) (hb : LT c tb gb) : LT c (tAnd ta tb) (fAnd ga gb) := fun G σ H ρ M P Q hh re hf k =>
  ha G σ H ρ M _ _ hh re hf fun d H1 G1 M1 e1 h1 q1 => by
    cases d with
    | true =>
      rw [if_pos rfl]
      exact hb G1 σ H1 ρ M1 _ _ h1 (re.mono e1) (q1.1 rfl) fun d' H2 G2 M2 e2 => k d' H2 G2 M2 (e1.trans e2)
    | false =>
      rw [if_neg Bool.false_ne_true]
      exact k false H1 G1 M1 e1 h1 (q1.2 rfl)
theorem lt_or {ta tb : TT} (ha : LT c ta ga) (hb : LT c tb gb) : LT c (tOr ta tb) (fOr ga gb) := fun G σ H ρ M P Q hh re hf k =>
  ha G σ H ρ M _ _ hh re hf fun d H1 G1 M1 e1 h1 q1 => by
    cases d with
    | true =>
      rw [if_pos rfl]
      exact k true H1 G1 M1 e1 h1 (q1.1 rfl)
    | false =>
      rw [if_neg Bool.false_ne_true]
      exact hb G1 σ H1 ρ M1 _ _ h1 (re.mono e1) (q1.2 rfl) fun d' H2 G2 M2 e2 => k d' H2 G2 M2 (e1.trans e2)
theorem lt_not {ta : TT} (ha : LT c ta ga) : LT c (tNot ta) (fNot ga) := fun G σ H ρ M P Q hh re hf k =>
  ha G σ H ρ M _ _ hh re hf fun d H1 G1 M1 e1 h1 q1 => k (!d) H1 G1 M1 e1 h1 q1
theorem qw_and1 (ha : QT X S T a ga) : QW X S T (.BoolOp .And [a] pos) ga := let ⟨_, p, l⟩ := ha; ⟨_, pw_and1 p, l⟩
theorem qw_or1 (ha : QT X S T a ga) : QW X S T (.BoolOp .Or [a] pos) ga := let ⟨_, p, l⟩ := ha; ⟨_, pw_or1 p, l⟩
theorem qw_and (ha : QT X S T a ga) (hb : QW X S T (.BoolOp .And (b :: rest) pos) gb) : QW X S T (.BoolOp .And (a :: b :: rest) pos) (fAnd ga gb) :=
  let ⟨_, p, l⟩ := ha; let ⟨_, p2, l2⟩ := hb; ⟨_, pw_and p p2, lt_and l l2⟩
theorem qw_or (ha : QT X S T a ga) (hb : QW X S T (.BoolOp .Or (b :: rest) pos) gb) : QW X S T (.BoolOp .Or (a :: b :: rest) pos) (fOr ga gb) :=
  let ⟨_, p, l⟩ := ha; let ⟨_, p2, l2⟩ := hb; ⟨_, pw_or p p2, lt_or l l2⟩
theorem QW.qt (h : QW X S T e ga) : QT X S T e ga := let ⟨_, p, l⟩ := h; ⟨_, p.pt, l⟩
theorem qt_not (ha : QT X S T a ga) : QT X S T (.UnaryOp .Not a pos) (fNot ga) := let ⟨_, p, l⟩ := ha; ⟨_, pt_not p, lt_not l⟩
/-- as values -/
noncomputable def fAndV (fa fb : FE) : FE := fun ρ M P => fa ρ M fun x M1 => match x with
  | .bool k => cnd k (fb ρ M1 P) (P (.bool false) M1)
  | _ => False
noncomputable def fOrV (fa fb : FE) : FE := fun ρ M P => fa ρ M fun x M1 => match x with
  | .bool k => cnd k (P (.bool true) M1) (fb ρ M1 P)
  | _ => False
noncomputable def fNotV (fa : FE) : FE := fun ρ M P => fa ρ M fun x M1 => match x with
  | .bool k => P (.bool (!k)) M1
  | _ => False
theorem le_andV {ta tb : TE} (ha : LE c ta fa) (hb : LE c tb fb) : LE c (tAndV ta tb) (fAndV fa fb) := fun G σ H ρ M P Q hh re hf k =>
  ha G σ H ρ M _ _ hh re hf fun v H1 G1 p M1 e1 h1 r1 q1 => by
    cases r1 <;> first | exact (False.elim q1) | skip
    rename_i d
    refine ⟨d, rfl, ?_⟩
    cases d with
    | true =>
      rw [if_pos rfl]
      exact hb G1 σ H1 ρ M1 _ _ h1 (re.mono e1) (q1.1 rfl) fun v' H2 G2 p2 M2 e2 => k v' H2 G2 p2 M2 (e1.trans e2)
    | false =>
      rw [if_neg Bool.false_ne_true]
      exact k _ H1 G1 _ M1 e1 h1 (.bool false) (q1.2 rfl)
theorem le_orV {ta tb : TE} (ha : LE c ta fa) (hb : LE c tb fb) : LE c (tOrV ta tb) (fOrV fa fb) := fun G σ H ρ M P Q hh re hf k =>
  ha G σ H ρ M _ _ hh re hf fun v H1 G1 p M1 e1 h1 r1 q1 => by
    cases r1 <;> first | exact (False.elim q1) | skip
    rename_i d
    refine ⟨d, rfl, ?_⟩
    cases d with
    | true =>
      rw [if_pos rfl]
      exact k _ H1 G1 _ M1 e1 h1 (.bool true) (q1.1 rfl)
    | false =>
      rw [if_neg Bool.false_ne_true]
      exact hb G1 σ H1 ρ M1 _ _ h1 (re.mono e1) (q1.2 rfl) fun v' H2 G2 p2 M2 e2 => k v' H2 G2 p2 M2 (e1.trans e2)
theorem le_notV {ta : TE} (ha : LE c ta fa) : LE c (tNotV ta) (fNotV fa) := fun G σ H ρ M P Q hh re hf k =>
  ha G σ H ρ M _ _ hh re hf fun v H1 G1 p M1 e1 h1 r1 q1 => by
    cases r1 <;> first | exact (False.elim q1) | exact ⟨_, rfl, k _ H1 G1 _ M1 e1 h1 (.bool _) q1⟩
theorem q_one {op} (h : QE X S T a fa) : QE X S T (.BoolOp op [a] pos) fa := let ⟨_, p, l⟩ := h; ⟨_, pe_one p, l⟩
theorem q_and (ha : QE X S T a fa) (hb : QE X S T (.BoolOp .And (b :: rest) pos) fb) : QE X S T (.BoolOp .And (a :: b :: rest) pos) (fAndV fa fb) :=
  let ⟨_, p, l⟩ := ha; let ⟨_, p2, l2⟩ := hb; ⟨_, pe_and p p2, le_andV l l2⟩
theorem q_or (ha : QE X S T a fa) (hb : QE X S T (.BoolOp .Or (b :: rest) pos) fb) : QE X S T (.BoolOp .Or (a :: b :: rest) pos) (fOrV fa fb) :=
  let ⟨_, p, l⟩ := ha; let ⟨_, p2, l2⟩ := hb; ⟨_, pe_or p p2, le_orV l l2⟩
theorem q_not (ha : QE X S T a fa) : QE X S T (.UnaryOp .Not a pos) (fNotV fa) := let ⟨_, p, l⟩ := ha; ⟨_, pe_not p, le_notV l⟩
/-- a if t else b -/
noncomputable def fIfE (t : FT) (fa fb : FE) : FE := fun ρ M P => t ρ M fun k M1 => cnd k (fa ρ M1 P) (fb ρ M1 P)
theorem le_if {tt : TT} {ta tb : TE} (ht : LT c tt ga) (ha : LE c ta fa) (hb : LE c tb fb) : LE c (tIf tt ta tb) (fIfE ga fa fb) := fun G σ H ρ M P Q hh re hf k =>
  ht G σ H ρ M _ _ hh re hf fun d H1 G1 M1 e1 h1 q1 => by
    cases d with
    | true =>
      rw [if_pos rfl]
      exact ha G1 σ H1 ρ M1 _ _ h1 (re.mono e1) (q1.1 rfl) fun v' H2 G2 p2 M2 e2 => k v' H2 G2 p2 M2 (e1.trans e2)
    | false =>
      rw [if_neg Bool.false_ne_true]
      exact hb G1 σ H1 ρ M1 _ _ h1 (re.mono e1) (q1.2 rfl) fun v' H2 G2 p2 M2 e2 => k v' H2 G2 p2 M2 (e1.trans e2)
theorem q_if {t : Expr} (ht : QT X S T t ga) (ha : QE X S T a fa) (hb : QE X S T b fb) : QE X S T (.IfExp t a b pos) (fIfE ga fa fb) :=
  let ⟨_, p, l⟩ := ht; let ⟨_, p1, l1⟩ := ha; let ⟨_, p2, l2⟩ := hb; ⟨_, pe_ifExp p p1 p2, le_if l l1 l2⟩
theorem le_chain {r r' : R2} {f f' : F2} {ta tb tc : TE} {fc : FE} (hr : LR c r f) (hr' : LR c r' f') (ha : LE c ta fa) (hb : LE c tb fb) (hc : LE c tc fc) :
    LE c (tChain r r' ta tb tc) (fChain f f' fa fb fc) := fun G σ H ρ M P Q hh re hf k =>
  ha G σ H ρ M _ _ hh re hf fun v1 H1 G1 p1 M1 e1 h1 r1 q1 => hb G1 σ H1 ρ M1 _ _ h1 (re.mono e1) q1 fun v2 H2 G2 p2 M2 e2 h2 r2 q2 =>
    hr G2 H2 M2 v1 v2 p1 p2 _ _ h2 (r1.mono e2) r2 q2 fun z H3 G3 p3 M3 e3 h3 r3 q3 => by
      cases r3 <;> first | exact (False.elim q3) | skip
      rename_i d
      refine ⟨d, rfl, ?_⟩
      have e03 := (e1.trans e2).trans e3
      cases d with
      | true =>
        rw [if_pos rfl]
        exact hc G3 σ H3 ρ M3 _ _ h3 (re.mono e03) (q3.1 rfl) fun v4 H4 G4 p4 M4 e4 h4 r4 q4 =>
          hr' G4 H4 M4 v2 v4 p2 p4 P Q h4 (r2.mono (e3.trans e4)) r4 q4 fun v5 H5 G5 p5 M5 e5 => k v5 H5 G5 p5 M5 ((e03.trans e4).trans e5)
      | false =>
        rw [if_neg Bool.false_ne_true]
        exact k _ H3 G3 _ M3 e03 h3 (.bool false) (q3.2 rfl)
end
end L3
/-! L3: displays, indexes, slices, built-in calls, statements, loops, comprehensions, calls of defs -/
namespace L3
open PySem PySem.Spec PyProof.Rows L2
section
variable {X : Cx} {S : List Str} {T : Nat → Addr} {c : Ct} {a b e : Expr} {es : List Expr} {fa fb fe : FE} {pos : Pos} {n : Nat} {ga : FT}
theorem q_chain {op op' : CmpOp} {d : Expr} {fd : FE} {r r' : R2} {f f' : F2} (ho : OpR X (compareOp op) r) (ho' : OpR X (compareOp op') r') (hr : LR (ct X S T) r f) (hr' : LR (ct X S T) r' f') (ha : QE X S T a fa) (hb : QE X S T b fb) (hc : QE X S T d fd)
    (hm : lastMarks [op, op'] [b, d] = false := by with_unfolding_all rfl) : QE X S T (.Compare a [op, op'] [b, d] pos) (fChain f f' fa fb fd) :=
  let ⟨_, p, l⟩ := ha; let ⟨_, p1, l1⟩ := hb; let ⟨_, p2, l2⟩ := hc; ⟨_, pe_chain ho ho' p p1 p2 hm, le_chain hr hr' l l1 l2⟩
theorem qt_chain {op op' : CmpOp} {d : Expr} {fd : FE} {r r' : R2} {f f' : F2} (ho : OpR X (compareOp op) r) (ho' : OpR X (compareOp op') r') (hr : LR (ct X S T) r f) (hr' : LR (ct X S T) r' f') (ha : QE X S T a fa) (hb : QE X S T b fb) (hc : QE X S T d fd)
    (hm : lastMarks [op, op'] [b, d] = false := by with_unfolding_all rfl) : QT X S T (.Compare a [op, op'] [b, d] pos) (fTest (fChain f f' fa fb fd)) :=
  let ⟨_, p, l⟩ := ha; let ⟨_, p1, l1⟩ := hb; let ⟨_, p2, l2⟩ := hc; ⟨_, pt_chain ho ho' p p1 p2 hm, lt_test (le_chain hr hr' l l1 l2)⟩
theorem lr_lt : LR c (rI0 fun i j => .bl (decide (i < j))) fLt := lr_i0 fun _ _ _ => .bool _
theorem lr_le : LR c (rI0 fun i j => .bl (decide (i ≤ j))) fLe := lr_i0 fun _ _ _ => .bool _
theorem lr_gt : LR c (rI0 fun i j => .bl (decide (j < i))) fGt := lr_i0 fun _ _ _ => .bool _
theorem lr_ge : LR c (rI0 fun i j => .bl (decide (j ≤ i))) fGe := lr_i0 fun _ _ _ => .bool _
/-- -x -/
noncomputable def fNeg (fa : FE) : FE := fun ρ M P => fa ρ M fun x M1 => match x with
  | .int i => P (.int (-i)) M1
  | _ => False
theorem q_neg (ha : QE X S T a fa) : QE X S T (.UnaryOp .USub a pos) (fNeg fa) := by
  obtain ⟨t, p, l⟩ := ha
  refine ⟨_, pe_un un_neg p, fun G σ H ρ M P Q hh re hf k => l G σ H ρ M _ _ hh re hf fun v H1 G1 p1 M1 e1 h1 r1 q1 => ?_⟩
  cases r1 <;> first | exact (False.elim q1) | exact ⟨_, rfl, k _ H1 G1 _ M1 e1 h1 (.int _) q1⟩

/-! ### argument lists, displays -/
noncomputable def fNil : FA := fun _ M P => P [] M
noncomputable def fCons (fa : FE) (fr : FA) : FA := fun ρ M P => fa ρ M fun x M1 => fr ρ M1 fun xs M2 => P (x :: xs) M2
theorem la_nil : LA c 0 tNil fNil := fun G σ H ρ M P Q hh re hf k => k [] H G [] M (Ex.refl G) hh .nil rfl hf
theorem la_cons {te : TE} {tr : TA} {fr : FA} (h : LE c te fe) (hr : LA c n tr fr) : LA c (n + 1) (tCons te tr) (fCons fe fr) := fun G σ H ρ M P Q hh re hf k =>
  h G σ H ρ M _ _ hh re hf fun v H1 G1 p1 M1 e1 h1 r1 q1 => hr G1 σ H1 ρ M1 _ _ h1 (re.mono e1) q1 fun vs H2 G2 ps M2 e2 h2 r2 l2 q2 =>
    k (v :: vs) H2 G2 (p1 :: ps) M2 (e1.trans e2) h2 (.cons (r1.mono e2) r2) (congrArg (· + 1) l2) q2
theorem qa_nil : QA X S T [] 0 fNil := ⟨_, pa_nil, la_nil⟩
theorem qa_cons {fr : FA} (h : QE X S T e fe) (hr : QA X S T es n fr) (hs : starEach (e :: es) X.env = (false, eval e X.env) :: starEach es X.env := by rfl) : QA X S T (e :: es) (n + 1) (fCons fe fr) :=
  let ⟨_, p, l⟩ := h; let ⟨_, p2, l2⟩ := hr; ⟨_, pa_cons p p2 hs, la_cons l l2⟩
noncomputable def fTup (f : FA) : FE := fun ρ M P => f ρ M fun xs M1 => P (.tup xs) M1
noncomputable def fLst (f : FA) : FE := fun ρ M P => f ρ M fun xs M1 => P (.lst xs) M1
/-- a list that may change -/
noncomputable def fLstO (f : FA) : FE := fun ρ M P => f ρ M fun xs M1 => ∀ p, M1 p = none → P (.obj p) (updM M1 p (.lst xs))
theorem small_line {n : Nat} (h : n ≤ 100000) : n ≤ sizeLine := Nat.le_trans h (by decide)
theorem le_tup {ta : TA} {f : FA} (h : LA c n ta f) (hn : n ≤ 100000) : LE c (tTup ta) (fTup f) := fun G σ H ρ M P Q hh re hf k =>
  h G σ H ρ M _ _ hh re hf fun vs H1 G1 ps M1 e1 h1 r1 l1 q1 => ⟨small_line (by omega), fun p hp =>
    k (.ref p) _ (G1.put p (.tup vs)) _ M1 (e1.trans (Ex.new (h1.ex.none hp))) (h1.frozen _ hp) (.tup (SqT.of upd_same) (small_line (by omega)) (r1.mono (Ex.new (h1.ex.none hp)))) q1⟩
theorem le_lst {ta : TA} {f : FA} (h : LA c n ta f) (hn : n ≤ 100000) : LE c (tLst ta) (fLst f) := fun G σ H ρ M P Q hh re hf k =>
  h G σ H ρ M _ _ hh re hf fun vs H1 G1 ps M1 e1 h1 r1 l1 q1 => ⟨small_line (by omega), fun p hp =>
    k (.ref p) _ (G1.put p (.lst vs)) _ M1 (e1.trans (Ex.new (h1.ex.none hp))) (h1.frozen _ hp) (.lst upd_same (small_line (by omega)) (r1.mono (Ex.new (h1.ex.none hp)))) q1⟩
theorem le_lstO {ta : TA} {f : FA} (h : LA c n ta f) (hn : n ≤ 100000) : LE c (tLst ta) (fLstO f) := fun G σ H ρ M P Q hh re hf k =>
  h G σ H ρ M _ _ hh re hf fun vs H1 G1 ps M1 e1 h1 r1 l1 q1 => ⟨small_line (by omega), fun p hp =>
    k (.ref p) _ G1 _ _ e1 (h1.made hp (.lst (small_line (by omega)) r1)) (.obj p) (q1 p (h1.mem.none hp))⟩
theorem q_tup {f : FA} {x1} (h : QA X S T es n f) (hn : n ≤ 100000 := by decide) : QE X S T (.Tuple es x1 pos) (fTup f) := let ⟨_, p, l⟩ := h; ⟨_, pe_tup p, le_tup l hn⟩
theorem q_lst {f : FA} (h : QA X S T es n f) (hn : n ≤ 100000 := by decide) : QE X S T (.List es pos) (fLst f) := let ⟨_, p, l⟩ := h; ⟨_, pe_lst p, le_lst l hn⟩
theorem q_lstO {f : FA} (h : QA X S T es n f) (hn : n ≤ 100000 := by decide) : QE X S T (.List es pos) (fLstO f) := let ⟨_, p, l⟩ := h; ⟨_, pe_lst p, le_lstO l hn⟩

/-! ### indexes -/
theorem RPs.atI {G : GH} {vs : List V} {ps : List PV} {i : Int} {p : PV} (r : RPs c G vs ps) (h : atI ps i = some p) : ∃ v, L2.atI vs i = some v ∧ RP c G v p := by
  unfold L2.atI at h ⊢
  rw [r.length]
  cases e : ixN ps.length i with
  | none => rw [e] at h; cases h
  | some j =>
    rw [e] at h
    exact r.get h
/-- x[i], the value at i -/
def fIx : F2 := fun x y M P => match y with
  | .int i => (match x with
    | .tup xs => ∃ v, L2.atI xs i = some v ∧ P v M
    | .lst xs => ∃ v, L2.atI xs i = some v ∧ P v M
    | .ro xs => ∃ v, L2.atI xs i = some v ∧ P v M
    | .obj p => rdL M p fun xs => ∃ v, L2.atI xs i = some v ∧ P v M
    | _ => False)
  | _ => False
theorem lr_ix : LR c (rIx c.K) fIx := fun G H M x y p q P Q h rx ry hf k => by
  cases ry <;> first | exact hf.elim | skip
  rename_i i
  cases rx with
  | none => exact hf.elim
  | bool _ => exact hf.elim
  | int _ => exact hf.elim
  | w _ => exact hf.elim
  | tup hs hl r =>
    obtain ⟨v, e, q⟩ := hf
    obtain ⟨u, e2, r2⟩ := r.atI e
    exact .inr (.inl ⟨_, _, _, _, rfl, rfl, ex_t h.ex hs, e2, k u H G v M (Ex.refl G) h r2 q⟩)
  | lst hs hl r =>
    obtain ⟨v, e, q⟩ := hf
    obtain ⟨u, e2, r2⟩ := r.atI e
    exact .inl ⟨_, _, _, _, rfl, rfl, SqL.of (h.ex _ _ hs), e2, k u H G v M (Ex.refl G) h r2 q⟩
  | ro hs hl r =>
    obtain ⟨v, e, q⟩ := hf
    obtain ⟨u, e2, r2⟩ := r.atI e
    exact .inl ⟨_, _, _, _, rfl, rfl, ex_l h.ex hs, e2, k u H G v M (Ex.refl G) h r2 q⟩
  | obj a =>
    obtain ⟨xs, em, v, e, q⟩ := hf
    obtain ⟨_, o, ho, ro⟩ := h.mem a _ em
    cases ro with
    | lst hl r =>
      obtain ⟨u, e2, r2⟩ := r.atI e
      exact .inl ⟨_, _, _, _, rfl, rfl, SqL.of ho, e2, k u H G v M (Ex.refl G) h r2 q⟩
theorem q_ix (ha : QE X S T a fa) (hb : QE X S T b fb) (hs : PlainIx b := by exact fun _ _ => rfl) : QE X S T (.Subscript a b pos) (fOp fIx fa fb) :=
  let ⟨_, p, l⟩ := ha; let ⟨_, p2, l2⟩ := hb; ⟨_, pe_ix ix_seq p p2 hs, le_op lr_ix l l2⟩
/-- x[k], k written -/
noncomputable def fIxC (k : Nat) (fa : FE) : FE := fun ρ M P => fa ρ M fun x M1 => match x with
  | .tup xs => (match nth xs k with | some v => P v M1 | _ => False)
  | .lst xs => (match nth xs k with | some v => P v M1 | _ => False)
  | .ro xs => (match nth xs k with | some v => P v M1 | _ => False)
  | .obj p => rdL M1 p fun xs => match nth xs k with | some v => P v M1 | _ => False
  | _ => False
theorem nth_at {xs : List PV} {k : Nat} {M : Mem} {P : FK} (h : match nth xs k with | some v => P v M | _ => False) : ∃ v, L2.atI xs (k : Int) = some v ∧ P v M := by
  cases e : nth xs k with
  | none => rw [e] at h; exact h.elim
  | some v =>
    rw [e] at h
    rw [nth_eq] at e
    exact ⟨v, atI_nat e, h⟩
theorem le_ixC {k : Nat} {i : Int} (hi : i = (k : Int)) {ta : TE} (h : LE c ta fa) : LE c (tOp (rIx c.K) ta (tC (.int i))) (fIxC k fa) := fun G σ H ρ M P Q hh re hf kk =>
  h G σ H ρ M _ _ hh re hf fun v H1 G1 p M1 e1 h1 r1 q1 => lr_ix G1 H1 M1 v (.int i) p (.int i) P Q h1 r1 (.int i) (by
    subst hi
    cases p with
    | tup xs => exact nth_at q1
    | lst xs => exact nth_at q1
    | ro xs => exact nth_at q1
    | obj p =>
      obtain ⟨xs, e, q⟩ := q1
      exact ⟨xs, e, nth_at q⟩
    | none => exact q1
    | bool _ => exact q1
    | int _ => exact q1
    | w _ => exact q1) fun v' H' G' p' M' e2 => kk v' H' G' p' M' (e1.trans e2)
theorem q_ixC (k : Nat) {j : Nat} {p2 : Pos} {i : Int} (ha : QE X S T a fa) (hi : i = (k : Int) := by rfl) (hs : PlainIx (.Constant (.int i) j p2) := by exact fun _ _ => rfl) : QE X S T (.Subscript a (.Constant (.int i) j p2) pos) (fIxC k fa) :=
  let ⟨_, p, l⟩ := ha; ⟨_, pe_ix ix_seq p pe_int hs, le_ixC hi l⟩

/-! ### slices -/
abbrev FO := FEnv → Mem → (Option Int → Mem → Prop) → Prop
def LO (c : Ct) (to : TO) (f : FO) : Prop := ∀ (G : GH) (σ : St) (H : Hp) (ρ : FEnv) (M : Mem) (P : Option Int → Mem → Prop) (Q : Option Int → Hp → Prop), RH c G H M → RE c G σ ρ → f ρ M P →
  (∀ (o : Option Int) (H' : Hp) (G' : GH) (M' : Mem), Ex G G' → RH c G' H' M' → P o M' → Q o H') → to σ H Q
def QO (X : Cx) (S : List Str) (T : Nat → Addr) (e : Option Expr) (f : FO) : Prop := ∃ t, PO X e t ∧ LO (ct X S T) t f
noncomputable def fNoPart : FO := fun _ M P => P none M
noncomputable def fPart (fa : FE) : FO := fun ρ M P => fa ρ M fun x M1 => match x with
  | .int i => P (some i) M1
  | _ => False
theorem qo_none : QO X S T none fNoPart := ⟨_, po_none, fun G σ H ρ M P Q hh re hf k => k none H G M (Ex.refl G) hh hf⟩
theorem qo_some (h : QE X S T e fe) : QO X S T (some e) (fPart fe) := by
  obtain ⟨t, p, l⟩ := h
  refine ⟨_, po_some p, fun G σ H ρ M P Q hh re hf k => l G σ H ρ M _ _ hh re hf fun v H1 G1 p1 M1 e1 h1 r1 q1 => ?_⟩
  cases r1 <;> first | exact (False.elim q1) | exact ⟨_, rfl, k _ H1 G1 M1 e1 h1 q1⟩
def cut {α : Type} (xs : List α) (lo hi : Option Int) : List α := (xs.drop (HT.sIx xs.length 0 lo)).take (HT.sIx xs.length xs.length hi - HT.sIx xs.length 0 lo)
theorem RPs.cut {G : GH} {vs : List V} {ps : List PV} (r : RPs c G vs ps) (lo hi : Option Int) : RPs c G (cutV vs lo hi) (cut ps lo hi) := by
  unfold cutV L3.cut
  rw [r.length]
  exact (r.drop _).take _
/-- xs[lo:hi], xs a list: a new list that never changes -/
def lstP (x : PV) (M : Mem) (k : List PV → Prop) : Prop := match x with
  | .lst ys => k ys
  | .ro ys => k ys
  | .obj p => rdL M p k
  | _ => False
noncomputable def fSlL (fa : FE) (fl fh : FO) : FE := fun ρ M P => fa ρ M fun x M1 => fl ρ M1 fun l M2 => fh ρ M2 fun u M3 => lstP x M3 fun xs => P (.lst (cut xs l u)) M3
theorem rp_frz {G : GH} {H : Hp} {M : Mem} {vs : List V} {ps : List PV} {P : FK} {Q : VK} (hh : RH c G H M) (r : RPs c G vs ps) (hl : vs.length ≤ sizeLine) (hP : P (.lst ps) M)
    (k : ∀ (v : V) (H' : Hp) (G' : GH) (p : PV) (M' : Mem), Ex G G' → RH c G' H' M' → RP c G' v p → P p M' → Q v H') : ∀ p, H p = none → Q (.ref p) (upd H p (.lst vs)) := fun p hp =>
  have g := hh.ex.none hp
  k (.ref p) _ (G.put p (.lst vs)) _ M (Ex.new g) (hh.frozen _ hp) (.lst upd_same hl (r.mono (Ex.new g))) hP
/-- what is read as a list -/
theorem seq_of {G : GH} {H : Hp} {M : Mem} {v : V} {p : PV} {k : List PV → Prop} (hh : RH c G H M) (r : RP c G v p) (h : lstP p M k) : ∃ a vs ps, v = .ref a ∧ SqL c.K H a vs ∧ RPs c G vs ps ∧ vs.length ≤ sizeLine ∧ k ps := by
  cases r with
  | none => exact h.elim
  | bool _ => exact h.elim
  | int _ => exact h.elim
  | w _ => exact h.elim
  | tup _ _ _ => exact h.elim
  | lst hs hl r => exact ⟨_, _, _, rfl, SqL.of (hh.ex _ _ hs), r, hl, h⟩
  | ro hs hl r => exact ⟨_, _, _, rfl, ex_l hh.ex hs, r, hl, h⟩
  | obj a =>
    obtain ⟨xs, em, q⟩ := h
    obtain ⟨_, o, ho, ro⟩ := hh.mem a _ em
    cases ro with
    | lst hl r => exact ⟨_, _, _, rfl, SqL.of ho, r, hl, q⟩
theorem le_slL {te : TE} {tl th : TO} {fl fh : FO} (h : LE c te fe) (h1 : LO c tl fl) (h2 : LO c th fh) : LE c (tSl (rSlL c.K) te tl th) (fSlL fe fl fh) := fun G σ H ρ M P Q hh re hf k =>
  h G σ H ρ M _ _ hh re hf fun v H1 G1 p M1 e1 hh1 r1 q1 => h1 G1 σ H1 ρ M1 _ _ hh1 (re.mono e1) q1 fun lo H2 G2 M2 e2 hh2 q2 => h2 G2 σ H2 ρ M2 _ _ hh2 (re.mono (e1.trans e2)) q2 fun hi H3 G3 M3 e3 hh3 q3 => by
    obtain ⟨a, vs, ps, rfl, hs, r, hl, q⟩ := seq_of (k := fun xs => P (.lst (cut xs lo hi)) M3) hh3 (r1.mono (e2.trans e3)) q3
    exact ⟨a, vs, rfl, hs, rp_frz hh3 (r.cut lo hi) (Nat.le_trans (cutV_length vs lo hi) hl) q fun v' H' G' p' M' e4 => k v' H' G' p' M' (((e1.trans e2).trans e3).trans e4)⟩
theorem q_slL {lo hi : Option Expr} {fl fh : FO} {p2 : Pos} (h : QE X S T e fe) (h1 : QO X S T lo fl) (h2 : QO X S T hi fh) : QE X S T (.Subscript e (.Slice lo hi none p2) pos) (fSlL fe fl fh) :=
  let ⟨_, p, l⟩ := h; let ⟨_, p1, l1⟩ := h1; let ⟨_, p2, l2⟩ := h2; ⟨_, pe_slice sl_list p p1 p2, le_slL l l1 l2⟩

/-! ### built-in functions -/
abbrev FC := List PV → Mem → FK → Prop
def LC (c : Ct) (r : List V → Hp → VK → Prop) (f : FC) : Prop := ∀ (G : GH) (H : Hp) (M : Mem) (vs : List V) (ps : List PV) (P : FK) (Q : VK), RH c G H M → RPs c G vs ps → f ps M P →
  (∀ (v : V) (H' : Hp) (G' : GH) (p' : PV) (M' : Mem), Ex G G' → RH c G' H' M' → RP c G' v p' → P p' M' → Q v H') → r vs H Q
noncomputable def fCB (f : FC) (fr : FA) : FE := fun ρ M P => fr ρ M fun xs M1 => f xs M1 P
theorem le_cb {r : List V → Hp → VK → Prop} {f : FC} {ta : TA} {fr : FA} (hr : LC c r f) (h : LA c n ta fr) : LE c (tCB r ta) (fCB f fr) := fun G σ H ρ M P Q hh re hf k =>
  h G σ H ρ M _ _ hh re hf fun vs H1 G1 ps M1 e1 h1 r1 l1 q1 => hr G1 H1 M1 vs ps P Q h1 r1 q1 fun v H' G' p' M' e2 => k v H' G' p' M' (e1.trans e2)
variable {x : Str} {p : Pos}
theorem q_callB {id : String} {r : List V → Hp → VK → Prop} {f : FC} {fr : FA} (hc : CallR X (.builtin id) r) (hr : LC (ct X S T) r f) (hm : X.mg x = none) (hv : bootBuiltins x = some (.builtin id)) (ha : QA X S T (e :: es) n fr) (hg : Gl X x := by rfl) (hn : x ≠ "__name__" := by decide) (hdb : (x == ("__debug__" : Str)) = false := by decide)
    (he : starEach (e :: es) X.env = (false, eval e X.env) :: starEach es X.env := by rfl) (hpl : (backTo pos (starEach es X.env)).any (·.1) = false := by rfl) : QE X S T (.Call (.Name x p) (e :: es) [] pos) (fCB f fr) :=
  let ⟨_, q, l⟩ := ha; ⟨_, pe_callB hc hg hm hv q hn hdb he hpl, le_cb hr l⟩
theorem q_callTy {id : String} {r : List V → Hp → VK → Prop} {f : FC} {fr : FA} (hc : CallR X (.type id) r) (hr : LC (ct X S T) r f) (hm : X.mg x = none) (hv : bootBuiltins x = some (.type id)) (ha : QA X S T (e :: es) n fr) (hg : Gl X x := by rfl) (hn : x ≠ "__name__" := by decide) (hdb : (x == ("__debug__" : Str)) = false := by decide)
    (he : starEach (e :: es) X.env = (false, eval e X.env) :: starEach es X.env := by rfl) (hpl : (backTo pos (starEach es X.env)).any (·.1) = false := by rfl) : QE X S T (.Call (.Name x p) (e :: es) [] pos) (fCB f fr) :=
  let ⟨_, q, l⟩ := ha; ⟨_, pe_callTy hc hg hm hv q hn hdb he hpl, le_cb hr l⟩
noncomputable def fLen : FC := fun xs M P => match xs with
  | [.tup ys] => P (.int ys.length) M
  | [.lst ys] => P (.int ys.length) M
  | [.ro ys] => P (.int ys.length) M
  | [.obj p] => rdL M p fun ys => P (.int ys.length) M
  | _ => False
theorem rps1 {G : GH} {vs : List V} {q : PV} (r : RPs c G vs [q]) : ∃ v, vs = [v] ∧ RP c G v q := by
  cases r with
  | cons h t => cases t; exact ⟨_, rfl, h⟩
theorem rps2 {G : GH} {vs : List V} {q q' : PV} (r : RPs c G vs [q, q']) : ∃ v v', vs = [v, v'] ∧ RP c G v q ∧ RP c G v' q' := by
  cases r with
  | cons h t =>
    obtain ⟨v', rfl, h'⟩ := rps1 t
    exact ⟨_, _, rfl, h, h'⟩
theorem lc_len : LC c (fun xs H Q => ∃ p ys, xs = [.ref p] ∧ (SqL c.K H p ys ∨ SqT c.K H p ys) ∧ Q (.int ys.length) H) fLen := fun G H M vs ps P Q hh r hf k => by
  have fin : ∀ (ys : List V) (qs : List PV), RPs c G ys qs → P (.int qs.length) M → Q (.int ys.length) H := fun ys qs r q => by
    have e : (ys.length : Int) = (qs.length : Int) := by rw [r.length]
    rw [e]
    exact k _ H G _ M (Ex.refl G) hh (.int _) q
  match ps, hf with
  | [.tup ys], hf =>
    obtain ⟨v, rfl, h⟩ := rps1 r
    cases h with
    | tup hs hl r' => exact ⟨_, _, rfl, .inr (ex_t hh.ex hs), fin _ _ r' hf⟩
  | [.lst ys], hf =>
    obtain ⟨v, rfl, h⟩ := rps1 r
    obtain ⟨a, us, qs, rfl, hs, r', hl, q⟩ := seq_of (k := fun ys => P (.int ys.length) M) hh h hf
    exact ⟨_, _, rfl, .inl hs, fin _ _ r' q⟩
  | [.ro ys], hf =>
    obtain ⟨v, rfl, h⟩ := rps1 r
    obtain ⟨a, us, qs, rfl, hs, r', hl, q⟩ := seq_of (k := fun ys => P (.int ys.length) M) hh h hf
    exact ⟨_, _, rfl, .inl hs, fin _ _ r' q⟩
  | [.obj p], hf =>
    obtain ⟨v, rfl, h⟩ := rps1 r
    obtain ⟨a, us, qs, rfl, hs, r', hl, q⟩ := seq_of (k := fun ys => P (.int ys.length) M) hh h hf
    exact ⟨_, _, rfl, .inl hs, fin _ _ r' q⟩
theorem q_len {fr : FA} (hm : X.mg "len" = none) (ha : QA X S T [e] n fr) (hg : Gl X "len" := by rfl) (he : starEach (e :: []) X.env = (false, eval e X.env) :: starEach [] X.env := by rfl) (hpl : (backTo pos (starEach [] X.env)).any (·.1) = false := by rfl) :
    QE X S T (.Call (.Name "len" p) [e] [] pos) (fCB fLen fr) := q_callB call_len_seq lc_len hm PySem.boot_len ha hg (by decide) (by decide) he hpl
/-- int(x) of a number -/
noncomputable def fInt : FC := fun xs M P => match xs with
  | [.int i] => P (.int i) M
  | [.bool k] => P (.int (if k then 1 else 0)) M
  | _ => False
theorem lc_int : LC c (fun xs H Q => (∃ i, xs = [.int i] ∧ Q (.int i) H) ∨ ∃ k, xs = [.bl k] ∧ Q (.int (if k then 1 else 0)) H) fInt := fun G H M vs ps P Q hh r hf k => by
  match ps, hf with
  | [.int i], hf =>
    obtain ⟨v, rfl, h⟩ := rps1 r
    cases h
    exact .inl ⟨_, rfl, k _ H G _ M (Ex.refl G) hh (.int _) hf⟩
  | [.bool b], hf =>
    obtain ⟨v, rfl, h⟩ := rps1 r
    cases h
    exact .inr ⟨_, rfl, k _ H G _ M (Ex.refl G) hh (.int _) hf⟩
theorem q_int {fr : FA} (hm : X.mg "int" = none) (ha : QA X S T [e] n fr) (hg : Gl X "int" := by rfl) (he : starEach (e :: []) X.env = (false, eval e X.env) :: starEach [] X.env := by rfl) (hpl : (backTo pos (starEach [] X.env)).any (·.1) = false := by rfl) :
    QE X S T (.Call (.Name "int" p) [e] [] pos) (fCB fInt fr) := q_callTy call_int1 lc_int hm PyProof.Rows.boot_int ha hg (by decide) (by decide) he hpl
/-- list(x): a new list that never changes; one that may -/
def seqP (x : PV) (M : Mem) (k : List PV → Prop) : Prop := match x with
  | .tup ys => k ys
  | .lst ys => k ys
  | .ro ys => k ys
  | .obj p => rdL M p k
  | _ => False
theorem seq_or {G : GH} {H : Hp} {M : Mem} {v : V} {p : PV} {k : List PV → Prop} (hh : RH c G H M) (r : RP c G v p) (h : seqP p M k) : ∃ a vs ps, v = .ref a ∧ (SqL c.K H a vs ∨ SqT c.K H a vs) ∧ RPs c G vs ps ∧ vs.length ≤ sizeLine ∧ k ps := by
  cases p with
  | tup ys =>
    cases r with
    | tup hs hl r' => exact ⟨_, _, _, rfl, .inr (ex_t hh.ex hs), r', hl, h⟩
  | lst ys =>
    obtain ⟨a, us, qs, e, hs, z⟩ := seq_of (k := k) hh r h
    exact ⟨a, us, qs, e, .inl hs, z⟩
  | ro ys =>
    obtain ⟨a, us, qs, e, hs, z⟩ := seq_of (k := k) hh r h
    exact ⟨a, us, qs, e, .inl hs, z⟩
  | obj a =>
    obtain ⟨a, us, qs, e, hs, z⟩ := seq_of (k := k) hh r h
    exact ⟨a, us, qs, e, .inl hs, z⟩
  | none => exact h.elim
  | bool _ => exact h.elim
  | int _ => exact h.elim
  | w _ => exact h.elim
noncomputable def fList : FC := fun xs M P => match xs with
  | [x] => seqP x M fun ys => P (.lst ys) M
  | _ => False
noncomputable def fListO : FC := fun xs M P => match xs with
  | [x] => seqP x M fun ys => ∀ p, M p = none → P (.obj p) (updM M p (.lst ys))
  | _ => False
theorem lc_list : LC c (fun xs H Q => ∃ p ys, xs = [.ref p] ∧ (SqL c.K H p ys ∨ SqT c.K H p ys) ∧ ∀ l, H l = none → Q (.ref l) (upd H l (.lst ys))) fList := fun G H M vs ps P Q hh r hf k => by
  match ps, hf with
  | [x], hf =>
    obtain ⟨v, rfl, h⟩ := rps1 r
    obtain ⟨a, us, qs, rfl, hs, r', hl, q⟩ := seq_or hh h hf
    exact ⟨_, _, rfl, hs, rp_frz hh r' hl q k⟩
theorem lc_listO : LC c (fun xs H Q => ∃ p ys, xs = [.ref p] ∧ (SqL c.K H p ys ∨ SqT c.K H p ys) ∧ ∀ l, H l = none → Q (.ref l) (upd H l (.lst ys))) fListO := fun G H M vs ps P Q hh r hf k => by
  match ps, hf with
  | [x], hf =>
    obtain ⟨v, rfl, h⟩ := rps1 r
    obtain ⟨a, us, qs, rfl, hs, r', hl, q⟩ := seq_or hh h hf
    exact ⟨_, _, rfl, hs, fun l hl' => k _ _ G _ _ (Ex.refl G) (hh.made hl' (.lst hl r')) (.obj l) (q l (hh.mem.none hl'))⟩
theorem q_list {fr : FA} (hm : X.mg "list" = none) (ha : QA X S T [e] n fr) (hg : Gl X "list" := by rfl) (he : starEach (e :: []) X.env = (false, eval e X.env) :: starEach [] X.env := by rfl) (hpl : (backTo pos (starEach [] X.env)).any (·.1) = false := by rfl) :
    QE X S T (.Call (.Name "list" p) [e] [] pos) (fCB fList fr) := q_callTy call_list_of lc_list hm PyProof.Rows.boot_list ha hg (by decide) (by decide) he hpl
theorem q_listO {fr : FA} (hm : X.mg "list" = none) (ha : QA X S T [e] n fr) (hg : Gl X "list" := by rfl) (he : starEach (e :: []) X.env = (false, eval e X.env) :: starEach [] X.env := by rfl) (hpl : (backTo pos (starEach [] X.env)).any (·.1) = false := by rfl) :
    QE X S T (.Call (.Name "list" p) [e] [] pos) (fCB fListO fr) := q_callTy call_list_of lc_listO hm PyProof.Rows.boot_list ha hg (by decide) (by decide) he hpl
noncomputable def fTuple : FC := fun xs M P => match xs with
  | [x] => seqP x M fun ys => P (.tup ys) M
  | _ => False
theorem lc_tuple : LC c (fun xs H Q => ∃ p ys, xs = [.ref p] ∧ ((SqL c.K H p ys ∧ ∀ l, H l = none → Q (.ref l) (upd H l (.tup ys))) ∨ (SqT c.K H p ys ∧ Q (.ref p) H))) fTuple := fun G H M vs ps P Q hh r hf k => by
  match ps, hf with
  | [x], hf =>
    obtain ⟨v, rfl, h⟩ := rps1 r
    have mk : ∀ (a : Addr) (us : List V) (qs : List PV), SqL c.K H a us → RPs c G us qs → us.length ≤ sizeLine → P (.tup qs) M → ∃ p ys, [V.ref a] = [V.ref p] ∧ ((SqL c.K H p ys ∧ ∀ l, H l = none → Q (.ref l) (upd H l (.tup ys))) ∨ (SqT c.K H p ys ∧ Q (.ref p) H)) := fun a us qs hs r' hl q =>
      ⟨a, us, rfl, .inl ⟨hs, fun l hl' => by
        have g := hh.ex.none hl'
        exact k _ _ (G.put l (.tup us)) _ M (Ex.new g) (hh.frozen _ hl') (.tup (SqT.of upd_same) hl (r'.mono (Ex.new g))) q⟩⟩
    cases x with
    | tup ys =>
      cases h with
      | tup hs hl r' => exact ⟨_, _, rfl, .inr ⟨ex_t hh.ex hs, k _ H G _ M (Ex.refl G) hh (.tup hs hl r') hf⟩⟩
    | lst ys =>
      obtain ⟨a, us, qs, rfl, hs, r', hl, q⟩ := seq_of (k := fun ys => P (.tup ys) M) hh h hf
      exact mk a us qs hs r' hl q
    | ro ys =>
      obtain ⟨a, us, qs, rfl, hs, r', hl, q⟩ := seq_of (k := fun ys => P (.tup ys) M) hh h hf
      exact mk a us qs hs r' hl q
    | obj a =>
      obtain ⟨a, us, qs, rfl, hs, r', hl, q⟩ := seq_of (k := fun ys => P (.tup ys) M) hh h hf
      exact mk a us qs hs r' hl q
    | none => exact hf.elim
    | bool _ => exact hf.elim
    | int _ => exact hf.elim
    | w _ => exact hf.elim
theorem q_tuple {fr : FA} (hm : X.mg "tuple" = none) (ha : QA X S T [e] n fr) (hg : Gl X "tuple" := by rfl) (he : starEach (e :: []) X.env = (false, eval e X.env) :: starEach [] X.env := by rfl) (hpl : (backTo pos (starEach [] X.env)).any (·.1) = false := by rfl) :
    QE X S T (.Call (.Name "tuple" p) [e] [] pos) (fCB fTuple fr) := q_callTy call_tuple_of lc_tuple hm (by decide +kernel) ha hg (by decide) (by decide) he hpl
/-- min, max of two numbers -/
noncomputable def fMin2 : FC := fun xs M P => match xs with
  | [.int i, .int j] => P (.int (if j < i then j else i)) M
  | _ => False
noncomputable def fMax2 : FC := fun xs M P => match xs with
  | [.int i, .int j] => P (.int (if j > i then j else i)) M
  | _ => False
theorem lc_min2 : LC c (fun xs H Q => ∃ i j, xs = [.int i, .int j] ∧ Q (.int (if j < i then j else i)) H) fMin2 := fun G H M vs ps P Q hh r hf k => by
  match ps, hf with
  | [.int i, .int j], hf =>
    obtain ⟨v, v', rfl, h, h'⟩ := rps2 r
    cases h
    cases h'
    exact ⟨_, _, rfl, k _ H G _ M (Ex.refl G) hh (.int _) hf⟩
theorem lc_max2 : LC c (fun xs H Q => ∃ i j, xs = [.int i, .int j] ∧ Q (.int (if j > i then j else i)) H) fMax2 := fun G H M vs ps P Q hh r hf k => by
  match ps, hf with
  | [.int i, .int j], hf =>
    obtain ⟨v, v', rfl, h, h'⟩ := rps2 r
    cases h
    cases h'
    exact ⟨_, _, rfl, k _ H G _ M (Ex.refl G) hh (.int _) hf⟩
theorem q_min2 {fr : FA} (hm : X.mg "min" = none) (ha : QA X S T [a, b] n fr) (hc : X.calm = true := by rfl) (hg : Gl X "min" := by rfl) (he : starEach [a, b] X.env = (false, eval a X.env) :: starEach [b] X.env := by rfl) (hpl : (backTo pos (starEach [b] X.env)).any (·.1) = false := by rfl) :
    QE X S T (.Call (.Name "min" p) [a, b] [] pos) (fCB fMin2 fr) := q_callB (call_min2 hc) lc_min2 hm (by decide +kernel) ha hg (by decide) (by decide) he hpl
theorem q_max2 {fr : FA} (hm : X.mg "max" = none) (ha : QA X S T [a, b] n fr) (hc : X.calm = true := by rfl) (hg : Gl X "max" := by rfl) (he : starEach [a, b] X.env = (false, eval a X.env) :: starEach [b] X.env := by rfl) (hpl : (backTo pos (starEach [b] X.env)).any (·.1) = false := by rfl) :
    QE X S T (.Call (.Name "max" p) [a, b] [] pos) (fCB fMax2 fr) := q_callB (call_max2 hc) lc_max2 hm (by decide +kernel) ha hg (by decide) (by decide) he hpl
end
end L3
/-! L3: statements, loops, comprehensions, lists that change, calls of defs -/
namespace L3
open PySem PySem.Spec PyProof.Rows L2

/-- the reading that f gives by itself -/
def teOf (c : Ct) (f : FE) : TE := fun σ H Q => ∃ G ρ M P, RH c G H M ∧ RE c G σ ρ ∧ f ρ M P ∧ ∀ (v : V) (H' : Hp) (G' : GH) (p : PV) (M' : Mem), Ex G G' → RH c G' H' M' → RP c G' v p → P p M' → Q v H'
def ttOf (c : Ct) (f : FT) : TT := fun σ H Q => ∃ G ρ M P, RH c G H M ∧ RE c G σ ρ ∧ f ρ M P ∧ ∀ (b : Bool) (H' : Hp) (G' : GH) (M' : Mem), Ex G G' → RH c G' H' M' → P b M' → Q b H'
section
variable {X : Cx} {S : List Str} {T : Nat → Addr} {c : Ct} {a b e : Expr} {es : List Expr} {fa fb fe : FE} {pos : Pos} {n : Nat} {ga : FT}
theorem le_of : LE c (teOf c fe) fe := fun G σ H ρ M P Q hh re hf k => ⟨G, ρ, M, P, hh, re, hf, k⟩
theorem lt_of : LT c (ttOf c ga) ga := fun G σ H ρ M P Q hh re hf k => ⟨G, ρ, M, P, hh, re, hf, k⟩
theorem QE.pe (h : QE X S T e fe) : PE X e (teOf (ct X S T) fe) := by
  obtain ⟨t, p, l⟩ := h
  refine ⟨fun pins s σ H Q I hq => ?_⟩
  obtain ⟨G, ρ, M, P, hh, re, hf, k⟩ := hq
  exact p.run pins s σ H Q I (l G σ H ρ M P Q hh re hf k)
theorem QT.pt (h : QT X S T e ga) : PT X e (ttOf (ct X S T) ga) := by
  obtain ⟨t, p, l⟩ := h
  refine ⟨fun pins s σ H Q I hq => ?_⟩
  obtain ⟨G, ρ, M, P, hh, re, hf, k⟩ := hq
  exact p.run pins s σ H Q I (l G σ H ρ M P Q hh re hf k)

/-! ### targets -/
noncomputable def gN (i : Nat) : FG := fun p ρ M N => N (setN ρ i (some p)) M
theorem lg_name {i : Nat} : LG c (gName i) (gN i) := fun G σ H ρ M v p P Q hh re r hf k => by
  unfold gN at hf
  rw [setN_eq] at hf
  exact k G _ H _ M (Ex.refl G) hh (re.set i r) hf
def gsNil : FGs := fun ps ρ M N => match ps with
  | [] => N ρ M
  | _ => False
def gsCons (g : FG) (gs : FGs) : FGs := fun ps ρ M N => match ps with
  | p :: r => g p ρ M fun ρ' M' => gs r ρ' M' N
  | [] => False
theorem lgs_nil : LGs c 0 gNil gsNil := fun G σ H ρ M vs ps P Q hh re r hf k => by
  cases r with
  | nil => exact ⟨rfl, rfl, k G σ H ρ M (Ex.refl G) hh re hf⟩
  | cons _ _ => exact hf.elim
/-- the shape alone: what the targets take has n items -/
def GsLen (n : Nat) (fg : FGs) : Prop := ∀ ps ρ M N, fg ps ρ M N → ps.length = n
theorem gsLen_nil : GsLen 0 gsNil := fun ps ρ M N h => by
  cases ps with
  | nil => rfl
  | cons _ _ => exact h.elim
structure LGs' (c : Ct) (n : Nat) (g : TGs) (fg : FGs) : Prop where
  run : ∀ (G : GH) (σ : St) (H : Hp) (ρ : FEnv) (M : Mem) (vs : List V) (ps : List PV) (P : FEnv → Mem → Prop) (Q : St → Hp → Prop), RH c G H M → RE c G σ ρ → RPs c G vs ps → vs.length = n → fg ps ρ M P →
    (∀ (G' : GH) (σ' : St) (H' : Hp) (ρ' : FEnv) (M' : Mem), Ex G G' → RH c G' H' M' → RE c G' σ' ρ' → P ρ' M' → Q σ' H') → g vs σ H Q
theorem lgs'_nil : LGs' c 0 gNil gsNil := ⟨fun G σ H ρ M vs ps P Q hh re r hl hf k => by
  cases r with
  | nil => exact ⟨rfl, k G σ H ρ M (Ex.refl G) hh re hf⟩
  | cons _ _ => exact hf.elim⟩
theorem lgs'_cons {g : TG} {fg : FG} {gs : TGs} {fgs : FGs} (h : LG c g fg) (hs : LGs' c n gs fgs) : LGs' c (n + 1) (gCons g gs) (gsCons fg fgs) := ⟨fun G σ H ρ M vs ps P Q hh re r hl hf k => by
  cases r with
  | nil => exact hf.elim
  | cons r1 r2 =>
    rename_i v vs p ps
    have hl' : vs.length = n := by rw [List.length_cons] at hl; omega
    exact ⟨v, vs, rfl, h G σ H ρ M v p _ _ hh re r1 hf fun G1 σ1 H1 ρ1 M1 e1 h1 re1 q1 => hs.run G1 σ1 H1 ρ1 M1 vs ps P Q h1 re1 (r2.mono e1) hl' q1 fun G2 σ2 H2 ρ2 M2 e2 => k G2 σ2 H2 ρ2 M2 (e1.trans e2)⟩⟩
/-- (a, b, ..) = a tuple of that length -/
noncomputable def gT (n : Nat) (gs : FGs) : FG := fun p ρ M N => match p with
  | .tup ps => ps.length = n ∧ gs ps ρ M N
  | _ => False
theorem lg_tup {gs : TGs} {fgs : FGs} (h : LGs' c n gs fgs) : LG c (gTup c.K n gs) (gT n fgs) := fun G σ H ρ M v p P Q hh re r hf k => by
  cases r <;> first | exact hf.elim | skip
  rename_i hs hl r'
  exact ⟨_, _, rfl, ex_t hh.ex hs, by rw [r'.length]; exact hf.1, h.run G σ H ρ M _ _ P Q hh re r' (by rw [r'.length]; exact hf.1) hf.2 k⟩
def QGs' (X : Cx) (S : List Str) (T : Nat → Addr) (es : List Expr) (n : Nat) (f : FGs) : Prop := ∃ t, PGs X es t ∧ LGs' (ct X S T) n t f
theorem qg_name {i : Nat} {x : Str} (hN : X.N.Nodup) (hi : X.N[i]? = some x := by rfl) (hx : Loc X.env.scope x := by first | exact Or.inl rfl | exact Or.inr rfl) (hf : X.fn x = true ∨ X.env.scope.names.lookup x = some .local := by first | exact .inl rfl | exact .inr rfl) : QG X S T (.Name x pos) (gN i) := ⟨_, pg_name hN hi hx hf, lg_name⟩
theorem qgs_nil : QGs' X S T [] 0 gsNil := ⟨_, pgs_nil, lgs'_nil⟩
theorem qgs_cons {fg : FG} {fgs : FGs} (h : QG X S T e fg) (hs : QGs' X S T es n fgs) (he : (assignEach (e :: es) X.env).map (·.2) = assign e X.env :: (assignEach es X.env).map (·.2) := by rfl) : QGs' X S T (e :: es) (n + 1) (gsCons fg fgs) :=
  let ⟨_, p, l⟩ := h; let ⟨_, p2, l2⟩ := hs; ⟨_, pgs_cons p p2 he, lgs'_cons l l2⟩
theorem qg_tup {k : Nat} {fgs : FGs} (h : QGs' X S T es n fgs) (hc : X.calm = true := by rfl) (hn : (assignEach es X.env).length = n := by rfl) (hst : (assignEach es X.env).findIdx? (·.1) = none := by rfl) : QG X S T (.Tuple es k pos) (gT n fgs) :=
  let ⟨_, p, l⟩ := h; ⟨_, pg_tup hc p hn hst, lg_tup l⟩

/-! ### statements -/
variable {st : Stmt} {rest : List Stmt} {fs gs : FS}
noncomputable def sNext : FS := fun D ρ M => D.nx ρ M
noncomputable def sSeq (f g : FS) : FS := fun D ρ M => f { D with nx := fun ρ' M' => g D ρ' M' } ρ M
theorem ls_seq {t u : TS} (h : LS c t fs) (h2 : LS c u gs) : LS c (tSeq t u) (sSeq fs gs) := fun G σ H ρ M D3 D hh re hf k =>
  h G σ H ρ M _ _ hh re hf ⟨fun G' σ' H' ρ' M' e h' re' q => h2 G' σ' H' ρ' M' D3 D h' re' q (k.mono e), k.bk, k.ct, k.rt⟩
theorem qss_nil : QSs X S T [] sNext := ⟨_, pss_nil, fun G σ H ρ M D3 D hh re hf k => k.nx G σ H ρ M (Ex.refl G) hh re hf⟩
theorem qss_cons (h : QS X S T st fs) (h2 : QSs X S T rest gs) : QSs X S T (st :: rest) (sSeq fs gs) := let ⟨_, p, l⟩ := h; let ⟨_, p2, l2⟩ := h2; ⟨_, pss_cons p p2, ls_seq l l2⟩
theorem qss_one (h : QS X S T st fs) : QSs X S T [st] fs := let ⟨_, p, l⟩ := h; ⟨_, pss_one p, l⟩
theorem qs_pass : QS X S T (.Pass pos) sNext := ⟨_, ps_pass, fun G σ H ρ M D3 D hh re hf k => k.nx G σ H ρ M (Ex.refl G) hh re hf⟩
noncomputable def sBrk : FS := fun D ρ M => D.bk ρ M
noncomputable def sCt : FS := fun D ρ M => D.ct ρ M
theorem qs_break : QS X S T (.Break pos) sBrk := ⟨_, ps_break, fun G σ H ρ M D3 D hh re hf k => k.bk G σ H ρ M (Ex.refl G) hh re hf⟩
theorem qs_continue : QS X S T (.Continue pos) sCt := ⟨_, ps_continue, fun G σ H ρ M D3 D hh re hf k => k.ct G σ H ρ M (Ex.refl G) hh re hf⟩
noncomputable def sDrop (f : FE) : FS := fun D ρ M => f ρ M fun _ M' => D.nx ρ M'
theorem qs_expr (h : QE X S T e fe) (hs : swapsWith e none pos.line X.env = pure false := by rfl) : QS X S T (.Expr e pos) (sDrop fe) :=
  let ⟨_, p, l⟩ := h; ⟨_, ps_expr p hs, fun G σ H ρ M D3 D hh re hf k => l G σ H ρ M _ _ hh re hf fun v H' G' p' M' e' h' r' q => k.nx G' σ H' ρ M' e' h' (re.mono e') q⟩
noncomputable def sRet (f : FE) : FS := fun D ρ M => f ρ M D.rt
theorem qs_ret (h : QE X S T e fe) : QS X S T (.Return (some e) pos) (sRet fe) :=
  let ⟨_, p, l⟩ := h; ⟨_, ps_ret p, fun G σ H ρ M D3 D hh re hf k => l G σ H ρ M _ _ hh re hf fun v H' G' p' M' e' h' r' q => k.rt G' v H' p' M' e' h' r' q⟩
noncomputable def sRetN : FS := fun D _ M => D.rt .none M
theorem qs_retN : QS X S T (.Return none pos) sRetN := ⟨_, ps_retN, fun G σ H ρ M D3 D hh re hf k => k.rt G .non H .none M (Ex.refl G) hh .none hf⟩
noncomputable def sIf (t : FT) (f g : FS) : FS := fun D ρ M => t ρ M fun b M' => cnd b (f D ρ M') (g D ρ M')
theorem qs_if {x y : List Stmt} (ht : QT X S T e ga) (h : QSs X S T x fs) (h2 : QSs X S T y gs) : QS X S T (.If e x y pos) (sIf ga fs gs) := by
  obtain ⟨_, p, l⟩ := ht
  obtain ⟨_, p1, l1⟩ := h
  obtain ⟨_, p2, l2⟩ := h2
  refine ⟨_, ps_if p p1 p2, fun G σ H ρ M D3 D hh re hf k => l G σ H ρ M _ _ hh re hf fun d H1 G1 M1 e1 h1 q1 => ?_⟩
  cases d with
  | true =>
    rw [if_pos rfl]
    exact l1 G1 σ H1 ρ M1 D3 D h1 (re.mono e1) (q1.1 rfl) (k.mono e1)
  | false =>
    rw [if_neg Bool.false_ne_true]
    exact l2 G1 σ H1 ρ M1 D3 D h1 (re.mono e1) (q1.2 rfl) (k.mono e1)
/-- code that is never reached -/
noncomputable def sNever : FS := fun _ _ _ => False
theorem qs_never : QS X S T st sNever := ⟨_, ps_never, fun G σ H ρ M D3 D hh re hf k => hf.elim⟩
theorem qss_never : QSs X S T rest sNever := ⟨_, pss_never, fun G σ H ρ M D3 D hh re hf k => hf.elim⟩
noncomputable def sAsg (f : FE) (g : FG) : FS := fun D ρ M => f ρ M fun p M' => g p ρ M' D.nx
theorem ls_asg {te : TE} {g : TG} {fg : FG} (h : LE c te fe) (hg : LG c g fg) : LS c (tAsg te g) (sAsg fe fg) := fun G σ H ρ M D3 D hh re hf k =>
  h G σ H ρ M _ _ hh re hf fun v H' G' p M' e h' r q => hg G' σ H' ρ M' v p _ _ h' (re.mono e) r q fun G2 σ2 H2 ρ2 M2 e2 h2 re2 q2 => k.nx G2 σ2 H2 ρ2 M2 (e.trans e2) h2 re2 q2
theorem qs_set (i : Nat) {x : Str} {p' : Pos} (hN : X.N.Nodup) (h : QE X S T e fe) (hi : X.N[i]? = some x := by rfl) (hx : Loc X.env.scope x := by first | exact Or.inl rfl | exact Or.inr rfl) (hs : swapsWith e (some (.Name x p')) pos.line X.env = pure false := by rfl)
    (hf : X.fn x = true ∨ X.env.scope.names.lookup x = some .local := by first | exact .inl rfl | exact .inr rfl) : QS X S T (.Assign [.Name x p'] e pos) (sAsg fe (gN i)) := let ⟨_, p, l⟩ := h; ⟨_, ps_set hN hi hx p hs hf, ls_asg l lg_name⟩
theorem qs_asg {tg : Expr} {fg : FG} (h : QE X S T e fe) (hg : QG X S T tg fg) (hs : swapsWithSole [tg] e pos.line X.env = pure false := by rfl) (hw : swappedStores [tg] e X.env = pure none := by rfl) (h1 : (assignEach [tg] X.env).map (·.2) = [assign tg X.env] := by rfl) :
    QS X S T (.Assign [tg] e pos) (sAsg fe fg) := let ⟨_, p, l⟩ := h; let ⟨_, p2, l2⟩ := hg; ⟨_, ps_asg p p2 hs hw h1, ls_asg l l2⟩
/-- a, b = x, y -/
noncomputable def sPar (i j : Nat) (f : FA) : FS := fun D ρ M => f ρ M fun ps M' => match ps with
  | [p, q] => D.nx (setN (setN ρ i (some p)) j (some q)) M'
  | _ => False
theorem qs_par {i j : Nat} {x y : Str} {f : FA} {px py pt : Pos} {kt k2 pt2} (hN : X.N.Nodup) (ha : QA X S T [a, b] 2 f) (hi : X.N[i]? = some x := by rfl) (hj : X.N[j]? = some y := by rfl) (hij : i ≠ j := by decide) (hc : X.calm = true := by rfl)
    (hx : X.env.scope.names.lookup x = some .local := by rfl) (hy : X.env.scope.names.lookup y = some .local := by rfl)
    (hw : swappedStores [.Tuple [.Name x px, .Name y py] kt pt] (.Tuple [a, b] k2 pt2) X.env = pure (some [x, y]) := by rfl)
    (hs : swapsWithSole [.Tuple [.Name x px, .Name y py] kt pt] (.Tuple [a, b] k2 pt2) pos.line X.env = pure false := by rfl) :
    QS X S T (.Assign [.Tuple [.Name x px, .Name y py] kt pt] (.Tuple [a, b] k2 pt2) pos) (sPar i j f) := by
  obtain ⟨_, p, l⟩ := ha
  refine ⟨_, ps_par hc hN hi hj hij hx hy p hw hs, fun G σ H ρ M D3 D hh re hf k => l G σ H ρ M _ _ hh re hf fun vs H1 G1 ps M1 e1 h1 r1 l1 q1 => ?_⟩
  match ps, q1 with
  | [p, q], q1 =>
    obtain ⟨v, v', rfl, r, r'⟩ := rps2 r1
    refine ⟨v, v', rfl, ?_⟩
    have q2 : D3.nx (setN (setN ρ i (some p)) j (some q)) M1 := q1
    rw [setN_eq, setN_eq] at q2
    exact k.nx G1 _ H1 _ M1 e1 h1 (((re.mono e1).set i r).set j r') q2
/-- name op= e -/
def LIp (c : Ct) (t : TIp) (f : F2) : Prop := ∀ (G : GH) (H : Hp) (M : Mem) (x y : V) (p q : PV) (P : FK) (Q : VK), RH c G H M → RP c G x p → RP c G y q → f p q M P →
  (∀ (v : V) (H' : Hp) (G' : GH) (p' : PV) (M' : Mem), Ex G G' → RH c G' H' M' → RP c G' v p' → P p' M' → Q v H') → t x y H Q
noncomputable def sAug (i : Nat) (fe : FE) (f : F2) : FS := fun D ρ M => match nth ρ i with
  | some (some p) => fe ρ M fun q M1 => f p q M1 fun z M2 => D.nx (setN ρ i (some z)) M2
  | _ => False
theorem lip_i {f : Int → Int → Int} : LIp c (ipI f) (i2 fun i j => .int (f i j)) := fun G H M x y p q P Q h rx ry hf k => by
  cases rx <;> cases ry <;> first | exact hf.elim | exact ⟨_, _, rfl, rfl, k _ H G _ M (Ex.refl G) h (.int _) hf⟩
theorem qs_aug (i : Nat) {x : Str} {op : Operator} {ti : TIp} {f : F2} {p' : Pos} (hN : X.N.Nodup) (ho : PIp X op ti) (hl : LIp (ct X S T) ti f) (h : QE X S T e fe) (hi : X.N[i]? = some x := by rfl) (hx : Loc X.env.scope x := by first | exact Or.inl rfl | exact Or.inr rfl)
    (hf : X.fn x = true ∨ X.env.scope.names.lookup x = some .local := by first | exact .inl rfl | exact .inr rfl) : QS X S T (.AugAssign (.Name x p') op e pos) (sAug i fe f) := by
  obtain ⟨_, p, l⟩ := h
  refine ⟨_, ps_aug hN hi hx p ho hf, fun G σ H ρ M D3 D hh re hq k => ?_⟩
  unfold sAug at hq
  cases e : nth ρ i with
  | none => rw [e] at hq; exact hq.elim
  | some o =>
    cases o with
    | none => rw [e] at hq; exact hq.elim
    | some p0 =>
      rw [e] at hq
      rw [nth_eq] at e
      obtain ⟨v, h1, h2⟩ := re.at_ i p0 e
      refine ⟨v, h1, l G σ H ρ M _ _ hh re hq fun v1 H1 G1 p1 M1 e1 hh1 r1 q1 => hl G1 H1 M1 v v1 p0 p1 _ _ hh1 (h2.mono e1) r1 q1 fun v2 H2 G2 p2 M2 e2 hh2 r2 q2 => ?_⟩
      rw [setN_eq] at q2
      exact k.nx G2 _ H2 _ M2 (e1.trans e2) hh2 ((re.mono (e1.trans e2)).set i r2) q2

/-! ### loops -/
/-- the walked items, while the guard stands -/
abbrev FI := FEnv → Mem → (List PV → (Mem → Prop) → Mem → Prop) → Prop
structure ItOk (c : Ct) (J : It) (G0 : GH) (xs : List PV) (g : Mem → Prop) : Prop where
  go : ∀ (G : GH) (H : Hp) (M : Mem) (i : Nat), EH G0.z G.z → RH c G H M → g M → i < xs.length → J.go i H
  yld : ∀ (G : GH) (H : Hp) (M : Mem) (i : Nat) (p : PV) (x : V) (H' : Hp), EH G0.z G.z → RH c G H M → g M → xs[i]? = some p → J.yld i H x H' → ∃ G', Ex G G' ∧ RH c G' H' M ∧ RP c G' x p
  stop : ∀ (G : GH) (H : Hp) (M : Mem), EH G0.z G.z → RH c G H M → g M → J.stop xs.length H
def LI (c : Ct) (wi : TI) (fi : FI) : Prop := ∀ (G : GH) (σ : St) (H : Hp) (ρ : FEnv) (M : Mem) (P : List PV → (Mem → Prop) → Mem → Prop) (R : It → Hp → Prop), RH c G H M → RE c G σ ρ → fi ρ M P →
  (∀ (J : It) (G' : GH) (H' : Hp) (M' : Mem) (xs : List PV) (g : Mem → Prop), Ex G G' → RH c G' H' M' → ItOk c J G' xs g → xs.length ≤ sizeLine → P xs g M' → R J H') → wi σ H R
def QI (X : Cx) (S : List Str) (T : Nat → Addr) (tg e : Expr) (f : FI) : Prop := ∃ t, PI X tg e t ∧ LI (ct X S T) t f
noncomputable def loopL (g : FG) (fb : FS) (D : FEnds) (gd : Mem → Prop) : List PV → FEnv → Mem → Prop
  | [], ρ, M => gd M ∧ D.nx ρ M
  | x :: r, ρ, M => gd M ∧ g x ρ M fun ρ' M' => fb { nx := fun ρ'' M'' => loopL g fb D gd r ρ'' M'', rt := D.rt, bk := D.nx, ct := fun ρ'' M'' => loopL g fb D gd r ρ'' M'' } ρ' M'
noncomputable def sFor (fi : FI) (g : FG) (fb : FS) : FS := fun D ρ M => fi ρ M fun xs gd M1 => loopL g fb D gd xs ρ M1
theorem ls_for {wi : TI} {fi : FI} {g : TG} {fg : FG} {tb : TS} {fb : FS} (hi : LI c wi fi) (hg : LG c g fg) (hb : LS c tb fb) : LS c (tFor wi g tb) (sFor fi fg fb) := fun G σ H ρ M D3 D hh re hf k =>
  hi G σ H ρ M _ _ hh re hf fun J G1 H1 M1 xs gd e1 h1 ok hlen q1 => by
    refine ⟨fun i m σ' H' => ∃ G' ρ' M', Ex G1 G' ∧ RH c G' H' M' ∧ RE c G' σ' ρ' ∧ i ≤ xs.length ∧ m = xs.length - i ∧ loopL fg fb D3 gd (xs.drop i) ρ' M', ⟨xs.length, G1, ρ, M1, Ex.refl _, h1, re.mono e1, Nat.zero_le _, rfl, q1⟩, ?_⟩
    rintro i m σ2 H2 ⟨G2, ρ2, M2, e2, h2, re2, hi2, rfl, q2⟩
    by_cases hlt : i < xs.length
    · have ed : xs.drop i = xs[i] :: xs.drop (i + 1) := List.drop_eq_getElem_cons hlt
      rw [ed] at q2
      obtain ⟨g2, q2⟩ := q2
      refine Or.inr ⟨ok.go G2 H2 M2 i e2.1 h2 g2 hlt, fun σ' H' => ∃ G' ρ' M', Ex G1 G' ∧ RH c G' H' M' ∧ RE c G' σ' ρ' ∧ loopL fg fb D3 gd (xs.drop (i + 1)) ρ' M', ?_, ?_⟩
      · rintro σ' H' ⟨G', ρ', M', e', h', re', q'⟩
        exact ⟨xs.length - (i + 1), by omega, G', ρ', M', e', h', re', hlt, rfl, q'⟩
      · intro x H' hy
        obtain ⟨G3, e3, h3, r3⟩ := ok.yld G2 H2 M2 i xs[i] x H' e2.1 h2 g2 (List.getElem?_eq_getElem hlt) hy
        refine hg G3 σ2 H' ρ2 M2 x xs[i] _ _ h3 (re2.mono e3) r3 q2 fun G4 σ4 H4 ρ4 M4 e4 h4 re4 q4 => ?_
        have e14 : Ex G1 G4 := (e2.trans e3).trans e4
        refine hb G4 σ4 H4 ρ4 M4 _ _ h4 re4 q4 ⟨fun G5 σ5 H5 ρ5 M5 e5 h5 re5 q5 => ⟨G5, ρ5, M5, e14.trans e5, h5, re5, q5⟩, fun G5 σ5 H5 ρ5 M5 e5 h5 re5 q5 => k.nx G5 σ5 H5 ρ5 M5 ((e1.trans e14).trans e5) h5 re5 q5,
          fun G5 σ5 H5 ρ5 M5 e5 h5 re5 q5 => ⟨G5, ρ5, M5, e14.trans e5, h5, re5, q5⟩, fun G5 v5 H5 p5 M5 e5 h5 r5 q5 => k.rt G5 v5 H5 p5 M5 ((e1.trans e14).trans e5) h5 r5 q5⟩
    · have ei : i = xs.length := by omega
      subst ei
      rw [List.drop_length] at q2
      exact Or.inl ⟨ok.stop G2 H2 M2 e2.1 h2 q2.1, k.nx G2 σ2 H2 ρ2 M2 (e1.trans e2) h2 re2 q2.2⟩
theorem qs_for {tg iter : Expr} {body : List Stmt} {fi : FI} {fg : FG} {fb : FS} (hi : QI X S T tg iter fi) (hg : QG X S T tg fg) (hb : QSs X S T body fb) (hp : PassesOwn (model X.prog X.w) X.A X.env X.xe := by exact PassesOwn.never) (hc : X.calm = true := by rfl)
    (hs : ∀ x, foldedSetIterable iter X.env x = pure x := by intro _; rfl) : QS X S T (.For tg iter body [] pos) (sFor fi fg fb) :=
  let ⟨_, p, l⟩ := hi; let ⟨_, p1, l1⟩ := hg; let ⟨_, p2, l2⟩ := hb; ⟨_, ps_for hp hc p p1 p2 hs, ls_for l l1 l2⟩

/-! what is walked -/
def noG : Mem → Prop := fun _ => True
/-- a list, a tuple -/
noncomputable def iSeq (f : FE) : FI := fun ρ M P => f ρ M fun x M1 => match x with
  | .tup xs => P xs noG M1
  | .lst xs => P xs noG M1
  | .ro xs => P xs noG M1
  | .obj p => rdL M1 p fun xs => P xs (fun M' => M' p = some (.lst xs)) M1
  | _ => False
theorem sql_inj {X : Cx} {pins : List (Addr × Obj)} {σ : St} {H : Hp} {s : Shared} {a : Addr} {xs ys : List V} (I : Inv X pins σ H s) (h : SqL X.K H a xs) (h' : SqL X.K H a ys) : xs = ys := I.list_inj h h'
/-- walking what stands as a list (L2): the list's items while they are read as such -/
theorem itok_l {G0 : GH} {a : Addr} {vs : List V} {ps : List PV} {g : Mem → Prop} (r : RPs c G0 vs ps) (hs : ∀ (G : GH) (H : Hp) (M : Mem), EH G0.z G.z → RH c G H M → g M → ∃ us, SqL c.K H a us ∧ RPs c G us ps) : ItOk c (Itl c.K a) G0 ps g where
  go := fun G H M i e h gm hi => by
    obtain ⟨us, q, r'⟩ := hs G H M e h gm
    obtain ⟨v, hv, _⟩ := r'.get (List.getElem?_eq_getElem hi)
    exact ⟨us, v, q, hv⟩
  yld := fun G H M i p x H' e h gm hp hy => by
    obtain ⟨us, q, r'⟩ := hs G H M e h gm
    obtain ⟨rfl, hx⟩ := hy
    obtain ⟨v, hv, rv⟩ := r'.get hp
    have ev := hx us q
    rw [hv] at ev
    cases ev
    exact ⟨G, Ex.refl G, h, rv⟩
  stop := fun G H M e h gm => by
    obtain ⟨us, q, r'⟩ := hs G H M e h gm
    exact ⟨us, q, by rw [r'.length]; exact Nat.le_refl _⟩
theorem itok_t {G0 : GH} {a : Addr} {vs : List V} {ps : List PV} (r : RPs c G0 vs ps) (h0 : SqT c.K G0.z a vs) : ItOk c (Itt c.K a) G0 ps noG where
  go := fun G H M i e h gm hi => by
    obtain ⟨v, hv, _⟩ := r.get (List.getElem?_eq_getElem hi)
    exact ⟨vs, v, ex_t h.ex (ex_t e h0), hv⟩
  yld := fun G H M i p x H' e h gm hp hy => by
    obtain ⟨rfl, hx⟩ := hy
    obtain ⟨v, hv, rv⟩ := r.get hp
    have ev := hx vs (ex_t h.ex (ex_t e h0))
    rw [hv] at ev
    cases ev
    exact ⟨G, Ex.refl G, h, rv.monoZ e⟩
  stop := fun G H M e h gm => ⟨vs, ex_t h.ex (ex_t e h0), by rw [r.length]; exact Nat.le_refl _⟩
def iOr (w u : TI) : TI := fun σ H R => w σ H R ∨ u σ H R
theorem pi_or {tg iter : Expr} {w u : TI} (h1 : PI X tg iter w) (h2 : PI X tg iter u) : PI X tg iter (iOr w u) := ⟨fun pins s σ H R I q => q.elim (fun z => h1.run pins s σ H R I z) fun z => h2.run pins s σ H R I z⟩
def seqI (K : PySem.W.Frag) (x : V) (H1 : Hp) (R : It → Hp → Prop) : Prop := ∃ a, x = .ref a ∧ (((∃ xs, SqL K H1 a xs) ∧ R (Itl K a) H1) ∨ ((∃ xs, SqT K H1 a xs) ∧ R (Itt K a) H1))
/-- a list or a tuple, by its value -/
def iSeqT (K : PySem.W.Frag) (tl : TE) : TI := fun σ H R => tl σ H fun x H1 => seqI K x H1 R
/-- an iterator that was just made stands alone -/
theorem fp_new {pins : List (Addr × Obj)} {σ : St} {H1 : Hp} {s1 : Shared} (I1 : Inv X pins σ H1 s1) : ∀ b ∈ [s1.heap.objs.size], FpOk X pins H1 b := by
  intro b hb
  rw [List.mem_singleton] at hb
  rw [hb]
  exact I1.fpOk (Nat.le_refl _) (I1.hok.fresh (Nat.le_refl _))
theorem pi_seq {tg l : Expr} {tl : TE} (hl : PE X l tl) : PI X tg l (iSeqT X.K tl) := by
  constructor
  intro pins s σ H R I h
  refine thn (hl.run pins s σ H _ I h) ?_
  rintro v s1 ⟨x, H1, I1, r1, a, ea, q⟩
  rw [ea] at r1
  cases r1
  rcases q with ⟨⟨xs, hq⟩, q⟩ | ⟨⟨xs, hq⟩, q⟩
  · obtain ⟨its, _, pl, _⟩ := I1.list hq
    refine wpAny_pyIter_list pl.isList
      ⟨_, [s1.heap.objs.size], _, Itl X.K a, H1, rfl,
        I1.kept (t' := s1.toks) (fun b o eb => Heap.get?_push_of_some _ eb),
        turn_list a _, ⟨_, Heap.get?_push_size _ rfl, rfl, rfl⟩, fp_new I1, q⟩
  · obtain ⟨its, _, pl, _⟩ := I1.tuple hq
    refine wpAny_pyIter_tuple (items := its.toArray) pl
      ⟨_, [s1.heap.objs.size], _, Itt X.K a, H1, rfl,
        I1.kept (t' := s1.toks) (fun b o eb => Heap.get?_push_of_some _ eb),
        turn_tuple a _, ⟨_, Heap.get?_push_size _ rfl, rfl, rfl⟩, fp_new I1, q⟩
theorem li_seq {te : TE} (h : LE c te fe) : LI c (iSeqT c.K te) (iSeq fe) := fun G σ H ρ M P R hh re hf k =>
  h G σ H ρ M _ _ hh re hf fun v H1 G1 p M1 e1 h1 r1 q1 => by
    cases r1 with
    | none => exact q1.elim
    | bool _ => exact q1.elim
    | int _ => exact q1.elim
    | w _ => exact q1.elim
    | tup hs hl r => exact ⟨_, rfl, .inr ⟨⟨_, ex_t h1.ex hs⟩, k _ G1 H1 M1 _ noG e1 h1 (itok_t r hs) (by rw [← r.length]; exact hl) q1⟩⟩
    | lst hs hl r => exact ⟨_, rfl, .inl ⟨⟨_, SqL.of (h1.ex _ _ hs)⟩, k _ G1 H1 M1 _ noG e1 h1 (itok_l r fun G2 H2 M2 e2 h2 _ => ⟨_, SqL.of (h2.ex _ _ (e2 _ _ hs)), r.monoZ e2⟩) (by rw [← r.length]; exact hl) q1⟩⟩
    | ro hs hl r => exact ⟨_, rfl, .inl ⟨⟨_, ex_l h1.ex hs⟩, k _ G1 H1 M1 _ noG e1 h1 (itok_l r fun G2 H2 M2 e2 h2 _ => ⟨_, ex_l h2.ex (ex_l e2 hs), r.monoZ e2⟩) (by rw [← r.length]; exact hl) q1⟩⟩
    | obj a =>
      obtain ⟨xs, em, q⟩ := q1
      obtain ⟨_, o, ho, ro⟩ := h1.mem a _ em
      cases ro with
      | lst hl r =>
        refine ⟨_, rfl, .inl ⟨⟨_, SqL.of ho⟩, k _ G1 H1 M1 _ _ e1 h1 (itok_l r fun G2 H2 M2 e2 h2 gm => ?_) (by rw [← r.length]; exact hl) q⟩⟩
        obtain ⟨_, o2, ho2, ro2⟩ := h2.mem a _ gm
        cases ro2 with
        | lst hl2 r2 => exact ⟨_, SqL.of ho2, r2⟩
theorem qi_seq {tg : Expr} (h : QE X S T e fe) : QI X S T tg e (iSeq fe) := let ⟨_, p, l⟩ := h; ⟨_, pi_seq p, li_seq l⟩
/-- range(j), range(i, j) -/
def rangeP (lo : Int) (n : Nat) : List PV := (List.range n).map fun k => .int (lo + (k : Nat))
theorem itok_r {G0 : GH} {lo : Int} {n : Nat} : ItOk c (Itr lo n) G0 (rangeP lo n) noG where
  go := fun G H M i e h gm hi => by
    unfold rangeP at hi
    rw [List.length_map, List.length_range] at hi
    exact hi
  yld := fun G H M i p x H' e h gm hp hy => by
    obtain ⟨rfl, rfl⟩ := hy
    unfold rangeP at hp
    rw [List.getElem?_map] at hp
    cases e2 : (List.range n)[i]? with
    | none => rw [e2] at hp; cases hp
    | some k =>
      rw [e2] at hp
      have ek : i = k := by
        obtain ⟨hl, ek⟩ := List.getElem?_eq_some_iff.mp e2
        rw [List.getElem_range] at ek
        exact ek
      cases hp
      rw [← ek]
      exact ⟨G, Ex.refl G, h, .int _⟩
  stop := fun G H M e h gm => by
    show n ≤ (rangeP lo n).length
    unfold rangeP
    rw [List.length_map, List.length_range]
    exact Nat.le_refl _
noncomputable def iR1 (f : FA) : FI := fun ρ M P => f ρ M fun xs M1 => match xs with
  | [.int j] => (-1000000 ≤ j ∧ j ≤ 1000000) ∧ P (rangeP 0 j.toNat) noG M1
  | _ => False
noncomputable def iR2 (f : FA) : FI := fun ρ M P => f ρ M fun xs M1 => match xs with
  | [.int i, .int j] => (-1000000 ≤ i ∧ i ≤ 1000000 ∧ -1000000 ≤ j ∧ j ≤ 1000000) ∧ P (rangeP i (j - i).toNat) noG M1
  | _ => False
theorem range_len (lo : Int) (n : Nat) : (rangeP lo n).length = n := by
  unfold rangeP
  rw [List.length_map, List.length_range]
theorem qi_range1 {tg : Expr} {f : FA} {p : Pos} (hm : X.mg "range" = none) (ha : QA X S T [a] n f) (hg : Gl X "range" := by rfl) (hs : starEach [a] X.env = [(false, eval a X.env)] := by rfl) : QI X S T tg (.Call (.Name "range" p) [a] [] pos) (iR1 f) := by
  obtain ⟨_, q, l⟩ := ha
  refine ⟨_, pi_range1 hg hm q hs, fun G σ H ρ M P R hh re hf k => l G σ H ρ M _ _ hh re hf fun vs H1 G1 ps M1 e1 h1 r1 l1 q1 => ?_⟩
  match ps, q1 with
  | [.int j], q1 =>
    obtain ⟨v, rfl, h⟩ := rps1 r1
    cases h
    obtain ⟨⟨b1, b2⟩, q1⟩ := q1
    refine ⟨j, rfl, by omega, by omega, k _ G1 H1 M1 _ noG e1 h1 itok_r ?_ q1⟩
    rw [range_len]
    exact Nat.le_trans (show j.toNat ≤ 1000000 by omega) (by decide)
theorem qi_range2 {tg : Expr} {f : FA} {p : Pos} (hm : X.mg "range" = none) (ha : QA X S T [a, b] n f) (hg : Gl X "range" := by rfl) (hs : starEach [a, b] X.env = [(false, eval a X.env), (false, eval b X.env)] := by rfl) (hs2 : starEach [b] X.env = [(false, eval b X.env)] := by rfl) :
    QI X S T tg (.Call (.Name "range" p) [a, b] [] pos) (iR2 f) := by
  obtain ⟨_, q, l⟩ := ha
  refine ⟨_, pi_range2 hg hm q hs hs2, fun G σ H ρ M P R hh re hf k => l G σ H ρ M _ _ hh re hf fun vs H1 G1 ps M1 e1 h1 r1 l1 q1 => ?_⟩
  match ps, q1 with
  | [.int i, .int j], q1 =>
    obtain ⟨v, v', rfl, h, h'⟩ := rps2 r1
    cases h
    cases h'
    obtain ⟨⟨b1, b2, b3, b4⟩, q1⟩ := q1
    refine ⟨i, j, rfl, ⟨by omega, by omega, by omega, by omega⟩, k _ G1 H1 M1 _ noG e1 h1 itok_r ?_ q1⟩
    rw [range_len]
    exact Nat.le_trans (show (j - i).toNat ≤ 2000000 by omega) (by decide)
end
end L3
/-! L3: comprehensions, lists that change, calls of defs, a def's promise, the end -/
namespace L3
open PySem PySem.Spec PyProof.Rows L2
section
variable {X : Cx} {S : List Str} {T : Nat → Addr} {c : Ct} {a b e : Expr} {es : List Expr} {fa fb fe : FE} {pos : Pos} {n : Nat} {ga : FT}

/-! ### comprehensions -/
noncomputable def wipeP (ρ : FEnv) : List Nat → FEnv
  | [] => ρ
  | v :: vs => setN (wipeP ρ vs) v none
theorem RE.none {G : GH} {σ : St} {ρ : FEnv} (h : RE c G σ ρ) (i : Nat) : RE c G (σ.set i none) (ρ.set i none) := by
  refine ⟨by rw [List.length_set, List.length_set]; exact h.len, fun j q e => ?_⟩
  by_cases hj : i = j
  · subst hj
    have hl : i < (ρ.set i Option.none).length := (List.getElem?_eq_some_iff.mp e).1
    rw [List.length_set] at hl
    rw [List.getElem?_set_self hl] at e
    cases e
  · rw [List.getElem?_set_ne hj] at e ⊢
    exact h.at_ j q e
theorem RE.wipe {G : GH} {σ : St} {ρ : FEnv} (h : RE c G σ ρ) : ∀ vs, RE c G (L2.wipe σ vs) (wipeP ρ vs)
  | [] => h
  | v :: vs => by
    unfold L2.wipe wipeP
    rw [setN_eq]
    exact (RE.wipe h vs).none v
/-- a target stores in the slots vs alone -/
def Ag (vs : List Nat) (σ σ2 : St) : Prop := σ2.length = σ.length ∧ ∀ k, k ∉ vs → σ2[k]? = σ[k]?
theorem Ag.refl (vs : List Nat) (σ : St) : Ag vs σ σ := ⟨rfl, fun _ _ => rfl⟩
theorem Ag.trans {vs : List Nat} {σ σ1 σ2 : St} (a : Ag vs σ σ1) (b : Ag vs σ1 σ2) : Ag vs σ σ2 := ⟨b.1.trans a.1, fun k h => (b.2 k h).trans (a.2 k h)⟩
theorem wipe_out {σ : St} : ∀ {vs : List Nat} {k : Nat}, k ∉ vs → (L2.wipe σ vs)[k]? = σ[k]?
  | [], _, _ => rfl
  | v :: vs, k, h => by
    unfold L2.wipe
    rw [List.getElem?_set_ne (fun z => h (by rw [← z]; exact List.mem_cons_self))]
    exact wipe_out fun z => h (List.mem_cons_of_mem _ z)
theorem wipe_in {σ : St} : ∀ {vs : List Nat} {k : Nat}, k ∈ vs → k < σ.length → (L2.wipe σ vs)[k]? = some none
  | [], _, h, _ => nomatch h
  | v :: vs, k, h, hl => by
    unfold L2.wipe
    by_cases e : v = k
    · subst e
      rw [List.getElem?_set_self (by rw [L2.wipe_length]; exact hl)]
    · rw [List.getElem?_set_ne e]
      exact wipe_in ((List.mem_cons.mp h).resolve_left (Ne.symm e)) hl
theorem Ag.wipe {vs : List Nat} {σ σ2 : St} (h : Ag vs (L2.wipe σ vs) σ2) : L2.wipe σ2 vs = L2.wipe σ vs := by
  refine List.ext_getElem? fun k => ?_
  have hl : σ2.length = σ.length := by rw [h.1, L2.wipe_length]
  by_cases hk : k ∈ vs
  · by_cases hkl : k < σ.length
    · rw [wipe_in hk hkl, wipe_in hk (by rw [hl]; exact hkl)]
    · rw [List.getElem?_eq_none (by rw [L2.wipe_length]; omega), List.getElem?_eq_none (by rw [L2.wipe_length]; omega)]
  · rw [wipe_out hk, h.2 k hk]
def GW (g : TG) (vs : List Nat) : Prop := ∀ x σ H (Q : St → Hp → Prop), g x (L2.wipe σ vs) H Q → g x (L2.wipe σ vs) H fun σ2 H2 => L2.wipe σ2 vs = L2.wipe σ vs ∧ Q σ2 H2
theorem ag_set {vs : List Nat} {σ : St} {i : Nat} {o : Option V} (h : i ∈ vs) : Ag vs σ (σ.set i o) := ⟨by rw [List.length_set], fun k hk => List.getElem?_set_ne (fun z => hk (by rw [← z]; exact h))⟩
theorem gw_name {i : Nat} {vs : List Nat} (h : i ∈ vs := by decide) : GW (gName i) vs := fun x σ H Q q => ⟨(ag_set h).wipe, q⟩
/-- targets that are names, as a list of slots -/
def gNames : List Nat → TGs
  | [] => gNil
  | i :: r => gCons (gName i) (gNames r)
theorem names_ag {vs : List Nat} : ∀ is, (∀ i ∈ is, i ∈ vs) → ∀ xs σ H (Q Q' : St → Hp → Prop), (∀ σ' H', Ag vs σ σ' → Q σ' H' → Q' σ' H') → gNames is xs σ H Q → gNames is xs σ H Q'
  | [], _ => fun xs σ H Q Q' m h => ⟨h.1, m _ _ (Ag.refl _ _) h.2⟩
  | i :: r, hi => fun xs σ H Q Q' m h => by
    obtain ⟨v, t, e, q⟩ := h
    exact ⟨v, t, e, names_ag r (fun j hj => hi j (List.mem_cons_of_mem _ hj)) t _ _ _ _ (fun σ' H' ag => m σ' H' (Ag.trans (ag_set (hi i List.mem_cons_self)) ag)) q⟩
theorem gw_tup {K : PySem.W.Frag} {k : Nat} {is vs : List Nat} (h : ∀ i ∈ is, i ∈ vs := by decide) : GW (gTup K k (gNames is)) vs := fun x σ H Q q => by
  obtain ⟨a, xs, e, s, l, q⟩ := q
  exact ⟨a, xs, e, s, l, names_ag is h xs _ H _ _ (fun σ' H' ag z => ⟨ag.wipe, z⟩) q⟩
def gsNames : List Nat → FGs
  | [] => gsNil
  | i :: r => gsCons (gN i) (gsNames r)
theorem lgs'_names : ∀ is, LGs' c is.length (gNames is) (gsNames is)
  | [] => lgs'_nil
  | _ :: r => lgs'_cons lg_name (lgs'_names r)
theorem lg_names {is : List Nat} : LG c (gTup c.K is.length (gNames is)) (gT is.length (gsNames is)) := lg_tup (lgs'_names is)

noncomputable def compL (g : FG) (ft : FT) (fe : FE) (gd : Mem → Prop) (K : List PV → Mem → Prop) (ρ : FEnv) : List PV → List PV → Mem → Prop
  | [], acc, M => gd M ∧ K acc M
  | x :: r, acc, M => gd M ∧ g x ρ M fun ρ2 M2 => ft ρ2 M2 fun b M3 => cnd b (fe ρ2 M3 fun y M4 => compL g ft fe gd K ρ r (acc ++ [y]) M4) (compL g ft fe gd K ρ r acc M3)
/-- [e for x in xs if t]: a new list that never changes -/
noncomputable def fLc (fi : FI) (g : FG) (ft : FT) (fe : FE) (vs : List Nat) : FE := fun ρ M P => fi ρ M fun xs gd M1 => compL g ft fe gd (fun acc M' => P (.lst acc) M') (wipeP ρ vs) xs [] M1
/-- .. that may change -/
noncomputable def fLcO (fi : FI) (g : FG) (ft : FT) (fe : FE) (vs : List Nat) : FE := fun ρ M P => fi ρ M fun xs gd M1 => compL g ft fe gd (fun acc M' => ∀ p, M' p = none → P (.obj p) (updM M' p (.lst acc))) (wipeP ρ vs) xs [] M1
/-- the frame with the list that grows -/
theorem RH.less {G : GH} {H : Hp} {M : Mem} {D : Addr} {o : HO} {z : Hp} {f : Hp} (h : RH c ⟨z, upd f D o⟩ H M) (hf : f D = none) : RH c ⟨z, f⟩ H M := by
  refine ⟨h.ex, fun p m e => ?_, fun a u e => ?_⟩
  · obtain ⟨⟨g1, g2⟩, u, h1, r⟩ := h.mem p m e
    have ne : p ≠ D := fun q => by
      have g2' : upd f D o p = none := g2
      rw [q, upd_same] at g2'
      cases g2'
    have g2' : upd f D o p = none := g2
    rw [upd_ne ne] at g2'
    exact ⟨⟨g1, g2'⟩, u, h1, RO.monoZ (G := ⟨z, upd f D o⟩) (G' := ⟨z, f⟩) (fun _ _ z => z) r⟩
  · have ne : a ≠ D := ne_of_none e hf
    exact h.fr a u (by show upd f D o a = some u; rw [upd_ne ne]; exact e)
theorem RH.more {z f : Hp} {H : Hp} {M : Mem} {D : Addr} {o : HO} (h : RH c ⟨z, f⟩ H M) (hD : H D = none) : RH c ⟨z, upd f D o⟩ (upd H D o) M := by
  have hz : z D = none := h.ex.none hD
  have h' := h.beside o hD
  refine ⟨h'.ex, fun p m e => ?_, fun a u e => ?_⟩
  · obtain ⟨⟨g1, g2⟩, u, h1, r⟩ := h.mem p m e
    have ne : p ≠ D := ne_of_none h1 hD
    exact ⟨⟨g1, by show upd f D o p = none; rw [upd_ne ne]; exact g2⟩, u, by rw [upd_ne ne]; exact h1, RO.monoZ (G := ⟨z, f⟩) (G' := ⟨z, upd f D o⟩) (fun _ _ z => z) r⟩
  · by_cases ne : a = D
    · subst ne
      have e' : upd f a o a = some u := e
      rw [upd_same] at e'
      cases e'
      exact ⟨upd_same, hz⟩
    · have e' : upd f D o a = some u := e
      rw [upd_ne ne] at e'
      obtain ⟨h1, h2⟩ := h.fr a u e'
      exact ⟨by rw [upd_ne ne]; exact h1, h2⟩
theorem RH.grow {z f : Hp} {H : Hp} {M : Mem} {D : Addr} {o u : HO} (h : RH c ⟨z, upd f D o⟩ H M) (hf : f D = none) : RH c ⟨z, upd f D u⟩ (upd H D u) M := by
  obtain ⟨hD, hz⟩ := h.fr D o upd_same
  have hm : ∀ p m, M p = some m → p ≠ D := fun p m e q => by
    obtain ⟨⟨_, g2⟩, _⟩ := h.mem p m e
    have g2' : upd f D o p = none := g2
    rw [q, upd_same] at g2'
    cases g2'
  refine ⟨h.ex.mut hz, fun p m e => ?_, fun a v e => ?_⟩
  · obtain ⟨⟨g1, g2⟩, v, h1, r⟩ := h.mem p m e
    have ne := hm p m e
    have g2' : upd f D o p = none := g2
    rw [upd_ne ne] at g2'
    exact ⟨⟨g1, by show upd f D u p = none; rw [upd_ne ne]; exact g2'⟩, v, by rw [upd_ne ne]; exact h1, RO.monoZ (G := ⟨z, upd f D o⟩) (G' := ⟨z, upd f D u⟩) (fun _ _ z => z) r⟩
  · by_cases ne : a = D
    · subst ne
      have e' : upd f a u a = some v := e
      rw [upd_same] at e'
      cases e'
      exact ⟨upd_same, hz⟩
    · have e' : upd f D u a = some v := e
      rw [upd_ne ne] at e'
      obtain ⟨h1, h2⟩ := h.fr a v (by show upd f D o a = some v; rw [upd_ne ne]; exact e')
      exact ⟨by rw [upd_ne ne]; exact h1, h2⟩
theorem RH.freeze {z f : Hp} {H : Hp} {M : Mem} {D : Addr} {o : HO} (h : RH c ⟨z, upd f D o⟩ H M) (hf : f D = none) : RH c ⟨upd z D o, f⟩ H M := by
  obtain ⟨hD, hz⟩ := h.fr D o upd_same
  have l := h.less (G := ⟨z, f⟩) hf
  refine ⟨fun a u e => ?_, fun p m e => ?_, fun a u e => ?_⟩
  · by_cases ne : a = D
    · subst ne
      have e' : upd z a o a = some u := e
      rw [upd_same] at e'
      cases e'
      exact hD
    · have e' : upd z D o a = some u := e
      rw [upd_ne ne] at e'
      exact h.ex a u e'
  · obtain ⟨⟨g1, g2⟩, v, h1, r⟩ := h.mem p m e
    have ne : p ≠ D := fun q => by
      have g2' : upd f D o p = none := g2
      rw [q, upd_same] at g2'
      cases g2'
    obtain ⟨⟨_, g3⟩, _⟩ := l.mem p m e
    exact ⟨⟨by show upd z D o p = none; rw [upd_ne ne]; exact g1, g3⟩, v, h1, RO.monoZ (G := ⟨z, upd f D o⟩) (fun b w q => by
      show upd z D o b = some w
      rw [upd_ne (ne_of_none q hz)]
      exact q) r⟩
  · have ne : a ≠ D := ne_of_none e hf
    obtain ⟨h1, h2⟩ := l.fr a u e
    exact ⟨h1, by show upd z D o a = none; rw [upd_ne ne]; exact h2⟩
/-- between two turns -/
def lcN (c : Ct) (z1 f1 : Hp) (D : Addr) (n : Nat) (K : List PV → Mem → Prop) : Hp → Prop := fun H' =>
  ∃ (z : Hp) (accV : List V) (acc : List PV) (M' : Mem), EH z1 z ∧ RH c ⟨z, upd f1 D (.lst accV)⟩ H' M' ∧ RPs c ⟨z, f1⟩ accV acc ∧ accV.length ≤ n ∧ K acc M'
theorem lc_run {wi : TI} {fi : FI} {g : TG} {fg : FG} {tt : TT} {ft : FT} {te : TE} {vs : List Nat} {Kp : FK → List PV → Mem → Prop} (hi : LI c wi fi) (hg : LG c g fg) (gw : GW g vs) (ht : LT c tt ft) (he : LE c te fe)
    (fin : ∀ (P : FK) (Q : VK) (z f H : Hp) (M : Mem) (D : Addr) (accV : List V) (acc : List PV), RH c ⟨z, upd f D (.lst accV)⟩ H M → f D = none → RPs c ⟨z, f⟩ accV acc → accV.length ≤ sizeLine → Kp P acc M →
      (∀ (v : V) (H' : Hp) (G' : GH) (p : PV) (M' : Mem), Ex ⟨z, f⟩ G' → RH c G' H' M' → RP c G' v p → P p M' → Q v H') → Q (.ref D) H) :
    LE c (tLc wi g tt te vs) (fun ρ M P => fi ρ M fun xs gd M1 => compL fg ft fe gd (Kp P) (wipeP ρ vs) xs [] M1) := fun G σ H ρ M P Q hh re hf k =>
  hi G σ H ρ M _ _ hh re hf fun J G1 H1 M1 xs gd e1 h1 ok hlen q1 => fun D hD => by
    obtain ⟨z1, f1⟩ := G1
    have hf1 : f1 D = none := h1.nof hD
    have rew : RE c ⟨z1, f1⟩ (L2.wipe σ vs) (wipeP ρ vs) := (re.mono e1).wipe vs
    refine ⟨fun i m H' => m = xs.length - i ∧ i ≤ xs.length ∧ lcN c z1 f1 D i (fun acc M' => compL fg ft fe gd (Kp P) (wipeP ρ vs) (xs.drop i) acc M') H',
      ⟨xs.length, rfl, Nat.zero_le _, z1, [], [], M1, fun _ _ z => z, h1.more hD, .nil, Nat.le_refl _, q1⟩, ?_⟩
    rintro i m H2 ⟨rfl, hi2, z, accV, acc, M2, ez, h2, ra, hla, q2⟩
    by_cases hlt : i < xs.length
    · have ed : xs.drop i = xs[i] :: xs.drop (i + 1) := List.drop_eq_getElem_cons hlt
      rw [ed] at q2
      obtain ⟨g2, q2⟩ := q2
      refine Or.inr ⟨ok.go _ H2 M2 i ez h2 g2 hlt, lcN c z1 f1 D (i + 1) (fun acc M' => compL fg ft fe gd (Kp P) (wipeP ρ vs) (xs.drop (i + 1)) acc M'), fun H' q' => ⟨xs.length - (i + 1), by omega, rfl, hlt, q'⟩, ?_⟩
      intro x H3 hy
      obtain ⟨G3, e3, h3, r3⟩ := ok.yld _ H2 M2 i xs[i] x H3 ez h2 g2 (List.getElem?_eq_getElem hlt) hy
      obtain ⟨z3, f3⟩ := G3
      have ef3 : f3 = upd f1 D (.lst accV) := e3.2
      subst ef3
      have ez3 : EH z z3 := e3.1
      refine gw x σ H3 _ (hg _ (L2.wipe σ vs) H3 (wipeP ρ vs) M2 x xs[i] _ _ h3 (RE.monoZ (G := ⟨z1, f1⟩) (fun a u q => ez3 a u (ez a u q)) rew) r3 q2 ?_)
      rintro ⟨z4, f4⟩ σ4 H4 ρ4 M4 e4 h4 re4 q4
      have ef4 : f4 = upd f1 D (.lst accV) := e4.2
      subst ef4
      refine ht _ σ4 H4 ρ4 M4 _ _ h4 re4 q4 ?_
      rintro b H5 ⟨z5, f5⟩ M5 e5 h5 q5
      have ef5 : f5 = upd f1 D (.lst accV) := e5.2
      subst ef5
      have ez15 : EH z1 z5 := fun a u q => e5.1 a u (e4.1 a u (ez3 a u (ez a u q)))
      have ez5 : EH z z5 := fun a u q => e5.1 a u (e4.1 a u (ez3 a u q))
      cases b with
      | false =>
        rw [if_neg Bool.false_ne_true]
        exact ⟨z5, accV, acc, M5, ez15, h5, RPs.monoZ (G := ⟨z, f1⟩) ez5 ra, Nat.le_succ_of_le hla, q5.2 rfl⟩
      | true =>
        rw [if_pos rfl]
        refine he _ σ4 H5 ρ4 M5 _ _ h5 (re4.mono e5) (q5.1 rfl) ?_
        rintro y H6 ⟨z6, f6⟩ py M6 e6 h6 ry q6
        have ef6 : f6 = upd f1 D (.lst accV) := e6.2
        subst ef6
        refine ⟨accV, (h6.fr D _ upd_same).1, by omega, z6, accV ++ [y], acc ++ [py], M6, fun a u q => e6.1 a u (ez15 a u q), h6.grow hf1, ?_, ?_, q6⟩
        · exact RPs.append (RPs.monoZ (G := ⟨z, f1⟩) (G' := ⟨z6, f1⟩) (fun a u q => e6.1 a u (ez5 a u q)) ra) (.cons (RP.monoZ (G := ⟨z6, upd f1 D (.lst accV)⟩) (G' := ⟨z6, f1⟩) (fun _ _ z => z) ry) .nil)
        · rw [List.length_append, List.length_singleton]
          omega
    · have ei : i = xs.length := by omega
      subst ei
      rw [List.drop_length] at q2
      refine Or.inl ⟨ok.stop _ H2 M2 ez h2 q2.1, ?_⟩
      exact fin P Q z f1 H2 M2 D accV acc h2 hf1 ra (Nat.le_trans hla hlen) q2.2 fun v' H' G' p' M' e' => k v' H' G' p' M' (e1.trans (Ex.trans (G1 := ⟨z, f1⟩) ⟨ez, rfl⟩ e'))
theorem le_lc {wi : TI} {fi : FI} {g : TG} {fg : FG} {tt : TT} {ft : FT} {te : TE} {vs : List Nat} (hi : LI c wi fi) (hg : LG c g fg) (gw : GW g vs) (ht : LT c tt ft) (he : LE c te fe) : LE c (tLc wi g tt te vs) (fLc fi fg ft fe vs) :=
  lc_run (Kp := fun P acc M' => P (.lst acc) M') hi hg gw ht he fun P Q z f H M D accV acc h hf ra hl q k => by
    have hz := (h.fr D _ upd_same).2
    have ez : EH z (upd z D (.lst accV)) := fun a u e => by
      rw [upd_ne (ne_of_none e hz)]
      exact e
    exact k (.ref D) H ⟨upd z D (.lst accV), f⟩ (.lst acc) M ⟨ez, rfl⟩ (h.freeze hf) (.lst upd_same hl (ra.monoZ ez)) q
theorem le_lcO {wi : TI} {fi : FI} {g : TG} {fg : FG} {tt : TT} {ft : FT} {te : TE} {vs : List Nat} (hi : LI c wi fi) (hg : LG c g fg) (gw : GW g vs) (ht : LT c tt ft) (he : LE c te fe) : LE c (tLc wi g tt te vs) (fLcO fi fg ft fe vs) :=
  lc_run (Kp := fun P acc M' => ∀ p, M' p = none → P (.obj p) (updM M' p (.lst acc))) hi hg gw ht he fun P Q z f H M D accV acc h hf ra hl q k => by
    obtain ⟨hD, hz⟩ := h.fr D _ upd_same
    have l := h.less (G := ⟨z, f⟩) hf
    have hM : M D = none := by
      cases e : M D with
      | none => rfl
      | some m =>
        obtain ⟨⟨_, g2⟩, _⟩ := h.mem D m e
        have g2' : upd f D (.lst accV) D = none := g2
        rw [upd_same] at g2'
        cases g2'
    refine k (.ref D) H ⟨z, f⟩ (.obj D) (updM M D (.lst acc)) (Ex.refl _) ⟨l.ex, fun p m e => ?_, l.fr⟩ (.obj D) (q D hM)
    by_cases ne : p = D
    · subst ne
      rw [updM_same] at e
      cases e
      exact ⟨⟨hz, hf⟩, _, hD, .lst hl ra⟩
    · rw [updM_ne ne] at e
      exact l.mem p m e
noncomputable def fYes : FT := fun _ M P => P true M
theorem lt_yes : LT c tYes fYes := fun G σ H ρ M P Q hh re hf k => k true H G M (Ex.refl G) hh hf
/-- the tests of a comprehension: none, one -/
def QIfs (X : Cx) (S : List Str) (T : Nat → Addr) (ifs : List Expr) (f : FT) : Prop := ∃ t, PTs X ifs t ∧ LT (ct X S T) t f
theorem QIfs.pts {ifs : List Expr} (h : QIfs X S T ifs ga) : PTs X ifs (ttOf (ct X S T) ga) := by
  obtain ⟨t, p, l⟩ := h
  refine ⟨fun pins s σ H Q I hq => ?_⟩
  obtain ⟨G, ρ, M, P, hh, re, hf, k⟩ := hq
  exact p.run pins s σ H Q I (l G σ H ρ M P Q hh re hf k)
theorem qifs_nil : QIfs X S T [] fYes := ⟨_, pts_nil, lt_yes⟩
theorem qifs_one (h : QT X S T e ga) : QIfs X S T [e] ga := let ⟨_, p, l⟩ := h; ⟨_, pts_one p, l⟩
section
variable {elt tg iter : Expr} {ifs : List Expr} {scope : Scope} {own : List (Str × Nat)} {fi : FI} {fg : FG} {g : TG} {ft : FT}
theorem q_lcG {ff : FE} (hN : X.N.Nodup) (hi : QI X S T tg iter fi) (ok : BlkOk X.N X.env.scope scope own) (hg : ∀ (s : Shared) (H : Hp) (C : Addr) (cl : List (Str × Addr)) (fp : List Addr), PG (X.blk s H scope (compEnvC scope cl C X.env) fp) tg g)
    (ht : ∀ (s : Shared) (H : Hp) (C : Addr) (cl : List (Str × Addr)) (fp : List Addr), QIfs (X.blk s H scope (compEnvC scope cl C X.env) fp) S T ifs ft)
    (he : ∀ (s : Shared) (H : Hp) (C : Addr) (cl : List (Str × Addr)) (fp : List Addr), QE (X.blk s H scope (compEnvC scope cl C X.env) fp) S T elt fe)
    (run : ∀ {wi : TI}, LI (ct X S T) wi fi → LE (ct X S T) (tLc wi g (ttOf (ct X S T) ft) (teOf (ct X S T) fe) (own.map (·.2))) ff)
    (hc : X.calm = true := by rfl) (hs : ∀ x, foldedSetIterable iter X.env x = pure x := by intro _; rfl) : QE X S T (.ListComp elt [⟨tg, iter, ifs, 0⟩] scope pos) ff := by
  obtain ⟨wi, p, l⟩ := hi
  exact ⟨_, pe_lc (g := g) (tt := ttOf (ct X S T) ft) (te := teOf (ct X S T) fe) hc hN p ok hg (fun s H C cl fp => (ht s H C cl fp).pts) (fun s H C cl fp => (he s H C cl fp).pe) hs, run l⟩
theorem q_lc (lg : LG (ct X S T) g fg) (gw : GW g (own.map (·.2))) (hN : X.N.Nodup) (hi : QI X S T tg iter fi) (ok : BlkOk X.N X.env.scope scope own) (hg : ∀ (s : Shared) (H : Hp) (C : Addr) (cl : List (Str × Addr)) (fp : List Addr), PG (X.blk s H scope (compEnvC scope cl C X.env) fp) tg g)
    (ht : ∀ (s : Shared) (H : Hp) (C : Addr) (cl : List (Str × Addr)) (fp : List Addr), QIfs (X.blk s H scope (compEnvC scope cl C X.env) fp) S T ifs ft)
    (he : ∀ (s : Shared) (H : Hp) (C : Addr) (cl : List (Str × Addr)) (fp : List Addr), QE (X.blk s H scope (compEnvC scope cl C X.env) fp) S T elt fe)
    (hc : X.calm = true := by rfl) (hs : ∀ x, foldedSetIterable iter X.env x = pure x := by intro _; rfl) : QE X S T (.ListComp elt [⟨tg, iter, ifs, 0⟩] scope pos) (fLc fi fg ft fe (own.map (·.2))) :=
  q_lcG hN hi ok hg ht he (fun l => le_lc l lg gw lt_of le_of) hc hs
theorem q_lcO (lg : LG (ct X S T) g fg) (gw : GW g (own.map (·.2))) (hN : X.N.Nodup) (hi : QI X S T tg iter fi) (ok : BlkOk X.N X.env.scope scope own) (hg : ∀ (s : Shared) (H : Hp) (C : Addr) (cl : List (Str × Addr)) (fp : List Addr), PG (X.blk s H scope (compEnvC scope cl C X.env) fp) tg g)
    (ht : ∀ (s : Shared) (H : Hp) (C : Addr) (cl : List (Str × Addr)) (fp : List Addr), QIfs (X.blk s H scope (compEnvC scope cl C X.env) fp) S T ifs ft)
    (he : ∀ (s : Shared) (H : Hp) (C : Addr) (cl : List (Str × Addr)) (fp : List Addr), QE (X.blk s H scope (compEnvC scope cl C X.env) fp) S T elt fe)
    (hc : X.calm = true := by rfl) (hs : ∀ x, foldedSetIterable iter X.env x = pure x := by intro _; rfl) : QE X S T (.ListComp elt [⟨tg, iter, ifs, 0⟩] scope pos) (fLcO fi fg ft fe (own.map (·.2))) :=
  q_lcG hN hi ok hg ht he (fun l => le_lcO l lg gw lt_of le_of) hc hs
/-- y = [..] -/
theorem qs_setLcG {ff : FE} (i : Nat) {y : Str} {py spos : Pos} (hN : X.N.Nodup) (hi : QI X S T tg iter fi) (ok : BlkOk X.N X.env.scope scope own) (hg : ∀ (s : Shared) (H : Hp) (C : Addr) (cl : List (Str × Addr)) (fp : List Addr), PG (X.blk s H scope (compEnvC scope cl C X.env) fp) tg g)
    (ht : ∀ (s : Shared) (H : Hp) (C : Addr) (cl : List (Str × Addr)) (fp : List Addr), QIfs (X.blk s H scope (compEnvC scope cl C X.env) fp) S T ifs ft)
    (he : ∀ (s : Shared) (H : Hp) (C : Addr) (cl : List (Str × Addr)) (fp : List Addr), QE (X.blk s H scope (compEnvC scope cl C X.env) fp) S T elt fe)
    (run : ∀ {wi : TI}, LI (ct X S T) wi fi → LE (ct X S T) (tLc wi g (ttOf (ct X S T) ft) (teOf (ct X S T) fe) (own.map (·.2))) ff)
    (hsw : swapsWith (.ListComp elt [⟨tg, iter, ifs, 0⟩] scope pos) (some (.Name y py)) spos.line X.env = pure true) (hy : X.N[i]? = some y := by rfl) (hyl : X.env.scope.names.lookup y = some .local := by rfl)
    (hc : X.calm = true := by rfl) (hs : ∀ x, foldedSetIterable iter X.env x = pure x := by intro _; rfl) : QS X S T (.Assign [.Name y py] (.ListComp elt [⟨tg, iter, ifs, 0⟩] scope pos) spos) (sAsg ff (gN i)) := by
  obtain ⟨wi, p, l⟩ := hi
  exact ⟨_, ps_setLc (g := g) (tt := ttOf (ct X S T) ft) (te := teOf (ct X S T) fe) hc hN hy hyl hsw p ok hg (fun s H C cl fp => (ht s H C cl fp).pts) (fun s H C cl fp => (he s H C cl fp).pe) hs, ls_asg (run l) lg_name⟩
end
/-! ### lists that change -/
/-- xs.append(e) -/
noncomputable def fApp (fo fe : FE) : FE := fun ρ M P => fo ρ M fun x M1 => match x with
  | .obj p => rdL M1 p fun _ => fe ρ M1 fun y M2 => rdL M2 p fun xs => xs.length < 16777216 ∧ P .none (updM M2 p (.lst (xs ++ [y])))
  | _ => False
theorem q_append {o : Expr} {fo : FE} {apos : Pos} (ho : QE X S T o fo) (he : QE X S T e fe) (hbase : attributeBase o "append" X.env (eval o X.env) = eval o X.env := by rfl)
    (hfew : ((backTo pos (starEach (e :: []) X.env)).all (fun x => !x.1) && (backToKw pos (keywordEach [] X.env)).all (fun x => x.1.isSome) && decide ((e :: ([] : List Expr)).length + ([] : List Keyword).length + (if ([] : List Keyword).isEmpty then 0 else 1) < 30)) = true := by rfl)
    (hline : (apos.endLine == pos.line) = true := by rfl) (hs : starEach (e :: []) X.env = (false, eval e X.env) :: starEach [] X.env := by rfl) (hplain : (backTo pos (starEach [] X.env)).any (·.1) = false := by rfl) :
    QE X S T (.Call (.Attribute o "append" apos) [e] [] pos) (fApp fo fe) := by
  obtain ⟨to, p, l⟩ := ho
  obtain ⟨te, p2, l2⟩ := he
  refine ⟨_, pe_bm PySem.F.plainAttrs_list PySem.F.slot_list_append PySem.F.type_list_append mt_append p (pa_cons p2 pa_nil hs) hbase hfew hline hs hplain, fun G σ H ρ M P Q hh re hf k => l G σ H ρ M _ _ hh re hf fun v H1 G1 p1 M1 e1 h1 r1 q1 => ?_⟩
  cases r1 with
  | none => exact q1.elim
  | bool _ => exact q1.elim
  | int _ => exact q1.elim
  | w _ => exact q1.elim
  | tup _ _ _ => exact q1.elim
  | lst _ _ _ => exact q1.elim
  | ro _ _ _ => exact q1.elim
  | obj a =>
    obtain ⟨xs, em, q1⟩ := q1
    obtain ⟨_, o, ho, ro⟩ := h1.mem a _ em
    cases ro with
    | lst hl r =>
      refine ⟨.inl ⟨rfl, _, SqL.of ho⟩, l2 G1 σ H1 ρ M1 _ _ h1 (re.mono e1) q1 fun v2 H2 G2 p2 M2 e2 h2 r2 q2 => ?_⟩
      obtain ⟨xs2, em2, hlen, q2⟩ := q2
      obtain ⟨_, o2, ho2, ro2⟩ := h2.mem a _ em2
      cases ro2 with
      | lst hl2 rr =>
        have hll : (16777216 : Nat) ≤ sizeLine := by decide
        refine ⟨a, _, v2, rfl, rfl, ho2, by rw [rr.length]; omega, ?_⟩
        exact k .non _ G2 .none _ (e1.trans e2) (h2.changed em2 (.lst (by rw [List.length_append, rr.length, List.length_singleton]; omega) (rr.append (.cons r2 .nil)))) .none q2
/-- o[i] = e, o a list -/
noncomputable def sSetL (fv fo fi : FE) : FS := fun D ρ M => fv ρ M fun y M1 => fo ρ M1 fun x M2 => fi ρ M2 fun z M3 => match x, z with
  | .obj p, .int k => rdL M3 p fun xs => ∃ j, ixN xs.length k = some j ∧ D.nx ρ (updM M3 p (.lst (setN xs j y)))
  | _, _ => False
noncomputable def fSetL (fo fi : FE) : FG := fun y ρ M N => fo ρ M fun x M2 => fi ρ M2 fun z M3 => match x, z with
  | .obj p, .int k => rdL M3 p fun xs => ∃ j, ixN xs.length k = some j ∧ N ρ (updM M3 p (.lst (setN xs j y)))
  | _, _ => False
theorem qg_setL {o i : Expr} {fo fi : FE} (ho : QE X S T o fo) (hi : QE X S T i fi) (ha : ∀ v, assign (.Subscript o i pos) X.env v = (do
      let ov ← holding [v] (eval o X.env)
      let iv ← holding [v, ov] (eval i X.env)
      standAt pos
      holding [v, ov, iv] (setItem ov iv v)
      release [v, ov, iv] []) := by intro _; rfl) : QG X S T (.Subscript o i pos) (fSetL fo fi) := by
  obtain ⟨to, p, l⟩ := ho
  obtain ⟨ti, p2, l2⟩ := hi
  refine ⟨_, pg_sub p p2 set_list ha, fun G σ H ρ M v py P Q hh re r hf k => l G σ H ρ M _ _ hh re hf fun v1 H1 G1 p1 M1 e1 h1 r1 q1 => l2 G1 σ H1 ρ M1 _ _ h1 (re.mono e1) q1 fun v2 H2 G2 p2 M2 e2 h2 r2 q2 => ?_⟩
  have r1' := r1.mono e2
  cases r1' <;> cases r2 <;> first | exact (False.elim q2) | skip
  rename_i a kk
  obtain ⟨xs, em, j, hj, q⟩ := q2
  obtain ⟨_, o, ho, ro⟩ := h2.mem a _ em
  cases ro with
  | lst hl rr =>
    refine ⟨a, _, kk, j, rfl, rfl, ho, by rw [rr.length]; exact hj, ?_⟩
    rw [setN_eq] at q
    exact k G2 σ _ ρ _ (e1.trans e2) (h2.changed em (.lst (by rw [List.length_set]; exact hl) (rr.set (r.mono (e1.trans e2)) j))) (re.mono (e1.trans e2)) q

/-! ### defs: what a def does is its own body's reading -/
abbrev ASp := List PV → Mem → FK → Prop
def sp3 (c : Ct) (n : Nat) (A : ASp) : Sp := fun vs H Q _ => ∃ G M ps P, RH c G H M ∧ RPs c G vs ps ∧ ps.length = n ∧ A ps M P ∧ ∀ (v : V) (H' : Hp) (G' : GH) (p : PV) (M' : Mem), Ex G G' → RH c G' H' M' → RP c G' v p → P p M' → Q v H'
/-- f(..): the written arguments, then the defaults -/
noncomputable def fCall (A : ASp) (ds : List PV) (fr : FA) : FE := fun ρ M P => fr ρ M fun ps M1 => A (ps ++ ds) M1 P
theorem le_call {A : ASp} {E : XK} {ta : TA} {fr : FA} {dvs : List V} {ds : List PV} {k : Nat} (h : LA c n ta fr) (hd : ∀ G, RPs c G dvs ds) (hk : n + dvs.length = k) : LE c (tCall (sp3 c k A) dvs E ta) (fCall A ds fr) := fun G σ H ρ M P Q hh re hf kk =>
  h G σ H ρ M _ _ hh re hf fun vs H1 G1 ps M1 e1 h1 r1 l1 q1 => ⟨G1, M1, ps ++ ds, P, h1, r1.append (hd G1), by
    have e := (hd G1).length
    rw [List.length_append, ← r1.length, ← e]
    omega, q1, fun v H' G' p M' e2 => kk v H' G' p M' (e1.trans e2)⟩
noncomputable def repN (n : Nat) : FEnv := Nat.rec (motive := fun _ => FEnv) [] (fun _ ih => none :: ih) n
/-- the arguments, then k names without a value -/
noncomputable def startP (k : Nat) (ps : List PV) : FEnv := List.rec (motive := fun _ => FEnv) (repN k) (fun p _ ih => some p :: ih) ps
theorem repN_eq : ∀ n, repN n = List.replicate n none
  | 0 => rfl
  | n + 1 => by
    show none :: repN n = _
    rw [repN_eq n]
    rfl
theorem startP_eq (k : Nat) : ∀ ps, startP k ps = ps.map some ++ List.replicate k none
  | [] => repN_eq k
  | p :: r => congrArg (some p :: ·) (startP_eq k r)
theorem re_start {G : GH} {N : List Str} {vs : List V} {ps : List PV} (r : RPs c G vs ps) : RE c G (L2.start N vs) (startP (N.length - ps.length) ps) := by
  rw [startP_eq]
  unfold L2.start
  have hl := r.length
  refine ⟨by simp [hl], fun i p e => ?_⟩
  by_cases hi : i < ps.length
  · rw [List.getElem?_append_left (by rw [List.length_map]; exact hi), List.getElem?_map] at e
    cases e2 : ps[i]? with
    | none => rw [e2] at e; cases e
    | some q =>
      rw [e2] at e
      cases e
      obtain ⟨v, h1, h2⟩ := r.get e2
      refine ⟨v, ?_, h2⟩
      rw [List.getElem?_append_left (by rw [List.length_map, hl]; exact hi), List.getElem?_map, h1]
      rfl
  · rw [List.getElem?_append_right (by rw [List.length_map]; omega), List.getElem?_replicate] at e
    split at e <;> cases e
/-- the body's reading as what the def does -/
noncomputable def mOf (n : Nat) (f : FS) : ASp := fun ps M P => f { nx := fun _ M' => P .none M', rt := P } (startP n ps) M
end
section
variable {P : Program} {w : World} {K : PySem.W.Frag} {mg : Str → Option Value} {base : Heap} {S : List Str} {T : Nat → Addr}
theorem fn3 {x qual : Str} {st : Stmt} {f : Addr} {fd : FuncData} {N ps : List Str} {k j : Nat} {fs : FS} (F : Fun K x qual st f fd) (sc : FnScope N ps (defScope st)) (hn : N.length = ps.length + j)
    (hb : ∀ (cdv : Value) (A : Around) (outer : List Env) (s : Shared) (H : Hp) (E : XK), Room k (A.deeper (envOfC qual (defScope st) s.heap.objs.size f cdv)) →
      QSs (cxOf CX0 P w K mg base N qual (defScope st) f cdv A outer s H E).nox S T (defBody st) fs) : FnOk P w K mg base CX0 (k + 1) f fd ps (sp3 ⟨K, S, T⟩ ps.length (mOf j fs)) := by
  refine F.ok sc (fun vs H Q E h => ?_) (fun cdv A outer s H vs Q E hr h => ?_)
  · obtain ⟨G, M, qs, P', hh, r, hl, _⟩ := h
    rw [r.length, hl]
  · obtain ⟨G, M, qs, P', hh, r, hl, hA, kk⟩ := h
    obtain ⟨t, p, l⟩ := hb cdv A outer s H E hr
    refine ⟨t, p, ?_⟩
    have hA' : fs { nx := fun _ M' => P' .none M', rt := P' } (startP (N.length - qs.length) qs) M := by
      rw [hl, hn, Nat.add_sub_cancel_left]
      exact hA
    exact l G (L2.start N vs) H (startP (N.length - qs.length) qs) M _ _ hh (re_start r) hA' ⟨fun G' σ H' ρ M' e h' re' q => kk .non H' G' .none M' e h' .none q, fun _ _ _ _ _ _ _ _ q => q.elim, fun _ _ _ _ _ _ _ _ q => q.elim, fun G' v H' p' M' e h' r' q => kk v H' G' p' M' e h' r' q⟩
end
section
variable {X : Cx} {S : List Str} {T : Nat → Addr} {e : Expr} {es : List Expr} {pos p : Pos} {n k j : Nat}
theorem q_call {x : Str} {f : Addr} {fd : FuncData} {ps : List Str} {A : ASp} {ds : List Value} {dvs : List V} {dps : List PV} {fr : FA} (F : FnOk X.prog X.w X.K X.mg X.base CX0 k f fd ps (sp3 (ct X S T) j A)) (hr : Room k X.A) (hm : X.mg x = some (.ref f)) (hk : PySem.W.keepIn X.K (.ref f) = true) (hb : Binds X.K fd ps ds)
    (ha : QA X S T (e :: es) n fr) (hd : Vals dvs ds) (hdp : ∀ G, RPs (ct X S T) G dvs dps) (hn : n + dvs.length = j := by rfl) (hg : Gl X x := by rfl) (hdb : (x == ("__debug__" : Str)) = false := by decide)
    (he : starEach (e :: es) X.env = (false, eval e X.env) :: starEach es X.env := by rfl) (hpl : (backTo pos (starEach es X.env)).any (·.1) = false := by rfl) : QE X S T (.Call (.Name x p) (e :: es) [] pos) (fCall A dps fr) :=
  let ⟨_, q, l⟩ := ha; ⟨_, pe_call (E := E0) F hr hg hm hk hb hd pass0 q hdb he hpl, le_call l hdp hn⟩
end
end L3
/-! L3: + of anything, slices of anything, equality of data, is None, reversed, what is frozen -/
namespace L3
open PySem PySem.Spec PyProof.Rows L2 RT

/-! ### data -/
mutual
def toD (S : List Str) : PV → PyData
  | .none => .none
  | .bool b => .bool b
  | .int i => .int i
  | .w n => .str (S.getD n Str.empty)
  | .tup xs => .tuple (toDs S xs)
  | .lst xs => .list (toDs S xs)
  | .ro xs => .list (toDs S xs)
  | .obj _ => .none
def toDs (S : List Str) : List PV → List PyData
  | [] => []
  | x :: r => toD S x :: toDs S r
end
mutual
/-- no thing that may change is in it -/
def pur : PV → Bool
  | .none => true
  | .bool _ => true
  | .int _ => true
  | .w _ => true
  | .tup xs => purs xs
  | .lst xs => purs xs
  | .ro xs => purs xs
  | .obj _ => false
def purs : List PV → Bool
  | [] => true
  | x :: r => pur x && purs r
end
mutual
def dep : PV → Nat
  | .none => 0
  | .bool _ => 0
  | .int _ => 0
  | .w _ => 0
  | .tup xs => deps xs + 1
  | .lst xs => deps xs + 1
  | .ro xs => deps xs + 1
  | .obj _ => 0
def deps : List PV → Nat
  | [] => 0
  | x :: r => max (dep x) (deps r)
end
mutual
/-- == -/
def eqv : PV → PV → Bool
  | .none, y => (match y with | .none => true | _ => false)
  | .bool a, y => (match y with | .bool b => a == b | .int j => (if a then 1 else 0) == j | _ => false)
  | .int i, y => (match y with | .int j => i == j | .bool b => i == (if b then 1 else 0) | _ => false)
  | .w n, y => (match y with | .w m => n == m | _ => false)
  | .tup xs, y => (match y with | .tup ys => eqvs xs ys | _ => false)
  | .lst xs, y => (match y with | .lst ys => eqvs xs ys | .ro ys => eqvs xs ys | _ => false)
  | .ro xs, y => (match y with | .lst ys => eqvs xs ys | .ro ys => eqvs xs ys | _ => false)
  | .obj _, _ => false
def eqvs : List PV → List PV → Bool
  | [], ys => (match ys with | [] => true | _ => false)
  | x :: r, ys => (match ys with | y :: q => eqv x y && eqvs r q | [] => false)
end
mutual
theorem RP.dp {c : Ct} {G : GH} {H : Hp} (e : EH G.z H) : ∀ {v : V} {p : PV}, RP c G v p → pur p = true → Dp c.K H v (toD c.S p)
  | _, _, .none, _ => .non
  | _, _, .bool b, _ => .bl b
  | _, _, .int i, _ => .int i
  | _, _, .w (n := n) (x := x) h, _ => by
    have q : c.S.getD n Str.empty = x := by rw [List.getD_eq_getElem?_getD, h]; rfl
    show Dp c.K H (.str x) (.str (c.S.getD n Str.empty))
    rw [q]
    exact .str x
  | _, _, .tup h l r, q => .tup (ex_t e h) (RPs.dp e r q)
  | _, _, .lst h l r, q => .lst (SqL.of (e _ _ h)) (RPs.dp e r q)
  | _, _, .ro h l r, q => .lst (ex_l e h) (RPs.dp e r q)
  | _, _, .obj a, q => nomatch q
theorem RPs.dp {c : Ct} {G : GH} {H : Hp} (e : EH G.z H) : ∀ {vs : List V} {ps : List PV}, RPs c G vs ps → purs ps = true → DpAll c.K H vs (toDs c.S ps)
  | _, _, .nil, _ => .nil
  | _, _, .cons (p := p) (ps := ps) h r, q => by
    have q' : pur p = true ∧ purs ps = true := Bool.and_eq_true_iff.mp q
    exact .cons (RP.dp e h q'.1) (RPs.dp e r q'.2)
end
/-- the words are short and differ -/
structure SOk (S : List Str) : Prop where
  nd : S.Nodup
  ok : ∀ s ∈ S, PyData.strOk s = true
mutual
theorem RP.can {c : Ct} (so : SOk c.S) {G : GH} : ∀ {v : V} {p : PV}, RP c G v p → (toD c.S p).canLay0 = true
  | _, _, .none => rfl
  | _, _, .bool b => rfl
  | _, _, .int i => rfl
  | _, _, .w (n := n) (x := x) h => by
    have q : c.S.getD n Str.empty = x := by rw [List.getD_eq_getElem?_getD, h]; rfl
    show PyData.strOk (c.S.getD n Str.empty) = true
    rw [q]
    exact so.ok x (List.mem_of_getElem? h)
  | _, _, .tup h l r => RPs.can so r
  | _, _, .lst h l r => RPs.can so r
  | _, _, .ro h l r => RPs.can so r
  | _, _, .obj a => rfl
theorem RPs.can {c : Ct} (so : SOk c.S) {G : GH} : ∀ {vs : List V} {ps : List PV}, RPs c G vs ps → PyData.canLayAll0 (toDs c.S ps) = true
  | _, _, .nil => rfl
  | _, _, .cons h r => Bool.and_eq_true_iff.mpr ⟨RP.can so h, RPs.can so r⟩
end
mutual
theorem dep_toD (S : List Str) : ∀ p, (toD S p).depth = dep p
  | .none => rfl
  | .bool _ => rfl
  | .int _ => rfl
  | .w _ => rfl
  | .tup xs => by show (PyData.depthAll (toDs S xs)) + 1 = deps xs + 1; rw [deps_toDs S xs]
  | .lst xs => by show (PyData.depthAll (toDs S xs)) + 1 = deps xs + 1; rw [deps_toDs S xs]
  | .ro xs => by show (PyData.depthAll (toDs S xs)) + 1 = deps xs + 1; rw [deps_toDs S xs]
  | .obj _ => rfl
theorem deps_toDs (S : List Str) : ∀ ps, PyData.depthAll (toDs S ps) = deps ps
  | [] => rfl
  | x :: r => by show max ((toD S x).depth) (PyData.depthAll (toDs S r)) = max (dep x) (deps r); rw [dep_toD S x, deps_toDs S r]
end
theorem word_eq {S : List Str} (so : SOk S) {n m : Nat} {x y : Str} (h : S[n]? = some x) (h' : S[m]? = some y) : (S.getD n Str.empty == S.getD m Str.empty) = (n == m) := by
  have q : S.getD n Str.empty = x := by rw [List.getD_eq_getElem?_getD, h]; rfl
  have q' : S.getD m Str.empty = y := by rw [List.getD_eq_getElem?_getD, h']; rfl
  rw [q, q']
  by_cases e : n = m
  · subst e
    rw [h] at h'
    cases h'
    simp
  · have ne : x ≠ y := fun z => by
      subst z
      obtain ⟨l1, e1⟩ := List.getElem?_eq_some_iff.mp h
      obtain ⟨l2, e2⟩ := List.getElem?_eq_some_iff.mp h'
      exact e ((List.getElem_inj so.nd).mp (e1.trans e2.symm))
    rw [beq_eq_false_iff_ne.mpr ne, beq_eq_false_iff_ne.mpr e]
mutual
theorem eqv_toD {c : Ct} (so : SOk c.S) {G G' : GH} : ∀ {x : PV} {y : PV} {v v' : V}, RP c G v x → RP c G' v' y → pur x = true → pur y = true → PyData.eqv (toD c.S x) (toD c.S y) = eqv x y
  | .none, y, _, _, _, _, _, h => by cases y <;> first | rfl | cases h
  | .bool a, y, _, _, _, _, _, h => by cases y <;> first | rfl | cases h
  | .int a, y, _, _, _, _, _, h => by cases y <;> first | rfl | cases h
  | .w n, y, _, _, r, r', _, h => by
    cases y with
    | w m =>
      cases r with
      | w e => cases r' with
        | w e' => exact word_eq so e e'
    | none => rfl
    | bool _ => rfl
    | int _ => rfl
    | tup _ => rfl
    | lst _ => rfl
    | ro _ => rfl
    | obj _ => cases h
  | .tup xs, y, _, _, r, r', p, h => by
    cases y with
    | tup ys => cases r with
      | tup _ _ r => cases r' with
        | tup _ _ r' => exact eqvs_toDs so r r' p h
    | none => rfl
    | bool _ => rfl
    | int _ => rfl
    | w _ => rfl
    | lst _ => rfl
    | ro _ => rfl
    | obj _ => cases h
  | .lst xs, y, _, _, r, r', p, h => by
    cases y with
    | lst ys => cases r with
      | lst _ _ r => cases r' with
        | lst _ _ r' => exact eqvs_toDs so r r' p h
    | ro ys => cases r with
      | lst _ _ r => cases r' with
        | ro _ _ r' => exact eqvs_toDs so r r' p h
    | none => rfl
    | bool _ => rfl
    | int _ => rfl
    | w _ => rfl
    | tup _ => rfl
    | obj _ => cases h
  | .ro xs, y, _, _, r, r', p, h => by
    cases y with
    | lst ys => cases r with
      | ro _ _ r => cases r' with
        | lst _ _ r' => exact eqvs_toDs so r r' p h
    | ro ys => cases r with
      | ro _ _ r => cases r' with
        | ro _ _ r' => exact eqvs_toDs so r r' p h
    | none => rfl
    | bool _ => rfl
    | int _ => rfl
    | w _ => rfl
    | tup _ => rfl
    | obj _ => cases h
  | .obj _, _, _, _, _, _, p, _ => nomatch p
theorem eqvs_toDs {c : Ct} (so : SOk c.S) {G G' : GH} : ∀ {xs ys : List PV} {vs vs' : List V}, RPs c G vs xs → RPs c G' vs' ys → purs xs = true → purs ys = true → PyData.eqvAll (toDs c.S xs) (toDs c.S ys) = eqvs xs ys
  | [], ys, _, _, _, _, _, _ => by cases ys <;> rfl
  | x :: r, [], _, _, _, _, _, _ => rfl
  | x :: r, y :: q, _, _, r1, r2, p1, p2 => by
    cases r1 with
    | cons h1 t1 => cases r2 with
      | cons h2 t2 =>
        have p1' : pur x = true ∧ purs r = true := Bool.and_eq_true_iff.mp p1
        have p2' : pur y = true ∧ purs q = true := Bool.and_eq_true_iff.mp p2
        show (PyData.eqv (toD c.S x) (toD c.S y) && PyData.eqvAll (toDs c.S r) (toDs c.S q)) = (eqv x y && eqvs r q)
        rw [eqv_toD so h1 h2 p1'.1 p2'.1, eqvs_toDs so t1 t2 p1'.2 p2'.2]
end
/-! what eqv says -/
mutual
theorem eqv_refl : ∀ p, pur p = true → eqv p p = true
  | .none, _ => rfl
  | .bool b, _ => by show (b == b) = true; simp
  | .int i, _ => by show (i == i) = true; simp
  | .w n, _ => by show (n == n) = true; simp
  | .tup xs, h => eqvs_refl xs h
  | .lst xs, h => eqvs_refl xs h
  | .ro xs, h => eqvs_refl xs h
  | .obj _, h => nomatch h
theorem eqvs_refl : ∀ ps, purs ps = true → eqvs ps ps = true
  | [], _ => rfl
  | x :: r, h => by
    have h' : pur x = true ∧ purs r = true := Bool.and_eq_true_iff.mp h
    show (eqv x x && eqvs r r) = true
    rw [eqv_refl x h'.1, eqvs_refl r h'.2]
    rfl
end

def rEqM (K : PySem.W.Frag) (neg : Bool) : R2 := fun x y H Q => ∃ d e, Dp K H x d ∧ Dp K H y e ∧ d.canLay0 = true ∧ e.canLay0 = true ∧ (d.depth ≤ 64 ∨ e.depth ≤ 64) ∧ Q (.bl (match neg with | true => !PyData.eqv d e | false => PyData.eqv d e)) H
section
variable {X : Cx} {S : List Str} {T : Nat → Addr} {c : Ct} {a b e : Expr} {es : List Expr} {fa fb fe : FE} {pos : Pos} {n : Nat} {ga : FT}
theorem op_eqM (hu : X.A.units + 64 < cLine) : OpR X (compareOp .Eq) (rEqM X.K false) := by
  rintro pins s σ H x y v u Q I rx ry ⟨d, e, hd, he, c1, c2, dd, q⟩
  obtain ⟨as, r1⟩ := Dp.reads I d x v hd rx
  obtain ⟨bs, r2⟩ := Dp.reads I e y u he ry
  exact SeqAt.compareEq_reads r1 r2 c1 c2 (by omega) ⟨.bl _, H, I, rfl, q⟩
theorem op_neM (hu : X.A.units + 64 < cLine) : OpR X (compareOp .NotEq) (rEqM X.K true) := by
  rintro pins s σ H x y v u Q I rx ry ⟨d, e, hd, he, c1, c2, dd, q⟩
  obtain ⟨as, r1⟩ := Dp.reads I d x v hd rx
  obtain ⟨bs, r2⟩ := Dp.reads I e y u he ry
  exact SeqAt.compareNe_reads r1 r2 c1 c2 (by omega) ⟨.bl _, H, I, rfl, q⟩
abbrev neg (k b : Bool) : Bool := match k with | true => !b | false => b
def eqG (k : Bool) (x y : PV) (M : Mem) (P : FK) : Prop := pur x = true ∧ pur y = true ∧ (dep x ≤ 64 ∨ dep y ≤ 64) ∧ P (.bool (neg k (eqv x y))) M
/-- x == y (k: x != y) -/
def fEqK (k : Bool) : F2 := fun x y M P => match x with
  | .int i => (match y with | .int j => P (.bool (neg k (decide (i = j)))) M | _ => eqG k x y M P)
  | .w i => (match y with | .w j => P (.bool (neg k (decide (i = j)))) M | _ => eqG k x y M P)
  | .bool i => (match y with | .bool j => P (.bool (neg k (i == j))) M | _ => eqG k x y M P)
  | _ => eqG k x y M P
theorem lr_eqG {k : Bool} (so : SOk c.S) : LR c (rEqM c.K k) (eqG k) := fun G H M x y p q P Q h rx ry hf kk => by
  obtain ⟨p1, p2, dd, hf⟩ := hf
  refine ⟨_, _, rx.dp h.ex p1, ry.dp h.ex p2, rx.can so, ry.can so, by rw [dep_toD, dep_toD]; exact dd, ?_⟩
  rw [eqv_toD so rx ry p1 p2]
  exact kk _ H G _ M (Ex.refl G) h (.bool _) hf
theorem lr_eq {k : Bool} (so : SOk c.S) : LR c (rEqM c.K k) (fEqK k) := fun G H M x y p q P Q h rx ry hf kk => by
  refine lr_eqG so G H M x y p q P Q h rx ry ?_ kk
  cases p with
  | none => exact hf
  | tup _ => exact hf
  | lst _ => exact hf
  | ro _ => exact hf
  | obj _ => exact hf
  | int i =>
    cases q with
    | int j => exact ⟨rfl, rfl, .inl (Nat.zero_le _), (show P (.bool (neg k (i == j))) M by rw [Bool.beq_eq_decide_eq]; exact hf)⟩
    | _ => exact hf
  | w i =>
    cases q with
    | w j => exact ⟨rfl, rfl, .inl (Nat.zero_le _), (show P (.bool (neg k (i == j))) M by rw [Bool.beq_eq_decide_eq]; exact hf)⟩
    | _ => exact hf
  | bool i =>
    cases q with
    | bool j => exact ⟨rfl, rfl, .inl (Nat.zero_le _), hf⟩
    | _ => exact hf
theorem q_eq (so : SOk S) (hu : X.A.units + 64 < cLine) (ha : QE X S T a fa) (hb : QE X S T b fb) : QE X S T (.Compare a [.Eq] [b] pos) (fOp (fEqK false) fa fb) := q_cmp (op_eqM hu) (lr_eq so) ha hb (nomark _)
theorem q_ne (so : SOk S) (hu : X.A.units + 64 < cLine) (ha : QE X S T a fa) (hb : QE X S T b fb) : QE X S T (.Compare a [.NotEq] [b] pos) (fOp (fEqK true) fa fb) := q_cmp (op_neM hu) (lr_eq so) ha hb (nomark _)
theorem qt_eq (so : SOk S) (hu : X.A.units + 64 < cLine) (ha : QE X S T a fa) (hb : QE X S T b fb) : QT X S T (.Compare a [.Eq] [b] pos) (fTest (fOp (fEqK false) fa fb)) := qt_cmp (op_eqM hu) (lr_eq so) ha hb (nomark _)
theorem qt_ne (so : SOk S) (hu : X.A.units + 64 < cLine) (ha : QE X S T a fa) (hb : QE X S T b fb) : QT X S T (.Compare a [.NotEq] [b] pos) (fTest (fOp (fEqK true) fa fb)) := qt_cmp (op_neM hu) (lr_eq so) ha hb (nomark _)
/-- is None -/
def isN : PV → Bool
  | .none => true
  | _ => false
noncomputable def fIsN (k : Bool) (fa : FE) : FE := fun ρ M P => fa ρ M fun x M1 => P (.bool (neg k (isN x))) M1
theorem RP.non {G : GH} {v : V} {p : PV} (r : RP c G v p) : decide (v = .non) = isN p := by
  cases r <;> rfl
theorem q_isN {j : Nat} {p2 : Pos} (ha : QE X S T a fa) : QE X S T (.Compare a [.Is] [.Constant .none j p2] pos) (fIsN false fa) := by
  obtain ⟨t, p, l⟩ := ha
  refine ⟨_, pe_cmp (pc_isN p) rfl, fun G σ H ρ M P Q hh re hf k => l G σ H ρ M _ _ hh re hf fun v H1 G1 p1 M1 e1 h1 r1 q1 => ?_⟩
  rw [r1.non]
  exact k _ H1 G1 _ M1 e1 h1 (.bool _) q1
theorem q_notN {j : Nat} {p2 : Pos} (ha : QE X S T a fa) : QE X S T (.Compare a [.IsNot] [.Constant .none j p2] pos) (fIsN true fa) := by
  obtain ⟨t, p, l⟩ := ha
  refine ⟨_, pe_cmp (pc_notN p) rfl, fun G σ H ρ M P Q hh re hf k => l G σ H ρ M _ _ hh re hf fun v H1 G1 p1 M1 e1 h1 r1 q1 => ?_⟩
  rw [r1.non]
  exact k _ H1 G1 _ M1 e1 h1 (.bool _) q1
theorem qt_isN {j : Nat} {p2 : Pos} (ha : QE X S T a fa) : QT X S T (.Compare a [.Is] [.Constant .none j p2] pos) (fTest (fIsN false fa)) := by
  obtain ⟨t, p, l⟩ := ha
  refine ⟨_, pt_cmp (pc_isN p) rfl, lt_B fun G σ H ρ M P Q hh re hf k => l G σ H ρ M _ _ hh re hf fun v H1 G1 p1 M1 e1 h1 r1 q1 => ?_⟩
  rw [r1.non]
  exact k _ H1 G1 _ M1 e1 h1 (.bool _) q1
theorem qt_notN {j : Nat} {p2 : Pos} (ha : QE X S T a fa) : QT X S T (.Compare a [.IsNot] [.Constant .none j p2] pos) (fTest (fIsN true fa)) := by
  obtain ⟨t, p, l⟩ := ha
  refine ⟨_, pt_cmp (pc_notN p) rfl, lt_B fun G σ H ρ M P Q hh re hf k => l G σ H ρ M _ _ hh re hf fun v H1 G1 p1 M1 e1 h1 r1 q1 => ?_⟩
  rw [r1.non]
  exact k _ H1 G1 _ M1 e1 h1 (.bool _) q1

/-! ### + of numbers, lists, tuples -/
def lstW (x : PV) (M : Mem) (k : List PV → Prop) : Prop := match x with
  | .lst ys => k ys
  | .obj p => rdL M p k
  | _ => False
theorem lst_at {G : GH} {H : Hp} {M : Mem} {v : V} {p : PV} {k : List PV → Prop} (hh : RH c G H M) (r : RP c G v p) (h : lstW p M k) : ∃ a vs ps, v = .ref a ∧ H a = some (.lst vs) ∧ RPs c G vs ps ∧ vs.length ≤ sizeLine ∧ k ps := by
  cases r with
  | none => exact h.elim
  | bool _ => exact h.elim
  | int _ => exact h.elim
  | w _ => exact h.elim
  | tup _ _ _ => exact h.elim
  | lst hs hl r => exact ⟨_, _, _, rfl, hh.ex _ _ hs, r, hl, h⟩
  | ro _ _ _ => exact h.elim
  | obj a =>
    obtain ⟨xs, em, q⟩ := h
    obtain ⟨_, o, ho, ro⟩ := hh.mem a _ em
    cases ro with
    | lst hl r => exact ⟨_, _, _, rfl, ho, r, hl, q⟩
def short (n : Nat) : Prop := n ≤ 16777216
def fCatL (x y : PV) (M : Mem) (P : FK) : Prop := lstW x M fun xs => lstW y M fun ys => short (xs.length + ys.length) ∧ P (.lst (xs ++ ys)) M
def fPlus : F2 := fun x y M P => match x with
  | .int i => (match y with | .int j => P (.int (i + j)) M | _ => False)
  | .tup xs => (match y with | .tup ys => short (xs.length + ys.length) ∧ P (.tup (xs ++ ys)) M | _ => False)
  | x => fCatL x y M P
theorem lr_catL : LR c rCat fCatL := fun G H M x y p q P Q h rx ry hf k => by
  have hll : (16777216 : Nat) ≤ sizeLine := by decide
  have fin : ∀ (a b : Addr) (vs us : List V) (xs ys : List PV), x = .ref a → y = .ref b → H a = some (.lst vs) → H b = some (.lst us) → RPs c G vs xs → RPs c G us ys → short (xs.length + ys.length) → P (.lst (xs ++ ys)) M → rCat x y H Q := fun a b vs us xs ys e1 e2 h1 h2 r1 r2 hs hq => by
    have hl : vs.length + us.length ≤ sizeLine := by
      rw [r1.length, r2.length]
      exact Nat.le_trans hs hll
    exact ⟨a, b, vs, us, e1, e2, h1, h2, hl, rp_frz h (r1.append r2) (by rw [List.length_append]; exact hl) hq k⟩
  obtain ⟨a, vs, xs, e1, h1, r1, _, hf⟩ := lst_at h rx hf
  obtain ⟨b, us, ys, e2, h2, r2, _, hs, hq⟩ := lst_at h ry hf
  exact fin a b vs us xs ys e1 e2 h1 h2 r1 r2 hs hq
def rPlus (K : PySem.W.Frag) : R2 := fun x y H Q => (rI0 fun i j => .int (i + j)) x y H Q ∨ (rCatA K x y H Q ∨ rCat x y H Q)
theorem op_plus : OpR X (binaryOp .Add) (rPlus X.K) := op_add.or (op_catA.or op_cat)
theorem lr_plus : LR c (rPlus c.K) fPlus := fun G H M x y p q P Q h rx ry hf k => by
  have hll : (16777216 : Nat) ≤ sizeLine := by decide
  cases p with
  | int i =>
    cases q <;> first | exact hf.elim | skip
    cases rx
    cases ry
    exact .inl ⟨_, _, rfl, rfl, k _ H G _ M (Ex.refl G) h (.int _) hf⟩
  | tup xs =>
    cases q <;> first | exact hf.elim | skip
    rename_i ys
    obtain ⟨hs, hq⟩ := hf
    cases rx with
    | tup s1 l1 r1 =>
      cases ry with
      | tup s2 l2 r2 =>
        rename_i a vs b us
        have hl : vs.length + us.length ≤ sizeLine := by
          rw [r1.length, r2.length]
          exact Nat.le_trans hs hll
        refine .inr (.inl ⟨_, _, _, _, rfl, rfl, ex_t h.ex s1, ex_t h.ex s2, hl, fun e => ?_, fun ne e => ?_, fun n1 n2 p hp => ?_⟩)
        · subst e
          cases r1
          exact k _ H G _ M (Ex.refl G) h (.tup s2 l2 r2) hq
        · subst e
          cases r2
          rw [List.append_nil] at hq
          exact k _ H G _ M (Ex.refl G) h (.tup s1 l1 r1) hq
        · have g := h.ex.none hp
          exact k _ _ (G.put p (.tup (vs ++ us))) _ M (Ex.new g) (h.frozen _ hp) (.tup (SqT.of upd_same) (by rw [List.length_append]; exact hl) ((r1.append r2).mono (Ex.new g))) hq
  | none => exact .inr (.inr (lr_catL G H M x y _ q P Q h rx ry hf k))
  | bool _ => exact .inr (.inr (lr_catL G H M x y _ q P Q h rx ry hf k))
  | w _ => exact .inr (.inr (lr_catL G H M x y _ q P Q h rx ry hf k))
  | lst _ => exact .inr (.inr (lr_catL G H M x y _ q P Q h rx ry hf k))
  | ro _ => exact .inr (.inr (lr_catL G H M x y _ q P Q h rx ry hf k))
  | obj _ => exact .inr (.inr (lr_catL G H M x y _ q P Q h rx ry hf k))
theorem q_plus (ha : QE X S T a fa) (hb : QE X S T b fb) : QE X S T (.BinOp a .Add b pos) (fOp fPlus fa fb) := q_op op_plus lr_plus ha hb

/-! ### slices of lists and tuples -/
noncomputable def fSl (fa : FE) (fl fh : FO) : FE := fun ρ M P => fa ρ M fun x M1 => fl ρ M1 fun l M2 => fh ρ M2 fun u M3 => match x with
  | .tup xs => P (.tup (cut xs l u)) M3
  | x => lstP x M3 fun xs => P (.lst (cut xs l u)) M3
theorem cut_whole {α : Type} {xs : List α} {lo hi : Option Int} (h : HT.sIx xs.length 0 lo = 0 ∧ HT.sIx xs.length xs.length hi = xs.length) : cut xs lo hi = xs := by
  unfold cut
  rw [h.1, h.2]
  simp
theorem le_sl {te : TE} {tl th : TO} {fl fh : FO} (h : LE c te fe) (h1 : LO c tl fl) (h2 : LO c th fh) : LE c (tSl (fun x lo hi H Q => rSlL c.K x lo hi H Q ∨ rSlA c.K x lo hi H Q) te tl th) (fSl fe fl fh) := fun G σ H ρ M P Q hh re hf k =>
  h G σ H ρ M _ _ hh re hf fun v H1 G1 p M1 e1 hh1 r1 q1 => h1 G1 σ H1 ρ M1 _ _ hh1 (re.mono e1) q1 fun lo H2 G2 M2 e2 hh2 q2 => h2 G2 σ H2 ρ M2 _ _ hh2 (re.mono (e1.trans e2)) q2 fun hi H3 G3 M3 e3 hh3 q3 => by
    have e13 := (e1.trans e2).trans e3
    have r3 := r1.mono (e2.trans e3)
    have lst : lstP p M3 (fun xs => P (.lst (cut xs lo hi)) M3) → rSlL c.K v lo hi H3 Q := fun q3 => by
      obtain ⟨a, vs, ps, rfl, hs, r, hl, q⟩ := seq_of (k := fun xs => P (.lst (cut xs lo hi)) M3) hh3 r3 q3
      exact ⟨a, vs, rfl, hs, rp_frz hh3 (r.cut lo hi) (Nat.le_trans (cutV_length vs lo hi) hl) q fun v' H' G' p' M' e4 => k v' H' G' p' M' (e13.trans e4)⟩
    cases p with
    | tup xs =>
      have q3' : P (.tup (cut xs lo hi)) M3 := q3
      cases r3 with
      | tup s l r =>
        rename_i a vs
        refine .inr ⟨a, vs, rfl, ex_t hh3.ex s, fun w => ?_, fun w p hp => ?_⟩
        · rw [r.length] at w
          rw [cut_whole w] at q3'
          exact k _ H3 G3 _ M3 e13 hh3 (.tup s l r) q3'
        · have g := hh3.ex.none hp
          exact k _ _ (G3.put p (.tup (cutV vs lo hi))) _ M3 (e13.trans (Ex.new g)) (hh3.frozen _ hp) (.tup (SqT.of upd_same) (Nat.le_trans (cutV_length vs lo hi) l) ((r.cut lo hi).mono (Ex.new g))) q3'
    | none => exact .inl (lst q3)
    | bool _ => exact .inl (lst q3)
    | int _ => exact .inl (lst q3)
    | w _ => exact .inl (lst q3)
    | lst _ => exact .inl (lst q3)
    | ro _ => exact .inl (lst q3)
    | obj _ => exact .inl (lst q3)
theorem q_sl {lo hi : Option Expr} {fl fh : FO} {p2 : Pos} (h : QE X S T e fe) (h1 : QO X S T lo fl) (h2 : QO X S T hi fh) : QE X S T (.Subscript e (.Slice lo hi none p2) pos) (fSl fe fl fh) :=
  let ⟨_, p, l⟩ := h; let ⟨_, p1, l1⟩ := h1; let ⟨_, p2, l2⟩ := h2; ⟨_, pe_slice (sl_list.or sl_tupA) p p1 p2, le_sl l l1 l2⟩
/-- xs[::-1] -/
noncomputable def fRev (fa : FE) : FE := fun ρ M P => fa ρ M fun x M1 => lstP x M1 fun xs => P (.lst xs.reverse) M1
theorem q_rev {k : Nat} {p1 p2 p3 : Pos} (h : QE X S T e fe) : QE X S T (.Subscript e (.Slice none none (some (.UnaryOp .USub (.Constant (.int 1) k p1) p2)) p3) pos) (fRev fe) := by
  obtain ⟨t, p, l⟩ := h
  refine ⟨_, pe_revL p, fun G σ H ρ M P Q hh re hf kk => l G σ H ρ M _ _ hh re hf fun v H1 G1 p1 M1 e1 h1 r1 q1 => ?_⟩
  obtain ⟨a, vs, ps, rfl, hs, r, hl, q⟩ := seq_of (k := fun xs => P (.lst xs.reverse) M1) h1 r1 q1
  exact ⟨a, vs, rfl, hs, rp_frz h1 r.reverse (by rw [List.length_reverse]; exact hl) q fun v' H' G' p' M' e2 => kk v' H' G' p' M' (e1.trans e2)⟩
/-- reversed(xs), walked: a frozen list, a tuple -/
noncomputable def iRevP (fa : FE) : FI := fun ρ M P => fa ρ M fun x M1 => match x with
  | .tup xs => P xs.reverse noG M1
  | .lst xs => P xs.reverse noG M1
  | .ro xs => P xs.reverse noG M1
  | _ => False
theorem rev_get {α : Type} {xs : List α} {i : Nat} (h : i < xs.length) : xs.reverse[i]? = xs[xs.length - 1 - i]? := List.getElem?_reverse h
theorem itok_v {G0 : GH} {a : Addr} {vs : List V} {ps : List PV} (r : RPs c G0 vs ps) (h0 : SqL c.K G0.z a vs) : ItOk c (Itv c.K a vs.length) G0 ps.reverse noG where
  go := fun G H M i e h gm hi => by
    rw [List.length_reverse, ← r.length] at hi
    exact ⟨hi, vs, _, ex_l h.ex (ex_l e h0), List.getElem?_eq_getElem (by omega)⟩
  yld := fun G H M i p x H' e h gm hp hy => by
    obtain ⟨rfl, hx⟩ := hy
    have hi : i < ps.length := by
      have z := (List.getElem?_eq_some_iff.mp hp).1
      rw [List.length_reverse] at z
      exact z
    rw [rev_get hi] at hp
    obtain ⟨v, hv, rv⟩ := r.get hp
    have ev := hx vs (ex_l h.ex (ex_l e h0))
    rw [r.length, hv] at ev
    cases ev
    exact ⟨G, Ex.refl G, h, rv.monoZ e⟩
  stop := fun G H M e h gm => by
    show vs.length ≤ ps.reverse.length
    rw [List.length_reverse, r.length]
    exact Nat.le_refl _
theorem itok_vt {G0 : GH} {a : Addr} {vs : List V} {ps : List PV} (r : RPs c G0 vs ps) (h0 : SqT c.K G0.z a vs) : ItOk c (ItvT c.K a vs.length) G0 ps.reverse noG where
  go := fun G H M i e h gm hi => by
    rw [List.length_reverse, ← r.length] at hi
    exact ⟨hi, vs, _, ex_t h.ex (ex_t e h0), List.getElem?_eq_getElem (by omega)⟩
  yld := fun G H M i p x H' e h gm hp hy => by
    obtain ⟨rfl, hx⟩ := hy
    have hi : i < ps.length := by
      have z := (List.getElem?_eq_some_iff.mp hp).1
      rw [List.length_reverse] at z
      exact z
    rw [rev_get hi] at hp
    obtain ⟨v, hv, rv⟩ := r.get hp
    have ev := hx vs (ex_t h.ex (ex_t e h0))
    rw [r.length, hv] at ev
    cases ev
    exact ⟨G, Ex.refl G, h, rv.monoZ e⟩
  stop := fun G H M e h gm => by
    show vs.length ≤ ps.reverse.length
    rw [List.length_reverse, r.length]
    exact Nat.le_refl _
theorem qi_rev {tg : Expr} {p : Pos} (hm : X.mg "reversed" = none) (h : QE X S T e fe) (hg : Gl X "reversed" := by rfl) (hs : starEach [e] X.env = (false, eval e X.env) :: starEach [] X.env := by rfl) : QI X S T tg (.Call (.Name "reversed" p) [e] [] pos) (iRevP fe) := by
  obtain ⟨t, q, l⟩ := h
  refine ⟨_, pi_revA hg hm q hs, fun G σ H ρ M P R hh re hf k => l G σ H ρ M _ _ hh re hf fun v H1 G1 p M1 e1 h1 r1 q1 => ?_⟩
  cases r1 <;> first | exact (False.elim q1) | skip
  · rename_i s l r
    exact ⟨_, _, rfl, .inr ⟨ex_t h1.ex s, k _ G1 H1 M1 _ noG e1 h1 (itok_vt r s) (by rw [List.length_reverse, ← r.length]; exact l) q1⟩⟩
  · rename_i s l r
    exact ⟨_, _, rfl, .inl ⟨SqL.of (h1.ex _ _ s), k _ G1 H1 M1 _ noG e1 h1 (itok_v r (SqL.of s)) (by rw [List.length_reverse, ← r.length]; exact l) q1⟩⟩
  · rename_i s l r
    exact ⟨_, _, rfl, .inl ⟨ex_l h1.ex s, k _ G1 H1 M1 _ noG e1 h1 (itok_v r s) (by rw [List.length_reverse, ← r.length]; exact l) q1⟩⟩

/-! ### a list that will not change any more -/
def delM (M : Mem) (p : Addr) : Mem := fun b => if b = p then none else M b
theorem delM_ne {M : Mem} {p q : Addr} (h : q ≠ p) : delM M p q = M q := by unfold delM; rw [if_neg h]
noncomputable def fFrz (fa : FE) : FE := fun ρ M P => fa ρ M fun x M1 => match x with
  | .obj p => rdL M1 p fun xs => P (.lst xs) (delM M1 p)
  | x => P x M1
theorem le_frz {te : TE} (h : LE c te fe) : LE c te (fFrz fe) := fun G σ H ρ M P Q hh re hf k =>
  h G σ H ρ M _ _ hh re hf fun v H1 G1 p M1 e1 h1 r1 q1 => by
    cases p with
    | obj a =>
      cases r1
      obtain ⟨xs, em, q⟩ := q1
      obtain ⟨g, o, ho, ro⟩ := h1.mem a _ em
      cases ro with
      | lst hl r =>
        rename_i vs
        have ez : Ex G1 (G1.put a (.lst vs)) := Ex.new g.1
        refine k (.ref a) H1 (G1.put a (.lst vs)) (.lst xs) (delM M1 a) (e1.trans ez) ⟨fun b u hb => ?_, fun p m e => ?_, fun b u hb => ?_⟩ (.lst (by exact upd_same) hl (r.mono ez)) q
        · have hb' : upd G1.z a (.lst vs) b = some u := hb
          by_cases ne : b = a
          · subst ne
            rw [upd_same] at hb'
            cases hb'
            exact ho
          · rw [upd_ne ne] at hb'
            exact h1.ex b u hb'
        · by_cases ne : p = a
          · subst ne
            unfold delM at e
            rw [if_pos rfl] at e
            cases e
          · rw [delM_ne ne] at e
            obtain ⟨g2, u, hu, ru⟩ := h1.mem p m e
            exact ⟨⟨by show upd G1.z a (.lst vs) p = none; rw [upd_ne ne]; exact g2.1, g2.2⟩, u, hu, ru.mono ez⟩
        · obtain ⟨hu, hz⟩ := h1.fr b u hb
          have ne : b ≠ a := fun z => by
            have hb' : G1.f b = some u := hb
            rw [z, g.2] at hb'
            cases hb'
          exact ⟨hu, by show upd G1.z a (.lst vs) b = none; rw [upd_ne ne]; exact hz⟩
    | none => exact k _ H1 G1 _ M1 e1 h1 r1 q1
    | bool _ => exact k _ H1 G1 _ M1 e1 h1 r1 q1
    | int _ => exact k _ H1 G1 _ M1 e1 h1 r1 q1
    | w _ => exact k _ H1 G1 _ M1 e1 h1 r1 q1
    | tup _ => exact k _ H1 G1 _ M1 e1 h1 r1 q1
    | lst _ => exact k _ H1 G1 _ M1 e1 h1 r1 q1
    | ro _ => exact k _ H1 G1 _ M1 e1 h1 r1 q1
theorem q_frz (h : QE X S T e fe) : QE X S T e (fFrz fe) := let ⟨_, p, l⟩ := h; ⟨_, p, le_frz l⟩
end
/-! ### the end -/
theorem ints_rps {c : Ct} {G : GH} : ∀ ns : List Int, RPs c G (ns.map V.int) (ns.map PV.int)
  | [] => .nil
  | n :: r => .cons (.int n) (ints_rps r)
theorem law_end {K : PySem.W.Frag} {S : List Str} {T : Nat → Addr} {A : ASp} {H : Hp} {a : Addr} {ns : List Int} (hl : ns.length ≤ 63) (hS : SqL K H a (ns.map V.int)) (h : A [.ro (ns.map PV.int)] (fun _ => none) fun p _ => p = .bool true) (E : XK) :
    sp3 ⟨K, S, T⟩ 1 A [.ref a] H (fun v _ => v = .bl true) E := by
  refine ⟨⟨H, fun _ => none⟩, fun _ => none, [.ro (ns.map PV.int)], _, ⟨fun _ _ z => z, (fun _ _ z => nomatch z), (fun _ _ z => nomatch z)⟩, .cons (.ro hS ?_ (ints_rps ns)) .nil, rfl, h, ?_⟩
  · rw [List.length_map]
    exact small_line (by omega)
  · intro v H' G' p M' e h' r q
    subst q
    cases r
    rfl
end L3
/-! L3: truth of anything, sums, while; what stands for a def of the text -/
namespace L3
open PySem PySem.Spec PyProof.Rows L2
section
variable {X : Cx} {S : List Str} {T : Nat → Addr} {c : Ct} {a b e : Expr} {es : List Expr} {fa fb fe : FE} {pos : Pos} {n : Nat} {ga : FT}
/-- the truth of a value -/
def emp : List PV → Bool
  | [] => true
  | _ => false
theorem emp_eq {G : GH} {vs : List V} {ps : List PV} (r : RPs c G vs ps) : (!vs.isEmpty) = !emp ps := by
  cases r <;> rfl
noncomputable def fTru (f : FE) : FT := fun ρ M P => f ρ M fun x M1 => match x with
  | .none => P false M1
  | .bool b => P b M1
  | .int i => P (i != 0) M1
  | .tup xs => P (!emp xs) M1
  | .lst xs => P (!emp xs) M1
  | .ro xs => P (!emp xs) M1
  | .obj p => rdL M1 p fun xs => P (!emp xs) M1
  | _ => False
theorem qt_truth (h : QE X S T e fe) (he : ∀ whole, isTrue e X.env whole = (do let v ← whole; standAt e.pos; holding [v] (truthy v)) := by intro _; rfl) : QT X S T e (fTru fe) := by
  obtain ⟨t, p, l⟩ := h
  refine ⟨_, pt_truth p he, fun G σ H ρ M P Q hh re hf k => l G σ H ρ M _ _ hh re hf fun v H1 G1 p1 M1 e1 h1 r1 q1 => ?_⟩
  cases r1 with
  | none => exact ⟨false, rfl, k _ H1 G1 M1 e1 h1 q1⟩
  | bool b => exact ⟨b, rfl, k _ H1 G1 M1 e1 h1 q1⟩
  | int i => exact ⟨i != 0, rfl, k _ H1 G1 M1 e1 h1 q1⟩
  | w _ => exact q1.elim
  | tup hs hl r => exact ⟨_, .inr (.inl ⟨_, ex_t h1.ex hs, (emp_eq r).symm⟩), k _ H1 G1 M1 e1 h1 q1⟩
  | lst hs hl r => exact ⟨_, .inl ⟨_, SqL.of (h1.ex _ _ hs), (emp_eq r).symm⟩, k _ H1 G1 M1 e1 h1 q1⟩
  | ro hs hl r => exact ⟨_, .inl ⟨_, ex_l h1.ex hs, (emp_eq r).symm⟩, k _ H1 G1 M1 e1 h1 q1⟩
  | obj a =>
    obtain ⟨xs, em, q⟩ := q1
    obtain ⟨_, o, ho, ro⟩ := h1.mem a _ em
    cases ro with
    | lst hl r => exact ⟨_, .inl ⟨_, SqL.of ho, (emp_eq r).symm⟩, k _ H1 G1 M1 e1 h1 q⟩
/-- a number of the module -/
theorem qg_intE {x : Str} {i : Int} (h : ∃ t, X.mg x = some (.int i t)) (hg : Gl X x := by rfl) (hd : (x == ("__debug__" : Str)) = false := by decide) : QE X S T (.Name x pos) (fC (.int i)) := by
  obtain ⟨t, hm⟩ := h
  exact qg_int hm hg hd
/-- sum of numbers -/
def ints? : List PV → Option (List Int)
  | [] => some []
  | .int i :: r => (match ints? r with | some l => some (i :: l) | none => none)
  | _ => none
theorem ints_of {G : GH} : ∀ {ps : List PV} {vs : List V} {l : List Int}, RPs c G vs ps → ints? ps = some l → vs = l.map V.int
  | [], _, _, r, h => by
    cases r
    cases h
    rfl
  | p :: ps, _, l, r, h => by
    cases r with
    | cons r1 r2 =>
      cases r1 <;> first | cases h | skip
      rename_i i
      unfold ints? at h
      cases e : ints? ps with
      | none => rw [e] at h; cases h
      | some l' =>
        rw [e] at h
        cases h
        rw [ints_of r2 e]
        rfl
theorem ints_map (l : List Int) : ints? (l.map PV.int) = some l := by
  induction l with
  | nil => rfl
  | cons i r ih =>
    show (match ints? (r.map PV.int) with | some l => some (i :: l) | none => none) = _
    rw [ih]
noncomputable def fSum : FC := fun xs M P => match xs with
  | [x] => lstP x M fun ys => ∃ l, ints? ys = some l ∧ P (.int l.sum) M
  | _ => False
theorem lc_sum : LC c (rSum c.K) fSum := fun G H M vs ps P Q hh r hf k => by
  match ps, hf with
  | [x], hf =>
    obtain ⟨v, rfl, h⟩ := rps1 r
    obtain ⟨a, us, qs, rfl, hs, r', hl, l, el, q⟩ := seq_of hh h hf
    rw [ints_of r' el] at hs
    exact ⟨a, l, rfl, hs, k _ H G _ M (Ex.refl G) hh (.int _) q⟩
variable {p : Pos}
theorem q_sum {fr : FA} (hm : X.mg "sum" = none) (ha : QA X S T [e] n fr) (hc : X.calm = true := by rfl) (hg : Gl X "sum" := by rfl) (he : starEach (e :: []) X.env = (false, eval e X.env) :: starEach [] X.env := by rfl) (hpl : (backTo pos (starEach [] X.env)).any (·.1) = false := by rfl) :
    QE X S T (.Call (.Name "sum" p) [e] [] pos) (fCB fSum fr) := q_callB (cr_sum hc) lc_sum hm (by decide +kernel) ha hg (by decide) (by decide) he hpl
end
/-! ### a def of the text -/
def Df (K : PySem.W.Frag) (mg : Str → Option Value) (x qual : Str) (st : Stmt) (ps : List Str) : Prop := ∃ f fd, mg x = some (.ref f) ∧ PySem.W.keepIn K (.ref f) = true ∧ Fun K x qual st f fd ∧ Binds K fd ps []
/-- it keeps A -/
def Has (P : Program) (w : World) (K : PySem.W.Frag) (mg : Str → Option Value) (base : Heap) (S : List Str) (T : Nat → Addr) (x : Str) (k : Nat) (ps : List Str) (A : ASp) : Prop :=
  ∃ f fd, mg x = some (.ref f) ∧ PySem.W.keepIn K (.ref f) = true ∧ Binds K fd ps [] ∧ FnOk P w K mg base CX0 k f fd ps (sp3 ⟨K, S, T⟩ ps.length A)
section
variable {P : Program} {w : World} {K : PySem.W.Frag} {mg : Str → Option Value} {base : Heap} {S : List Str} {T : Nat → Addr}
theorem has_of {x qual : Str} {st : Stmt} {N ps : List Str} {k j : Nat} {fs : FS} (D : Df K mg x qual st ps) (sc : FnScope N ps (defScope st)) (hn : N.length = ps.length + j)
    (hb : ∀ (f : Addr) (cdv : Value) (A : Around) (outer : List Env) (s : Shared) (H : Hp) (E : XK), Room k (A.deeper (envOfC qual (defScope st) s.heap.objs.size f cdv)) →
      QSs (cxOf CX0 P w K mg base N qual (defScope st) f cdv A outer s H E).nox S T (defBody st) fs) : Has P w K mg base S T x (k + 1) ps (mOf j fs) := by
  obtain ⟨f, fd, hm, hk, F, hB⟩ := D
  exact ⟨f, fd, hm, hk, hB, fn3 F sc hn (hb f)⟩
theorem df_of {h : Heap} {x qual : Str} {st : Stmt} {ps : List Str} {f : Addr} {od an : Option Addr} {sl : Array (Option Value)} {oc kV doc pm cdv ctv : Value} (X : K.In h) (G : h.Ns mainGlobals mg)
    (a : PySem.W.nsIn K mainGlobals x = some (some (.ref f))) (l : K.lookup f = some ⟨oc, od, .func (PySem.W.fnOf x qual (defArgs st) (defBody st) (defScope st) .none kV doc pm an cdv ctv), sl⟩)
    (c : PySem.W.codeIn K cdv qual = true) (k : PySem.W.keepIn K (.ref f) = true)
    (hb : ∀ (kV doc pm : Value) (an : Option Addr) (cdv ct : Value) (us : List Value), us.length = ps.length → bindArgs (PySem.W.fnOf x qual (defArgs st) (defBody st) (defScope st) .none kV doc pm an cdv ct) ⟨us, []⟩ = Pure.pure (ps.zip us)) : Df K mg x qual st ps :=
  ⟨f, _, PySem.W.mg_of X G a, k, fun_mk l c k, (fun_mk l c k).binds hb⟩
end
section
variable {X : Cx} {S : List Str} {T : Nat → Addr} {e : Expr} {es : List Expr} {pos p : Pos} {n k : Nat}
theorem q_callH {x : Str} {ps : List Str} {A : ASp} {fr : FA} (h : Has X.prog X.w X.K X.mg X.base S T x k ps A) (hr : Room k X.A) (ha : QA X S T (e :: es) n fr) (hn : n + ([] : List V).length = ps.length := by rfl) (hg : Gl X x := by rfl) (hdb : (x == ("__debug__" : Str)) = false := by decide)
    (he : starEach (e :: es) X.env = (false, eval e X.env) :: starEach es X.env := by rfl) (hpl : (backTo pos (starEach es X.env)).any (·.1) = false := by rfl) : QE X S T (.Call (.Name x p) (e :: es) [] pos) (fCall A [] fr) := by
  obtain ⟨f, fd, hm, hk, hb, F⟩ := h
  exact q_call F hr hm hk hb ha .nil (fun _ => .nil) hn hg hdb he hpl
end
end L3
/-! L3: tools for the plain part -/
namespace L3
open PySem
/-! ### ifs -/
section
variable {A B : Prop} {b : Bool} {p : Prop} [Decidable p]
theorem cT (h : A) : cnd true A B := ⟨fun _ => h, (fun z => nomatch z)⟩
theorem cF (h : B) : cnd false A B := ⟨(fun z => nomatch z), fun _ => h⟩
theorem cD (h1 : p → A) (h2 : ¬ p → B) : cnd (decide p) A B := ⟨fun z => h1 (of_decide_eq_true z), fun z => h2 (of_decide_eq_false z)⟩
theorem cN (h1 : ¬ p → A) (h2 : p → B) : cnd (!decide p) A B := ⟨fun z => h1 (by simpa using z), fun z => h2 (by simpa using z)⟩
theorem cDt (hp : p) (h1 : A) : cnd (decide p) A B := cD (fun _ => h1) fun z => absurd hp z
theorem cDf (hp : ¬ p) (h1 : B) : cnd (decide p) A B := cD (fun z => absurd z hp) fun _ => h1
theorem cNt (hp : ¬ p) (h1 : A) : cnd (!decide p) A B := cN (fun _ => h1) fun z => absurd z hp
theorem cNf (hp : p) (h1 : B) : cnd (!decide p) A B := cN (fun z => absurd hp z) fun _ => h1
theorem cB (h1 : b = true → A) (h2 : b = false → B) : cnd b A B := ⟨h1, h2⟩
theorem cBt (h : b = true) (h1 : A) : cnd b A B := ⟨fun _ => h1, fun z => by rw [h] at z; exact absurd z (by decide)⟩
theorem cBf (h : b = false) (h1 : B) : cnd b A B := ⟨fun z => by (rw [h] at z; exact absurd z (by decide)), fun _ => h1⟩
end
/-! ### loops -/
theorem loop_run {g : FG} {fb : FS} {D : FEnds} {gd : Mem → Prop} {xs : List PV} {ρ : FEnv} {M : Mem} (I : Nat → FEnv → Mem → Prop) (h0 : I 0 ρ M)
    (hs : ∀ i x r ρ M, xs[i]? = some x → xs.drop (i + 1) = r → I i ρ M → (∀ ρ' M', I (i + 1) ρ' M' → loopL g fb D gd r ρ' M') → loopL g fb D gd (x :: r) ρ M)
    (hd : ∀ ρ M, I xs.length ρ M → gd M ∧ D.nx ρ M) : loopL g fb D gd xs ρ M := by
  have key : ∀ n i, i + n = xs.length → ∀ ρ M, I i ρ M → loopL g fb D gd (xs.drop i) ρ M := by
    intro n
    induction n with
    | zero =>
      intro i hi ρ M hI
      have : i = xs.length := by omega
      subst this
      rw [List.drop_length]
      exact hd ρ M hI
    | succ n ih =>
      intro i hi ρ M hI
      have hlt : i < xs.length := by omega
      rw [List.drop_eq_getElem_cons hlt]
      exact hs i xs[i] _ ρ M (List.getElem?_eq_getElem hlt) rfl hI fun ρ' M' h' => ih (i + 1) (by omega) ρ' M' h'
  have z := key xs.length 0 (by omega) ρ M h0
  rwa [List.drop_zero] at z
theorem comp_run {g : FG} {ft : FT} {fe : FE} {gd : Mem → Prop} {K : List PV → Mem → Prop} {ρ : FEnv} {xs : List PV} {M : Mem} (I : Nat → List PV → Mem → Prop) (h0 : I 0 [] M)
    (hs : ∀ i x r acc M, xs[i]? = some x → xs.drop (i + 1) = r → I i acc M → (∀ acc' M', I (i + 1) acc' M' → compL g ft fe gd K ρ r acc' M') → compL g ft fe gd K ρ (x :: r) acc M)
    (hd : ∀ acc M, I xs.length acc M → gd M ∧ K acc M) : compL g ft fe gd K ρ xs [] M := by
  have key : ∀ n i, i + n = xs.length → ∀ acc M, I i acc M → compL g ft fe gd K ρ (xs.drop i) acc M := by
    intro n
    induction n with
    | zero =>
      intro i hi acc M hI
      have : i = xs.length := by omega
      subst this
      rw [List.drop_length]
      exact hd acc M hI
    | succ n ih =>
      intro i hi acc M hI
      have hlt : i < xs.length := by omega
      rw [List.drop_eq_getElem_cons hlt]
      exact hs i xs[i] _ acc M (List.getElem?_eq_getElem hlt) rfl hI fun acc' M' h' => ih (i + 1) (by omega) acc' M' h'
  have z := key xs.length 0 (by omega) [] M h0
  rwa [List.drop_zero] at z
/-- a comprehension whose element reckons F, and whose test is keep -/
theorem comp_pure {g : FG} {ft : FT} {fe : FE} {K : List PV → Mem → Prop} {ρ : FEnv} {M : Mem} (F : PV → PV) (keep : PV → Bool) : ∀ (xs acc : List PV),
    (∀ x, x ∈ xs → ∀ (k : FK) (N : Mem → Prop), (keep x = true → k (F x) M) → (keep x = false → N M) → g x ρ M fun ρ2 M2 => ft ρ2 M2 fun b M3 => cnd b (fe ρ2 M3 k) (N M3)) →
    K (acc ++ (xs.filter keep).map F) M → compL g ft fe noG K ρ xs acc M
  | [], acc, _, h => ⟨trivial, by rw [List.filter_nil, List.map_nil, List.append_nil] at h; exact h⟩
  | x :: r, acc, hx, h => ⟨trivial, hx x List.mem_cons_self _ _
      (fun e => comp_pure F keep r (acc ++ [F x]) (fun y hy => hx y (List.mem_cons_of_mem _ hy)) (by
        rw [List.filter_cons_of_pos e, List.map_cons] at h
        rw [List.append_assoc]
        exact h))
      (fun e => comp_pure F keep r acc (fun y hy => hx y (List.mem_cons_of_mem _ hy)) (by
        rw [List.filter_cons_of_neg (by rw [e]; exact Bool.false_ne_true)] at h
        exact h))⟩
theorem comp_map {i : Nat} {fe : FE} {K : List PV → Mem → Prop} {ρ : FEnv} {M : Mem} (F : PV → PV) (xs : List PV)
    (hx : ∀ x, x ∈ xs → ∀ (k : FK), k (F x) M → fe (setN ρ i (some x)) M k) (h : K (xs.map F) M) : compL (gN i) fYes fe noG K ρ xs [] M := by
  refine comp_pure F (fun _ => true) xs [] (fun x m k N h1 _ => ?_) ?_
  · show cnd true (fe (setN ρ i (some x)) M k) (N M)
    exact cT (hx x m k (h1 rfl))
  · rw [List.filter_eq_self.mpr (fun _ _ => rfl), List.nil_append]
    exact h
/-! ### memory -/
/-- all but s is as it was -/
def Off (s : Addr) (M M' : Mem) : Prop := ∀ q, q ≠ s → M' q = M q
theorem Off.refl (s : Addr) (M : Mem) : Off s M M := fun _ _ => rfl
theorem Off.trans {s : Addr} {M M1 M2 : Mem} (a : Off s M M1) (b : Off s M1 M2) : Off s M M2 := fun q h => (b q h).trans (a q h)
theorem Off.upd {s : Addr} {M : Mem} {o : MO} : Off s M (updM M s o) := fun q h => updM_ne h
/-- all that was known stands; all but s -/
def Sm (M M' : Mem) : Prop := ∀ q o, M q = some o → M' q = some o
def Ofs (s : Addr) (M M' : Mem) : Prop := ∀ q o, q ≠ s → M q = some o → M' q = some o
theorem Sm.refl (M : Mem) : Sm M M := fun _ _ h => h
theorem Sm.trans {M M1 M2 : Mem} (a : Sm M M1) (b : Sm M1 M2) : Sm M M2 := fun q o h => b q o (a q o h)
theorem Sm.new {M : Mem} {p : Addr} {o : MO} (h : M p = none) : Sm M (updM M p o) := fun q u e => by
  rw [updM_ne (ne_of_M e h)]
  exact e
theorem Sm.ofs {M M' : Mem} {s : Addr} (a : Sm M M') : Ofs s M M' := fun q o _ h => a q o h
theorem Off.ofs {M M' : Mem} {s : Addr} (a : Off s M M') : Ofs s M M' := fun q o ne h => by rw [a q ne]; exact h
theorem Ofs.refl (s : Addr) (M : Mem) : Ofs s M M := fun _ _ _ h => h
theorem Ofs.trans {s : Addr} {M M1 M2 : Mem} (a : Ofs s M M1) (b : Ofs s M1 M2) : Ofs s M M2 := fun q o ne h => b q o ne (a q o ne h)
/-- what was not there may change -/
theorem Ofs.mut {s : Addr} {M M' : Mem} {p : Addr} {o : MO} (a : Ofs s M M') (h : M p = none) : Ofs s M (updM M' p o) := fun q u ne e => by
  rw [updM_ne (ne_of_M e h)]
  exact a q u ne e
theorem Sm.mut {M M' : Mem} {p : Addr} {o : MO} (a : Sm M M') (h : M p = none) : Sm M (updM M' p o) := fun q u e => by
  rw [updM_ne (ne_of_M e h)]
  exact a q u e
theorem Sm.del {M M' : Mem} {p : Addr} (a : Sm M M') (h : M p = none) : Sm M (delM M' p) := fun q u e => by
  rw [delM_ne (ne_of_M e h)]
  exact a q u e
theorem Ofs.del {s : Addr} {M M' : Mem} {p : Addr} (a : Ofs s M M') (h : M p = none) : Ofs s M (delM M' p) := fun q u ne e => by
  rw [delM_ne (ne_of_M e h)]
  exact a q u ne e
/-- the state of a draw: a list of two numbers -/
def StA (M : Mem) (s : Addr) : Prop := ∃ a b : Int, M s = some (.lst [.int a, .int b]) ∧ b.natAbs.log2 ≤ 3000000
theorem StA.off {M M' : Mem} {s q : Addr} (h : StA M s) (o : Off q M M') (ne : s ≠ q) : StA M' s := by
  obtain ⟨a, b, e, l⟩ := h
  exact ⟨a, b, by rw [o s ne]; exact e, l⟩
theorem StA.sm {M M' : Mem} {s : Addr} (h : StA M s) (o : Sm M M') : StA M' s := by
  obtain ⟨a, b, e, l⟩ := h
  exact ⟨a, b, o s _ e, l⟩
theorem StA.ofs {M M' : Mem} {s q : Addr} (h : StA M s) (o : Ofs q M M') (ne : s ≠ q) : StA M' s := by
  obtain ⟨a, b, e, l⟩ := h
  exact ⟨a, b, o s _ ne e, l⟩
theorem StA.ne {M : Mem} {s p : Addr} (h : StA M s) (e : M p = none) : s ≠ p := by
  obtain ⟨a, b, e', l⟩ := h
  exact ne_of_M e' e
theorem log2_le {n k : Nat} (h : n < 2 ^ (k + 1)) : n.log2 ≤ k := by
  rcases Nat.eq_zero_or_pos n with h0 | hp
  · subst h0
    exact Nat.zero_le _
  · have := (Nat.log2_lt (Nat.ne_of_gt hp)).mpr h
    omega
theorem lt_log2 {n k : Nat} (h : n.log2 ≤ k) : n < 2 ^ (k + 1) := by
  rcases Nat.eq_zero_or_pos n with h0 | hp
  · subst h0
    exact Nat.pow_pos (by decide)
  · exact (Nat.log2_lt (Nat.ne_of_gt hp)).mp (by omega)
theorem log2_of_bound {i : Int} {k : Nat} (h1 : -(2 ^ (k + 1) : Int) < i) (h2 : i < (2 ^ (k + 1) : Int)) : i.natAbs.log2 ≤ k := by
  refine log2_le ?_
  have e : ((2 ^ (k + 1) : Nat) : Int) = (2 ^ (k + 1) : Int) := by simp
  omega
/-- products of numbers of which one is short -/
theorem mul_ok {i j : Int} {a b : Nat} (h1 : i.natAbs.log2 ≤ a) (h2 : j.natAbs.log2 ≤ b) (h : a + b < 100000000) : CMulB i j := by
  unfold CMulB
  omega
theorem mul_small {i j : Int} (h1 : -(2 ^ 100 : Int) < i) (h2 : i < 2 ^ 100) (h3 : -(2 ^ 100 : Int) < j) (h4 : j < 2 ^ 100) : CMulB i j :=
  mul_ok (a := 99) (b := 99) (log2_of_bound (by simpa using h1) (by simpa using h2)) (log2_of_bound (by simpa using h3) (by simpa using h4)) (by decide)
theorem div_ok {i j : Int} (h1 : 0 < j) (h2 : j < 2 ^ 100) : L2.CDivW i j := by
  refine ⟨h1, Nat.lt_of_le_of_lt (log2_of_bound (k := 99) ?_ ?_) (by decide)⟩
  · have : (0 : Int) < 2 ^ (99 + 1) := by decide
    omega
  · simpa using h2
theorem log_add {x y : Int} {a : Nat} (h1 : x.natAbs.log2 ≤ a) (h2 : y.natAbs.log2 ≤ a) : (x + y).natAbs.log2 ≤ a + 1 := by
  have l1 := lt_log2 h1
  have l2 := lt_log2 h2
  have e : 2 ^ (a + 1 + 1) = 2 * 2 ^ (a + 1) := by rw [Nat.pow_succ, Nat.mul_comm]
  refine log2_le ?_
  omega
theorem log_sub {x y : Int} {a : Nat} (h1 : x.natAbs.log2 ≤ a) (h2 : y.natAbs.log2 ≤ a) : (x - y).natAbs.log2 ≤ a + 1 := by
  have l1 := lt_log2 h1
  have l2 := lt_log2 h2
  have e : 2 ^ (a + 1 + 1) = 2 * 2 ^ (a + 1) := by rw [Nat.pow_succ, Nat.mul_comm]
  refine log2_le ?_
  omega
theorem log_mul {x y : Int} {a b : Nat} (h1 : x.natAbs.log2 ≤ a) (h2 : y.natAbs.log2 ≤ b) : (x * y).natAbs.log2 ≤ a + b + 1 := by
  have l1 := lt_log2 h1
  have l2 := lt_log2 h2
  refine log2_le ?_
  rw [Int.natAbs_mul, show a + b + 1 + 1 = (a + 1) + (b + 1) by omega, Nat.pow_add]
  exact Nat.mul_lt_mul'' l1 l2
/-! ### indexes -/
theorem atI_ok {l : List PV} {i : Int} (h0 : 0 ≤ i) (h1 : i < l.length) : L2.atI l i = l[i.toNat]? := by
  unfold L2.atI L2.ixN
  rw [if_pos h0, if_pos h1]
  rfl
theorem atI_get {l : List PV} {i : Int} (h0 : 0 ≤ i) (h1 : i < l.length) : ∃ v, L2.atI l i = some v ∧ v ∈ l := by
  rw [atI_ok h0 h1]
  have hl : i.toNat < l.length := by omega
  exact ⟨l[i.toNat], List.getElem?_eq_getElem hl, List.getElem_mem hl⟩
theorem bits_log {z : Int} {n : Nat} (h : Builtin.Int.intBits z ≤ n) : z.natAbs.log2 ≤ n := by
  unfold Builtin.Int.intBits at h
  split at h
  · rename_i e
    have e' : z = 0 := by simpa using e
    subst e'
    exact Nat.zero_le _
  · omega
/-! ### slices -/
theorem cut_from {α : Type} {xs : List α} {i : Int} (h : 0 ≤ i) : cut xs (some i) none = xs.drop i.toNat := by
  unfold cut HT.sIx
  dsimp only
  rw [if_neg (by omega)]
  by_cases hi : i.toNat ≤ xs.length
  · rw [Nat.min_eq_left hi]
    exact List.take_of_length_le (by rw [List.length_drop]; exact Nat.le_refl _)
  · rw [Nat.min_eq_right (by omega), List.drop_length, List.drop_of_length_le (by omega), List.take_nil]
theorem cut_to {α : Type} {xs : List α} {i : Int} (h : 0 ≤ i) : cut xs none (some i) = xs.take i.toNat := by
  unfold cut HT.sIx
  dsimp only
  rw [if_neg (by omega), List.drop_zero, Nat.sub_zero]
  by_cases hi : i.toNat ≤ xs.length
  · rw [Nat.min_eq_left hi]
  · rw [Nat.min_eq_right (by omega), List.take_length, List.take_of_length_le (by omega)]
theorem cut_neg1 {α : Type} {xs : List α} : cut xs none (some (-1)) = xs.dropLast := by
  unfold cut HT.sIx
  dsimp only
  rw [if_pos (by decide), List.drop_zero, Nat.sub_zero, List.dropLast_eq_take]
  congr 1
  omega
/-! ### equality of data -/
theorem purs_map {α : Type} (f : α → PV) (h : ∀ x, pur (f x) = true) : ∀ l : List α, purs (l.map f) = true
  | [] => rfl
  | x :: r => by
    show (pur (f x) && purs (r.map f)) = true
    rw [h x, purs_map f h r]
    rfl
theorem deps_map {α : Type} (f : α → PV) (n : Nat) (h : ∀ x, dep (f x) ≤ n) : ∀ l : List α, deps (l.map f) ≤ n
  | [] => Nat.zero_le _
  | x :: r => by
    show max (dep (f x)) (deps (r.map f)) ≤ n
    exact Nat.max_le.mpr ⟨h x, deps_map f n h r⟩
theorem purs_mem : ∀ {l : List PV}, (∀ x ∈ l, pur x = true) → purs l = true
  | [], _ => rfl
  | x :: r, h => by
    show (pur x && purs r) = true
    rw [h x List.mem_cons_self, purs_mem fun y hy => h y (List.mem_cons_of_mem _ hy)]
    rfl
theorem deps_mem {n : Nat} : ∀ {l : List PV}, (∀ x ∈ l, dep x ≤ n) → deps l ≤ n
  | [], _ => Nat.zero_le _
  | x :: r, h => Nat.max_le.mpr ⟨h x List.mem_cons_self, deps_mem fun y hy => h y (List.mem_cons_of_mem _ hy)⟩
theorem eq_same {k : Bool} {x y : PV} {M : Mem} {P : FK} (h : x = y) (hp : pur x = true) (hd : dep x ≤ 64) (q : P (.bool (neg k true)) M) : eqG k x y M P := by
  subst h
  refine ⟨hp, hp, .inl hd, ?_⟩
  rw [eqv_refl x hp]
  exact q
theorem pBt {p : Prop} [Decidable p] {M : Mem} {P : FK} (hp : p) (q : P (.bool true) M) : P (.bool (decide p)) M := by
  rw [decide_eq_true hp]
  exact q
theorem pBf {p : Prop} [Decidable p] {M : Mem} {P : FK} (hp : ¬ p) (q : P (.bool false) M) : P (.bool (decide p)) M := by
  rw [decide_eq_false hp]
  exact q
theorem range_get {lo : Int} {n i : Nat} {x : PV} (h : (rangeP lo n)[i]? = some x) : i < n ∧ x = .int (lo + (i : Nat)) := by
  unfold rangeP at h
  rw [List.getElem?_map] at h
  cases e : (List.range n)[i]? with
  | none => rw [e] at h; cases h
  | some j =>
    rw [e] at h
    obtain ⟨h1, h2⟩ := List.getElem?_eq_some_iff.mp e
    rw [List.getElem_range] at h2
    rw [List.length_range] at h1
    cases h
    exact ⟨h1, by rw [h2]⟩
theorem min_le {a b : Int} : (if b < a then b else a) ≤ a := by split <;> omega
theorem min_nn {a b : Int} (ha : 0 ≤ a) (hb : 0 ≤ b) : 0 ≤ (if b < a then b else a) := by split <;> omega
theorem eqK_lst {k : Bool} {xs : List PV} {y : PV} {M : Mem} {P : FK} (h : eqG k (.lst xs) y M P) : fEqK k (.lst xs) y M P := h
theorem eqK_tup {k : Bool} {xs : List PV} {y : PV} {M : Mem} {P : FK} (h : eqG k (.tup xs) y M P) : fEqK k (.tup xs) y M P := h
theorem eqK_none {k : Bool} {y : PV} {M : Mem} {P : FK} (h : eqG k .none y M P) : fEqK k .none y M P := h
end L3
/-! what each def does (printed by gen.py from T.py) -/
namespace Law
open PySem L3
abbrev W : List Str := []
/-- _law_state -/
noncomputable def b_law_state_42 : FS :=
  (sRet (fLstO (fCons (fC (.int 0)) (fCons (fOp fPlus (fOp fPlus (fOp fPlus (fOp fMul (fVar 3) (fC (.int 61))) (fOp fMul (fC (.int 7919)) (fVar 1))) (fOp fMul (fC (.int 104729)) (fVar 2))) (fC (.int 1))) fNil))))
noncomputable def b_law_state_40 : FS :=
  (sSeq (sIf (fAnd (fTest (fOp fLt (fVar 1) (fCB fLen (fCons (fVar 0) fNil)))) (fTest (fOp fGe (fVar 3) (fOp fPow (fC (.int 10)) (fC (.int 18)))))) (sRet (fLstO (fCons (fVar 3) (fCons (fOp fPlus (fVar 2) (fC (.int 1))) fNil)))) sNext)
  b_law_state_42)
noncomputable def b_law_state_38 : FS :=
  (sSeq (sIf (fTest (fOp fLt (fVar 3) (fC (.int 0)))) (sAsg (fOp fSub (fC (.int 1)) (fOp fMul (fC (.int 2)) (fVar 3))) (gN 3)) sNext)
  b_law_state_40)
noncomputable def b_law_state_36 : FS :=
  (sSeq (sIf (fTest (fOp fGt (fCB fLen (fCons (fVar 0) fNil)) (fC (.int 0)))) (sAsg (fCB fInt (fCons (fOp fIx (fVar 0) (fOp fMod (fCB fInt (fCons (fVar 1) fNil)) (fCB fLen (fCons (fVar 0) fNil)))) fNil)) (gN 3)) sNext)
  b_law_state_38)
noncomputable def b_law_state_35 : FS :=
  (sSeq (sAsg (fC (.int 0)) (gN 3))
  b_law_state_36)
noncomputable def b_law_state : FS :=
  b_law_state_35
theorem x_law_state : ∃ A : ASp, A = mOf 1 b_law_state := ⟨_, rfl⟩
@[irreducible] noncomputable def m_law_state : ASp := Classical.choose x_law_state
theorem e_law_state : m_law_state = mOf 1 b_law_state := by unfold m_law_state; exact Classical.choose_spec x_law_state
/-- _law_draw -/
noncomputable def b_law_draw_48 : FS :=
  (sAsg (fOp fPlus (fVar 1) (fOp fMod (fCB fInt (fCons (fOp fPlus (fOp fMul (fVar 3) (fVar 3)) (fVar 2)) fNil)) (fC (.int 162259276829213363391578010288127)))) (fSetL (fVar 0) (fC (.int 0))))
noncomputable def b_law_draw_47 : FS :=
  (sSeq (sAsg (fVar 3) (fSetL (fVar 0) (fC (.int 1))))
  b_law_draw_48)
noncomputable def b_law_draw_46 : FS :=
  (sSeq (sAsg (fOp fMod (fCB fInt (fCons (fOp fPlus (fOp fPlus (fOp fMul (fVar 2) (fVar 2)) (fOp fMul (fC (.int 69621)) (fVar 2))) (fC (.int 77))) fNil)) (fC (.int 618970019642690137449562111))) (gN 3))
  b_law_draw_47)
noncomputable def b_law_draw_45 : FS :=
  (sSeq (sAsg (fOp fMod (fCB fInt (fCons (fOp fPlus (fOp fPlus (fOp fMul (fIxC 1 (fVar 0)) (fIxC 1 (fVar 0))) (fOp fMul (fC (.int 48271)) (fIxC 1 (fVar 0)))) (fC (.int 12345))) fNil)) (fC (.int 2305843009213693951))) (gN 2))
  b_law_draw_46)
noncomputable def b_law_draw_51 : FS :=
  (sRet (fVar 4))
noncomputable def b_law_draw_50 : FS :=
  (sSeq (sAsg (fOp fDiv (fIxC 0 (fVar 0)) (fVar 1)) (fSetL (fVar 0) (fC (.int 0))))
  b_law_draw_51)
noncomputable def b_law_draw_49 : FS :=
  (sSeq (sAsg (fOp fMod (fCB fInt (fCons (fIxC 0 (fVar 0)) fNil)) (fVar 1)) (gN 4))
  b_law_draw_50)
noncomputable def b_law_draw_44 : FS :=
  (sSeq (sIf (fTest (fOp fLt (fIxC 0 (fVar 0)) (fVar 1))) b_law_draw_45 sNext)
  b_law_draw_49)
noncomputable def b_law_draw : FS :=
  b_law_draw_44
theorem x_law_draw : ∃ A : ASp, A = mOf 3 b_law_draw := ⟨_, rfl⟩
@[irreducible] noncomputable def m_law_draw : ASp := Classical.choose x_law_draw
theorem e_law_draw : m_law_draw = mOf 3 b_law_draw := by unfold m_law_draw; exact Classical.choose_spec x_law_draw
/-- _law_tolls -/
noncomputable def b_law_tolls_56 : FS :=
  (sRet (fFrz (fVar 2)))
noncomputable def b_law_tolls_54 : FS :=
  (sSeq (sFor (iR1 (fCons (fVar 1) fNil)) (gN 3) (sDrop (fApp (fVar 2) (fTup (fCons (fCall m_law_draw [] (fCons (fVar 0) (fCons (fOp fIx (fTup (fCons (fC (.int 3)) (fCons (fOp fPow (fC (.int 10)) (fC (.int 6))) fNil))) (fCall m_law_draw [] (fCons (fVar 0) (fCons (fC (.int 2)) fNil)))) fNil))) (fCons (fCall m_law_draw [] (fCons (fVar 0) (fCons (fC (.int 201)) fNil))) (fCons (fCall m_law_draw [] (fCons (fVar 0) (fCons (fOp fPow (fC (.int 10)) (fC (.int 6))) fNil))) fNil)))))))
  b_law_tolls_56)
noncomputable def b_law_tolls_53 : FS :=
  (sSeq (sAsg (fLstO fNil) (gN 2))
  b_law_tolls_54)
noncomputable def b_law_tolls : FS :=
  b_law_tolls_53
theorem x_law_tolls : ∃ A : ASp, A = mOf 2 b_law_tolls := ⟨_, rfl⟩
@[irreducible] noncomputable def m_law_tolls : ASp := Classical.choose x_law_tolls
theorem e_law_tolls : m_law_tolls = mOf 2 b_law_tolls := by unfold m_law_tolls; exact Classical.choose_spec x_law_tolls
/-- must_come_in -/
noncomputable def b_must_come_in : FS :=
  (sRet (fOp fPlus (fOp fPlus (fVar 1) (fIxC 0 (fVar 0))) (fOp fDiv (fOp fPlus (fOp fMul (fVar 1) (fIxC 1 (fVar 0))) (fC (.int 999))) (fC (.int 1000)))))
theorem x_must_come_in : ∃ A : ASp, A = mOf 0 b_must_come_in := ⟨_, rfl⟩
@[irreducible] noncomputable def m_must_come_in : ASp := Classical.choose x_must_come_in
theorem e_must_come_in : m_must_come_in = mOf 0 b_must_come_in := by unfold m_must_come_in; exact Classical.choose_spec x_must_come_in
/-- legs -/
noncomputable def b_legs_24 : FS :=
  (sDrop (fApp (fVar 3) (fTup (fCons (fVar 0) (fCons (fVar 1) fNil)))))
noncomputable def b_legs_22 : FS :=
  (sSeq (sIf (fTest (fOp fGt (fVar 0) (fC (.int 1000000000000000)))) sNever sNext)
  b_legs_24)
noncomputable def b_legs_21 : FS :=
  (sSeq (sAsg (fOp fPlus (fVar 1) (fIxC 2 (fVar 4))) (gN 1))
  b_legs_22)
noncomputable def b_legs_20 : FS :=
  (sSeq (sAsg (fCall m_must_come_in [] (fCons (fVar 4) (fCons (fVar 0) fNil))) (gN 0))
  b_legs_21)
noncomputable def b_legs_25 : FS :=
  (sRet (fRev (fVar 3)))
noncomputable def b_legs_19 : FS :=
  (sSeq (sFor (iRevP (fVar 2)) (gN 4) b_legs_20)
  b_legs_25)
noncomputable def b_legs_18 : FS :=
  (sSeq (sAsg (fLstO (fCons (fTup (fCons (fVar 0) (fCons (fVar 1) fNil))) fNil)) (gN 3))
  b_legs_19)
noncomputable def b_legs_16 : FS :=
  (sSeq (sIf (fTest (fOp fGt (fVar 0) (fC (.int 1000000000000000)))) sNever sNext)
  b_legs_18)
noncomputable def b_legs_14 : FS :=
  (sSeq (sIf (fTest (fOp fGt (fCB fLen (fCons (fVar 2) fNil)) (fC (.int 20)))) sNever sNext)
  b_legs_16)
noncomputable def b_legs : FS :=
  b_legs_14
theorem x_legs : ∃ A : ASp, A = mOf 2 b_legs := ⟨_, rfl⟩
@[irreducible] noncomputable def m_legs : ASp := Classical.choose x_legs
theorem e_legs : m_legs = mOf 2 b_legs := by unfold m_legs; exact Classical.choose_spec x_legs
/-- loads -/
noncomputable def b_loads_31 : FS :=
  (sAsg (fCall m_must_come_in [] (fCons (fIxC 3 (fVar 3)) (fCons (fVar 1) fNil))) (gN 1))
noncomputable def b_loads_30 : FS :=
  (sSeq (sDrop (fApp (fVar 2) (fVar 1)))
  b_loads_31)
noncomputable def b_loads_32 : FS :=
  (sRet (fRev (fVar 2)))
noncomputable def b_loads_29 : FS :=
  (sSeq (sFor (iRevP (fVar 0)) (gN 3) b_loads_30)
  b_loads_32)
noncomputable def b_loads_28 : FS :=
  (sSeq (sAsg (fLstO fNil) (gN 2))
  b_loads_29)
noncomputable def b_loads : FS :=
  b_loads_28
theorem x_loads : ∃ A : ASp, A = mOf 2 b_loads := ⟨_, rfl⟩
@[irreducible] noncomputable def m_loads : ASp := Classical.choose x_loads
theorem e_loads : m_loads = mOf 2 b_loads := by unfold m_loads; exact Classical.choose_spec x_loads
/-- _law_sums -/
noncomputable def b_law_sums_66 : FS :=
  (sRet (fOp (fEqK false) (fCall m_must_come_in [] (fCons (fVar 1) (fCons (fOp fMul (fC (.int 1000)) (fVar 2)) fNil))) (fOp fPlus (fOp fPlus (fOp fMul (fC (.int 1000)) (fVar 2)) (fIxC 0 (fVar 1))) (fOp fMul (fVar 2) (fIxC 1 (fVar 1))))))
noncomputable def b_law_sums_64 : FS :=
  (sSeq (sIf (fNot (fTest (fChain fLe fLe (fOp fPlus (fCall m_must_come_in [] (fCons (fVar 1) (fCons (fVar 2) fNil))) (fC (.int 1))) (fCall m_must_come_in [] (fCons (fVar 1) (fCons (fOp fPlus (fVar 2) (fC (.int 1))) fNil))) (fOp fPlus (fOp fPlus (fCall m_must_come_in [] (fCons (fVar 1) (fCons (fVar 2) fNil))) (fC (.int 2))) (fOp fDiv (fIxC 1 (fVar 1)) (fC (.int 1000))))))) (sRet (fC (.bool false))) sNext)
  b_law_sums_66)
noncomputable def b_law_sums_62 : FS :=
  (sSeq (sIf (fNot (fTest (fChain fLe fLe (fOp fSub (fVar 5) (fC (.int 1))) (fVar 4) (fVar 5)))) (sRet (fC (.bool false))) sNext)
  b_law_sums_64)
noncomputable def b_law_sums_61 : FS :=
  (sSeq (sAsg (fOp fSub (fOp fPlus (fCall m_must_come_in [] (fCons (fVar 1) (fCons (fVar 2) fNil))) (fCall m_must_come_in [] (fCons (fVar 1) (fCons (fVar 3) fNil)))) (fIxC 0 (fVar 1))) (gN 5))
  b_law_sums_62)
noncomputable def b_law_sums_60 : FS :=
  (sSeq (sAsg (fCall m_must_come_in [] (fCons (fVar 1) (fCons (fOp fPlus (fVar 2) (fVar 3)) fNil))) (gN 4))
  b_law_sums_61)
noncomputable def b_law_sums_59 : FS :=
  (sSeq (sAsg (fCall m_law_draw [] (fCons (fVar 0) (fCons (fOp fIx (fTup (fCons (fC (.int 3000)) (fCons (fOp fPow (fC (.int 10)) (fC (.int 12))) fNil))) (fCall m_law_draw [] (fCons (fVar 0) (fCons (fC (.int 2)) fNil)))) fNil))) (gN 3))
  b_law_sums_60)
noncomputable def b_law_sums_58 : FS :=
  (sSeq (sAsg (fCall m_law_draw [] (fCons (fVar 0) (fCons (fOp fIx (fTup (fCons (fC (.int 3000)) (fCons (fOp fPow (fC (.int 10)) (fC (.int 12))) fNil))) (fCall m_law_draw [] (fCons (fVar 0) (fCons (fC (.int 2)) fNil)))) fNil))) (gN 2))
  b_law_sums_59)
noncomputable def b_law_sums : FS :=
  b_law_sums_58
theorem x_law_sums : ∃ A : ASp, A = mOf 4 b_law_sums := ⟨_, rfl⟩
@[irreducible] noncomputable def m_law_sums : ASp := Classical.choose x_law_sums
theorem e_law_sums : m_law_sums = mOf 4 b_law_sums := by unfold m_law_sums; exact Classical.choose_spec x_law_sums
/-- law -/
noncomputable def b_law_89 : FS :=
  (sIf (fTest (fOp (fEqK true) (fCB fList (fCons (fCall m_loads [] (fCons (fCB fTuple (fCons (fVar 11) fNil)) (fCons (fVar 5) fNil))) fNil)) (fLc (iSeq (fCall m_legs [] (fCons (fVar 5) (fCons (fVar 6) (fCons (fLc (iSeq (fSl (fVar 11) (fPart (fC (.int 1))) fNoPart)) (gN 17) fYes (fIxC 3 (fVar 17)) [17]) fNil))))) (gN 16) fYes (fIxC 0 (fVar 16)) [16]))) (sRet (fC (.bool false))) sNext)
noncomputable def b_law_87 : FS :=
  (sSeq (sIf (fTest (fOp (fEqK true) (fCB fList (fCons (fCall m_loads [] (fCons (fCB fTuple (fCons (fVar 11) fNil)) (fCons (fVar 5) fNil))) fNil)) (fOp fPlus (fCB fList (fCons (fCall m_loads [] (fCons (fCB fTuple (fCons (fSl (fVar 11) fNoPart (fPart (fVar 13))) fNil)) (fCons (fVar 15) fNil))) fNil)) (fCB fList (fCons (fVar 14) fNil))))) (sRet (fC (.bool false))) sNext)
  b_law_89)
noncomputable def b_law_85 : FS :=
  (sSeq (sIf (fTest (fOp (fEqK true) (fVar 14) (fLst fNil))) (sAsg (fCall m_must_come_in [] (fCons (fIxC 3 (fOp fIx (fVar 11) (fVar 13))) (fCons (fIxC 0 (fVar 14)) fNil))) (gN 15)) sNext)
  b_law_87)
noncomputable def b_law_84 : FS :=
  (sSeq (sAsg (fVar 5) (gN 15))
  b_law_85)
noncomputable def b_law_83 : FS :=
  (sSeq (sAsg (fCall m_loads [] (fCons (fCB fTuple (fCons (fSl (fVar 11) (fPart (fVar 13)) fNoPart) fNil)) (fCons (fVar 5) fNil))) (gN 14))
  b_law_84)
noncomputable def b_law_82 : FS :=
  (sSeq (sAsg (fOp fPlus (fC (.int 1)) (fCall m_law_draw [] (fCons (fVar 2) (fCons (fVar 3) fNil)))) (gN 13))
  b_law_83)
noncomputable def b_law_92 : FS :=
  (sIf (fNot (fTru (fCall m_law_sums [] (fCons (fVar 2) (fCons (fVar 18) fNil))))) (sRet (fC (.bool false))) sNext)
noncomputable def b_law_91 : FS :=
  (sFor (iSeq (fOp fPlus (fSl (fVar 4) fNoPart (fPart (fC (.int 4)))) (fLst (fCons (fTup (fCons (fC (.int 0)) (fCons (fC (.int 0)) (fCons (fC (.int 0)) fNil)))) (fCons (fTup (fCons (fC (.int 7)) (fCons (fC (.int 100000)) (fCons (fC (.int 1)) fNil)))) fNil))))) (gN 18) b_law_92)
noncomputable def b_law_81 : FS :=
  (sSeq (sIf (fTest (fOp fGt (fVar 3) (fC (.int 0)))) b_law_82 sNext)
  b_law_91)
noncomputable def b_law_80 : FS :=
  (sSeq (sAsg (fLc (iR1 (fCons (fVar 3) fNil)) (gN 12) fYes (fTup (fCons (fVar 12) (fCons (fVar 12) (fCons (fOp fPlus (fVar 12) (fC (.int 1))) (fCons (fOp fIx (fVar 4) (fVar 12)) (fCons (fC (.int 5)) fNil)))))) [12]) (gN 11))
  b_law_81)
noncomputable def b_law_78 : FS :=
  (sSeq (sIf (fOr (fTest (fOp (fEqK true) (fCB fList (fCons (fVar 8) fNil)) (fOp fPlus (fCB fList (fCons (fVar 10) fNil)) (fCB fList (fCons (fSl (fVar 9) (fPart (fC (.int 1))) fNoPart) fNil))))) (fOr (fTest (fOp (fEqK true) (fCB fLen (fCons (fVar 8) fNil)) (fOp fPlus (fVar 3) (fC (.int 1))))) (fTest (fOp (fEqK true) (fOp fIx (fVar 8) (fNeg (fC (.int 1)))) (fTup (fCons (fVar 5) (fCons (fVar 6) fNil))))))) (sRet (fC (.bool false))) sNext)
  b_law_80)
noncomputable def b_law_77 : FS :=
  (sSeq (sAsg (fCall m_legs [] (fCons (fIxC 0 (fIxC 0 (fVar 9))) (fCons (fIxC 1 (fIxC 0 (fVar 9))) (fCons (fSl (fVar 4) fNoPart (fPart (fVar 7))) fNil)))) (gN 10))
  b_law_78)
noncomputable def b_law_76 : FS :=
  (sSeq (sAsg (fCall m_legs [] (fCons (fVar 5) (fCons (fVar 6) (fCons (fSl (fVar 4) (fPart (fVar 7)) fNoPart) fNil)))) (gN 9))
  b_law_77)
noncomputable def b_law_75 : FS :=
  (sSeq (sAsg (fCall m_legs [] (fCons (fVar 5) (fCons (fVar 6) (fCons (fCB fList (fCons (fVar 4) fNil)) fNil)))) (gN 8))
  b_law_76)
noncomputable def b_law_74 : FS :=
  (sSeq (sAsg (fCall m_law_draw [] (fCons (fVar 2) (fCons (fOp fPlus (fVar 3) (fC (.int 1))) fNil))) (gN 7))
  b_law_75)
noncomputable def b_law_73 : FS :=
  (sSeq (sAsg (fCall m_law_draw [] (fCons (fVar 2) (fCons (fOp fPow (fC (.int 10)) (fC (.int 9))) fNil))) (gN 6))
  b_law_74)
noncomputable def b_law_72 : FS :=
  (sSeq (sAsg (fOp fPlus (fC (.int 1)) (fCall m_law_draw [] (fCons (fVar 2) (fCons (fOp fIx (fTup (fCons (fC (.int 9)) (fCons (fOp fPow (fC (.int 10)) (fC (.int 6))) (fCons (fOp fPow (fC (.int 10)) (fC (.int 9))) fNil)))) (fCall m_law_draw [] (fCons (fVar 2) (fCons (fC (.int 3)) fNil)))) fNil)))) (gN 5))
  b_law_73)
noncomputable def b_law_71 : FS :=
  (sSeq (sAsg (fCall m_law_tolls [] (fCons (fVar 2) (fCons (fVar 3) fNil))) (gN 4))
  b_law_72)
noncomputable def b_law_70 : FS :=
  (sSeq (sAsg (fCall m_law_draw [] (fCons (fVar 2) (fCons (fC (.int 21)) fNil))) (gN 3))
  b_law_71)
noncomputable def b_law_69 : FS :=
  (sSeq (sAsg (fCall m_law_state [] (fCons (fVar 0) (fCons (fVar 1) (fCons (fC (.int 115)) fNil)))) (gN 2))
  b_law_70)
noncomputable def b_law_94 : FS :=
  (sRet (fC (.bool true)))
noncomputable def b_law_68 : FS :=
  (sSeq (sFor (iR1 (fCons (fCB fMin2 (fCons (fC (.int 6)) (fCons (fOp fPlus (fC (.int 1)) (fCB fLen (fCons (fVar 0) fNil))) fNil))) fNil)) (gN 1) b_law_69)
  b_law_94)
noncomputable def b_law : FS :=
  b_law_68
theorem x_law : ∃ A : ASp, A = mOf 18 b_law := ⟨_, rfl⟩
@[irreducible] noncomputable def m_law : ASp := Classical.choose x_law
theorem e_law : m_law = mOf 18 b_law := by unfold m_law; exact Classical.choose_spec x_law
end Law
namespace Law
open PySem L3
theorem mod_log {x m : Int} (h : 0 < m) (h2 : m < 2 ^ 100) : (x % m).natAbs.log2 ≤ 99 := by
  have h0 := Int.emod_nonneg x (show m ≠ 0 by omega)
  have h1 := Int.emod_lt_of_pos x h
  exact log2_of_bound (by omega) (by omega)
theorem draw_ok {M : Mem} {s : Addr} {many : Int} {P : FK} (h : StA M s) (hm : 0 < many) (hm2 : many < 2 ^ 100) (k : ∀ d M', 0 ≤ d → d < many → StA M' s → Ofs s M M' → P (.int d) M') : m_law_draw [.obj s, .int many] M P := by
  obtain ⟨a, b, e, hb⟩ := h
  have fin : ∀ (M : Mem) (a b : Int), M s = some (.lst [.int a, .int b]) → b.natAbs.log2 ≤ 3000000 → (∀ d M', 0 ≤ d → d < many → StA M' s → Ofs s M M' → P (.int d) M') →
      ∀ ρ x y, ρ = [some (.obj s), some (.int many), x, y, none] → (sSeq (sAsg (fOp fMod (fCB fInt (fCons (fIxC 0 (fVar 0)) fNil)) (fVar 1)) (gN 4))
  (sSeq (sAsg (fOp fDiv (fIxC 0 (fVar 0)) (fVar 1)) (fSetL (fVar 0) (fC (.int 0)))) (sRet (fVar 4)))) { nx := fun _ M' => P .none M', rt := P } ρ M := by
    intro M a b e hb k ρ x y er
    subst er
    conv => whnf
    refine ⟨_, e, ?_⟩
    conv => whnf
    refine ⟨hm, ?_⟩
    conv => whnf
    refine ⟨_, e, ?_⟩
    conv => whnf
    refine ⟨div_ok hm hm2, ?_⟩
    conv => whnf
    refine ⟨_, e, 0, rfl, ?_⟩
    exact k _ _ (Int.emod_nonneg _ (by omega)) (Int.emod_lt_of_pos _ hm) ⟨_, _, updM_same, hb⟩ Off.upd.ofs
  rw [e_law_draw]
  conv => whnf
  refine ⟨_, e, ?_⟩
  conv => whnf
  refine cD (fun hlt => ?_) (fun hge => ?_)
  · conv => whnf
    refine ⟨_, e, ?_⟩
    conv => whnf
    refine ⟨_, e, ?_⟩
    conv => whnf
    refine ⟨mul_ok (a := 3000000) (b := 3000000) hb hb (by decide), ?_⟩
    conv => whnf
    refine ⟨_, e, ?_⟩
    conv => whnf
    refine ⟨mul_ok (a := 16) (b := 3000000) (by decide) hb (by decide), ?_⟩
    conv => whnf
    refine ⟨(by decide : (0 : Int) < 2305843009213693951), ?_⟩
    have l1 : ((b * b + 48271 * b + 12345) % 2305843009213693951).natAbs.log2 ≤ 99 := mod_log (by decide) (by decide)
    conv => whnf
    refine ⟨mul_ok (a := 99) (b := 99) l1 l1 (by decide), ?_⟩
    conv => whnf
    refine ⟨mul_ok (a := 17) (b := 99) (by decide) l1 (by decide), ?_⟩
    conv => whnf
    refine ⟨(by decide : (0 : Int) < 618970019642690137449562111), ?_⟩
    have l2 : ∀ x : Int, (x % 618970019642690137449562111).natAbs.log2 ≤ 99 := fun x => mod_log (by decide) (by decide)
    conv => whnf
    refine ⟨_, e, 1, rfl, ?_⟩
    conv => whnf
    refine ⟨mul_ok (a := 99) (b := 99) (l2 _) (l2 _) (by decide), ?_⟩
    conv => whnf
    refine ⟨(by decide : (0 : Int) < 162259276829213363391578010288127), ?_⟩
    conv => whnf
    refine ⟨_, updM_same, 0, rfl, ?_⟩
    refine fin _ _ _ updM_same (Nat.le_trans (l2 _) (by decide)) (fun d M' h1 h2 h3 h4 => k d M' h1 h2 h3 (Ofs.trans (Off.trans Off.upd Off.upd).ofs h4)) _ (some (.int _)) (some (.int _)) rfl
  · conv => whnf
    exact fin M a b e hb k _ none none rfl
/-- a script as a law's helper reads it -/
structure Scr (ns : List Int) : Prop where
  len : ns.length ≤ 63
  bits : ∀ z ∈ ns, Builtin.Int.intBits z ≤ 1048576
theorem small_log {i : Int} (h0 : 0 ≤ i) (h1 : i < 2 ^ 30) : i.natAbs.log2 ≤ 29 := log2_of_bound (by omega) (by omega)
theorem state_fin {M : Mem} {P : FK} {ns : List Int} {k salt : Int} (hs : Scr ns) (hk : 0 ≤ k ∧ k < 2 ^ 30) (hsalt : 0 ≤ salt ∧ salt < 2 ^ 20) (K : ∀ s M', M s = none → StA M' s → Sm M M' → P (.obj s) M') (c : Int) (hc0 : 0 ≤ c) (hc : c.natAbs.log2 ≤ 2000000) :
    (sSeq (sIf (fAnd (fTest (fOp fLt (fVar 1) (fCB fLen (fCons (fVar 0) fNil)))) (fTest (fOp fGe (fVar 3) (fOp fPow (fC (.int 10)) (fC (.int 18)))))) (sRet (fLstO (fCons (fVar 3) (fCons (fOp fPlus (fVar 2) (fC (.int 1))) fNil)))) sNext)
  (sRet (fLstO (fCons (fC (.int 0)) (fCons (fOp fPlus (fOp fPlus (fOp fPlus (fOp fMul (fVar 3) (fC (.int 61))) (fOp fMul (fC (.int 7919)) (fVar 1))) (fOp fMul (fC (.int 104729)) (fVar 2))) (fC (.int 1))) fNil)))))
      { nx := fun _ M' => P .none M', rt := P } [some (.ro (ns.map PV.int)), some (.int k), some (.int salt), some (.int c)] M := by
  have last : (sRet (fLstO (fCons (fC (.int 0)) (fCons (fOp fPlus (fOp fPlus (fOp fPlus (fOp fMul (fVar 3) (fC (.int 61))) (fOp fMul (fC (.int 7919)) (fVar 1))) (fOp fMul (fC (.int 104729)) (fVar 2))) (fC (.int 1))) fNil))))
      { nx := fun _ M' => P .none M', rt := P } [some (.ro (ns.map PV.int)), some (.int k), some (.int salt), some (.int c)] M := by
    conv => whnf
    have l1 := small_log hk.1 hk.2
    have l2 := small_log hsalt.1 (show salt < 2 ^ 30 by omega)
    refine ⟨mul_ok (a := 2000000) (b := 6) hc (by decide) (by decide), ?_⟩
    conv => whnf
    refine ⟨mul_ok (a := 13) (b := 29) (by decide) l1 (by decide), ?_⟩
    conv => whnf
    refine ⟨mul_ok (a := 17) (b := 29) (by decide) l2 (by decide), ?_⟩
    conv => whnf
    intro p hp
    refine K p _ hp ⟨_, _, updM_same, ?_⟩ (Sm.new hp)
    have a1 : (c * 61).natAbs.log2 ≤ 2000010 := Nat.le_trans (log_mul (b := 6) hc (by decide)) (by decide)
    have a2 : (7919 * k).natAbs.log2 ≤ 2000010 := Nat.le_trans (log_mul (a := 13) (by decide) l1) (by decide)
    have a3 : (104729 * salt).natAbs.log2 ≤ 2000011 := Nat.le_trans (log_mul (a := 17) (by decide) l2) (by decide)
    have a4 := log_add a1 a2
    have a5 := log_add a4 a3
    have a6 := log_add (y := 1) a5 (by decide)
    exact Nat.le_trans a6 (by decide)
  conv => whnf
  refine cD (fun h1 => ?_) (fun h1 => ?_)
  · conv => whnf
    refine ⟨⟨by decide, by decide, by decide⟩, ?_⟩
    conv => whnf
    refine cD (fun h2 => ?_) (fun h2 => ?_)
    · conv => whnf
      intro p hp
      refine K p _ hp ⟨_, _, updM_same, ?_⟩ (Sm.new hp)
      exact Nat.le_trans (small_log (i := salt + 1) (by omega) (by omega)) (by decide)
    · exact last
  · conv => whnf
    exact cF last
theorem state_ok {M : Mem} {P : FK} {ns : List Int} {k salt : Int} (hs : Scr ns) (hk : 0 ≤ k ∧ k < 2 ^ 30) (hsalt : 0 ≤ salt ∧ salt < 2 ^ 20) (K : ∀ s M', M s = none → StA M' s → Sm M M' → P (.obj s) M') :
    m_law_state [.ro (ns.map PV.int), .int k, .int salt] M P := by
  rw [e_law_state]
  conv => whnf
  refine cD (fun h1 => ?_) (fun h1 => ?_)
  · conv => whnf
    refine ⟨h1, ?_⟩
    have hn : (0 : Int) < ((ns.map PV.int).length : Nat) := h1
    obtain ⟨v, e, hv⟩ := atI_get (l := ns.map PV.int) (i := k % ((ns.map PV.int).length : Nat)) (Int.emod_nonneg _ (by omega)) (Int.emod_lt_of_pos _ hn)
    obtain ⟨z, hz, rfl⟩ := List.mem_map.mp hv
    refine ⟨_, e, ?_⟩
    have lz := bits_log (hs.bits z hz)
    conv => whnf
    refine cD (fun h2 => ?_) (fun h2 => ?_)
    · conv => whnf
      refine ⟨mul_ok (a := 1) (b := 1048576) (by decide) lz (by decide), ?_⟩
      have l2 : (1 - 2 * z).natAbs.log2 ≤ 2000000 := Nat.le_trans (log_sub (a := 1048578) (x := 1) (y := 2 * z) (by decide) (log_mul (a := 1) (by decide) lz)) (by decide)
      exact state_fin hs hk hsalt K (1 - 2 * z) (by omega) l2
    · exact state_fin hs hk hsalt K z (by omega) (Nat.le_trans lz (by decide))
  · conv => whnf
    refine cDf (by decide) ?_
    exact state_fin hs hk hsalt K 0 (by decide) (by decide)
end Law
namespace Law
open PySem L3
local macro_rules | `(tactic| walk_at "w") => `(tactic| (conv => whnf))
/-! ### the mathematics -/
structure Toll where
  b : Int
  p : Int
  g : Int
def Toll.d (t : Toll) : PV := .tup [.int t.b, .int t.p, .int t.g]
def Toll.ok (t : Toll) : Prop := (0 ≤ t.b ∧ t.b < 1000000) ∧ (0 ≤ t.p ∧ t.p ≤ 200) ∧ (0 ≤ t.g ∧ t.g < 1000000)
def mci (t : Toll) (a : Int) : Int := a + t.b + (a * t.p + 999) / 1000
/-- what must come in ahead of these tolls -/
def hd (a d : Int) : List Toll → Int × Int
  | [] => (a, d)
  | t :: r => (mci t (hd a d r).1, (hd a d r).2 + t.g)
/-- the legs -/
def lgt (a d : Int) : List Toll → List (Int × Int)
  | [] => []
  | _ :: r => hd a d r :: lgt a d r
def lg (a d : Int) (ts : List Toll) : List (Int × Int) := hd a d ts :: lgt a d ts
def ld (a d : Int) : List Toll → List Int
  | [] => []
  | _ :: r => (hd a d r).1 :: ld a d r
theorem hd_app (a d : Int) : ∀ (x y : List Toll), hd a d (x ++ y) = hd (hd a d y).1 (hd a d y).2 x
  | [], y => rfl
  | t :: r, y => by
    show (mci t (hd a d (r ++ y)).1, (hd a d (r ++ y)).2 + t.g) = (mci t (hd _ _ r).1, (hd _ _ r).2 + t.g)
    rw [hd_app a d r y]
theorem lg_app (a d : Int) : ∀ (x y : List Toll), lg a d (x ++ y) = lg (hd a d y).1 (hd a d y).2 x ++ lgt a d y
  | [], y => rfl
  | t :: r, y => by
    have ih := lg_app a d r y
    show hd a d ((t :: r) ++ y) :: lg a d (r ++ y) = hd _ _ (t :: r) :: (lg _ _ r ++ lgt a d y)
    rw [ih, hd_app a d (t :: r) y]
theorem ld_app (a d : Int) : ∀ (x y : List Toll), ld a d (x ++ y) = ld (hd a d y).1 (hd a d y).2 x ++ ld a d y
  | [], _ => rfl
  | t :: r, y => by
    show (hd a d (r ++ y)).1 :: ld a d (r ++ y) = (hd _ _ r).1 :: ld _ _ r ++ _
    rw [ld_app a d r y, hd_app a d r y]
    rfl
theorem lgt_len (a d : Int) : ∀ x, (lgt a d x).length = x.length
  | [] => rfl
  | _ :: r => congrArg (· + 1) (lgt_len a d r)
theorem lg_len (a d : Int) (x : List Toll) : (lg a d x).length = x.length + 1 := congrArg (· + 1) (lgt_len a d x)
theorem ld_len (a d : Int) : ∀ x, (ld a d x).length = x.length
  | [] => rfl
  | _ :: r => congrArg (· + 1) (ld_len a d r)
theorem lg_last (a d : Int) : ∀ x, ∃ r, lg a d x = r ++ [(a, d)]
  | [] => ⟨[], rfl⟩
  | t :: r => by
    obtain ⟨q, e⟩ := lg_last a d r
    exact ⟨hd a d (t :: r) :: q, congrArg (hd a d (t :: r) :: ·) e⟩
theorem ld_lg (a d : Int) : ∀ (t : Toll) (r : List Toll), ld a d (t :: r) = (lg a d r).map (·.1)
  | t, [] => rfl
  | t, u :: r => by
    show (hd a d (u :: r)).1 :: ld a d (u :: r) = (hd a d (u :: r)).1 :: (lg a d r).map (·.1)
    rw [ld_lg a d u r]
theorem ld_head (a d : Int) (t : Toll) (r : List Toll) : hd a d (t :: r) = (mci t (hd a d r).1, (hd a d r).2 + t.g) := rfl
/-- bounds -/
def bd : Nat → Int
  | 0 => 1000000000
  | n + 1 => bd n + 1000000 + (bd n * 200 + 999) / 1000
theorem mci_le {t : Toll} {a B : Int} (ht : t.ok) (h0 : 0 ≤ a) (h : a ≤ B) : 0 ≤ mci t a ∧ mci t a ≤ B + 1000000 + (B * 200 + 999) / 1000 := by
  obtain ⟨⟨b0, b1⟩, ⟨p0, p1⟩, _⟩ := ht
  have m0 : 0 ≤ a * t.p := Int.mul_nonneg h0 p0
  have m1 : a * t.p ≤ a * 200 := Int.mul_le_mul_of_nonneg_left p1 h0
  unfold mci
  omega
theorem hd_le {a d : Int} (h0 : 0 ≤ a) (h1 : a ≤ 1000000000) : ∀ ts : List Toll, (∀ t ∈ ts, t.ok) → 0 ≤ (hd a d ts).1 ∧ (hd a d ts).1 ≤ bd ts.length
  | [], _ => ⟨h0, h1⟩
  | t :: r, h => by
    have ih := hd_le (d := d) h0 h1 r fun u hu => h u (List.mem_cons_of_mem _ hu)
    exact mci_le (h t List.mem_cons_self) ih.1 ih.2
theorem bd_mono : ∀ n, 0 ≤ bd n ∧ bd n ≤ bd (n + 1)
  | 0 => by decide
  | n + 1 => by
    have ih := bd_mono n
    have e : bd (n + 1 + 1) = bd (n + 1) + 1000000 + (bd (n + 1) * 200 + 999) / 1000 := rfl
    rw [e]
    omega
theorem bd_le {n m : Nat} (h : n ≤ m) : bd n ≤ bd m := by
  induction h with
  | refl => exact Int.le_refl _
  | step _ ih => exact Int.le_trans ih (bd_mono _).2
theorem bd20 : bd 20 ≤ 1000000000000000 := by decide
theorem hd_ok {a d : Int} (h0 : 0 ≤ a) (h1 : a ≤ 1000000000) {ts : List Toll} (h : ∀ t ∈ ts, t.ok) (hl : ts.length ≤ 20) : 0 ≤ (hd a d ts).1 ∧ (hd a d ts).1 ≤ 1000000000000000 :=
  have z := hd_le (d := d) h0 h1 ts h
  ⟨z.1, Int.le_trans z.2 (Int.le_trans (bd_le hl) bd20)⟩
/-! ### the defs -/
def pD (x : Int × Int) : PV := .tup [.int x.1, .int x.2]
theorem mci_run {t : Toll} {a : Int} {M : Mem} {P : FK} (h : CMulB a t.p) (k : P (.int (mci t a)) M) : m_must_come_in [t.d, .int a] M P := by
  rw [e_must_come_in]
  walk_at "w"
  refine ⟨h, ?_⟩
  walk_at "w"
  refine ⟨div_ok (by decide) (by decide), ?_⟩
  exact k
theorem big_mul {a p : Int} (h0 : 0 ≤ a) (h1 : a ≤ 1000000000000000000) (h2 : 0 ≤ p) (h3 : p ≤ 1000000) : CMulB a p := mul_small (by omega) (by omega) (by omega) (by omega)
/-- a, d from here on are the law's: all amounts are those of the tolls behind -/
theorem legs_run {a d : Int} {ts : List Toll} {M : Mem} {P : FK} (hl : ts.length ≤ 20) (hb : ∀ i, i ≤ ts.length → 0 ≤ (hd a d (ts.drop i)).1 ∧ (hd a d (ts.drop i)).1 ≤ 1000000000000000) (ht : ∀ t ∈ ts, t.ok)
    (k : ∀ M', Sm M M' → P (.lst ((lg a d ts).map pD)) M') : m_legs [.int a, .int d, .lst (ts.map Toll.d)] M P := by
  rw [e_legs]
  have ha : a ≤ 1000000000000000 := by
    have z := (hb ts.length (Nat.le_refl _)).2
    rw [List.drop_length] at z
    exact z
  walk_at "w"
  refine cDf ?_ ?_
  · rw [List.length_map]
    omega
  walk_at "w"
  refine cDf (by omega) ?_
  walk_at "w"
  intro p hp
  walk_at "w"
  refine loop_run (fun i ρ M' => ∃ o, ρ = [some (.int (hd a d (ts.drop (ts.length - i))).1), some (.int (hd a d (ts.drop (ts.length - i))).2), some (.lst (ts.map Toll.d)), some (.obj p), o] ∧
      M' = updM M p (.lst ((lg a d (ts.drop (ts.length - i))).reverse.map pD))) ⟨none, ?_, ?_⟩ ?_ ?_
  · rw [Nat.sub_zero, List.drop_length]
    rfl
  · rw [Nat.sub_zero, List.drop_length]
    rfl
  · rintro i x r ρ M' hx hr ⟨o, rfl, rfl⟩ ih
    have hi : i < ts.length := by
      have z := (List.getElem?_eq_some_iff.mp hx).1
      rw [List.length_reverse, List.length_map] at z
      exact z
    rw [rev_get (by rw [List.length_map]; exact hi), List.length_map, List.getElem?_map, List.getElem?_eq_getElem (by omega)] at hx
    have ex : x = (ts[ts.length - 1 - i]'(by omega)).d := (Option.some.inj hx).symm
    have ed : ts.drop (ts.length - (i + 1)) = ts[ts.length - 1 - i]'(by omega) :: ts.drop (ts.length - i) := by
      have e := List.drop_eq_getElem_cons (l := ts) (i := ts.length - 1 - i) (by omega)
      rw [show ts.length - (i + 1) = ts.length - 1 - i by omega, e, show ts.length - 1 - i + 1 = ts.length - i by omega]
    generalize ts[ts.length - 1 - i]'(by omega) = t at ex ed
    subst ex
    have tok : t.ok := ht t (List.mem_of_mem_drop (by rw [ed]; exact List.mem_cons_self))
    have b0 := hb (ts.length - i) (by omega)
    have b1 := hb (ts.length - (i + 1)) (by omega)
    rw [ed] at b1
    refine ⟨trivial, ?_⟩
    walk_at "w"
    refine mci_run (big_mul b0.1 (by omega) tok.2.1.1 (by have := tok.2.1.2; omega)) ?_
    walk_at "w"
    refine cDf (by have := b1.2; show ¬ (1000000000000000 < mci t _); exact Int.not_lt.mpr this) ?_
    walk_at "w"
    refine ⟨_, updM_same, ?_⟩
    walk_at "w"
    refine ⟨_, updM_same, ?_, ?_⟩
    · rw [List.length_map, List.length_reverse, lg_len, List.length_drop]
      omega
    · rw [updM_updM]
      refine ih _ _ ⟨some t.d, ?_, ?_⟩
      · rw [ed]
        rfl
      · rw [ed]
        show updM M p (.lst (_ ++ [pD (hd a d (t :: ts.drop (ts.length - i)))])) = _
        rw [show (lg a d (t :: ts.drop (ts.length - i))) = hd a d (t :: ts.drop (ts.length - i)) :: lg a d (ts.drop (ts.length - i)) from rfl, List.reverse_cons, List.map_append]
        rfl
  · rintro ρ M' ⟨o, rfl, rfl⟩
    refine ⟨trivial, ?_⟩
    walk_at "w"
    refine ⟨_, updM_same, ?_⟩
    show P (.lst ((lg a d (ts.drop (ts.length - ((ts.map Toll.d).reverse).length))).reverse.map pD).reverse) _
    rw [List.length_reverse, List.length_map, Nat.sub_self, List.drop_zero, ← List.map_reverse, List.reverse_reverse]
    exact k _ (Sm.new hp)
/-- a way with this toll -/
def wayD (i : Nat) (t : Toll) : PV := .tup [.int i, .int i, .int (i + 1), t.d, .int 5]
theorem loads_run {a d : Int} {ts : List Toll} {ws : List PV} {M : Mem} {P : FK} (hl : ts.length ≤ 20) (hw : ∀ (i : Nat) w, ws[i]? = some w → ∃ x y z u t, ts[i]? = some t ∧ w = .tup [x, y, z, t.d, u]) (hn : ws.length = ts.length)
    (hb : ∀ i, i ≤ ts.length → 0 ≤ (hd a d (ts.drop i)).1 ∧ (hd a d (ts.drop i)).1 ≤ 1000000000000000) (ht : ∀ t ∈ ts, t.ok)
    (k : ∀ M', Sm M M' → P (.lst ((ld a d ts).map .int)) M') : m_loads [.tup ws, .int a] M P := by
  rw [e_loads]
  walk_at "w"
  intro p hp
  walk_at "w"
  refine loop_run (fun i ρ M' => ∃ o, ρ = [some (.tup ws), some (.int (hd a d (ts.drop (ts.length - i))).1), some (.obj p), o] ∧
      M' = updM M p (.lst ((ld a d (ts.drop (ts.length - i))).reverse.map .int))) ⟨none, ?_, ?_⟩ ?_ ?_
  · rw [Nat.sub_zero, List.drop_length]
    rfl
  · rw [Nat.sub_zero, List.drop_length]
    rfl
  · rintro i x r ρ M' hx hr ⟨o, rfl, rfl⟩ ih
    have hi : i < ts.length := by
      have z := (List.getElem?_eq_some_iff.mp hx).1
      rw [List.length_reverse, hn] at z
      exact z
    rw [rev_get (by rw [hn]; exact hi), hn] at hx
    obtain ⟨x1, x2, x3, x5, t, et, rfl⟩ := hw _ _ hx
    have ed : ts.drop (ts.length - (i + 1)) = t :: ts.drop (ts.length - i) := by
      have e := List.drop_eq_getElem_cons (l := ts) (i := ts.length - 1 - i) (by omega)
      rw [show ts.length - (i + 1) = ts.length - 1 - i by omega, e, show ts.length - 1 - i + 1 = ts.length - i by omega]
      rw [List.getElem?_eq_getElem (by omega)] at et
      rw [Option.some.inj et]
    have tok : t.ok := ht t (List.mem_of_mem_drop (by rw [ed]; exact List.mem_cons_self))
    have b0 := hb (ts.length - i) (by omega)
    refine ⟨trivial, ?_⟩
    walk_at "w"
    refine ⟨_, updM_same, ?_⟩
    walk_at "w"
    refine ⟨_, updM_same, ?_, ?_⟩
    · rw [List.length_map, List.length_reverse, ld_len, List.length_drop]
      omega
    walk_at "w"
    refine mci_run (big_mul b0.1 (by omega) tok.2.1.1 (by have := tok.2.1.2; omega)) ?_
    refine ih _ _ ⟨some (.tup [x1, x2, x3, t.d, x5]), ?_, ?_⟩
    · rw [ed]
      rfl
    · rw [updM_updM, ed]
      show updM M p (.lst (_ ++ [.int (hd a d (ts.drop (ts.length - i))).1])) = _
      rw [show (ld a d (t :: ts.drop (ts.length - i))) = (hd a d (ts.drop (ts.length - i))).1 :: ld a d (ts.drop (ts.length - i)) from rfl, List.reverse_cons, List.map_append]
      rfl
  · rintro ρ M' ⟨o, rfl, rfl⟩
    refine ⟨trivial, ?_⟩
    walk_at "w"
    refine ⟨_, updM_same, ?_⟩
    show P (.lst ((ld a d (ts.drop (ts.length - (ws.reverse).length))).reverse.map .int).reverse) _
    rw [List.length_reverse, hn, Nat.sub_self, List.drop_zero, ← List.map_reverse, List.reverse_reverse]
    exact k _ (Sm.new hp)
theorem sum_law (b a1 a2 : Int) {p : Int} (h0 : 0 ≤ p) (x y : Int) (hx : a1 = x * p) (hy : a2 = y * p) : let m := fun a => a + b + (a * p + 999) / 1000
    (m x + m y - b - 1 ≤ m (x + y) ∧ m (x + y) ≤ m x + m y - b) ∧ (m x + 1 ≤ m (x + 1) ∧ m (x + 1) ≤ m x + 2 + p / 1000) ∧ m (1000 * x) = 1000 * x + b + x * p := by
  intro m
  have e1 : (x + y) * p = x * p + y * p := Int.add_mul x y p
  have e2 : (x + 1) * p = x * p + p := by rw [Int.add_mul, Int.one_mul]
  have e3 : 1000 * x * p = 1000 * (x * p) := Int.mul_assoc _ _ _
  show (x + b + (x * p + 999) / 1000 + (y + b + (y * p + 999) / 1000) - b - 1 ≤ x + y + b + ((x + y) * p + 999) / 1000 ∧ x + y + b + ((x + y) * p + 999) / 1000 ≤ x + b + (x * p + 999) / 1000 + (y + b + (y * p + 999) / 1000) - b) ∧
    (x + b + (x * p + 999) / 1000 + 1 ≤ x + 1 + b + ((x + 1) * p + 999) / 1000 ∧ x + 1 + b + ((x + 1) * p + 999) / 1000 ≤ x + b + (x * p + 999) / 1000 + 2 + p / 1000) ∧ 1000 * x + b + (1000 * x * p + 999) / 1000 = 1000 * x + b + x * p
  rw [e1, e2, e3]
  omega
theorem draw2 {M : Mem} {s : Addr} {x y : Int} {P : FK} (h : StA M s) (hx : 0 < x ∧ x < 2 ^ 100) (hy : 0 < y ∧ y < 2 ^ 100) (k : ∀ d M', 0 ≤ d → d < x ∨ d < y → StA M' s → Ofs s M M' → P (.int d) M') :
    m_law_draw [.obj s, .int 2] M fun v M1 => fIx (.tup [.int x, .int y]) v M1 fun z M2 => m_law_draw [.obj s, z] M2 P := by
  refine draw_ok h (by decide) (by decide) fun d M1 h0 h1 s1 o1 => ?_
  rcases (show d = 0 ∨ d = 1 by omega) with rfl | rfl
  · refine ⟨_, rfl, ?_⟩
    exact draw_ok s1 hx.1 hx.2 fun d M2 h0 h1 s2 o2 => k d M2 h0 (.inl h1) s2 (o1.trans o2)
  · refine ⟨_, rfl, ?_⟩
    exact draw_ok s1 hy.1 hy.2 fun d M2 h0 h1 s2 o2 => k d M2 h0 (.inr h1) s2 (o1.trans o2)
theorem sums_run {M : Mem} {s : Addr} {t : Toll} {P : FK} (h : StA M s) (hp : 0 ≤ t.p ∧ t.p ≤ 100000) (k : ∀ M', StA M' s → Ofs s M M' → P (.bool true) M') : m_law_sums [.obj s, t.d] M P := by
  rw [e_law_sums]
  walk_at "w"
  refine ⟨⟨by decide, by decide, by decide⟩, ?_⟩
  walk_at "w"
  refine draw2 h ⟨by decide, by decide⟩ ⟨by decide, by decide⟩ fun one M1 o0 o1 s1 f1 => ?_
  walk_at "w"
  refine ⟨⟨by decide, by decide, by decide⟩, ?_⟩
  refine draw2 s1 ⟨by decide, by decide⟩ ⟨by decide, by decide⟩ fun two M2 t0 t1 s2 f2 => ?_
  have e12 : (10 : Int) ^ Int.toNat 12 = 1000000000000 := by decide
  have o2 : one < 1000000000000 := by rcases o1 with z | z <;> omega
  have t2 : two < 1000000000000 := by rcases t1 with z | z <;> omega
  have bm : ∀ x : Int, 0 ≤ x → x ≤ 1000000000000000 → CMulB x t.p := fun x h0 h1 => big_mul h0 (by omega) hp.1 (by omega)
  obtain ⟨⟨w1, w2⟩, ⟨w3, w4⟩, w5⟩ := sum_law t.b _ _ hp.1 one two rfl rfl
  walk_at "w"
  refine mci_run (bm _ (by omega) (by omega)) ?_
  walk_at "w"
  refine mci_run (bm _ o0 (by omega)) ?_
  walk_at "w"
  refine mci_run (bm _ t0 (by omega)) ?_
  walk_at "w"
  refine cDt w1 ?_
  walk_at "w"
  refine cNf w2 ?_
  walk_at "w"
  refine mci_run (bm _ o0 (by omega)) ?_
  walk_at "w"
  refine mci_run (bm _ (by omega) (by omega)) ?_
  walk_at "w"
  refine cDt w3 ?_
  walk_at "w"
  refine mci_run (bm _ o0 (by omega)) ?_
  walk_at "w"
  refine ⟨div_ok (by decide) (by decide), ?_⟩
  walk_at "w"
  refine cNf w4 ?_
  walk_at "w"
  refine ⟨mul_small (by decide) (by decide) (by omega) (by omega), ?_⟩
  walk_at "w"
  refine mci_run (bm _ (by omega) (by omega)) ?_
  walk_at "w"
  refine ⟨mul_small (by decide) (by decide) (by omega) (by omega), ?_⟩
  walk_at "w"
  refine ⟨bm _ o0 (by omega), ?_⟩
  walk_at "w"
  exact pBt w5 (k _ s2 (f1.trans f2))
theorem tolls_run {M : Mem} {s : Addr} {many : Int} {P : FK} (h : StA M s) (hm : 0 ≤ many ∧ many ≤ 20) (k : ∀ (ts : List Toll) M', (ts.length : Int) = many → (∀ t ∈ ts, t.ok) → StA M' s → Ofs s M M' → P (.lst (ts.map Toll.d)) M') : m_law_tolls [.obj s, .int many] M P := by
  rw [e_law_tolls]
  walk_at "w"
  intro p hp
  have nsp : s ≠ p := h.ne hp
  walk_at "w"
  refine ⟨by omega, ?_⟩
  refine loop_run (fun i ρ M' => ∃ (ts : List Toll) (o : Option PV), ρ = [some (.obj s), some (.int many), some (.obj p), o] ∧ ts.length = i ∧ (∀ t ∈ ts, t.ok) ∧ M' p = some (.lst (ts.map Toll.d)) ∧ StA M' s ∧ Ofs s M M')
    ⟨[], none, rfl, rfl, (fun _ z => nomatch z), updM_same, h.off Off.upd nsp, (Ofs.refl s M).mut hp⟩ ?_ ?_
  · rintro i x r ρ M' hx hr ⟨ts, o, rfl, hl, ht, hM, hS, hO⟩ ih
    have hi : i < 20 := by
      have z := (List.getElem?_eq_some_iff.mp hx).1
      rw [range_len] at z
      omega
    refine ⟨trivial, ?_⟩
    walk_at "w"
    refine ⟨_, hM, ?_⟩
    walk_at "w"
    refine ⟨⟨by decide, by decide, by decide⟩, ?_⟩
    walk_at "w"
    refine draw2 hS ⟨by decide, by decide⟩ ⟨by decide, by decide⟩ fun b M1 b0 b1 s1 f1 => ?_
    walk_at "w"
    refine draw_ok s1 (by decide) (by decide) fun q M2 q0 q1 s2 f2 => ?_
    walk_at "w"
    refine ⟨⟨by decide, by decide, by decide⟩, ?_⟩
    walk_at "w"
    refine draw_ok s2 (by decide) (by decide) fun g M3 g0 g1 s3 f3 => ?_
    have e6 : (10 : Int) ^ Int.toNat 6 = 1000000 := by decide
    have f := (f1.trans f2).trans f3
    have hM3 := f p _ nsp.symm hM
    walk_at "w"
    refine ⟨_, hM3, ?_, ?_⟩
    · rw [List.length_map]
      omega
    walk_at "w"
    refine ih _ _ ⟨ts ++ [⟨b, q, g⟩], some x, rfl, by rw [List.length_append]; exact congrArg (· + 1) hl, ?_, ?_, s3.off Off.upd nsp, (hO.trans f).mut hp⟩
    · intro t hm
      rcases List.mem_append.mp hm with z | z
      · exact ht t z
      · rw [List.mem_singleton] at z
        subst z
        exact ⟨⟨b0, by show b < 1000000; rcases b1 with z | z <;> omega⟩, ⟨q0, by show q ≤ 200; omega⟩, ⟨g0, by show g < 1000000; omega⟩⟩
    · rw [updM_same, List.map_append]
      rfl
  · rintro ρ M' ⟨ts, o, rfl, hl, ht, hM, hS, hO⟩
    refine ⟨trivial, ?_⟩
    walk_at "w"
    refine ⟨_, hM, ?_⟩
    walk_at "w"
    refine k ts _ ?_ ht ?_ (hO.del hp)
    · rw [hl, range_len]
      omega
    · obtain ⟨a, b, e, l⟩ := hS
      exact ⟨a, b, by rw [delM_ne nsp]; exact e, l⟩
/-! ### the law -/
theorem pD_pure (x : Int × Int) : pur (pD x) = true := rfl
theorem pD_dep (x : Int × Int) : dep (pD x) ≤ 1 := Nat.le_refl 1
theorem pDs_pure (l : List (Int × Int)) : pur (.lst (l.map pD)) = true := purs_map pD pD_pure l
theorem pDs_dep (l : List (Int × Int)) : dep (.lst (l.map pD)) ≤ 64 := Nat.le_trans (Nat.succ_le_succ (deps_map pD 1 pD_dep l)) (by decide)
theorem is_pure (l : List Int) : pur (.lst (l.map PV.int)) = true := purs_map _ (fun _ => rfl) l
theorem is_dep (l : List Int) : dep (.lst (l.map PV.int)) ≤ 64 := Nat.le_trans (Nat.succ_le_succ (deps_map PV.int 0 (fun _ => Nat.le_refl 0) l)) (by decide)
theorem short_ok {a b : Nat} (h : a + b ≤ 1000) : short (a + b) := Nat.le_trans h (by decide)
/-- the loop over the sums -/
theorem sums_all {D : FEnds} {fb : FS} {s : Addr} (hb : ∀ (t : Toll) (D : FEnds) (x0 x1 x3 x4 x5 x6 x7 x8 x9 x10 x11 x12 x13 x14 x15 x16 x17 : Option PV) (M : Mem), (0 ≤ t.p ∧ t.p ≤ 100000) → StA M s → (∀ M', StA M' s → D.nx [x0, x1, some (.obj s), x3, x4, x5, x6, x7, x8, x9, x10, x11, x12, x13, x14, x15, x16, x17, some t.d] M') →
      fb D [x0, x1, some (.obj s), x3, x4, x5, x6, x7, x8, x9, x10, x11, x12, x13, x14, x15, x16, x17, some t.d] M)
    (x0 x1 x3 x4 x5 x6 x7 x8 x9 x10 x11 x12 x13 x14 x15 x16 x17 : Option PV) : ∀ (ts : List Toll) (x18 : Option PV) (M : Mem), (∀ t ∈ ts, 0 ≤ t.p ∧ t.p ≤ 100000) → StA M s → (∀ x18 M', StA M' s → D.nx [x0, x1, some (.obj s), x3, x4, x5, x6, x7, x8, x9, x10, x11, x12, x13, x14, x15, x16, x17, x18] M') →
      loopL (gN 18) fb D noG (ts.map Toll.d) [x0, x1, some (.obj s), x3, x4, x5, x6, x7, x8, x9, x10, x11, x12, x13, x14, x15, x16, x17, x18] M
  | [], x18, M, _, h, k => ⟨trivial, k x18 M h⟩
  | t :: r, x18, M, ht, h, k => ⟨trivial, hb t _ x0 x1 x3 x4 x5 x6 x7 x8 x9 x10 x11 x12 x13 x14 x15 x16 x17 M (ht t List.mem_cons_self) h fun M' h' =>
      sums_all hb x0 x1 x3 x4 x5 x6 x7 x8 x9 x10 x11 x12 x13 x14 x15 x16 x17 r _ M' (fun u hu => ht u (List.mem_cons_of_mem _ hu)) h' k⟩
end Law
namespace Law
open PySem L3
local macro_rules | `(tactic| walk_at "w") => `(tactic| (conv => whnf))
/-- the tail of a turn: the sums of some tolls -/
theorem tail_run {D : FEnds} {ns : List Int} {s : Addr} {ts : List Toll} {M : Mem} (hts : ∀ t ∈ ts, t.ok) (hl : ts.length ≤ 20) (hS : StA M s) (x1 x3 x5 x6 x7 x8 x9 x10 x11 x12 x13 x14 x15 x16 x17 x18 : Option PV)
    (k : ∀ x1 x2 x3 x4 x5 x6 x7 x8 x9 x10 x11 x12 x13 x14 x15 x16 x17 x18 M', D.nx [some (.ro (ns.map PV.int)), x1, x2, x3, x4, x5, x6, x7, x8, x9, x10, x11, x12, x13, x14, x15, x16, x17, x18] M') :
    b_law_91 D [some (.ro (ns.map PV.int)), x1, some (.obj s), x3, some (.lst (ts.map Toll.d)), x5, x6, x7, x8, x9, x10, x11, x12, x13, x14, x15, x16, x17, x18] M := by
  walk_at "w"
  refine ⟨short_ok (by
    have e : (cut (ts.map Toll.d) none (some 4)).length ≤ 4 := by
      rw [cut_to (by decide), List.length_take]
      exact Nat.min_le_left _ _
    show (cut (ts.map Toll.d) none (some 4)).length + 2 ≤ 1000
    omega), ?_⟩
  have e : cut (ts.map Toll.d) none (some 4) ++ [PV.tup [.int 0, .int 0, .int 0], .tup [.int 7, .int 100000, .int 1]] = (ts.take 4 ++ [⟨0, 0, 0⟩, ⟨7, 100000, 1⟩] : List Toll).map Toll.d := by
    rw [cut_to (by decide), List.map_append, List.map_take]
    rfl
  show loopL (gN 18) _ D noG (cut (ts.map Toll.d) none (some 4) ++ [PV.tup [.int 0, .int 0, .int 0], .tup [.int 7, .int 100000, .int 1]]) _ M
  rw [e]
  refine sums_all ?_ _ _ _ _ _ _ _ _ _ _ _ _ _ _ _ _ _ _ _ M ?_ hS (fun x18 M' _ => k _ _ _ _ _ _ _ _ _ _ _ _ _ _ _ _ _ _ M')
  · intro t D x0 x1 x3 x4 x5 x6 x7 x8 x9 x10 x11 x12 x13 x14 x15 x16 x17 M ht hS kk
    walk_at "w"
    refine sums_run hS ht fun M' s' _ => ?_
    walk_at "w"
    refine cF ?_
    exact kk M' s'
  · intro t ht
    rcases List.mem_append.mp ht with z | z
    · have o := hts t (List.mem_of_mem_take z)
      exact ⟨o.2.1.1, by have := o.2.1.2; omega⟩
    · rcases List.mem_cons.mp z with e | z
      · subst e
        exact ⟨by decide, by decide⟩
      · rw [List.mem_singleton] at z
        subst z
        exact ⟨by decide, by decide⟩
end Law
namespace Law
open PySem L3
local macro_rules | `(tactic| walk_at "w") => `(tactic| (conv => whnf))
theorem draw3 {M : Mem} {s : Addr} {x y z : Int} {P : FK} (h : StA M s) (hx : 0 < x ∧ x ≤ 1000000000) (hy : 0 < y ∧ y ≤ 1000000000) (hz : 0 < z ∧ z ≤ 1000000000) (k : ∀ d M', 0 ≤ d → d < 1000000000 → StA M' s → Ofs s M M' → P (.int d) M') :
    m_law_draw [.obj s, .int 3] M fun v M1 => fIx (.tup [.int x, .int y, .int z]) v M1 fun z M2 => m_law_draw [.obj s, z] M2 P := by
  refine draw_ok h (by decide) (by decide) fun d M1 h0 h1 s1 o1 => ?_
  rcases (show d = 0 ∨ d = 1 ∨ d = 2 by omega) with rfl | rfl | rfl
  · refine ⟨_, rfl, ?_⟩
    exact draw_ok s1 hx.1 (by omega) fun d M2 h0 h1 s2 o2 => k d M2 h0 (by omega) s2 (o1.trans o2)
  · refine ⟨_, rfl, ?_⟩
    exact draw_ok s1 hy.1 (by omega) fun d M2 h0 h1 s2 o2 => k d M2 h0 (by omega) s2 (o1.trans o2)
  · refine ⟨_, rfl, ?_⟩
    exact draw_ok s1 hz.1 (by omega) fun d M2 h0 h1 s2 o2 => k d M2 h0 (by omega) s2 (o1.trans o2)
/-- the ways of a route with these tolls -/
def WF (ts : List Toll) : PV → PV
  | .int z => (match ts[z.toNat]? with | some t => .tup [.int z, .int z, .int (z + 1), t.d, .int 5] | none => .none)
  | _ => .none
def Wy (ts : List Toll) : List PV := (rangeP 0 ts.length).map (WF ts)
theorem Wy_len (ts : List Toll) : (Wy ts).length = ts.length := by
  unfold Wy
  rw [List.length_map, range_len]
theorem Wy_get {ts : List Toll} {i : Nat} {w : PV} (h : (Wy ts)[i]? = some w) : ∃ x y z u t, ts[i]? = some t ∧ w = .tup [x, y, z, t.d, u] := by
  unfold Wy at h
  rw [List.getElem?_map] at h
  cases e : (rangeP 0 ts.length)[i]? with
  | none => rw [e] at h; cases h
  | some v =>
    rw [e] at h
    obtain ⟨hi, rfl⟩ := range_get e
    have et : ts[i]? = some ts[i] := List.getElem?_eq_getElem hi
    have ei : (0 + (i : Int)).toNat = i := by omega
    refine ⟨.int (0 + (i : Nat)), .int (0 + (i : Nat)), .int (0 + (i : Nat) + 1), .int 5, ts[i], et, ?_⟩
    have hh := (Option.some.inj h).symm
    rw [hh]
    show (match ts[(0 + (i : Int)).toNat]? with | some t => PV.tup [.int (0 + (i : Nat)), .int (0 + (i : Nat)), .int (0 + (i : Nat) + 1), t.d, .int 5] | none => .none) = _
    rw [ei, et]
theorem Wy_toll {ts : List Toll} (k : PV → PV) (hk : ∀ x y z t u, k (.tup [x, y, z, t, u]) = t) : (Wy ts).map k = ts.map Toll.d := by
  refine List.ext_getElem? fun i => ?_
  rw [List.getElem?_map, List.getElem?_map]
  cases e : (Wy ts)[i]? with
  | none =>
    have hl := List.getElem?_eq_none_iff.mp e
    rw [Wy_len] at hl
    rw [List.getElem?_eq_none hl]
    rfl
  | some w =>
    obtain ⟨x, y, z, u, t, et, rfl⟩ := Wy_get e
    rw [et]
    show some (k _) = some t.d
    rw [hk]
theorem route_run {D : FEnds} {ns : List Int} {s : Addr} {ts : List Toll} {a d : Int} {M : Mem} (hts : ∀ t ∈ ts, t.ok) (h0 : 0 < ts.length) (hl : ts.length ≤ 20) (ha : 0 ≤ a ∧ a ≤ 1000000000) (hS : StA M s) (x1 x7 x8 x9 x10 x12 x13 x14 x15 x16 x17 x18 : Option PV)
    (k : ∀ x1 x3 x5 x6 x7 x8 x9 x10 x11 x12 x13 x14 x15 x16 x17 x18 M', StA M' s → D.nx [some (.ro (ns.map PV.int)), x1, some (.obj s), x3, some (.lst (ts.map Toll.d)), x5, x6, x7, x8, x9, x10, x11, x12, x13, x14, x15, x16, x17, x18] M') :
    b_law_82 D [some (.ro (ns.map PV.int)), x1, some (.obj s), some (.int (ts.length : Nat)), some (.lst (ts.map Toll.d)), some (.int a), some (.int d), x7, x8, x9, x10, some (.lst (Wy ts)), x12, x13, x14, x15, x16, x17, x18] M := by
  have hb : ∀ i, i ≤ ts.length → 0 ≤ (hd a d (ts.drop i)).1 ∧ (hd a d (ts.drop i)).1 ≤ 1000000000000000 := fun i _ =>
    hd_ok ha.1 ha.2 (fun t ht => hts t (List.mem_of_mem_drop ht)) (by rw [List.length_drop]; omega)
  walk_at "w"
  refine draw_ok hS (by show (0 : Int) < (ts.length : Nat); omega) (by show ((ts.length : Nat) : Int) < 2 ^ 100; omega) fun c0 M1 c1 c2 s1 _ => ?_
  have c2' : c0 < (ts.length : Nat) := c2
  obtain ⟨c, ec⟩ : ∃ c : Nat, 1 + c0 = (c : Int) := ⟨(1 + c0).toNat, by omega⟩
  have hc1 : 1 ≤ c := by omega
  have hc2 : c ≤ ts.length := by omega
  walk_at "w"
  have ed : cut (Wy ts) (some (1 + c0)) none = (Wy ts).drop c := by
    rw [cut_from (by omega), ec, Int.toNat_natCast]
  have etk : cut (Wy ts) none (some (1 + c0)) = (Wy ts).take c := by
    rw [cut_to (by omega), ec, Int.toNat_natCast]
  have esplit : ts.take c ++ ts.drop c = ts := List.take_append_drop _ _
  show m_loads ([.tup (cut (Wy ts) (some (1 + c0)) none), .int a] ++ []) M1 _
  rw [ed]
  refine loads_run (d := d) (ts := ts.drop c) (by rw [List.length_drop]; omega) (fun i w hw => ?_) (by rw [List.length_drop, List.length_drop, Wy_len]) (fun i hi => ?_) (fun t ht => hts t (List.mem_of_mem_drop ht)) fun M2 m2 => ?_
  · rw [List.getElem?_drop] at hw
    obtain ⟨x, y, z, u, t, et, e⟩ := Wy_get hw
    exact ⟨x, y, z, u, t, by rw [List.getElem?_drop]; exact et, e⟩
  · rw [List.drop_drop]
    rw [List.length_drop] at hi
    exact hb _ (by omega)
  have s2 := s1.sm m2
  -- the rest, from asked on
  have last : ∀ (x12 x16 x17 x18 : Option PV) (M3 : Mem), StA M3 s → b_law_87 D [some (.ro (ns.map PV.int)), x1, some (.obj s), some (.int (ts.length : Nat)), some (.lst (ts.map Toll.d)), some (.int a), some (.int d), x7, x8, x9, x10, some (.lst (Wy ts)), x12, some (.int (1 + c0)), some (.lst ((ld a d (ts.drop c)).map .int)), some (.int (hd a d (ts.drop c)).1), x16, x17, x18] M3 := by
    intro x12 x16 x17 x18 M3 s3
    walk_at "w"
    refine loads_run (d := d) (ts := ts) hl (fun i w hw => Wy_get hw) (Wy_len ts) hb hts fun M4 m4 => ?_
    have s4 := s3.sm m4
    walk_at "w"
    show m_loads ([.tup (cut (Wy ts) none (some (1 + c0))), .int (hd a d (ts.drop c)).1] ++ []) M4 _
    rw [etk]
    refine loads_run (d := (hd a d (ts.drop c)).2) (ts := ts.take c) (by rw [List.length_take]; omega) (fun i w hw => ?_) (by rw [List.length_take, List.length_take, Wy_len]) (fun i hi => ?_) (fun t ht => hts t (List.mem_of_mem_take ht)) fun M5 m5 => ?_
    · rw [List.getElem?_take] at hw
      split at hw
      · obtain ⟨x, y, z, u, t, et, e⟩ := Wy_get hw
        exact ⟨x, y, z, u, t, by rw [List.getElem?_take, if_pos (by assumption)]; exact et, e⟩
      · cases hw
    · rw [← hd_app]
      have e : (ts.take c).drop i ++ ts.drop c = ts.drop i := by
        have z := congrArg (List.drop i) esplit
        rw [List.drop_append_of_le_length hi] at z
        exact z
      rw [e]
      rw [List.length_take] at hi
      exact hb _ (by omega)
    have s5 := s4.sm m5
    have eld : (ld (hd a d (ts.drop c)).1 (hd a d (ts.drop c)).2 (ts.take c)).map PV.int ++ (ld a d (ts.drop c)).map PV.int = (ld a d ts).map PV.int := by
      rw [← List.map_append, ← ld_app, esplit]
    walk_at "w"
    refine ⟨short_ok (by rw [List.length_map, List.length_map, ld_len, ld_len, List.length_take, List.length_drop]; omega), ?_⟩
    refine eqK_lst (eq_same (congrArg PV.lst eld.symm) (is_pure _) (is_dep _) ?_)
    refine cF ?_
    walk_at "w"
    refine loads_run (d := d) (ts := ts) hl (fun i w hw => Wy_get hw) (Wy_len ts) hb hts fun M6 m6 => ?_
    have s6 := s5.sm m6
    walk_at "w"
    have e1 : cut (Wy ts) (some 1) none = (Wy ts).drop 1 := cut_from (by decide)
    show compL (gN 17) fYes _ noG _ _ (cut (Wy ts) (some 1) none) [] M6
    rw [e1]
    refine comp_map (fun p => match p with | .tup [_, _, _, t, _] => t | _ => .none) _ (fun x hx kk hk => ?_) ?_
    · obtain ⟨i, hi⟩ := List.getElem?_of_mem (List.mem_of_mem_drop hx)
      obtain ⟨y1, y2, y3, y5, t, _, rfl⟩ := Wy_get hi
      exact hk
    have e2 : ((Wy ts).drop 1).map (fun p => match p with | .tup [_, _, _, t, _] => t | _ => PV.none) = (ts.drop 1).map Toll.d := by
      rw [List.map_drop, Wy_toll _ (fun _ _ _ _ _ => rfl), List.map_drop]
    walk_at "w"
    show m_legs ([.int a, .int d, .lst (((Wy ts).drop 1).map (fun p => match p with | .tup [_, _, _, t, _] => t | _ => PV.none))] ++ []) M6 _
    rw [e2]
    refine legs_run (by rw [List.length_drop]; omega) (fun i hi => ?_) (fun t ht => hts t (List.mem_of_mem_drop ht)) fun M7 m7 => ?_
    · rw [List.drop_drop]
      rw [List.length_drop] at hi
      exact hb _ (by omega)
    have s7 := s6.sm m7
    generalize hL : List.map pD (lg a d (ts.drop 1)) = L
    walk_at "w"
    refine comp_map (fun p => match p with | .tup [x, _] => x | _ => .none) _ (fun x hx kk hk => ?_) ?_
    · rw [← hL] at hx
      obtain ⟨y, _, rfl⟩ := List.mem_map.mp hx
      exact hk
    obtain ⟨t0, tr, et⟩ : ∃ t r, ts = t :: r := by
      cases ts with
      | nil => exact absurd h0 (by decide)
      | cons t r => exact ⟨t, r, rfl⟩
    have e3 : L.map (fun p => match p with | .tup [x, _] => x | _ => PV.none) = (ld a d ts).map PV.int := by
      rw [← hL, et, ld_lg, List.map_map, List.map_map]
      rfl
    refine eqK_lst (eq_same ?_ (is_pure _) (is_dep _) ?_)
    · exact congrArg PV.lst e3.symm
    refine cF ?_
    exact k _ _ _ _ _ _ _ _ _ _ _ _ _ _ _ _ M7 s7
  walk_at "w"
  cases e : ts.drop c with
  | nil =>
    refine ⟨rfl, rfl, .inl (is_dep []), ?_⟩
    refine cF ?_
    have z := last x12 x16 x17 x18 M2 s2
    rw [e] at z
    exact z
  | cons t r =>
    refine ⟨is_pure _, rfl, .inl (is_dep _), ?_⟩
    refine cT ?_
    walk_at "w"
    have hlt : c < ts.length := by
      have z := congrArg List.length e
      rw [List.length_drop, List.length_cons] at z
      omega
    obtain ⟨w, hw⟩ : ∃ w, (Wy ts)[c]? = some w := ⟨_, List.getElem?_eq_getElem (by rw [Wy_len]; exact hlt)⟩
    obtain ⟨y1, y2, y3, y5, t', et', rfl⟩ := Wy_get hw
    have ett : t' = t := by
      have z := congrArg (fun l => l[0]?) e
      simp only [List.getElem?_drop, Nat.add_zero, List.getElem?_cons_zero] at z
      rw [et'] at z
      exact Option.some.inj z
    subst ett
    refine ⟨_, by show L2.atI (Wy ts) (1 + c0) = _; rw [ec]; exact L2.atI_nat hw, ?_⟩
    walk_at "w"
    have b0 := hb (c + 1) (by omega)
    have er : ts.drop (c + 1) = r := by
      have z := congrArg (List.drop 1) e
      rw [List.drop_drop] at z
      exact z
    rw [er] at b0
    have tok := hts t' (List.mem_of_mem_drop (by rw [e]; exact List.mem_cons_self))
    refine mci_run (big_mul b0.1 (by omega) tok.2.1.1 (by have := tok.2.1.2; omega)) ?_
    have z := last x12 x16 x17 x18 M2 s2
    rw [e] at z
    exact z
theorem turn_run {D : FEnds} {ns : List Int} {i : Nat} {M : Mem} (hs : Scr ns) (hi : i < 6) (x2 x3 x4 x5 x6 x7 x8 x9 x10 x11 x12 x13 x14 x15 x16 x17 x18 : Option PV)
    (k : ∀ x1 x2 x3 x4 x5 x6 x7 x8 x9 x10 x11 x12 x13 x14 x15 x16 x17 x18 M', D.nx [some (.ro (ns.map PV.int)), x1, x2, x3, x4, x5, x6, x7, x8, x9, x10, x11, x12, x13, x14, x15, x16, x17, x18] M') :
    b_law_69 D [some (.ro (ns.map PV.int)), some (.int (0 + (i : Nat))), x2, x3, x4, x5, x6, x7, x8, x9, x10, x11, x12, x13, x14, x15, x16, x17, x18] M := by
  walk_at "w"
  refine state_ok hs ⟨by omega, by omega⟩ ⟨by decide, by decide⟩ fun s M1 _ s1 _ => ?_
  walk_at "w"
  refine draw_ok s1 (by decide) (by decide) fun many M2 m0 m1 s2 _ => ?_
  walk_at "w"
  refine tolls_run s2 ⟨m0, by omega⟩ fun ts M3 htl hts s3 _ => ?_
  walk_at "w"
  refine ⟨⟨by decide, by decide, by decide⟩, ?_⟩
  walk_at "w"
  refine ⟨⟨by decide, by decide, by decide⟩, ?_⟩
  walk_at "w"
  refine draw3 s3 ⟨by decide, by decide⟩ ⟨by decide, by decide⟩ ⟨by decide, by decide⟩ fun a M4 a0 a1 s4 _ => ?_
  walk_at "w"
  refine ⟨⟨by decide, by decide, by decide⟩, ?_⟩
  walk_at "w"
  refine draw_ok s4 (by decide) (by decide) fun d M5 d0 d1 s5 _ => ?_
  walk_at "w"
  refine draw_ok s5 (by show (0 : Int) < many + 1; omega) (by show many + 1 < 2 ^ 100; omega) fun pl M6 p0 p1 s6 _ => ?_
  have hpl : pl.toNat ≤ ts.length := by have : pl < many + 1 := p1; omega
  have hn : ts.length ≤ 20 := by omega
  have hb : ∀ i, i ≤ ts.length → 0 ≤ (hd (1 + a) d (ts.drop i)).1 ∧ (hd (1 + a) d (ts.drop i)).1 ≤ 1000000000000000 := fun i _ =>
    hd_ok (by omega) (by omega) (fun t ht => hts t (List.mem_of_mem_drop ht)) (by rw [List.length_drop]; omega)
  walk_at "w"
  refine legs_run hn hb hts fun M7 m7 => ?_
  have s7 := s6.sm m7
  walk_at "w"
  have ec : cut (ts.map Toll.d) (some pl) none = (ts.drop pl.toNat).map Toll.d := by rw [cut_from p0, List.map_drop]
  have et : cut (ts.map Toll.d) none (some pl) = (ts.take pl.toNat).map Toll.d := by rw [cut_to p0, List.map_take]
  show m_legs ([.int (1 + a), .int d, .lst (cut (ts.map Toll.d) (some pl) none)] ++ []) M7 _
  rw [ec]
  refine legs_run (by rw [List.length_drop]; omega) (fun i hi => ?_) (fun t ht => hts t (List.mem_of_mem_drop ht)) fun M8 m8 => ?_
  · rw [List.drop_drop]
    rw [List.length_drop] at hi
    exact hb _ (by omega)
  have s8 := s7.sm m8
  walk_at "w"
  show m_legs ([.int (hd (1 + a) d (ts.drop pl.toNat)).1, .int (hd (1 + a) d (ts.drop pl.toNat)).2, .lst (cut (ts.map Toll.d) none (some pl))] ++ []) M8 _
  rw [et]
  have esplit : ts.take pl.toNat ++ ts.drop pl.toNat = ts := List.take_append_drop _ _
  refine legs_run (by rw [List.length_take]; omega) (fun i hi => ?_) (fun t ht => hts t (List.mem_of_mem_take ht)) fun M9 m9 => ?_
  · rw [← hd_app]
    have e : (ts.take pl.toNat).drop i ++ ts.drop pl.toNat = ts.drop i := by
      have z := congrArg (List.drop i) esplit
      rw [List.drop_append_of_le_length hi] at z
      exact z
    rw [e]
    rw [List.length_take] at hi
    exact hb _ (by omega)
  have s9 := s8.sm m9
  have eall : lg (1 + a) d ts = lg (hd (1 + a) d (ts.drop pl.toNat)).1 (hd (1 + a) d (ts.drop pl.toNat)).2 (ts.take pl.toNat) ++ lgt (1 + a) d (ts.drop pl.toNat) := by
    rw [← lg_app, esplit]
  walk_at "w"
  have ec1 : cut ((lg (1 + a) d (ts.drop pl.toNat)).map pD) (some 1) none = (lgt (1 + a) d (ts.drop pl.toNat)).map pD := by
    rw [cut_from (by decide)]
    rfl
  have hsum : (lg (hd (1 + a) d (ts.drop pl.toNat)).1 (hd (1 + a) d (ts.drop pl.toNat)).2 (ts.take pl.toNat)).map pD ++ (lgt (1 + a) d (ts.drop pl.toNat)).map pD = (lg (1 + a) d ts).map pD := by
    rw [eall, List.map_append]
  refine ⟨short_ok ?_, ?_⟩
  · show _ + (cut ((lg (1 + a) d (ts.drop pl.toNat)).map pD) (some 1) none).length ≤ 1000
    rw [ec1, List.length_map, List.length_map, lg_len, lgt_len, List.length_take, List.length_drop]
    omega
  show fEqK true (.lst ((lg (1 + a) d ts).map pD)) (.lst ((lg (hd (1 + a) d (ts.drop pl.toNat)).1 (hd (1 + a) d (ts.drop pl.toNat)).2 (ts.take pl.toNat)).map pD ++ cut ((lg (1 + a) d (ts.drop pl.toNat)).map pD) (some 1) none)) M9 _
  rw [ec1, hsum]
  refine eqK_lst (eq_same rfl (pDs_pure _) (pDs_dep _) ?_)
  refine cF ?_
  walk_at "w"
  refine cNf (by rw [List.length_map, lg_len]; omega) ?_
  walk_at "w"
  obtain ⟨lr, elr⟩ := lg_last (1 + a) d ts
  refine ⟨pD (1 + a, d), by rw [elr, List.map_append]; exact L2.atI_last _ _, ?_⟩
  walk_at "w"
  refine ⟨rfl, rfl, .inl (Nat.le_trans (pD_dep _) (by decide)), ?_⟩
  have er : eqv (pD (1 + a, d)) (.tup [.int (1 + a), .int d]) = true := eqv_refl (pD (1 + a, d)) rfl
  rw [er]
  refine cF ?_
  walk_at "w"
  refine ⟨⟨by omega, by omega⟩, ?_⟩
  refine comp_map (WF ts) _ (fun x hx kk hk => ?_) ?_
  · obtain ⟨j, hj⟩ := List.getElem?_of_mem hx
    obtain ⟨hj2, rfl⟩ := range_get hj
    have hjt : j < ts.length := by omega
    walk_at "w"
    refine ⟨ts[j].d, ?_, ?_⟩
    · rw [show (0 + (j : Nat) : Int) = (j : Int) by omega]
      refine L2.atI_nat ?_
      rw [List.getElem?_map, List.getElem?_eq_getElem hjt]
      rfl
    · have e : WF ts (.int (0 + (j : Nat))) = .tup [.int (0 + (j : Nat)), .int (0 + (j : Nat)), .int (0 + (j : Nat) + 1), ts[j].d, .int 5] := by
        show (match ts[(0 + (j : Int)).toNat]? with | some t => PV.tup [.int (0 + (j : Nat)), .int (0 + (j : Nat)), .int (0 + (j : Nat) + 1), t.d, .int 5] | none => .none) = _
        rw [show (0 + (j : Int)).toNat = j by omega, List.getElem?_eq_getElem hjt]
      rw [e] at hk
      exact hk
  have emany : many.toNat = ts.length := by omega
  have tail : ∀ x1 x3 x5 x6 x7 x8 x9 x10 x11 x12 x13 x14 x15 x16 x17 x18 M', StA M' s → b_law_91 D [some (.ro (ns.map PV.int)), x1, some (.obj s), x3, some (.lst (ts.map Toll.d)), x5, x6, x7, x8, x9, x10, x11, x12, x13, x14, x15, x16, x17, x18] M' :=
    fun x1 x3 x5 x6 x7 x8 x9 x10 x11 x12 x13 x14 x15 x16 x17 x18 M' hS => tail_run hts hn hS _ _ _ _ _ _ _ _ _ _ _ _ _ _ _ _ k
  subst htl
  rw [emany]
  walk_at "w"
  refine cD (fun hpos => ?_) (fun _ => ?_)
  · exact route_run hts (by omega) hn ⟨by omega, by omega⟩ s9 _ _ _ _ _ _ _ _ _ _ _ _ tail
  · exact tail _ _ _ _ _ _ _ _ _ _ _ _ _ _ _ _ M9 s9
theorem plain (ns : List Int) (hl : ns.length ≤ 63) (hb : ∀ z ∈ ns, Builtin.Int.intBits z ≤ 1048576) : m_law [.ro (ns.map PV.int)] (fun _ => none) fun p _ => p = .bool true := by
  have hs : Scr ns := ⟨hl, hb⟩
  rw [e_law]
  walk_at "w"
  refine ⟨⟨Int.le_trans (by decide) (min_nn (a := 6) (b := 1 + ((ns.map PV.int).length : Nat)) (by decide) (by omega)), Int.le_trans (min_le (a := 6)) (by decide)⟩, ?_⟩
  refine loop_run (fun i ρ M' => ∃ x1 x2 x3 x4 x5 x6 x7 x8 x9 x10 x11 x12 x13 x14 x15 x16 x17 x18, ρ = [some (.ro (ns.map PV.int)), x1, x2, x3, x4, x5, x6, x7, x8, x9, x10, x11, x12, x13, x14, x15, x16, x17, x18])
    ⟨none, none, none, none, none, none, none, none, none, none, none, none, none, none, none, none, none, none, rfl⟩ ?_ ?_
  · rintro i x r ρ M hx _ ⟨x1, x2, x3, x4, x5, x6, x7, x8, x9, x10, x11, x12, x13, x14, x15, x16, x17, x18, rfl⟩ ih
    obtain ⟨hi', ex⟩ := range_get hx
    have hi : i < 6 := by
      have z := min_le (a := 6) (b := 1 + ((ns.map PV.int).length : Nat))
      have z2 := hi'
      omega
    subst ex
    refine ⟨trivial, ?_⟩
    exact turn_run hs hi _ _ _ _ _ _ _ _ _ _ _ _ _ _ _ _ _ fun x1 x2 x3 x4 x5 x6 x7 x8 x9 x10 x11 x12 x13 x14 x15 x16 x17 x18 M' => ih _ M' ⟨x1, x2, x3, x4, x5, x6, x7, x8, x9, x10, x11, x12, x13, x14, x15, x16, x17, x18, rfl⟩
  · rintro ρ M ⟨x1, x2, x3, x4, x5, x6, x7, x8, x9, x10, x11, x12, x13, x14, x15, x16, x17, x18, rfl⟩
    exact ⟨trivial, rfl⟩
end Law
/-! the walk (printed by gen.py from T.py) -/
namespace Law
open PySem L2 L3
def topS (i : Nat) : Stmt := PySem.Challenge.pw_droveway_k38_legs_and_loads_one_behind_a.main.body.getD i (.Pass ⟨0, 0, 0, 0⟩)
abbrev s_law_state : Stmt := topS 12
abbrev n_law_state : List Str := ["script", "k", "salt", "cell"]
abbrev p_law_state : List Str := ["script", "k", "salt"]
theorem sc_law_state : FnScope n_law_state p_law_state (defScope s_law_state) := ⟨rfl, rfl, rfl, by decide +kernel, rfl, by decide +kernel, by decide +kernel⟩
abbrev s_law_draw : Stmt := topS 13
abbrev n_law_draw : List Str := ["state", "many", "one", "two", "digit"]
abbrev p_law_draw : List Str := ["state", "many"]
theorem sc_law_draw : FnScope n_law_draw p_law_draw (defScope s_law_draw) := ⟨rfl, rfl, rfl, by decide +kernel, rfl, by decide +kernel, by decide +kernel⟩
abbrev s_law_tolls : Stmt := topS 14
abbrev n_law_tolls : List Str := ["state", "many", "tolls", "k"]
abbrev p_law_tolls : List Str := ["state", "many"]
theorem sc_law_tolls : FnScope n_law_tolls p_law_tolls (defScope s_law_tolls) := ⟨rfl, rfl, rfl, by decide +kernel, rfl, by decide +kernel, by decide +kernel⟩
abbrev s_must_come_in : Stmt := topS 7
abbrev n_must_come_in : List Str := ["toll", "amount"]
abbrev p_must_come_in : List Str := ["toll", "amount"]
theorem sc_must_come_in : FnScope n_must_come_in p_must_come_in (defScope s_must_come_in) := ⟨rfl, rfl, rfl, by decide +kernel, rfl, by decide +kernel, by decide +kernel⟩
abbrev s_legs : Stmt := topS 8
abbrev n_legs : List Str := ["amount", "deadline", "tolls", "rows", "toll"]
abbrev p_legs : List Str := ["amount", "deadline", "tolls"]
theorem sc_legs : FnScope n_legs p_legs (defScope s_legs) := ⟨rfl, rfl, rfl, by decide +kernel, rfl, by decide +kernel, by decide +kernel⟩
abbrev s_loads : Stmt := topS 10
abbrev n_loads : List Str := ["route", "amount", "rows", "way"]
abbrev p_loads : List Str := ["route", "amount"]
theorem sc_loads : FnScope n_loads p_loads (defScope s_loads) := ⟨rfl, rfl, rfl, by decide +kernel, rfl, by decide +kernel, by decide +kernel⟩
abbrev s_law_sums : Stmt := topS 15
abbrev n_law_sums : List Str := ["state", "toll", "one", "two", "both", "apart"]
abbrev p_law_sums : List Str := ["state", "toll"]
theorem sc_law_sums : FnScope n_law_sums p_law_sums (defScope s_law_sums) := ⟨rfl, rfl, rfl, by decide +kernel, rfl, by decide +kernel, by decide +kernel⟩
abbrev s_law : Stmt := topS 16
abbrev n_law : List Str := ["script", "k", "state", "many", "tolls", "amount", "deadline", "place", "whole", "behind", "ahead", "route", "at", "cut", "rest", "asked", "leg", "way", "toll"]
abbrev p_law : List Str := ["script"]
theorem sc_law : FnScope n_law p_law (defScope s_law) := ⟨rfl, rfl, rfl, by decide +kernel, rfl, by decide +kernel, by decide +kernel⟩
theorem so : SOk W := ⟨by decide +kernel, by decide +kernel⟩
/-- what the module's names hold -/
structure Tx (mg : Str → Option Value) : Prop where
  b_int : mg "int" = none
  b_len : mg "len" = none
  b_list : mg "list" = none
  b_min : mg "min" = none
  b_range : mg "range" = none
  b_reversed : mg "reversed" = none
  b_tuple : mg "tuple" = none
  e_MOST_AMOUNT : ∃ t, mg "MOST_AMOUNT" = some (.int 1000000000000000 t)
  e_MOST_TOLLS : ∃ t, mg "MOST_TOLLS" = some (.int 20 t)
section
variable {P : Program} {w : World} {K : PySem.W.Frag} {mg : Str → Option Value} {base : Heap} {T : Nat → Addr}
theorem ok_law_state (t : Tx mg) (D : Df K mg "_law_state" "_law_state" s_law_state p_law_state) : Has P w K mg base W T "_law_state" 1 p_law_state m_law_state := by
  rw [e_law_state]
  refine has_of (N := n_law_state) (ps := p_law_state) (fs := (sSeq (sAsg (fC (.int 0)) (gN 3))   (sSeq (sIf (fTest (fOp fGt (fCB fLen (fCons (fVar 0) fNil)) (fC (.int 0)))) (sAsg (fCB fInt (fCons (fOp fIx (fVar 0) (fOp fMod (fCB fInt (fCons (fVar 1) fNil)) (fCB fLen (fCons (fVar 0) fNil)))) fNil)) (gN 3)) sNext)   (sSeq (sIf (fTest (fOp fLt (fVar 3) (fC (.int 0)))) (sAsg (fOp fSub (fC (.int 1)) (fOp fMul (fC (.int 2)) (fVar 3))) (gN 3)) sNext)   (sSeq (sIf (fAnd (fTest (fOp fLt (fVar 1) (fCB fLen (fCons (fVar 0) fNil)))) (fTest (fOp fGe (fVar 3) (fOp fPow (fC (.int 10)) (fC (.int 18)))))) (sRet (fLstO (fCons (fVar 3) (fCons (fOp fPlus (fVar 2) (fC (.int 1))) fNil)))) sNext)   (sRet (fLstO (fCons (fC (.int 0)) (fCons (fOp fPlus (fOp fPlus (fOp fPlus (fOp fMul (fVar 3) (fC (.int 61))) (fOp fMul (fC (.int 7919)) (fVar 1))) (fOp fMul (fC (.int 104729)) (fVar 2))) (fC (.int 1))) fNil))))))))) D sc_law_state rfl fun f cdv A outer s H E hr => ?_
  exact (qss_cons (qs_set 3 sc_law_state.nd qc_int)
      (qss_cons (qs_if (qt_gt (q_len t.b_len (qa_cons (qv 0) qa_nil)) qc_int) (qss_one (qs_set 3 sc_law_state.nd (q_int t.b_int (qa_cons (q_ix (qv 0) (q_mod (q_int t.b_int (qa_cons (qv 1) qa_nil)) (q_len t.b_len (qa_cons (qv 0) qa_nil)))) qa_nil)))) qss_nil)
      (qss_cons (qs_if (qt_lt (qv 3) qc_int) (qss_one (qs_set 3 sc_law_state.nd (q_sub qc_int (q_mul qc_int (qv 3))))) qss_nil)
      (qss_cons (qs_if (QW.qt (qw_and (qt_lt (qv 1) (q_len t.b_len (qa_cons (qv 0) qa_nil))) (qw_and1 (qt_ge (qv 3) (q_pow qc_int qc_int))))) (qss_one (qs_ret (q_lstO (qa_cons (qv 3) (qa_cons (q_plus (qv 2) qc_int) qa_nil))))) qss_nil)
      (qss_one (qs_ret (q_lstO (qa_cons qc_int (qa_cons (q_plus (q_plus (q_plus (q_mul (qv 3) qc_int) (q_mul qc_int (qv 1))) (q_mul qc_int (qv 2))) qc_int) qa_nil)))))))))
theorem ok_law_draw (t : Tx mg) (D : Df K mg "_law_draw" "_law_draw" s_law_draw p_law_draw) : Has P w K mg base W T "_law_draw" 1 p_law_draw m_law_draw := by
  rw [e_law_draw]
  refine has_of (N := n_law_draw) (ps := p_law_draw) (fs := (sSeq (sIf (fTest (fOp fLt (fIxC 0 (fVar 0)) (fVar 1))) (sSeq (sAsg (fOp fMod (fCB fInt (fCons (fOp fPlus (fOp fPlus (fOp fMul (fIxC 1 (fVar 0)) (fIxC 1 (fVar 0))) (fOp fMul (fC (.int 48271)) (fIxC 1 (fVar 0)))) (fC (.int 12345))) fNil)) (fC (.int 2305843009213693951))) (gN 2))   (sSeq (sAsg (fOp fMod (fCB fInt (fCons (fOp fPlus (fOp fPlus (fOp fMul (fVar 2) (fVar 2)) (fOp fMul (fC (.int 69621)) (fVar 2))) (fC (.int 77))) fNil)) (fC (.int 618970019642690137449562111))) (gN 3))   (sSeq (sAsg (fVar 3) (fSetL (fVar 0) (fC (.int 1))))   (sAsg (fOp fPlus (fVar 1) (fOp fMod (fCB fInt (fCons (fOp fPlus (fOp fMul (fVar 3) (fVar 3)) (fVar 2)) fNil)) (fC (.int 162259276829213363391578010288127)))) (fSetL (fVar 0) (fC (.int 0))))))) sNext)   (sSeq (sAsg (fOp fMod (fCB fInt (fCons (fIxC 0 (fVar 0)) fNil)) (fVar 1)) (gN 4))   (sSeq (sAsg (fOp fDiv (fIxC 0 (fVar 0)) (fVar 1)) (fSetL (fVar 0) (fC (.int 0))))   (sRet (fVar 4)))))) D sc_law_draw rfl fun f cdv A outer s H E hr => ?_
  exact (qss_cons (qs_if (qt_lt (q_ixC 0 (qv 0)) (qv 1)) (qss_cons (qs_set 2 sc_law_draw.nd (q_mod (q_int t.b_int (qa_cons (q_plus (q_plus (q_mul (q_ixC 1 (qv 0)) (q_ixC 1 (qv 0))) (q_mul qc_int (q_ixC 1 (qv 0)))) qc_int) qa_nil)) qc_int))
      (qss_cons (qs_set 3 sc_law_draw.nd (q_mod (q_int t.b_int (qa_cons (q_plus (q_plus (q_mul (qv 2) (qv 2)) (q_mul qc_int (qv 2))) qc_int) qa_nil)) qc_int))
      (qss_cons (qs_asg (qv 3) (qg_setL (qv 0) qc_int))
      (qss_one (qs_asg (q_plus (qv 1) (q_mod (q_int t.b_int (qa_cons (q_plus (q_mul (qv 3) (qv 3)) (qv 2)) qa_nil)) qc_int)) (qg_setL (qv 0) qc_int)))))) qss_nil)
      (qss_cons (qs_set 4 sc_law_draw.nd (q_mod (q_int t.b_int (qa_cons (q_ixC 0 (qv 0)) qa_nil)) (qv 1)))
      (qss_cons (qs_asg (q_div (q_ixC 0 (qv 0)) (qv 1)) (qg_setL (qv 0) qc_int))
      (qss_one (qs_ret (qv 4))))))
theorem ok_law_tolls (t : Tx mg) (D : Df K mg "_law_tolls" "_law_tolls" s_law_tolls p_law_tolls) (h_law_draw : Has P w K mg base W T "_law_draw" 1 p_law_draw m_law_draw) : Has P w K mg base W T "_law_tolls" 2 p_law_tolls m_law_tolls := by
  rw [e_law_tolls]
  refine has_of (N := n_law_tolls) (ps := p_law_tolls) (fs := (sSeq (sAsg (fLstO fNil) (gN 2))   (sSeq (sFor (iR1 (fCons (fVar 1) fNil)) (gN 3) (sDrop (fApp (fVar 2) (fTup (fCons (fCall m_law_draw [] (fCons (fVar 0) (fCons (fOp fIx (fTup (fCons (fC (.int 3)) (fCons (fOp fPow (fC (.int 10)) (fC (.int 6))) fNil))) (fCall m_law_draw [] (fCons (fVar 0) (fCons (fC (.int 2)) fNil)))) fNil))) (fCons (fCall m_law_draw [] (fCons (fVar 0) (fCons (fC (.int 201)) fNil))) (fCons (fCall m_law_draw [] (fCons (fVar 0) (fCons (fOp fPow (fC (.int 10)) (fC (.int 6))) fNil))) fNil)))))))   (sRet (fFrz (fVar 2)))))) D sc_law_tolls rfl fun f cdv A outer s H E hr => ?_
  exact (qss_cons (qs_set 2 sc_law_tolls.nd (q_lstO qa_nil))
      (qss_cons (qs_for (qi_range1 t.b_range (qa_cons (qv 1) qa_nil)) (qg_name (i := 3) sc_law_tolls.nd) (qss_one (qs_expr (q_append (qv 2) (q_tup (qa_cons (q_callH h_law_draw (hr.mono (by decide)) (qa_cons (qv 0) (qa_cons (q_ix (q_tup (qa_cons qc_int (qa_cons (q_pow qc_int qc_int) qa_nil))) (q_callH h_law_draw (hr.mono (by decide)) (qa_cons (qv 0) (qa_cons qc_int qa_nil)))) qa_nil))) (qa_cons (q_callH h_law_draw (hr.mono (by decide)) (qa_cons (qv 0) (qa_cons qc_int qa_nil))) (qa_cons (q_callH h_law_draw (hr.mono (by decide)) (qa_cons (qv 0) (qa_cons (q_pow qc_int qc_int) qa_nil))) qa_nil))))))))
      (qss_one (qs_ret (q_frz (qv 2))))))
theorem ok_must_come_in (t : Tx mg) (D : Df K mg "must_come_in" "must_come_in" s_must_come_in p_must_come_in) : Has P w K mg base W T "must_come_in" 1 p_must_come_in m_must_come_in := by
  rw [e_must_come_in]
  refine has_of (N := n_must_come_in) (ps := p_must_come_in) (fs := (sRet (fOp fPlus (fOp fPlus (fVar 1) (fIxC 0 (fVar 0))) (fOp fDiv (fOp fPlus (fOp fMul (fVar 1) (fIxC 1 (fVar 0))) (fC (.int 999))) (fC (.int 1000)))))) D sc_must_come_in rfl fun f cdv A outer s H E hr => ?_
  exact (qss_one (qs_ret (q_plus (q_plus (qv 1) (q_ixC 0 (qv 0))) (q_div (q_plus (q_mul (qv 1) (q_ixC 1 (qv 0))) qc_int) qc_int))))
theorem ok_legs (t : Tx mg) (D : Df K mg "legs" "legs" s_legs p_legs) (h_must_come_in : Has P w K mg base W T "must_come_in" 1 p_must_come_in m_must_come_in) : Has P w K mg base W T "legs" 2 p_legs m_legs := by
  rw [e_legs]
  refine has_of (N := n_legs) (ps := p_legs) (fs := (sSeq (sIf (fTest (fOp fGt (fCB fLen (fCons (fVar 2) fNil)) (fC (.int 20)))) sNever sNext)   (sSeq (sIf (fTest (fOp fGt (fVar 0) (fC (.int 1000000000000000)))) sNever sNext)   (sSeq (sAsg (fLstO (fCons (fTup (fCons (fVar 0) (fCons (fVar 1) fNil))) fNil)) (gN 3))   (sSeq (sFor (iRevP (fVar 2)) (gN 4) (sSeq (sAsg (fCall m_must_come_in [] (fCons (fVar 4) (fCons (fVar 0) fNil))) (gN 0))   (sSeq (sAsg (fOp fPlus (fVar 1) (fIxC 2 (fVar 4))) (gN 1))   (sSeq (sIf (fTest (fOp fGt (fVar 0) (fC (.int 1000000000000000)))) sNever sNext)   (sDrop (fApp (fVar 3) (fTup (fCons (fVar 0) (fCons (fVar 1) fNil)))))))))   (sRet (fRev (fVar 3)))))))) D sc_legs rfl fun f cdv A outer s H E hr => ?_
  exact (qss_cons (qs_if (qt_gt (q_len t.b_len (qa_cons (qv 2) qa_nil)) (qg_intE t.e_MOST_TOLLS)) (qss_one qs_never) qss_nil)
      (qss_cons (qs_if (qt_gt (qv 0) (qg_intE t.e_MOST_AMOUNT)) (qss_one qs_never) qss_nil)
      (qss_cons (qs_set 3 sc_legs.nd (q_lstO (qa_cons (q_tup (qa_cons (qv 0) (qa_cons (qv 1) qa_nil))) qa_nil)))
      (qss_cons (qs_for (qi_rev t.b_reversed (qv 2)) (qg_name (i := 4) sc_legs.nd) (qss_cons (qs_set 0 sc_legs.nd (q_callH h_must_come_in (hr.mono (by decide)) (qa_cons (qv 4) (qa_cons (qv 0) qa_nil))))
      (qss_cons (qs_set 1 sc_legs.nd (q_plus (qv 1) (q_ixC 2 (qv 4))))
      (qss_cons (qs_if (qt_gt (qv 0) (qg_intE t.e_MOST_AMOUNT)) (qss_one qs_never) qss_nil)
      (qss_one (qs_expr (q_append (qv 3) (q_tup (qa_cons (qv 0) (qa_cons (qv 1) qa_nil))))))))))
      (qss_one (qs_ret (q_rev (qv 3))))))))
theorem ok_loads (t : Tx mg) (D : Df K mg "loads" "loads" s_loads p_loads) (h_must_come_in : Has P w K mg base W T "must_come_in" 1 p_must_come_in m_must_come_in) : Has P w K mg base W T "loads" 2 p_loads m_loads := by
  rw [e_loads]
  refine has_of (N := n_loads) (ps := p_loads) (fs := (sSeq (sAsg (fLstO fNil) (gN 2))   (sSeq (sFor (iRevP (fVar 0)) (gN 3) (sSeq (sDrop (fApp (fVar 2) (fVar 1)))   (sAsg (fCall m_must_come_in [] (fCons (fIxC 3 (fVar 3)) (fCons (fVar 1) fNil))) (gN 1))))   (sRet (fRev (fVar 2)))))) D sc_loads rfl fun f cdv A outer s H E hr => ?_
  exact (qss_cons (qs_set 2 sc_loads.nd (q_lstO qa_nil))
      (qss_cons (qs_for (qi_rev t.b_reversed (qv 0)) (qg_name (i := 3) sc_loads.nd) (qss_cons (qs_expr (q_append (qv 2) (qv 1)))
      (qss_one (qs_set 1 sc_loads.nd (q_callH h_must_come_in (hr.mono (by decide)) (qa_cons (q_ixC 3 (qv 3)) (qa_cons (qv 1) qa_nil)))))))
      (qss_one (qs_ret (q_rev (qv 2))))))
theorem ok_law_sums (t : Tx mg) (D : Df K mg "_law_sums" "_law_sums" s_law_sums p_law_sums) (h_law_draw : Has P w K mg base W T "_law_draw" 1 p_law_draw m_law_draw) (h_must_come_in : Has P w K mg base W T "must_come_in" 1 p_must_come_in m_must_come_in) : Has P w K mg base W T "_law_sums" 2 p_law_sums m_law_sums := by
  rw [e_law_sums]
  refine has_of (N := n_law_sums) (ps := p_law_sums) (fs := (sSeq (sAsg (fCall m_law_draw [] (fCons (fVar 0) (fCons (fOp fIx (fTup (fCons (fC (.int 3000)) (fCons (fOp fPow (fC (.int 10)) (fC (.int 12))) fNil))) (fCall m_law_draw [] (fCons (fVar 0) (fCons (fC (.int 2)) fNil)))) fNil))) (gN 2))   (sSeq (sAsg (fCall m_law_draw [] (fCons (fVar 0) (fCons (fOp fIx (fTup (fCons (fC (.int 3000)) (fCons (fOp fPow (fC (.int 10)) (fC (.int 12))) fNil))) (fCall m_law_draw [] (fCons (fVar 0) (fCons (fC (.int 2)) fNil)))) fNil))) (gN 3))   (sSeq (sAsg (fCall m_must_come_in [] (fCons (fVar 1) (fCons (fOp fPlus (fVar 2) (fVar 3)) fNil))) (gN 4))   (sSeq (sAsg (fOp fSub (fOp fPlus (fCall m_must_come_in [] (fCons (fVar 1) (fCons (fVar 2) fNil))) (fCall m_must_come_in [] (fCons (fVar 1) (fCons (fVar 3) fNil)))) (fIxC 0 (fVar 1))) (gN 5))   (sSeq (sIf (fNot (fTest (fChain fLe fLe (fOp fSub (fVar 5) (fC (.int 1))) (fVar 4) (fVar 5)))) (sRet (fC (.bool false))) sNext)   (sSeq (sIf (fNot (fTest (fChain fLe fLe (fOp fPlus (fCall m_must_come_in [] (fCons (fVar 1) (fCons (fVar 2) fNil))) (fC (.int 1))) (fCall m_must_come_in [] (fCons (fVar 1) (fCons (fOp fPlus (fVar 2) (fC (.int 1))) fNil))) (fOp fPlus (fOp fPlus (fCall m_must_come_in [] (fCons (fVar 1) (fCons (fVar 2) fNil))) (fC (.int 2))) (fOp fDiv (fIxC 1 (fVar 1)) (fC (.int 1000))))))) (sRet (fC (.bool false))) sNext)   (sRet (fOp (fEqK false) (fCall m_must_come_in [] (fCons (fVar 1) (fCons (fOp fMul (fC (.int 1000)) (fVar 2)) fNil))) (fOp fPlus (fOp fPlus (fOp fMul (fC (.int 1000)) (fVar 2)) (fIxC 0 (fVar 1))) (fOp fMul (fVar 2) (fIxC 1 (fVar 1))))))))))))) D sc_law_sums rfl fun f cdv A outer s H E hr => ?_
  exact (qss_cons (qs_set 2 sc_law_sums.nd (q_callH h_law_draw (hr.mono (by decide)) (qa_cons (qv 0) (qa_cons (q_ix (q_tup (qa_cons qc_int (qa_cons (q_pow qc_int qc_int) qa_nil))) (q_callH h_law_draw (hr.mono (by decide)) (qa_cons (qv 0) (qa_cons qc_int qa_nil)))) qa_nil))))
      (qss_cons (qs_set 3 sc_law_sums.nd (q_callH h_law_draw (hr.mono (by decide)) (qa_cons (qv 0) (qa_cons (q_ix (q_tup (qa_cons qc_int (qa_cons (q_pow qc_int qc_int) qa_nil))) (q_callH h_law_draw (hr.mono (by decide)) (qa_cons (qv 0) (qa_cons qc_int qa_nil)))) qa_nil))))
      (qss_cons (qs_set 4 sc_law_sums.nd (q_callH h_must_come_in (hr.mono (by decide)) (qa_cons (qv 1) (qa_cons (q_plus (qv 2) (qv 3)) qa_nil))))
      (qss_cons (qs_set 5 sc_law_sums.nd (q_sub (q_plus (q_callH h_must_come_in (hr.mono (by decide)) (qa_cons (qv 1) (qa_cons (qv 2) qa_nil))) (q_callH h_must_come_in (hr.mono (by decide)) (qa_cons (qv 1) (qa_cons (qv 3) qa_nil)))) (q_ixC 0 (qv 1))))
      (qss_cons (qs_if (qt_not (qt_chain op_le op_le lr_le lr_le (q_sub (qv 5) qc_int) (qv 4) (qv 5))) (qss_one (qs_ret qc_bl)) qss_nil)
      (qss_cons (qs_if (qt_not (qt_chain op_le op_le lr_le lr_le (q_plus (q_callH h_must_come_in (hr.mono (by decide)) (qa_cons (qv 1) (qa_cons (qv 2) qa_nil))) qc_int) (q_callH h_must_come_in (hr.mono (by decide)) (qa_cons (qv 1) (qa_cons (q_plus (qv 2) qc_int) qa_nil))) (q_plus (q_plus (q_callH h_must_come_in (hr.mono (by decide)) (qa_cons (qv 1) (qa_cons (qv 2) qa_nil))) qc_int) (q_div (q_ixC 1 (qv 1)) qc_int)))) (qss_one (qs_ret qc_bl)) qss_nil)
      (qss_one (qs_ret (q_eq so hr.units (q_callH h_must_come_in (hr.mono (by decide)) (qa_cons (qv 1) (qa_cons (q_mul qc_int (qv 2)) qa_nil))) (q_plus (q_plus (q_mul qc_int (qv 2)) (q_ixC 0 (qv 1))) (q_mul (qv 2) (q_ixC 1 (qv 1)))))))))))))
theorem ok_law (t : Tx mg) {f : Addr} {fd : FuncData} (F : Fun K "law" "law" s_law f fd) (h_law_state : Has P w K mg base W T "_law_state" 1 p_law_state m_law_state) (h_law_draw : Has P w K mg base W T "_law_draw" 1 p_law_draw m_law_draw) (h_law_tolls : Has P w K mg base W T "_law_tolls" 2 p_law_tolls m_law_tolls) (h_legs : Has P w K mg base W T "legs" 2 p_legs m_legs) (h_loads : Has P w K mg base W T "loads" 2 p_loads m_loads) (h_must_come_in : Has P w K mg base W T "must_come_in" 1 p_must_come_in m_must_come_in) (h_law_sums : Has P w K mg base W T "_law_sums" 2 p_law_sums m_law_sums) : FnOk P w K mg base CX0 3 f fd ["script"] (sp3 ⟨K, W, T⟩ 1 m_law) := by
  rw [e_law]
  refine fn3 (N := n_law) (ps := p_law) (fs := (sSeq (sFor (iR1 (fCons (fCB fMin2 (fCons (fC (.int 6)) (fCons (fOp fPlus (fC (.int 1)) (fCB fLen (fCons (fVar 0) fNil))) fNil))) fNil)) (gN 1) (sSeq (sAsg (fCall m_law_state [] (fCons (fVar 0) (fCons (fVar 1) (fCons (fC (.int 115)) fNil)))) (gN 2))   (sSeq (sAsg (fCall m_law_draw [] (fCons (fVar 2) (fCons (fC (.int 21)) fNil))) (gN 3))   (sSeq (sAsg (fCall m_law_tolls [] (fCons (fVar 2) (fCons (fVar 3) fNil))) (gN 4))   (sSeq (sAsg (fOp fPlus (fC (.int 1)) (fCall m_law_draw [] (fCons (fVar 2) (fCons (fOp fIx (fTup (fCons (fC (.int 9)) (fCons (fOp fPow (fC (.int 10)) (fC (.int 6))) (fCons (fOp fPow (fC (.int 10)) (fC (.int 9))) fNil)))) (fCall m_law_draw [] (fCons (fVar 2) (fCons (fC (.int 3)) fNil)))) fNil)))) (gN 5))   (sSeq (sAsg (fCall m_law_draw [] (fCons (fVar 2) (fCons (fOp fPow (fC (.int 10)) (fC (.int 9))) fNil))) (gN 6))   (sSeq (sAsg (fCall m_law_draw [] (fCons (fVar 2) (fCons (fOp fPlus (fVar 3) (fC (.int 1))) fNil))) (gN 7))   (sSeq (sAsg (fCall m_legs [] (fCons (fVar 5) (fCons (fVar 6) (fCons (fCB fList (fCons (fVar 4) fNil)) fNil)))) (gN 8))   (sSeq (sAsg (fCall m_legs [] (fCons (fVar 5) (fCons (fVar 6) (fCons (fSl (fVar 4) (fPart (fVar 7)) fNoPart) fNil)))) (gN 9))   (sSeq (sAsg (fCall m_legs [] (fCons (fIxC 0 (fIxC 0 (fVar 9))) (fCons (fIxC 1 (fIxC 0 (fVar 9))) (fCons (fSl (fVar 4) fNoPart (fPart (fVar 7))) fNil)))) (gN 10))   (sSeq (sIf (fOr (fTest (fOp (fEqK true) (fCB fList (fCons (fVar 8) fNil)) (fOp fPlus (fCB fList (fCons (fVar 10) fNil)) (fCB fList (fCons (fSl (fVar 9) (fPart (fC (.int 1))) fNoPart) fNil))))) (fOr (fTest (fOp (fEqK true) (fCB fLen (fCons (fVar 8) fNil)) (fOp fPlus (fVar 3) (fC (.int 1))))) (fTest (fOp (fEqK true) (fOp fIx (fVar 8) (fNeg (fC (.int 1)))) (fTup (fCons (fVar 5) (fCons (fVar 6) fNil))))))) (sRet (fC (.bool false))) sNext)   (sSeq (sAsg (fLc (iR1 (fCons (fVar 3) fNil)) (gN 12) fYes (fTup (fCons (fVar 12) (fCons (fVar 12) (fCons (fOp fPlus (fVar 12) (fC (.int 1))) (fCons (fOp fIx (fVar 4) (fVar 12)) (fCons (fC (.int 5)) fNil)))))) [12]) (gN 11))   (sSeq (sIf (fTest (fOp fGt (fVar 3) (fC (.int 0)))) (sSeq (sAsg (fOp fPlus (fC (.int 1)) (fCall m_law_draw [] (fCons (fVar 2) (fCons (fVar 3) fNil)))) (gN 13))   (sSeq (sAsg (fCall m_loads [] (fCons (fCB fTuple (fCons (fSl (fVar 11) (fPart (fVar 13)) fNoPart) fNil)) (fCons (fVar 5) fNil))) (gN 14))   (sSeq (sAsg (fVar 5) (gN 15))   (sSeq (sIf (fTest (fOp (fEqK true) (fVar 14) (fLst fNil))) (sAsg (fCall m_must_come_in [] (fCons (fIxC 3 (fOp fIx (fVar 11) (fVar 13))) (fCons (fIxC 0 (fVar 14)) fNil))) (gN 15)) sNext)   (sSeq (sIf (fTest (fOp (fEqK true) (fCB fList (fCons (fCall m_loads [] (fCons (fCB fTuple (fCons (fVar 11) fNil)) (fCons (fVar 5) fNil))) fNil)) (fOp fPlus (fCB fList (fCons (fCall m_loads [] (fCons (fCB fTuple (fCons (fSl (fVar 11) fNoPart (fPart (fVar 13))) fNil)) (fCons (fVar 15) fNil))) fNil)) (fCB fList (fCons (fVar 14) fNil))))) (sRet (fC (.bool false))) sNext)   (sIf (fTest (fOp (fEqK true) (fCB fList (fCons (fCall m_loads [] (fCons (fCB fTuple (fCons (fVar 11) fNil)) (fCons (fVar 5) fNil))) fNil)) (fLc (iSeq (fCall m_legs [] (fCons (fVar 5) (fCons (fVar 6) (fCons (fLc (iSeq (fSl (fVar 11) (fPart (fC (.int 1))) fNoPart)) (gN 17) fYes (fIxC 3 (fVar 17)) [17]) fNil))))) (gN 16) fYes (fIxC 0 (fVar 16)) [16]))) (sRet (fC (.bool false))) sNext)))))) sNext)   (sFor (iSeq (fOp fPlus (fSl (fVar 4) fNoPart (fPart (fC (.int 4)))) (fLst (fCons (fTup (fCons (fC (.int 0)) (fCons (fC (.int 0)) (fCons (fC (.int 0)) fNil)))) (fCons (fTup (fCons (fC (.int 7)) (fCons (fC (.int 100000)) (fCons (fC (.int 1)) fNil)))) fNil))))) (gN 18) (sIf (fNot (fTru (fCall m_law_sums [] (fCons (fVar 2) (fCons (fVar 18) fNil))))) (sRet (fC (.bool false))) sNext)))))))))))))))   (sRet (fC (.bool true))))) F sc_law rfl fun cdv A outer s H E hr => ?_
  exact (qss_cons (qs_for (qi_range1 t.b_range (qa_cons (q_min2 t.b_min (qa_cons qc_int (qa_cons (q_plus qc_int (q_len t.b_len (qa_cons (qv 0) qa_nil))) qa_nil))) qa_nil)) (qg_name (i := 1) sc_law.nd) (qss_cons (qs_set 2 sc_law.nd (q_callH h_law_state (hr.mono (by decide)) (qa_cons (qv 0) (qa_cons (qv 1) (qa_cons qc_int qa_nil)))))
      (qss_cons (qs_set 3 sc_law.nd (q_callH h_law_draw (hr.mono (by decide)) (qa_cons (qv 2) (qa_cons qc_int qa_nil))))
      (qss_cons (qs_set 4 sc_law.nd (q_callH h_law_tolls (hr.mono (by decide)) (qa_cons (qv 2) (qa_cons (qv 3) qa_nil))))
      (qss_cons (qs_set 5 sc_law.nd (q_plus qc_int (q_callH h_law_draw (hr.mono (by decide)) (qa_cons (qv 2) (qa_cons (q_ix (q_tup (qa_cons qc_int (qa_cons (q_pow qc_int qc_int) (qa_cons (q_pow qc_int qc_int) qa_nil)))) (q_callH h_law_draw (hr.mono (by decide)) (qa_cons (qv 2) (qa_cons qc_int qa_nil)))) qa_nil)))))
      (qss_cons (qs_set 6 sc_law.nd (q_callH h_law_draw (hr.mono (by decide)) (qa_cons (qv 2) (qa_cons (q_pow qc_int qc_int) qa_nil))))
      (qss_cons (qs_set 7 sc_law.nd (q_callH h_law_draw (hr.mono (by decide)) (qa_cons (qv 2) (qa_cons (q_plus (qv 3) qc_int) qa_nil))))
      (qss_cons (qs_set 8 sc_law.nd (q_callH h_legs (hr.mono (by decide)) (qa_cons (qv 5) (qa_cons (qv 6) (qa_cons (q_list t.b_list (qa_cons (qv 4) qa_nil)) qa_nil)))))
      (qss_cons (qs_set 9 sc_law.nd (q_callH h_legs (hr.mono (by decide)) (qa_cons (qv 5) (qa_cons (qv 6) (qa_cons (q_sl (qv 4) (qo_some (qv 7)) qo_none) qa_nil)))))
      (qss_cons (qs_set 10 sc_law.nd (q_callH h_legs (hr.mono (by decide)) (qa_cons (q_ixC 0 (q_ixC 0 (qv 9))) (qa_cons (q_ixC 1 (q_ixC 0 (qv 9))) (qa_cons (q_sl (qv 4) qo_none (qo_some (qv 7))) qa_nil)))))
      (qss_cons (qs_if (QW.qt (qw_or (qt_ne so hr.units (q_list t.b_list (qa_cons (qv 8) qa_nil)) (q_plus (q_list t.b_list (qa_cons (qv 10) qa_nil)) (q_list t.b_list (qa_cons (q_sl (qv 9) (qo_some qc_int) qo_none) qa_nil)))) (qw_or (qt_ne so hr.units (q_len t.b_len (qa_cons (qv 8) qa_nil)) (q_plus (qv 3) qc_int)) (qw_or1 (qt_ne so hr.units (q_ix (qv 8) (q_neg qc_int)) (q_tup (qa_cons (qv 5) (qa_cons (qv 6) qa_nil)))))))) (qss_one (qs_ret qc_bl)) qss_nil)
      (qss_cons (qs_setLcG (own := [("at", 12)]) (g := gName 12) 11 sc_law.nd (qi_range1 t.b_range (qa_cons (qv 3) qa_nil)) (blkOk_by (own := [("at", 12)]) (N := n_law) (sc := defScope s_law) (by decide +kernel)) (fun _ _ _ _ _ => pg_name (i := 12) sc_law.nd rfl (Or.inl rfl)) (fun _ _ _ _ _ => qifs_nil) (fun _ _ _ _ _ => (q_tup (qa_cons (qv 12) (qa_cons (qv 12) (qa_cons (q_plus (qv 12) qc_int) (qa_cons (q_ix (qv 4) (qv 12)) (qa_cons qc_int qa_nil))))))) (fun l => le_lc l lg_name (gw_name) lt_of le_of) (sw_true rfl rfl rfl (by decide +kernel)))
      (qss_cons (qs_if (qt_gt (qv 3) qc_int) (qss_cons (qs_set 13 sc_law.nd (q_plus qc_int (q_callH h_law_draw (hr.mono (by decide)) (qa_cons (qv 2) (qa_cons (qv 3) qa_nil)))))
      (qss_cons (qs_set 14 sc_law.nd (q_callH h_loads (hr.mono (by decide)) (qa_cons (q_tuple t.b_tuple (qa_cons (q_sl (qv 11) (qo_some (qv 13)) qo_none) qa_nil)) (qa_cons (qv 5) qa_nil))))
      (qss_cons (qs_set 15 sc_law.nd (qv 5))
      (qss_cons (qs_if (qt_ne so hr.units (qv 14) (q_lst qa_nil)) (qss_one (qs_set 15 sc_law.nd (q_callH h_must_come_in (hr.mono (by decide)) (qa_cons (q_ixC 3 (q_ix (qv 11) (qv 13))) (qa_cons (q_ixC 0 (qv 14)) qa_nil))))) qss_nil)
      (qss_cons (qs_if (qt_ne so hr.units (q_list t.b_list (qa_cons (q_callH h_loads (hr.mono (by decide)) (qa_cons (q_tuple t.b_tuple (qa_cons (qv 11) qa_nil)) (qa_cons (qv 5) qa_nil))) qa_nil)) (q_plus (q_list t.b_list (qa_cons (q_callH h_loads (hr.mono (by decide)) (qa_cons (q_tuple t.b_tuple (qa_cons (q_sl (qv 11) qo_none (qo_some (qv 13))) qa_nil)) (qa_cons (qv 15) qa_nil))) qa_nil)) (q_list t.b_list (qa_cons (qv 14) qa_nil)))) (qss_one (qs_ret qc_bl)) qss_nil)
      (qss_one (qs_if (qt_ne so hr.units (q_list t.b_list (qa_cons (q_callH h_loads (hr.mono (by decide)) (qa_cons (q_tuple t.b_tuple (qa_cons (qv 11) qa_nil)) (qa_cons (qv 5) qa_nil))) qa_nil)) (q_lc (own := [("leg", 16)]) (g := gName 16) lg_name (gw_name) sc_law.nd (qi_seq (q_callH h_legs (hr.mono (by decide)) (qa_cons (qv 5) (qa_cons (qv 6) (qa_cons (q_lc (own := [("way", 17)]) (g := gName 17) lg_name (gw_name) sc_law.nd (qi_seq (q_sl (qv 11) (qo_some qc_int) qo_none)) (blkOk_by (own := [("way", 17)]) (N := n_law) (sc := defScope s_law) (by decide +kernel)) (fun _ _ _ _ _ => pg_name (i := 17) sc_law.nd rfl (Or.inl rfl)) (fun _ _ _ _ _ => qifs_nil) (fun _ _ _ _ _ => (q_ixC 3 (qv 17)))) qa_nil))))) (blkOk_by (own := [("leg", 16)]) (N := n_law) (sc := defScope s_law) (by decide +kernel)) (fun _ _ _ _ _ => pg_name (i := 16) sc_law.nd rfl (Or.inl rfl)) (fun _ _ _ _ _ => qifs_nil) (fun _ _ _ _ _ => (q_ixC 0 (qv 16))))) (qss_one (qs_ret qc_bl)) qss_nil))))))) qss_nil)
      (qss_one (qs_for (qi_seq (q_plus (q_sl (qv 4) qo_none (qo_some qc_int)) (q_lst (qa_cons (q_tup (qa_cons qc_int (qa_cons qc_int (qa_cons qc_int qa_nil)))) (qa_cons (q_tup (qa_cons qc_int (qa_cons qc_int (qa_cons qc_int qa_nil)))) qa_nil))))) (qg_name (i := 18) sc_law.nd) (qss_one (qs_if (qt_not (qt_truth (q_callH h_law_sums (hr.mono (by decide)) (qa_cons (qv 2) (qa_cons (qv 18) qa_nil))))) (qss_one (qs_ret qc_bl)) qss_nil)))))))))))))))))
      (qss_one (qs_ret qc_bl)))
theorem all_mk {l : PySem.W.OpenLaw} {w : World} {K : PySem.W.Frag} {h : Heap} {mg : Str → Option Value} {fa : Addr} (X : K.In h) (G : h.Ns mainGlobals mg) (hfa : mg "law" = some (.ref fa))
    {f0 : Addr} {od0 an0 : Option Addr} {sl0 : Array (Option Value)} {oc0 kV0 dc0 pm0 cd0 ct0 : Value}
    (a0 : PySem.W.nsIn K mainGlobals "_law_state" = some (some (.ref f0))) (l0 : K.lookup f0 = some ⟨oc0, od0, .func (PySem.W.fnOf "_law_state" "_law_state" (defArgs s_law_state) (defBody s_law_state) (defScope s_law_state) .none kV0 dc0 pm0 an0 cd0 ct0), sl0⟩) (c0 : PySem.W.codeIn K cd0 "_law_state" = true) (k0 : PySem.W.keepIn K (.ref f0) = true)
    {f1 : Addr} {od1 an1 : Option Addr} {sl1 : Array (Option Value)} {oc1 kV1 dc1 pm1 cd1 ct1 : Value}
    (a1 : PySem.W.nsIn K mainGlobals "_law_draw" = some (some (.ref f1))) (l1 : K.lookup f1 = some ⟨oc1, od1, .func (PySem.W.fnOf "_law_draw" "_law_draw" (defArgs s_law_draw) (defBody s_law_draw) (defScope s_law_draw) .none kV1 dc1 pm1 an1 cd1 ct1), sl1⟩) (c1 : PySem.W.codeIn K cd1 "_law_draw" = true) (k1 : PySem.W.keepIn K (.ref f1) = true)
    {f2 : Addr} {od2 an2 : Option Addr} {sl2 : Array (Option Value)} {oc2 kV2 dc2 pm2 cd2 ct2 : Value}
    (a2 : PySem.W.nsIn K mainGlobals "_law_tolls" = some (some (.ref f2))) (l2 : K.lookup f2 = some ⟨oc2, od2, .func (PySem.W.fnOf "_law_tolls" "_law_tolls" (defArgs s_law_tolls) (defBody s_law_tolls) (defScope s_law_tolls) .none kV2 dc2 pm2 an2 cd2 ct2), sl2⟩) (c2 : PySem.W.codeIn K cd2 "_law_tolls" = true) (k2 : PySem.W.keepIn K (.ref f2) = true)
    {f3 : Addr} {od3 an3 : Option Addr} {sl3 : Array (Option Value)} {oc3 kV3 dc3 pm3 cd3 ct3 : Value}
    (a3 : PySem.W.nsIn K mainGlobals "must_come_in" = some (some (.ref f3))) (l3 : K.lookup f3 = some ⟨oc3, od3, .func (PySem.W.fnOf "must_come_in" "must_come_in" (defArgs s_must_come_in) (defBody s_must_come_in) (defScope s_must_come_in) .none kV3 dc3 pm3 an3 cd3 ct3), sl3⟩) (c3 : PySem.W.codeIn K cd3 "must_come_in" = true) (k3 : PySem.W.keepIn K (.ref f3) = true)
    {f4 : Addr} {od4 an4 : Option Addr} {sl4 : Array (Option Value)} {oc4 kV4 dc4 pm4 cd4 ct4 : Value}
    (a4 : PySem.W.nsIn K mainGlobals "legs" = some (some (.ref f4))) (l4 : K.lookup f4 = some ⟨oc4, od4, .func (PySem.W.fnOf "legs" "legs" (defArgs s_legs) (defBody s_legs) (defScope s_legs) .none kV4 dc4 pm4 an4 cd4 ct4), sl4⟩) (c4 : PySem.W.codeIn K cd4 "legs" = true) (k4 : PySem.W.keepIn K (.ref f4) = true)
    {f5 : Addr} {od5 an5 : Option Addr} {sl5 : Array (Option Value)} {oc5 kV5 dc5 pm5 cd5 ct5 : Value}
    (a5 : PySem.W.nsIn K mainGlobals "loads" = some (some (.ref f5))) (l5 : K.lookup f5 = some ⟨oc5, od5, .func (PySem.W.fnOf "loads" "loads" (defArgs s_loads) (defBody s_loads) (defScope s_loads) .none kV5 dc5 pm5 an5 cd5 ct5), sl5⟩) (c5 : PySem.W.codeIn K cd5 "loads" = true) (k5 : PySem.W.keepIn K (.ref f5) = true)
    {f6 : Addr} {od6 an6 : Option Addr} {sl6 : Array (Option Value)} {oc6 kV6 dc6 pm6 cd6 ct6 : Value}
    (a6 : PySem.W.nsIn K mainGlobals "_law_sums" = some (some (.ref f6))) (l6 : K.lookup f6 = some ⟨oc6, od6, .func (PySem.W.fnOf "_law_sums" "_law_sums" (defArgs s_law_sums) (defBody s_law_sums) (defScope s_law_sums) .none kV6 dc6 pm6 an6 cd6 ct6), sl6⟩) (c6 : PySem.W.codeIn K cd6 "_law_sums" = true) (k6 : PySem.W.keepIn K (.ref f6) = true)
    {f7 : Addr} {od7 an7 : Option Addr} {sl7 : Array (Option Value)} {oc7 kV7 dc7 pm7 cd7 ct7 : Value}
    (a7 : PySem.W.nsIn K mainGlobals "law" = some (some (.ref f7))) (l7 : K.lookup f7 = some ⟨oc7, od7, .func (PySem.W.fnOf "law" "law" (defArgs s_law) (defBody s_law) (defScope s_law) .none kV7 dc7 pm7 an7 cd7 ct7), sl7⟩) (c7 : PySem.W.codeIn K cd7 "law" = true) (k7 : PySem.W.keepIn K (.ref f7) = true)
    (z0 : PySem.W.nsIn K mainGlobals "int" = some none)
    (z1 : PySem.W.nsIn K mainGlobals "len" = some none)
    (z2 : PySem.W.nsIn K mainGlobals "list" = some none)
    (z3 : PySem.W.nsIn K mainGlobals "min" = some none)
    (z4 : PySem.W.nsIn K mainGlobals "range" = some none)
    (z5 : PySem.W.nsIn K mainGlobals "reversed" = some none)
    (z6 : PySem.W.nsIn K mainGlobals "tuple" = some none)
    {tk0 : Tok} (y0 : PySem.W.nsIn K mainGlobals "MOST_AMOUNT" = some (some (.int 1000000000000000 tk0)))
    {tk1 : Tok} (y1 : PySem.W.nsIn K mainGlobals "MOST_TOLLS" = some (some (.int 20 tk1)))
    : ∃ fd : FuncData, (∀ (s : Shared) (v : Value), BindsTo s fd ⟨[v], []⟩ [("script", v)]) ∧ ∀ base : Heap, K.In base → base.Ns mainGlobals mg → FnOk l.prog w K mg base CX0 3 fa fd ["script"] (sp3 ⟨K, W, fun _ => 0⟩ 1 m_law) := by
  have t : Tx mg := ⟨PySem.W.mg_none_of X G z0, PySem.W.mg_none_of X G z1, PySem.W.mg_none_of X G z2, PySem.W.mg_none_of X G z3, PySem.W.mg_none_of X G z4, PySem.W.mg_none_of X G z5, PySem.W.mg_none_of X G z6, ⟨_, PySem.W.mg_of X G y0⟩, ⟨_, PySem.W.mg_of X G y1⟩⟩
  have D0 : Df K mg "_law_state" "_law_state" s_law_state p_law_state := df_of X G a0 l0 c0 k0 fun _ _ _ _ _ _ us hl => match us, hl with | [_, _, _], _ => rfl
  have D1 : Df K mg "_law_draw" "_law_draw" s_law_draw p_law_draw := df_of X G a1 l1 c1 k1 fun _ _ _ _ _ _ us hl => match us, hl with | [_, _], _ => rfl
  have D2 : Df K mg "_law_tolls" "_law_tolls" s_law_tolls p_law_tolls := df_of X G a2 l2 c2 k2 fun _ _ _ _ _ _ us hl => match us, hl with | [_, _], _ => rfl
  have D3 : Df K mg "must_come_in" "must_come_in" s_must_come_in p_must_come_in := df_of X G a3 l3 c3 k3 fun _ _ _ _ _ _ us hl => match us, hl with | [_, _], _ => rfl
  have D4 : Df K mg "legs" "legs" s_legs p_legs := df_of X G a4 l4 c4 k4 fun _ _ _ _ _ _ us hl => match us, hl with | [_, _, _], _ => rfl
  have D5 : Df K mg "loads" "loads" s_loads p_loads := df_of X G a5 l5 c5 k5 fun _ _ _ _ _ _ us hl => match us, hl with | [_, _], _ => rfl
  have D6 : Df K mg "_law_sums" "_law_sums" s_law_sums p_law_sums := df_of X G a6 l6 c6 k6 fun _ _ _ _ _ _ us hl => match us, hl with | [_, _], _ => rfl
  have e := hfa.symm.trans (PySem.W.mg_of X G a7)
  cases e
  refine ⟨PySem.W.fnOf "law" "law" (defArgs s_law) (defBody s_law) (defScope s_law) .none kV7 dc7 pm7 an7 cd7 ct7, fun s v => .of_eq rfl, fun base _ _ => ?_⟩
  have H0 := ok_law_state (P := l.prog) (w := w) (base := base) (T := fun _ => 0) t D0
  have H1 := ok_law_draw (P := l.prog) (w := w) (base := base) (T := fun _ => 0) t D1
  have H2 := ok_law_tolls (P := l.prog) (w := w) (base := base) (T := fun _ => 0) t D2 H1
  have H3 := ok_must_come_in (P := l.prog) (w := w) (base := base) (T := fun _ => 0) t D3
  have H4 := ok_legs (P := l.prog) (w := w) (base := base) (T := fun _ => 0) t D4 H3
  have H5 := ok_loads (P := l.prog) (w := w) (base := base) (T := fun _ => 0) t D5 H3
  have H6 := ok_law_sums (P := l.prog) (w := w) (base := base) (T := fun _ => 0) t D6 H1 H3
  exact ok_law (P := l.prog) (w := w) (base := base) (T := fun _ => 0) t (fun_mk (st := s_law) l7 c7 k7) H0 H1 H2 H4 H5 H3 H6
end
end Law
namespace Law
open PySem L2 L3
theorem walk {l : PySem.W.OpenLaw} {q : Program} {loose : List Str} {XP : (Str → Option Value) → Heap → Prop} {YP : World → Heap → Prop} {d : DefRec} {K : Params → PySem.W.Frag} (hn : l.most = some 63) (hdf : d.params.defaults = [])
    (hY : ∀ (w : World) (h : Heap), YP w h → (K w.params).In h)
    (F : ∀ (w : World) (mg : Str → Option Value) (fa : Addr) (h : Heap), (K w.params).In h → h.Ns mainGlobals mg → mg d.name = some (.ref fa) →
      ∃ fd : FuncData, (∀ (s : Shared) (u : Value), BindsTo s fd ⟨[u], []⟩ [("script", u)]) ∧ ∀ base : Heap, (K w.params).In base → base.Ns mainGlobals mg → FnOk l.prog w (K w.params) mg base CX0 3 fa fd ["script"] (sp3 ⟨K w.params, W, fun _ => 0⟩ 1 m_law)) :
    PySem.W.WalkO q loose XP YP l.row.toRowW d [] (fun f vs => PySem.call f vs) :=
  L2.walk_ofB (n := 63) (k := 3) (x := "script") (CX := fun _ => CX0) (sp := fun w => sp3 ⟨K w.params, W, fun _ => 0⟩ 1 m_law) hn (by decide) hdf ⟨rfl, by decide, by decide⟩ hY F (fun _ _ a ns hl hb _ hS => law_end hl hS (plain ns hl hb) _) fun _ _ _ _ _ z => z
end Law
open PySem PySem.W PyProof.Rows
set_option maxRecDepth 100000 in
set_option maxHeartbeats 0 in
theorem PySem.Challenge.cw_droveway_k38_legs_and_loads_one_behind_a_holds : PySem.Challenge.rw_droveway_k38_legs_and_loads_one_behind_a.Holds := by
  w_on; o_law; k_head; (case hw => w_witness2)
  k_fill
  refine Law.walk (l := PySem.Challenge.rw_droveway_k38_legs_and_loads_one_behind_a) rfl rfl (fun w h Y => PySem.W.kIn_of Y) ?F
  case F =>
    intro w mg fa h KX G hmg
    refine' Law.all_mk KX G hmg ?a0 ?l0 ?c0 ?k0 ?a1 ?l1 ?c1 ?k1 ?a2 ?l2 ?c2 ?k2 ?a3 ?l3 ?c3 ?k3 ?a4 ?l4 ?c4 ?k4 ?a5 ?l5 ?c5 ?k5 ?a6 ?l6 ?c6 ?k6 ?a7 ?l7 ?c7 ?k7 ?z0 ?z1 ?z2 ?z3 ?z4 ?z5 ?z6 ?y0 ?y1
    (case a0 => k_is); (case l0 => k_is); (case c0 => k_is); (case k0 => k_is); (case a1 => k_is); (case l1 => k_is)
    (case c1 => k_is); (case k1 => k_is); (case a2 => k_is); (case l2 => k_is); (case c2 => k_is); (case k2 => k_is)
    (case a3 => k_is); (case l3 => k_is); (case c3 => k_is); (case k3 => k_is); (case a4 => k_is); (case l4 => k_is)
    (case c4 => k_is); (case k4 => k_is); (case a5 => k_is); (case l5 => k_is); (case c5 => k_is); (case k5 => k_is)
    (case a6 => k_is); (case l6 => k_is); (case c6 => k_is); (case k6 => k_is); (case a7 => k_is); (case l7 => k_is)
    (case c7 => k_is); (case k7 => k_is); (case z0 => k_is); (case z1 => k_is); (case z2 => k_is); (case z3 => k_is)
    (case z4 => k_is); (case z5 => k_is); (case z6 => k_is); (case y0 => k_is); (case y1 => k_is)
