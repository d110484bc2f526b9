import PyProof.Rows.All
import HandS.ForMost
import HandS.ForExc
import HandS.Wide
import HandS.WideBits
import HandS.ExcCtx
import HandS.HotCalls
import HandS.SuiteRaise
import HandS.IsInst
import HandS.Style
import HandS.Replace
import HandS.StrMore
import HandS.TupAny
import HandS.Deep
import HandS.Iter
import HandS.Rev
import HandS.Zip
import HandS.ExcIs
import HandS.Defaults
import HandS.HeadHook4
import KE.KExcIs
import HandS.HeadEnd
import HandS.EndBits
import HandS.Head0
import HandS.Head1
import HandS.Head2
import KE.KStateDown
import PySem.Challenge.RW_trickproof_k04_a_hand_written
set_option Elab.async false
set_option linter.all false
set_option maxRecDepth 100000
set_option maxHeartbeats 4000000
section
/-! DL: a layer of plain data over the hand layer. D: deep values; Rep: how the heap bears them; G: addresses that are frozen, M: those that are owned. -/
namespace DL
open PySem L2

inductive D where
  | non | bl (b : Bool) | int (i : Int) | str (s : List Nat) | ty (n : String)
  | tup (xs : List D) | lst (xs : List D)
  | scr (ns : List Int)
  | dct (ks vs : List D) | ins (c : Str) (ns : List Str) (ds : List D) | exc (c : Str) (ns : List Str) (ds : List D)
instance : Inhabited D := ⟨.non⟩

/-- nothing that can change is within -/
def D.imm : D → Bool
  | .tup xs => imms xs
  | .lst _ => false
  | .dct _ _ => false
  | .ins _ _ _ => false
  | .exc _ _ ds => imms ds
  | _ => true
where imms : List D → Bool
  | [] => true
  | x :: xs => D.imm x && imms xs
abbrev imms := D.imm.imms

abbrev MG := Str → Option Value
abbrev GA := Addr → Prop
def G0 : GA := fun _ => False

def mutb : HO → Bool
  | .lst _ => true | .dK _ => true | .dT _ => true | .set _ _ => true | .ins _ _ _ => true | _ => false

/-- an exception object that is held as a value -/
def ExcO (C : Addr) (d : Option Addr) (a : Addr) : HO := .ext fun h => ∃ (oe : Obj) (vs : Array Value), h.get? a = some oe ∧ Zc (.ref C) d oe ∧ oe.data = .fields vs

def FzL (K : PySem.W.Frag) (H : Hp) (a : Addr) (xs : List V) : Prop :=
  (∃ o, H a = some (.frz o (.lst xs))) ∨
    ∃ (o : Obj) (its : Array Value) (n : Nat), K.lookup a = some o ∧ o.cls = .type "list" ∧ o.dict = none ∧ o.data = .seq its n ∧ its.size ≤ sizeLine ∧ Vals xs its.toList
theorem FzL.sq {K : PySem.W.Frag} {H : Hp} {a : Addr} {xs : List V} (h : FzL K H a xs) : SqL K H a xs := by
  rcases h with h | h
  · exact .inl (.inr h)
  · exact .inr h

def kD : Key → D
  | .inl i => .int i
  | .inr x => .str x.cps.toList

mutual
inductive Rep (K : PySem.W.Frag) (mg : MG) (H : Hp) (G : GA) : D → V → List Addr → Prop
  | non : Rep K mg H G .non .non []
  | bl (b : Bool) : Rep K mg H G (.bl b) (.bl b) []
  | int (i : Int) : Rep K mg H G (.int i) (.int i) []
  | str (x : Str) : Rep K mg H G (.str x.cps.toList) (.str x) []
  | ty (n : String) : Rep K mg H G (.ty n) (.ty n) []
  | tup {ds : List D} {vs : List V} {a : Addr} {M : List Addr} (h : SqT K H a vs) (r : Reps K mg H G ds vs M) : Rep K mg H G (.tup ds) (.ref a) M
  | lstO {ds : List D} {vs : List V} {a : Addr} {M : List Addr} (h : H a = some (.lst vs)) (r : Reps K mg H G ds vs M) : Rep K mg H G (.lst ds) (.ref a) (a :: M)
  | lstF {ds : List D} {vs : List V} {a : Addr} (h : H a = some (.lst vs)) (g : G a) (r : Reps K mg H G ds vs []) : Rep K mg H G (.lst ds) (.ref a) []
  | scr {ns : List Int} {a : Addr} (h : FzL K H a (ns.map V.int)) : Rep K mg H G (.scr ns) (.ref a) []
  | dctO {ks vs : List D} {kvs : List (Key × V)} {a : Addr} {M : List Addr} (h : H a = some (.dK kvs)) (e : ks = kvs.map fun p => kD p.1) (r : Reps K mg H G vs (kvs.map (·.2)) M) : Rep K mg H G (.dct ks vs) (.ref a) (a :: M)
  | dctF {ks vs : List D} {kvs : List (Key × V)} {a : Addr} (h : H a = some (.dK kvs)) (g : G a) (e : ks = kvs.map fun p => kD p.1) (r : Reps K mg H G vs (kvs.map (·.2)) []) : Rep K mg H G (.dct ks vs) (.ref a) []
  | insO {c : Str} {ns : List Str} {ds : List D} {fs : List (Str × V)} {a C dx : Addr} {M : List Addr} (h : H a = some (.ins C dx fs)) (hd : H dx = some (.own a)) (hc : mg c = some (.ref C)) (e : ns = fs.map (·.1)) (r : Reps K mg H G ds (fs.map (·.2)) M) : Rep K mg H G (.ins c ns ds) (.ref a) (a :: M)
  | insF {c : Str} {ns : List Str} {ds : List D} {fs : List (Str × V)} {a C dx : Addr} (h : H a = some (.ins C dx fs)) (hd : H dx = some (.own a)) (g : G a) (hc : mg c = some (.ref C)) (e : ns = fs.map (·.1)) (r : Reps K mg H G ds (fs.map (·.2)) []) : Rep K mg H G (.ins c ns ds) (.ref a) []
  | exc0 {c : Str} {a C : Addr} (h : H a = some (ExcO C none a)) (hc : mg c = some (.ref C)) : Rep K mg H G (.exc c [] []) (.ref a) []
  | exc {c : Str} {ns : List Str} {ds : List D} {fs : List (Str × V)} {a C dd : Addr} (h : H a = some (ExcO C (some dd) a)) (hd : H dd = some (.xd fs)) (hc : mg c = some (.ref C)) (e : ns = fs.map (·.1)) (r : Reps K mg H G ds (fs.map (·.2)) []) : Rep K mg H G (.exc c ns ds) (.ref a) []
inductive Reps (K : PySem.W.Frag) (mg : MG) (H : Hp) (G : GA) : List D → List V → List Addr → Prop
  | nil : Reps K mg H G [] [] []
  | cons {d : D} {ds : List D} {v : V} {vs : List V} {M M' : List Addr} (h : Rep K mg H G d v M) (t : Reps K mg H G ds vs M') : Reps K mg H G (d :: ds) (v :: vs) (M ++ M')
end

/-- what does not change but at addresses outside S -/
def Pres (S : GA) (H H' : Hp) : Prop := ∀ a o, H a = some o → (mutb o = true → S a) → H' a = some o
theorem Pres.of_same {S : GA} {H H' : Hp} (h : Same H H') : Pres S H H' := fun a o e _ => h a o e
theorem Pres.sqT {S : GA} {K : PySem.W.Frag} {H H' : Hp} {a : Addr} {xs : List V} (p : Pres S H H') (h : SqT K H a xs) : SqT K H' a xs := by
  rcases h with (h | ⟨o, h⟩) | h
  · exact .inl (.inl (p _ _ h fun z => by cases z))
  · exact .inl (.inr ⟨o, p _ _ h fun z => by cases z⟩)
  · exact .inr h
theorem Pres.fz {S : GA} {K : PySem.W.Frag} {H H' : Hp} {a : Addr} {xs : List V} (p : Pres S H H') (h : FzL K H a xs) : FzL K H' a xs := by
  rcases h with ⟨o, h⟩ | h
  · exact .inl ⟨o, p _ _ h fun z => by cases z⟩
  · exact .inr h

section
variable {K : PySem.W.Frag} {mg : MG}
mutual
theorem Rep.stay {H H' : Hp} {G G' : GA} : ∀ {d : D} {v : V} {M : List Addr}, Rep K mg H G d v M → Pres (fun a => G a ∨ a ∈ M) H H' → (∀ a, G a → G' a) → Rep K mg H' G' d v M
  | _, _, _, .non, _, _ => .non
  | _, _, _, .bl b, _, _ => .bl b
  | _, _, _, .int b, _, _ => .int b
  | _, _, _, .str b, _, _ => .str b
  | _, _, _, .ty b, _, _ => .ty b
  | _, _, _, .tup h r, p, g => .tup (p.sqT h) (Reps.stay r p g)
  | _, _, _, .lstO h r, p, g => .lstO (p _ _ h fun _ => .inr List.mem_cons_self) (Reps.stay r (fun a o e z => p a o e fun y => (z y).imp id (List.mem_cons_of_mem _)) g)
  | _, _, _, .lstF h k r, p, g => .lstF (p _ _ h fun _ => .inl k) (g _ k) (Reps.stay r p g)
  | _, _, _, .scr h, p, g => .scr (p.fz h)
  | _, _, _, .dctO h q r, p, g => .dctO (p _ _ h fun _ => .inr List.mem_cons_self) q (Reps.stay r (fun a o e z => p a o e fun y => (z y).imp id (List.mem_cons_of_mem _)) g)
  | _, _, _, .dctF h k q r, p, g => .dctF (p _ _ h fun _ => .inl k) (g _ k) q (Reps.stay r p g)
  | _, _, _, .insO h hd c q r, p, g => .insO (p _ _ h fun _ => .inr List.mem_cons_self) (p _ _ hd fun z => by cases z) c q (Reps.stay r (fun a o e z => p a o e fun y => (z y).imp id (List.mem_cons_of_mem _)) g)
  | _, _, _, .insF h hd k c q r, p, g => .insF (p _ _ h fun _ => .inl k) (p _ _ hd fun z => by cases z) (g _ k) c q (Reps.stay r p g)
  | _, _, _, .exc0 h c, p, g => .exc0 (p _ _ h fun z => by cases z) c
  | _, _, _, .exc h hd c q r, p, g => .exc (p _ _ h fun z => by cases z) (p _ _ hd fun z => by cases z) c q (Reps.stay r p g)
theorem Reps.stay {H H' : Hp} {G G' : GA} : ∀ {ds : List D} {vs : List V} {M : List Addr}, Reps K mg H G ds vs M → Pres (fun a => G a ∨ a ∈ M) H H' → (∀ a, G a → G' a) → Reps K mg H' G' ds vs M
  | _, _, _, .nil, _, _ => .nil
  | _, _, _, .cons h t, p, g => .cons (Rep.stay h (fun a o e z => p a o e fun y => (z y).imp id (List.mem_append_left _)) g) (Reps.stay t (fun a o e z => p a o e fun y => (z y).imp id (List.mem_append_right _)) g)
end
-- freezing
mutual
theorem Rep.freeze {H : Hp} {G G' : GA} : ∀ {d : D} {v : V} {M : List Addr}, Rep K mg H G d v M → (∀ a, G a → G' a) → (∀ a ∈ M, G' a) → Rep K mg H G' d v []
  | _, _, _, .non, _, _ => .non
  | _, _, _, .bl b, _, _ => .bl b
  | _, _, _, .int b, _, _ => .int b
  | _, _, _, .str b, _, _ => .str b
  | _, _, _, .ty b, _, _ => .ty b
  | _, _, _, .tup h r, g, m => .tup h (Reps.freeze r g m)
  | _, _, _, .lstO h r, g, m => .lstF h (m _ List.mem_cons_self) (Reps.freeze r g fun a z => m a (List.mem_cons_of_mem _ z))
  | _, _, _, .lstF h k r, g, m => .lstF h (g _ k) (Reps.freeze r g m)
  | _, _, _, .scr h, g, m => .scr h
  | _, _, _, .dctO h q r, g, m => .dctF h (m _ List.mem_cons_self) q (Reps.freeze r g fun a z => m a (List.mem_cons_of_mem _ z))
  | _, _, _, .dctF h k q r, g, m => .dctF h (g _ k) q (Reps.freeze r g m)
  | _, _, _, .insO h hd c q r, g, m => .insF h hd (m _ List.mem_cons_self) c q (Reps.freeze r g fun a z => m a (List.mem_cons_of_mem _ z))
  | _, _, _, .insF h hd k c q r, g, m => .insF h hd (g _ k) c q (Reps.freeze r g m)
  | _, _, _, .exc0 h c, g, m => .exc0 h c
  | _, _, _, .exc h hd c q r, g, m => .exc h hd c q (Reps.freeze r g m)
theorem Reps.freeze {H : Hp} {G G' : GA} : ∀ {ds : List D} {vs : List V} {M : List Addr}, Reps K mg H G ds vs M → (∀ a, G a → G' a) → (∀ a ∈ M, G' a) → Reps K mg H G' ds vs []
  | _, _, _, .nil, _, _ => .nil
  | _, _, _, .cons h t, g, m => .cons (M := []) (M' := []) (Rep.freeze h g fun a z => m a (List.mem_append_left _ z)) (Reps.freeze t g fun a z => m a (List.mem_append_right _ z))
end
-- the owned addresses are tracked, and can change
mutual
theorem Rep.dom {H : Hp} {G : GA} : ∀ {d : D} {v : V} {M : List Addr}, Rep K mg H G d v M → ∀ a ∈ M, ∃ o, H a = some o ∧ mutb o = true
  | _, _, _, .non, a, m => nomatch m
  | _, _, _, .bl b, a, m => nomatch m
  | _, _, _, .int b, a, m => nomatch m
  | _, _, _, .str b, a, m => nomatch m
  | _, _, _, .ty b, a, m => nomatch m
  | _, _, _, .tup h r, a, m => Reps.dom r a m
  | _, _, _, .lstO h r, a, m => by
    rcases List.mem_cons.mp m with e | m
    · exact ⟨_, e ▸ h, rfl⟩
    · exact Reps.dom r a m
  | _, _, _, .lstF h k r, a, m => nomatch m
  | _, _, _, .scr h, a, m => nomatch m
  | _, _, _, .dctO h q r, a, m => by
    rcases List.mem_cons.mp m with e | m
    · exact ⟨_, e ▸ h, rfl⟩
    · exact Reps.dom r a m
  | _, _, _, .dctF h k q r, a, m => nomatch m
  | _, _, _, .insO h hd c q r, a, m => by
    rcases List.mem_cons.mp m with e | m
    · exact ⟨_, e ▸ h, rfl⟩
    · exact Reps.dom r a m
  | _, _, _, .insF h hd k c q r, a, m => nomatch m
  | _, _, _, .exc0 h c, a, m => nomatch m
  | _, _, _, .exc h hd c q r, a, m => nomatch m
theorem Reps.dom {H : Hp} {G : GA} : ∀ {ds : List D} {vs : List V} {M : List Addr}, Reps K mg H G ds vs M → ∀ a ∈ M, ∃ o, H a = some o ∧ mutb o = true
  | _, _, _, .nil, a, m => nomatch m
  | _, _, _, .cons h t, a, m => by
    rcases List.mem_append.mp m with m | m
    · exact Rep.dom h a m
    · exact Reps.dom t a m
end
-- what cannot change is borne by any frozen part
mutual
theorem Rep.ofImm {H : Hp} {G G' : GA} : ∀ {d : D} {v : V} {M : List Addr}, Rep K mg H G d v M → d.imm = true → Rep K mg H G' d v []
  | _, _, _, .non, _ => .non
  | _, _, _, .bl b, _ => .bl b
  | _, _, _, .int b, _ => .int b
  | _, _, _, .str b, _ => .str b
  | _, _, _, .ty b, _ => .ty b
  | _, _, _, .tup h r, m => .tup h (Reps.ofImm r m)
  | _, _, _, .lstO h r, m => by cases m
  | _, _, _, .lstF h k r, m => by cases m
  | _, _, _, .scr h, _ => .scr h
  | _, _, _, .dctO h q r, m => by cases m
  | _, _, _, .dctF h k q r, m => by cases m
  | _, _, _, .insO h hd c q r, m => by cases m
  | _, _, _, .insF h hd k c q r, m => by cases m
  | _, _, _, .exc0 h c, _ => .exc0 h c
  | _, _, _, .exc h hd c q r, m => .exc h hd c q (Reps.ofImm r m)
theorem Reps.ofImm {H : Hp} {G G' : GA} : ∀ {ds : List D} {vs : List V} {M : List Addr}, Reps K mg H G ds vs M → imms ds = true → Reps K mg H G' ds vs []
  | _, _, _, .nil, _ => .nil
  | _, _, _, .cons h t, m => by
    have m' := m
    unfold imms D.imm.imms at m'
    rw [Bool.and_eq_true] at m'
    exact .cons (M := []) (M' := []) (Rep.ofImm h m'.1) (Reps.ofImm t m'.2)
end
end
end DL
end

section
/-! DL, expressions. -/
namespace DL
open PySem L2

structure Xd where
  c : Str
  ns : List Str
  ds : List D
inductive Res (α : Type) where
  | ok (a : α) | exn (x : Xd) | no
def Res.bind {α β : Type} (r : Res α) (f : α → Res β) : Res β := match r with
  | .ok a => f a | .exn x => .exn x | .no => .no
def Res.of {α : Type} : Option α → Res α
  | some a => .ok a | none => .no
abbrev Sl := List (Option D)
abbrev Ev := Sl → Res D

structure Grow (H : Hp) (G : GA) (H' : Hp) (G' : GA) : Prop where
  same : Same H H'
  g : ∀ a, G a → G' a
  new : ∀ a, G' a → G a ∨ H a = none
  ex : ∀ a, G' a → H' a ≠ none
theorem Grow.refl {H : Hp} {G : GA} (ex : ∀ a, G a → H a ≠ none) : Grow H G H G := ⟨Same.refl H, fun _ h => h, fun _ h => .inl h, ex⟩
theorem Grow.trans {H H1 H2 : Hp} {G G1 G2 : GA} (a : Grow H G H1 G1) (b : Grow H1 G1 H2 G2) : Grow H G H2 G2 :=
  ⟨a.same.trans b.same, fun x h => b.g x (a.g x h), fun x h => (b.new x h).elim (a.new x) fun z => .inr (a.same.free z), b.ex⟩
theorem Same.some {H H' : Hp} {a : Addr} (s : Same H H') (h : H a ≠ none) : H' a ≠ none := fun z => h (s.free z)
theorem Grow.of {H H' : Hp} {G : GA} (s : Same H H') (ex : ∀ a, G a → H a ≠ none) : Grow H G H' G := ⟨s, fun _ h => h, fun _ h => .inl h, fun a h => Same.some s (ex a h)⟩
theorem same_upd {H : Hp} {p : Addr} {o : HO} (h : H p = none) : Same H (upd H p o) := fun b x e => by
  rw [upd_ne (ne_of_none e h)]
  exact e

inductive Kd where
  | F | O | X
  deriving DecidableEq
def gk : Kd → GA → GA
  | .O, _ => G0
  | _, G => G
theorem gk_mono {k : Kd} {G G' : GA} (h : ∀ a, G a → G' a) : ∀ a, gk k G a → gk k G' a := by
  cases k <;> first | exact h | exact fun _ z => z
theorem gk_le {k : Kd} {G : GA} : ∀ a, gk k G a → G a := by
  cases k <;> first | exact fun _ z => z | exact fun _ z => z.elim

section
variable {K : PySem.W.Frag} {mg : MG} {H H' : Hp} {G G' : GA}
theorem Rep.grow {d : D} {v : V} {M : List Addr} (r : Rep K mg H G d v M) (g : Grow H G H' G') : Rep K mg H' G' d v M := r.stay (Pres.of_same g.same) g.g
theorem Rep.same {d : D} {v : V} {M : List Addr} (r : Rep K mg H G d v M) (s : Same H H') : Rep K mg H' G d v M := r.stay (Pres.of_same s) fun _ h => h
theorem Reps.grow {ds : List D} {vs : List V} {M : List Addr} (r : Reps K mg H G ds vs M) (g : Grow H G H' G') : Reps K mg H' G' ds vs M := r.stay (Pres.of_same g.same) g.g
theorem Reps.length : ∀ {ds : List D} {vs : List V} {M : List Addr}, Reps K mg H G ds vs M → ds.length = vs.length
  | _, _, _, .nil => rfl
  | _, _, _, .cons _ t => by simp [Reps.length t]
theorem Rep.weakG {d : D} {v : V} {M : List Addr} (r : Rep K mg H G d v M) (g : ∀ a, G a → G' a) : Rep K mg H G' d v M := r.stay (fun _ _ h _ => h) g
theorem Reps.weakG {d : List D} {v : List V} {M : List Addr} (r : Reps K mg H G d v M) (g : ∀ a, G a → G' a) : Reps K mg H G' d v M := r.stay (fun _ _ h _ => h) g
end

structure VRep (K : PySem.W.Frag) (mg : MG) (k : Kd) (H0 H : Hp) (G : GA) (d : D) (v : V) (M : List Addr) : Prop where
  rep : Rep K mg H (gk k G) d v M
  fr : k = .F → M = []
  nd : M.Nodup
  new : ∀ a ∈ M, H0 a = none ∧ ¬ G a

def ExRep (K : PySem.W.Frag) (mg : MG) (H : Hp) (x : Xd) (cls : Value) (dd : Option Addr) : Prop :=
  ∃ C, cls = .ref C ∧ mg x.c = some (.ref C) ∧ ((dd = none ∧ x.ns = [] ∧ x.ds = []) ∨ ∃ (d : Addr) (fs : List (Str × V)), dd = some d ∧ H d = some (.xd fs) ∧ fs.map (·.1) = x.ns ∧ imms x.ds = true ∧ Reps K mg H G0 x.ds (fs.map (·.2)) [])

inductive Slots (K : PySem.W.Frag) (mg : MG) (H : Hp) (G : GA) : List Kd → St → Sl → List Addr → Prop
  | nil : Slots K mg H G [] [] [] []
  | non {k : Kd} {ks : List Kd} {v : Option V} {σ : St} {ρ : Sl} {M : List Addr} (t : Slots K mg H G ks σ ρ M) : Slots K mg H G (k :: ks) (v :: σ) (none :: ρ) M
  | som {k : Kd} {ks : List Kd} {v : V} {d : D} {σ : St} {ρ : Sl} {M1 M : List Addr} (r : Rep K mg H (gk k G) d v M1) (f : k = .F → M1 = []) (t : Slots K mg H G ks σ ρ M) : Slots K mg H G (k :: ks) (some v :: σ) (some d :: ρ) (M1 ++ M)

def leK : Kd → Kd → Bool
  | .F, .O => false
  | .X, .O => false
  | _, _ => true
def leKs : List Kd → List Kd → Bool
  | [], [] => true
  | k :: ks, j :: js => leK k j && leKs ks js
  | _, _ => false

section
variable {K : PySem.W.Frag} {mg : MG} {H H' : Hp} {G G' : GA} {ks : List Kd} {σ : St} {ρ : Sl} {M : List Addr}
theorem Slots.stay (s : Slots K mg H G ks σ ρ M) (p : Pres (fun a => G a ∨ a ∈ M) H H') (g : ∀ a, G a → G' a) : Slots K mg H' G' ks σ ρ M := by
  induction s with
  | nil => exact .nil
  | non t ih => exact .non (ih p)
  | som r f t ih => exact .som (r.stay (fun a o e z => p a o e fun y => (z y).imp (gk_le a) (List.mem_append_left _)) (gk_mono g)) f (ih fun a o e z => p a o e fun y => (z y).imp id (List.mem_append_right _))
theorem Slots.dom (s : Slots K mg H G ks σ ρ M) : ∀ a ∈ M, ∃ o, H a = some o ∧ mutb o = true := by
  induction s with
  | nil => exact fun a m => nomatch m
  | non t ih => exact ih
  | som r f t ih => exact fun a m => (List.mem_append.mp m).elim (r.dom a) (ih a)
theorem Slots.lens (s : Slots K mg H G ks σ ρ M) : ks.length = σ.length ∧ ρ.length = σ.length := by
  induction s with
  | nil => exact ⟨rfl, rfl⟩
  | non t ih => simp [ih.1, ih.2]
  | som r f t ih => simp [ih.1, ih.2]
theorem Slots.get (s : Slots K mg H G ks σ ρ M) : ∀ {i : Nat} {d : D} {k : Kd}, ρ[i]? = some (some d) → ks[i]? = some k → ∃ v M1, σ[i]? = some (some v) ∧ Rep K mg H (gk k G) d v M1 ∧ (k = .F → M1 = []) ∧ (∀ a ∈ M1, a ∈ M) := by
  induction s with
  | nil => intro i d k e; simp at e
  | non t ih =>
    intro i d k e1 e2
    cases i with
    | zero => simp at e1
    | succ i => exact ih (by simpa using e1) (by simpa using e2)
  | som r f t ih =>
    intro i d k e1 e2
    cases i with
    | zero =>
      simp at e1 e2
      subst e1; subst e2
      exact ⟨_, _, rfl, r, f, fun a m => List.mem_append_left _ m⟩
    | succ i =>
      obtain ⟨v, M1, h1, h2, h3, h4⟩ := ih (by simpa using e1) (by simpa using e2)
      exact ⟨v, M1, by simpa using h1, h2, h3, fun a m => List.mem_append_right _ (h4 a m)⟩
theorem Slots.set (s : Slots K mg H G ks σ ρ M) {k' : Kd} {d' : D} {v' : V} {M1 : List Addr} (r' : Rep K mg H (gk k' G) d' v' M1) (f' : k' = .F → M1 = []) : ∀ {i : Nat}, i < ρ.length →
    ∃ M', Slots K mg H G (ks.set i k') (σ.set i (some v')) (ρ.set i (some d')) M' ∧ (M.Nodup → M1.Nodup → (∀ a ∈ M1, a ∉ M) → M'.Nodup) ∧ ∀ a ∈ M', a ∈ M ∨ a ∈ M1 := by
  induction s with
  | nil => intro i h; simp at h
  | @non k ks v σ ρ M t ih =>
    intro i h
    cases i with
    | zero => exact ⟨M1 ++ M, .som r' f' t, fun n1 n2 n3 => List.nodup_append.mpr ⟨n2, n1, fun a ha b hb e => n3 a ha (e ▸ hb)⟩, fun a m => (List.mem_append.mp m).symm⟩
    | succ i =>
      obtain ⟨M', h1, h2, h3⟩ := ih (i := i) (by simpa using h)
      exact ⟨M', .non h1, h2, h3⟩
  | @som k ks v d σ ρ Ma M r f t ih =>
    intro i h
    cases i with
    | zero =>
      refine ⟨M1 ++ M, .som r' f' t, fun n1 n2 n3 => List.nodup_append.mpr ⟨n2, (List.nodup_append.mp n1).2.1, fun a ha b hb e => n3 a ha (List.mem_append_right _ (e ▸ hb))⟩, fun a m => ?_⟩
      rcases List.mem_append.mp m with m | m
      · exact .inr m
      · exact .inl (List.mem_append_right _ m)
    | succ i =>
      obtain ⟨M', h1, h2, h3⟩ := ih (i := i) (by simpa using h)
      refine ⟨Ma ++ M', .som r f h1, fun n1 n2 n3 => ?_, fun a m => ?_⟩
      · obtain ⟨q1, q2, q3⟩ := List.nodup_append.mp n1
        refine List.nodup_append.mpr ⟨q1, h2 q2 n2 fun a ha hm => n3 a ha (List.mem_append_right _ hm), fun a ha b hb e => ?_⟩
        subst e
        rcases h3 _ hb with z | z
        · exact q3 _ ha _ z rfl
        · exact n3 _ z (List.mem_append_left _ ha)
      · rcases List.mem_append.mp m with m | m
        · exact .inl (List.mem_append_left _ m)
        · exact (h3 a m).imp (List.mem_append_right _) id
theorem Slots.unset (s : Slots K mg H G ks σ ρ M) : ∀ {i : Nat} {o : Option V}, ∃ M', Slots K mg H G ks (σ.set i o) (ρ.set i none) M' ∧ (M.Nodup → M'.Nodup) ∧ ∀ a ∈ M', a ∈ M := by
  induction s with
  | nil => intro i o; exact ⟨[], .nil, fun h => h, fun a h => h⟩
  | @non k ks v σ ρ M t ih =>
    intro i o
    cases i with
    | zero => exact ⟨M, .non t, fun h => h, fun a h => h⟩
    | succ i => obtain ⟨M', h1, h2, h3⟩ := ih (i := i) (o := o); exact ⟨M', .non h1, h2, h3⟩
  | @som k ks v d σ ρ Ma M r f t ih =>
    intro i o
    cases i with
    | zero => exact ⟨M, .non t, fun h => (List.nodup_append.mp h).2.1, fun a h => List.mem_append_right _ h⟩
    | succ i =>
      obtain ⟨M', h1, h2, h3⟩ := ih (i := i) (o := o)
      refine ⟨Ma ++ M', .som r f h1, fun n => ?_, fun a m => (List.mem_append.mp m).elim (fun z => List.mem_append_left _ z) fun z => List.mem_append_right _ (h3 a z)⟩
      obtain ⟨q1, q2, q3⟩ := List.nodup_append.mp n
      exact List.nodup_append.mpr ⟨q1, h2 q2, fun a ha b hb e => q3 a ha b (h3 b hb) e⟩
/-- an owned slot whose tree is changed in place -/
theorem Slots.upd (s : Slots K mg H G ks σ ρ M) : ∀ {i : Nat} {d : D} {k : Kd}, ρ[i]? = some (some d) → ks[i]? = some k → M.Nodup → ∃ v M1, σ[i]? = some (some v) ∧ Rep K mg H (gk k G) d v M1 ∧ (k = .F → M1 = []) ∧ (∀ a ∈ M1, a ∈ M) ∧ M1.Nodup ∧
    ∀ (H' : Hp) (G' : GA) (d' : D) (M1' : List Addr), Pres (fun a => G a ∨ (a ∈ M ∧ a ∉ M1)) H H' → (∀ a, G a → G' a) → Rep K mg H' (gk k G') d' v M1' → (k = .F → M1' = []) → M1'.Nodup → (∀ a ∈ M1', a ∉ M ∨ a ∈ M1) →
      ∃ M', Slots K mg H' G' ks σ (ρ.set i (some d')) M' ∧ M'.Nodup ∧ ∀ a ∈ M', a ∈ M ∨ a ∈ M1' := by
  induction s with
  | nil => intro i d k e; simp at e
  | @non k ks v σ ρ M t ih =>
    intro i d k e1 e2 n
    cases i with
    | zero => simp at e1
    | succ i =>
      obtain ⟨v, M1, h1, h2, h3, h4, h5, h6⟩ := ih (by simpa using e1) (by simpa using e2) n
      refine ⟨v, M1, by simpa using h1, h2, h3, h4, h5, fun H' G' d' M1' p g r f nn q => ?_⟩
      obtain ⟨M', z1, z2, z3⟩ := h6 H' G' d' M1' p g r f nn q
      exact ⟨M', .non z1, z2, z3⟩
  | @som k0 ks v0 d0 σ ρ Ma M r0 f0 t ih =>
    intro i d k e1 e2 n
    obtain ⟨q1, q2, q3⟩ := List.nodup_append.mp n
    cases i with
    | zero =>
      simp at e1 e2
      subst e1; subst e2
      refine ⟨_, _, rfl, r0, f0, fun a m => List.mem_append_left _ m, q1, fun H' G' d' M1' p g r f nn q => ?_⟩
      refine ⟨M1' ++ M, .som r f (t.stay (fun a o e z => p a o e fun y => (z y).imp id fun w => ⟨List.mem_append_right _ w, fun hm => q3 a hm a w rfl⟩) g), ?_, fun a m => ?_⟩
      · refine List.nodup_append.mpr ⟨nn, q2, fun a ha b hb e => ?_⟩
        subst e
        rcases q a ha with z | z
        · exact z (List.mem_append_right _ hb)
        · exact q3 a z a hb rfl
      · rcases List.mem_append.mp m with m | m
        · exact .inr m
        · exact .inl (List.mem_append_right _ m)
    | succ i =>
      obtain ⟨v, M1, h1, h2, h3, h4, h5, h6⟩ := ih (by simpa using e1) (by simpa using e2) q2
      refine ⟨v, M1, by simpa using h1, h2, h3, fun a m => List.mem_append_right _ (h4 a m), h5, fun H' G' d' M1' p g r f nn q => ?_⟩
      obtain ⟨M', z1, z2, z3⟩ := h6 H' G' d' M1' (fun a o e z => p a o e fun y => (z y).imp id fun w => ⟨List.mem_append_right _ w.1, w.2⟩) g r f nn (fun a m => (q a m).imp (fun w hm => w (List.mem_append_right _ hm)) id)
      refine ⟨Ma ++ M', .som (r0.stay (fun a o e z => p a o e fun y => (z y).imp (gk_le a) fun w => ⟨List.mem_append_left _ w, fun hm => q3 a w a (h4 a hm) rfl⟩) (gk_mono g)) f0 z1, ?_, fun a m => ?_⟩
      · refine List.nodup_append.mpr ⟨q1, z2, fun a ha b hb e => ?_⟩
        subst e
        rcases z3 a hb with z | z
        · exact q3 a ha a z rfl
        · rcases q a z with w | w
          · exact w (List.mem_append_left _ ha)
          · exact q3 a ha a (h4 a w) rfl
      · rcases List.mem_append.mp m with m | m
        · exact .inl (List.mem_append_left _ m)
        · exact (z3 a m).imp (List.mem_append_right _) id
theorem Slots.weak (s : Slots K mg H G ks σ ρ M) : ∀ {js : List Kd}, leKs ks js = true → ∃ M2, M2.Sublist M ∧ ∀ G' : GA, (∀ a, G a → G' a) → (∀ a ∈ M, a ∉ M2 → G' a) → M.Nodup → Slots K mg H G' js σ ρ M2 := by
  induction s with
  | nil =>
    intro js h
    cases js with
    | nil => exact ⟨[], .slnil, fun _ _ _ _ => .nil⟩
    | cons j js => simp [leKs] at h
  | @non k ks v σ ρ M t ih =>
    intro js h
    cases js with
    | nil => simp [leKs] at h
    | cons j js =>
      simp only [leKs, Bool.and_eq_true] at h
      obtain ⟨M2, h1, h2⟩ := ih h.2
      exact ⟨M2, h1, fun G' g m n => .non (h2 G' g m n)⟩
  | @som k ks v d σ ρ Ma M r f t ih =>
    intro js h
    cases js with
    | nil => simp [leKs] at h
    | cons j js =>
      simp only [leKs, Bool.and_eq_true] at h
      obtain ⟨M2, h1, h2⟩ := ih h.2
      by_cases hj : j = .F
      · subst hj
        refine ⟨M2, h1.trans (List.sublist_append_right _ _), fun G' g m n => ?_⟩
        obtain ⟨q1, q2, q3⟩ := List.nodup_append.mp n
        exact .som (M1 := []) (r.freeze (fun a z => g a (gk_le a z)) fun a z => m a (List.mem_append_left _ z) fun hm => q3 a z a (h1.subset hm) rfl) (fun _ => rfl) (h2 G' g (fun a ha hn => m a (List.mem_append_right _ ha) hn) q2)
      · refine ⟨Ma ++ M2, (List.Sublist.refl Ma).append h1, fun G' g m n => ?_⟩
        obtain ⟨q1, q2, q3⟩ := List.nodup_append.mp n
        have r2 : Rep K mg H (gk j G') d v Ma := by
          cases k <;> cases j <;> first
            | exact absurd rfl hj
            | exact r.weakG g
            | exact r.weakG fun _ z => z.elim
            | exact r
            | (exfalso; have z := h.1; cases z; done)
        exact .som r2 (fun z => absurd z hj) (h2 G' g (fun a ha hn => m a (List.mem_append_right _ ha) fun hm => (List.mem_append.mp hm).elim (fun z => q3 a z a ha rfl) hn) q2)
end

structure StOk (K : PySem.W.Frag) (mg : MG) (ks : List Kd) (σ : St) (H : Hp) (ρ : Sl) (G : GA) (M : List Addr) : Prop where
  sl : Slots K mg H G ks σ ρ M
  nd : M.Nodup
  ng : ∀ a ∈ M, ¬ G a
  ex : ∀ a, G a → H a ≠ none
section
variable {K : PySem.W.Frag} {mg : MG} {H H' : Hp} {G G' : GA} {ks js : List Kd} {σ : St} {ρ : Sl} {M : List Addr}
theorem StOk.grow (s : StOk K mg ks σ H ρ G M) (g : Grow H G H' G') : StOk K mg ks σ H' ρ G' M :=
  ⟨s.sl.stay (Pres.of_same g.same) g.g, s.nd, fun a m z => (g.new a z).elim (s.ng a m) (fun e => by
    obtain ⟨o, h, _⟩ := s.sl.dom a m
    rw [e] at h
    exact nomatch h), g.ex⟩
theorem StOk.weak (s : StOk K mg ks σ H ρ G M) (h : leKs ks js = true) : ∃ G2 M2, StOk K mg js σ H ρ G2 M2 ∧ M2.Sublist M ∧ (∀ a, G a → G2 a) ∧ ∀ a, G2 a → G a ∨ a ∈ M := by
  obtain ⟨M2, h1, h2⟩ := s.sl.weak h
  refine ⟨fun a => G a ∨ (a ∈ M ∧ a ∉ M2), M2, ⟨h2 _ (fun _ z => .inl z) (fun a m n => .inr ⟨m, n⟩) s.nd, h1.nodup s.nd, fun a m z => ?_, fun a z => ?_⟩, h1, fun _ z => .inl z, fun a z => z.imp id And.left⟩
  · exact z.elim (s.ng a (h1.subset m)) fun w => w.2 m
  · rcases z with z | z
    · exact s.ex a z
    · obtain ⟨o, e, _⟩ := s.sl.dom a z.1
      rw [e]; exact fun z => nomatch z
end

/-! ### what an expression comes to -/
def OutOk (K : PySem.W.Frag) (mg : MG) (W : WX) (k : Kd) (σ : St) (H : Hp) (G : GA) (r : Res D) (Q : VK) : Prop := match r with
  | .ok d => ∀ v H' G' M, Grow H G H' G' → VRep K mg k H H' G' d v M → Q v H'
  | .exn x => ∀ H' cls dd, Same H H' → ExRep K mg H' x cls dd → W cls dd σ H'
  | .no => False
def tD (X : Cx) (W : WX) (ks : List Kd) (k : Kd) (f : Ev) : TE := fun σ H Q => ∃ ρ G M, StOk X.K X.mg ks σ H ρ G M ∧ OutOk X.K X.mg W k σ H G (f ρ) Q
def DE (X : Cx) (W : WX) (ks : List Kd) (k : Kd) (e : Expr) (f : Ev) : Prop := PE X e (tD X W ks k f)
theorem PE_imp {X : Cx} {e : Expr} {t t' : TE} (h : PE X e t) (i : ∀ σ H Q, t' σ H Q → t σ H Q) : PE X e t' := ⟨fun pins s σ H Q I q => h.run pins s σ H Q I (i σ H Q q)⟩
theorem PT_imp {X : Cx} {e : Expr} {t t' : TT} (h : PT X e t) (i : ∀ σ H Q, t' σ H Q → t σ H Q) : PT X e t' := ⟨fun pins s σ H Q I q => h.run pins s σ H Q I (i σ H Q q)⟩
section
variable {X : Cx} {W : WX} {k k2 : Kd} {ks : List Kd} {σ : St} {H H1 H' : Hp} {G G1 : GA} {ρ : Sl} {M : List Addr} {Q : VK} {f g : Ev} {e a b : Expr} {r : Res D} {d : D} {v : V} {pos : Pos}
theorem VRep.back {K : PySem.W.Frag} {mg : MG} {H0 H1 H : Hp} (h : VRep K mg k H1 H G d v M) (s : Same H0 H1) : VRep K mg k H0 H G d v M := ⟨h.rep, h.fr, h.nd, fun a m => ⟨s.free (h.new a m).1, (h.new a m).2⟩⟩
theorem OutOk.grow {K : PySem.W.Frag} {mg : MG} (h : OutOk K mg W k σ H G r Q) (g : Grow H G H1 G1) : OutOk K mg W k σ H1 G1 r Q := by
  cases r with
  | ok d => exact fun v H' G' M gr vr => h v H' G' M (g.trans gr) (vr.back g.same)
  | exn x => exact fun H' cls dd s e => h H' cls dd (g.same.trans s) e
  | no => exact h
theorem OutOk.imm {K : PySem.W.Frag} {mg : MG} (h : OutOk K mg W k σ H G (.ok d) Q) (ex : ∀ a, G a → H a ≠ none) (r : Rep K mg H G0 d v []) : Q v H :=
  h v H G [] (Grow.refl ex) ⟨r.weakG fun _ z => z.elim, fun _ => rfl, .nil, fun a m => nomatch m⟩
/-- a new object -/
theorem OutOk.new {K : PySem.W.Frag} {mg : MG} {H' : Hp} {p : Addr} (h : OutOk K mg W k σ H G (.ok d) Q) (ex : ∀ a, G a → H a ≠ none) (hk : k ≠ .F) (hp : H p = none) (s : Same H H') (r : Rep K mg H' (gk k G) d v [p]) : Q v H' :=
  h v H' G [p] (Grow.of s ex) ⟨r, fun z => absurd z hk, by simp, fun a m => by
    obtain rfl : a = p := by simpa using m
    exact ⟨hp, fun z => ex _ z hp⟩⟩
/-- evaluating, then going on -/
theorem tD_then {c : D → Res D} {P : VK} (S : StOk X.K X.mg ks σ H ρ G M) (ho : OutOk X.K X.mg W k σ H G ((f ρ).bind c) Q)
    (hk : ∀ d v H1 G1, f ρ = .ok d → Grow H G H1 G1 → Rep X.K X.mg H1 G1 d v [] → StOk X.K X.mg ks σ H1 ρ G1 M → OutOk X.K X.mg W k σ H1 G1 (c d) Q → P v H1) : tD X W ks .F f σ H P := by
  refine ⟨ρ, G, M, S, ?_⟩
  cases e : f ρ with
  | ok d =>
    rw [e] at ho
    intro v H' G' M' gr vr
    obtain rfl := vr.fr rfl
    exact hk d v H' G' e gr vr.rep (S.grow gr) (OutOk.grow (r := c d) ho gr)
  | exn x => rw [e] at ho; exact ho
  | no => rw [e] at ho; exact ho.elim
theorem frozen {K : PySem.W.Frag} {mg : MG} {H0 : Hp} (s : Same H0 H) (vr : VRep K mg k H0 H G d v M) (gr : Grow H0 G1 H G) : ∃ G2, Grow H0 G1 H G2 ∧ VRep K mg .F H0 H G2 d v [] ∧ ∀ a, G2 a ↔ (G a ∨ a ∈ M) := by
  refine ⟨fun a => G a ∨ a ∈ M, ⟨gr.same, fun a z => .inl (gr.g a z), fun a z => ?_, fun a z => ?_⟩, ⟨vr.rep.freeze (fun a z => .inl (gk_le a z)) fun a z => .inr z, fun _ => rfl, .nil, fun a m => nomatch m⟩, fun a => Iff.rfl⟩
  · rcases z with z | z
    · exact gr.new a z
    · exact .inr (vr.new a z).1
  · rcases z with z | z
    · exact gr.ex a z
    · obtain ⟨o, e, _⟩ := vr.rep.dom a z
      rw [e]; exact fun z => nomatch z
/-- what is new may be frozen -/
theorem de_F (h : DE X W ks k e f) : DE X W ks .F e f := PE_imp h fun σ H Q ⟨ρ, G, M, S, ho⟩ => by
  refine ⟨ρ, G, M, S, ?_⟩
  cases er : f ρ with
  | ok d =>
    rw [er] at ho
    intro v H' G' M' gr vr
    obtain ⟨G2, g2, v2, _⟩ := frozen gr.same vr gr
    exact ho v H' G2 [] g2 v2
  | exn x => rw [er] at ho; exact ho
  | no => rw [er] at ho; exact ho.elim
theorem de_X (h : DE X W ks .O e f) : DE X W ks .X e f := PE_imp h fun σ H Q ⟨ρ, G, M, S, ho⟩ => by
  refine ⟨ρ, G, M, S, ?_⟩
  cases er : f ρ with
  | ok d =>
    rw [er] at ho
    intro v H' G' M' gr vr
    exact ho v H' G' M' gr ⟨vr.rep.weakG fun _ z => z.elim, (fun z => nomatch z), vr.nd, vr.new⟩
  | exn x => rw [er] at ho; exact ho
  | no => rw [er] at ho; exact ho.elim
/-- what cannot change is nobody's -/
def gImm (f : Ev) : Ev := fun ρ => (f ρ).bind fun d => if d.imm = true then .ok d else .no
theorem de_imm (h : DE X W ks .F e f) : DE X W ks .O e (gImm f) := PE_imp h fun σ H Q ⟨ρ, G, M, S, ho⟩ => by
  refine tD_then (P := Q) S ho fun d v H1 G1 _ gr rp S1 ho1 => ?_
  by_cases hi : d.imm = true
  · rw [if_pos hi] at ho1
    exact ho1.imm S1.ex (rp.ofImm hi)
  · rw [if_neg hi] at ho1
    exact ho1.elim
/-- for one evaluation all is frozen -/
theorem de_borrow {n : Nat} (hn : ks.length = n) (h : DE X W (List.replicate n .F) .O e f) : DE X W ks .O e f := PE_imp h fun σ H Q ⟨ρ, G, M, S, ho⟩ => by
  have le : ∀ l : List Kd, leKs l (List.replicate l.length .F) = true := fun l => by
    induction l with
    | nil => rfl
    | cons a l ih => cases a <;> simpa [List.replicate, leKs, leK] using ih
  obtain ⟨G2, M2, S2, _, g1, g2⟩ := S.weak (hn ▸ le ks)
  refine ⟨ρ, G2, M2, S2, ?_⟩
  cases er : f ρ with
  | ok d =>
    rw [er] at ho
    intro v H' G' M' gr vr
    refine ho v H' G M' (Grow.of gr.same S.ex) ⟨vr.rep, (fun z => nomatch z), vr.nd, fun a m => ⟨(vr.new a m).1, fun z => S.ex a z (vr.new a m).1⟩⟩
  | exn x => rw [er] at ho; exact ho
  | no => rw [er] at ho; exact ho.elim

/-! ### names, constants -/
def eV (i : Nat) : Ev := fun ρ => match ρ[i]? with
  | some (some d) => .ok d
  | _ => .no
def eC (d : D) : Ev := fun _ => .ok d
theorem de_V {i : Nat} {x : Str} (hk : ks[i]? = some .F) (h : PE X (.Name x pos) (tVar i)) : DE X W ks .F (.Name x pos) (eV i) := PE_imp h fun σ H Q ⟨ρ, G, M, S, ho⟩ => by
  unfold eV at ho
  cases e : ρ[i]? with
  | none => rw [e] at ho; exact ho.elim
  | some o =>
    cases o with
    | none => rw [e] at ho; exact ho.elim
    | some d =>
      rw [e] at ho
      obtain ⟨v, M1, h1, h2, h3, h4⟩ := S.sl.get e hk
      refine ⟨v, h1, ho v H G [] (Grow.refl S.ex) ⟨?_, fun _ => rfl, .nil, fun a m => nomatch m⟩⟩
      rw [← h3 rfl]
      exact h2
theorem de_C (r : ∀ H, Rep X.K X.mg H G0 d v []) (h : PE X e (tC v)) : DE X W ks .O e (eC d) := PE_imp h fun σ H Q ⟨ρ, G, M, S, ho⟩ => OutOk.imm (d := d) ho S.ex (r H)
theorem de_int {i : Int} {j : Nat} : DE X W ks .O (.Constant (.int i) j pos) (eC (.int i)) := de_C (fun _ => .int i) pe_int
theorem de_bl {i : Bool} {j : Nat} : DE X W ks .O (.Constant (.bool i) j pos) (eC (.bl i)) := de_C (fun _ => .bl i) pe_bl
theorem de_non {j : Nat} : DE X W ks .O (.Constant .none j pos) (eC .non) := de_C (fun _ => .non) pe_non
theorem de_str {x : Str} {l : List Nat} {j : Nat} (h : x.cps.toList = l := by rfl) : DE X W ks .O (.Constant (.str x) j pos) (eC (.str l)) := de_C (fun _ => h ▸ .str x) pe_str

/-! ### operators -/
def OpD (K : PySem.W.Frag) (mg : MG) (k : Kd) (r : R2) (o : D → D → Option D) : Prop := ∀ {W : WX} {σ : St} {H : Hp} {G : GA} {Q : VK} {d1 d2 : D} {v1 v2 : V}, Rep K mg H G d1 v1 [] → Rep K mg H G d2 v2 [] → (∀ a, G a → H a ≠ none) →
  OutOk K mg W k σ H G (Res.of (o d1 d2)) Q → r v1 v2 H Q
def eOp (o : D → D → Option D) (f g : Ev) : Ev := fun ρ => (f ρ).bind fun x => (g ρ).bind fun y => Res.of (o x y)
theorem de_tOp {r : R2} {o : D → D → Option D} (h : ∀ {t u : TE}, PE X a t → PE X b u → PE X e (tOp r t u)) (hd : OpD X.K X.mg k r o) (ha : DE X W ks .F a f) (hb : DE X W ks .F b g) : DE X W ks k e (eOp o f g) :=
  PE_imp (h ha hb) fun σ H Q ⟨ρ, G, M, S, ho⟩ => tD_then (f := f) S ho fun d v H1 G1 _ gr rp S1 ho1 => tD_then (f := g) S1 ho1 fun d2 v2 H2 G2 _ gr2 rp2 S2 ho2 => hd (rp.grow gr2) rp2 S2.ex ho2
theorem de_op {op : Operator} {r : R2} {o : D → D → Option D} (hr : OpR X (binaryOp op) r) (hd : OpD X.K X.mg k r o) (ha : DE X W ks .F a f) (hb : DE X W ks .F b g) : DE X W ks k (.BinOp a op b pos) (eOp o f g) :=
  de_tOp (fun p q => pe_op hr p q) hd ha hb
theorem de_cmp {op : CmpOp} {r : R2} {o : D → D → Option D} (hr : OpR X (compareOp op) r) (hd : OpD X.K X.mg k r o) (ha : DE X W ks .F a f) (hb : DE X W ks .F b g) (hm : behindInMarks op b = false) : DE X W ks k (.Compare a [op] [b] pos) (eOp o f g) :=
  de_tOp (fun p q => pe_cmpR hr p q hm) hd ha hb
theorem de_ix {r : R2} {o : D → D → Option D} (hr : IxR X r) (hd : OpD X.K X.mg k r o) (ha : DE X W ks .F a f) (hb : DE X W ks .F b g) (hm : PlainIx b) : DE X W ks k (.Subscript a b pos) (eOp o f g) :=
  de_tOp (fun p q => pe_ix hr p q hm) hd ha hb
end

/-! ### tests -/
abbrev Tv := Sl → Res Bool
def TOk (K : PySem.W.Frag) (mg : MG) (W : WX) (σ : St) (H : Hp) (G : GA) (r : Res Bool) (Q : Bool → Hp → Prop) : Prop := match r with
  | .ok b => ∀ H' G', Grow H G H' G' → Q b H'
  | .exn x => ∀ H' cls dd, Same H H' → ExRep K mg H' x cls dd → W cls dd σ H'
  | .no => False
def tDT (X : Cx) (W : WX) (ks : List Kd) (f : Tv) : TT := fun σ H Q => ∃ ρ G M, StOk X.K X.mg ks σ H ρ G M ∧ TOk X.K X.mg W σ H G (f ρ) Q
def DT (X : Cx) (W : WX) (ks : List Kd) (e : Expr) (f : Tv) : Prop := PT X e (tDT X W ks f)
def DW (X : Cx) (W : WX) (ks : List Kd) (e : Expr) (f : Tv) : Prop := PW X e (tDT X W ks f)
def D.asB : D → Res Bool
  | .bl b => .ok b
  | _ => .no
def tB (f : Ev) : Tv := fun ρ => (f ρ).bind D.asB
def tNot (f : Tv) : Tv := fun ρ => (f ρ).bind fun b => .ok (!b)
def tAnd (f g : Tv) : Tv := fun ρ => (f ρ).bind fun b => if b = true then g ρ else .ok false
def tOr (f g : Tv) : Tv := fun ρ => (f ρ).bind fun b => if b = true then .ok true else g ρ
section
variable {X : Cx} {W : WX} {k k2 : Kd} {ks : List Kd} {σ : St} {H H1 H' : Hp} {G G1 : GA} {ρ : Sl} {M : List Addr} {Q : VK} {f g : Ev} {t u : Tv} {e a b : Expr} {rest : List Expr} {d : D} {v : V} {pos : Pos}
theorem TOk.grow {K : PySem.W.Frag} {mg : MG} {r : Res Bool} {Q : Bool → Hp → Prop} (h : TOk K mg W σ H G r Q) (g : Grow H G H1 G1) : TOk K mg W σ H1 G1 r Q := by
  cases r with
  | ok d => exact fun H' G' gr => h H' G' (g.trans gr)
  | exn x => exact fun H' cls dd s e => h H' cls dd (g.same.trans s) e
  | no => exact h
theorem tDT_then {c : Bool → Res Bool} {P : Bool → Hp → Prop} {Q : Bool → Hp → Prop} (S : StOk X.K X.mg ks σ H ρ G M) (ho : TOk X.K X.mg W σ H G ((t ρ).bind c) Q)
    (hk : ∀ d H1 G1, t ρ = .ok d → Grow H G H1 G1 → StOk X.K X.mg ks σ H1 ρ G1 M → TOk X.K X.mg W σ H1 G1 (c d) Q → P d H1) : tDT X W ks t σ H P := by
  refine ⟨ρ, G, M, S, ?_⟩
  cases e : t ρ with
  | ok d =>
    rw [e] at ho
    intro H' G' gr
    exact hk d H' G' e gr (S.grow gr) (TOk.grow (r := c d) ho gr)
  | exn x => rw [e] at ho; exact ho
  | no => rw [e] at ho; exact ho.elim
theorem tD_test {c : D → Res Bool} {P : VK} {Q : Bool → Hp → Prop} (S : StOk X.K X.mg ks σ H ρ G M) (ho : TOk X.K X.mg W σ H G ((f ρ).bind c) Q)
    (hk : ∀ d v H1 G1, f ρ = .ok d → Grow H G H1 G1 → Rep X.K X.mg H1 G1 d v [] → StOk X.K X.mg ks σ H1 ρ G1 M → TOk X.K X.mg W σ H1 G1 (c d) Q → P v H1) : tD X W ks .F f σ H P := by
  refine ⟨ρ, G, M, S, ?_⟩
  cases e : f ρ with
  | ok d =>
    rw [e] at ho
    intro v H' G' M' gr vr
    obtain rfl := vr.fr rfl
    exact hk d v H' G' e gr vr.rep (S.grow gr) (TOk.grow (r := c d) ho gr)
  | exn x => rw [e] at ho; exact ho
  | no => rw [e] at ho; exact ho.elim
/-- an expression whose value is a bool, as a test -/
theorem dt_val (h : DE X W ks .F e f) (he : ∀ whole, isTrue e X.env whole = (do let v ← whole; standAt e.pos; holding [v] (truthy v)) := by intro _; rfl) : DT X W ks e (tB f) :=
  PT_imp (pt_val h he) fun σ H Q ⟨ρ, G, M, S, ho⟩ => tD_test S ho fun d v H1 G1 _ gr rp S1 ho1 => by
    cases d <;> first | exact ho1.elim | (cases rp; exact ⟨_, rfl, ho1 H1 G1 (Grow.refl S1.ex)⟩)
theorem bool_of {o : Option D} {Q : Bool → Hp → Prop} (S : StOk X.K X.mg ks σ H ρ G M) (h : TOk X.K X.mg W σ H G ((Res.of o).bind D.asB) Q) : OutOk X.K X.mg W .O σ H G (Res.of o) fun x H' => ∃ c, x = .bl c ∧ Q c H' := by
  cases o with
  | none => exact h
  | some d =>
    cases d <;> first
      | exact h.elim
      | (intro v H' G' M' gr vr
         have rp := vr.rep
         cases rp
         exact ⟨_, rfl, h H' G' gr⟩)
theorem bind_assoc3 {x y : Res D} {c : D → D → Option D} : ((x.bind fun d => y.bind fun d2 => Res.of (c d d2)).bind D.asB) = x.bind fun d => y.bind fun d2 => (Res.of (c d d2)).bind D.asB := by
  cases x <;> first | rfl | (cases y <;> rfl)
theorem dt_cmp {op : CmpOp} {r : R2} {o : D → D → Option D} (hr : OpR X (compareOp op) r) (hd : OpD X.K X.mg .O r o) (ha : DE X W ks .F a f) (hb : DE X W ks .F b g) (hm : behindInMarks op b = false) : DT X W ks (.Compare a [op] [b] pos) (tB (eOp o f g)) :=
  PT_imp (pt_cmpR hr ha hb hm) fun σ H Q ⟨ρ, G, M, S, ho⟩ => by
    unfold tB eOp at ho
    rw [bind_assoc3] at ho
    exact tD_test (f := f) S ho fun d v H1 G1 _ gr rp S1 ho1 => tD_test (f := g) S1 ho1 fun d2 v2 H2 G2 _ gr2 rp2 S2 ho2 => hd (rp.grow gr2) rp2 S2.ex (bool_of S2 ho2)
theorem dt_not (h : DT X W ks a t) : DT X W ks (.UnaryOp .Not a pos) (tNot t) :=
  PT_imp (pt_not h) fun σ H Q ⟨ρ, G, M, S, ho⟩ => tDT_then S ho fun d H1 G1 _ gr S1 ho1 => ho1 H1 G1 (Grow.refl S1.ex)
theorem DW.pt (h : DW X W ks e t) : DT X W ks e t := PW.pt h
theorem dw_and1 (h : DT X W ks a t) : DW X W ks (.BoolOp .And [a] pos) t := pw_and1 h
theorem dw_or1 (h : DT X W ks a t) : DW X W ks (.BoolOp .Or [a] pos) t := pw_or1 h
theorem PW_imp {X : Cx} {e : Expr} {t t' : TT} (h : PW X e t) (i : ∀ σ H Q, t' σ H Q → t σ H Q) : PW X e t' := ⟨fun w pins s σ H Q I q => h.run w pins s σ H Q I (i σ H Q q)⟩
theorem dw_and (h : DT X W ks a t) (h2 : DW X W ks (.BoolOp .And (b :: rest) pos) u) : DW X W ks (.BoolOp .And (a :: b :: rest) pos) (tAnd t u) :=
  PW_imp (pw_and h h2) fun σ H Q ⟨ρ, G, M, S, ho⟩ => tDT_then (t := t) S ho fun d H1 G1 _ gr S1 ho1 => by
    cases d with
    | true => exact ⟨ρ, G1, M, S1, ho1⟩
    | false => exact ho1 H1 G1 (Grow.refl S1.ex)
theorem dw_or (h : DT X W ks a t) (h2 : DW X W ks (.BoolOp .Or (b :: rest) pos) u) : DW X W ks (.BoolOp .Or (a :: b :: rest) pos) (tOr t u) :=
  PW_imp (pw_or h h2) fun σ H Q ⟨ρ, G, M, S, ho⟩ => tDT_then (t := t) S ho fun d H1 G1 _ gr S1 ho1 => by
    cases d with
    | true => exact ho1 H1 G1 (Grow.refl S1.ex)
    | false => exact ⟨ρ, G1, M, S1, ho1⟩
end
end DL
end

section
/-! DL, statements. -/
namespace DL
open PySem L2

structure Bs where
  H0 : Hp
  g0 : GA
  M0 : List Addr
structure StB (K : PySem.W.Frag) (mg : MG) (B : Bs) (ks : List Kd) (σ : St) (H : Hp) (ρ : Sl) (G : GA) (M : List Addr) : Prop where
  st : StOk K mg ks σ H ρ G M
  pres : ∀ a o, B.H0 a = some o → a ∉ B.M0 → H a = some o
  own : ∀ a ∈ M, a ∈ B.M0 ∨ B.H0 a = none
  gnew : ∀ a, G a → B.g0 a ∨ a ∈ B.M0 ∨ B.H0 a = none
  gold : ∀ a, B.g0 a → G a
  m0 : ∀ a ∈ B.M0, H a ≠ none
section
variable {K : PySem.W.Frag} {mg : MG} {B : Bs} {H H' : Hp} {G G' : GA} {ks js : List Kd} {σ σ' : St} {ρ ρ' : Sl} {M M' : List Addr}
theorem StB.back (s : StB K mg B ks σ H ρ G M) {a : Addr} (h : H a = none) : B.H0 a = none := by
  cases e : B.H0 a with
  | none => rfl
  | some o =>
    by_cases m : a ∈ B.M0
    · exact absurd h (s.m0 a m)
    · rw [s.pres a o e m] at h; cases h
theorem StB.grow (s : StB K mg B ks σ H ρ G M) (g : Grow H G H' G') : StB K mg B ks σ H' ρ G' M :=
  ⟨s.st.grow g, fun a o e m => g.same a o (s.pres a o e m), s.own, fun a z => (g.new a z).elim (s.gnew a) fun e => .inr (.inr (s.back e)), fun a z => g.g a (s.gold a z), fun a m => Same.some g.same (s.m0 a m)⟩
theorem StB.weak (s : StB K mg B ks σ H ρ G M) (h : leKs ks js = true) : ∃ G2 M2, StB K mg B js σ H ρ G2 M2 := by
  obtain ⟨G2, M2, h1, h2, h3, h4⟩ := s.st.weak h
  exact ⟨G2, M2, h1, s.pres, fun a m => s.own a (h2.subset m), fun a z => (h4 a z).elim (s.gnew a) fun m => .inr (s.own a m), fun a z => h3 a (s.gold a z), s.m0⟩
/-- the state itself as the base -/
theorem StOk.base (s : StOk K mg ks σ H ρ G M) : StB K mg ⟨H, G, M⟩ ks σ H ρ G M :=
  ⟨s, fun _ _ e _ => e, fun _ m => .inl m, fun _ z => .inl z, fun _ z => z, fun a m => by
    obtain ⟨o, e, _⟩ := s.sl.dom a m
    rw [e]; exact fun z => nomatch z⟩
/-- over a later base -/
theorem StB.trans {H1 : Hp} {G1 : GA} {M1 : List Addr} (s : StB K mg B ks σ H1 ρ G1 M1) (t : StB K mg ⟨H1, G1, M1⟩ js σ' H' ρ' G' M') : StB K mg B js σ' H' ρ' G' M' := by
  have nm : ∀ a o, B.H0 a = some o → a ∉ B.M0 → a ∉ M1 := fun a o e m z => (s.own a z).elim m fun n => by rw [n] at e; cases e
  refine ⟨t.st, fun a o e m => t.pres a o (s.pres a o e m) (nm a o e m), fun a m => (t.own a m).elim (s.own a) fun z => .inr (s.back z), fun a z => ?_, fun a z => t.gold a (s.gold a z), fun a m => ?_⟩
  · rcases t.gnew a z with z | z | z
    · exact s.gnew a z
    · exact .inr (s.own a z)
    · exact .inr (.inr (s.back z))
  · by_cases h : a ∈ M1
    · exact t.m0 a h
    · cases e : H1 a with
      | none => exact absurd e (s.m0 a m)
      | some o =>
        have := t.pres a o e h
        rw [this]; exact fun z => nomatch z
/-- what was frozen at the base stands -/
theorem StB.presG {H1 : Hp} {G1 : GA} {M1 : List Addr} (s : StOk K mg ks σ H1 ρ G1 M1) (t : StB K mg ⟨H1, G1, M1⟩ js σ' H' ρ' G' M') : Pres (fun a => G1 a ∨ a ∈ ([] : List Addr)) H1 H' := fun a o e z => t.pres a o e fun m => by
  obtain ⟨o', e', mu⟩ := s.sl.dom a m
  rw [e] at e'; cases e'
  rcases z mu with w | w
  · exact s.ng a m w
  · exact nomatch w
theorem StB.reps {H1 : Hp} {G1 : GA} {M1 : List Addr} {ds : List D} {vs : List V} (s : StOk K mg ks σ H1 ρ G1 M1) (t : StB K mg ⟨H1, G1, M1⟩ js σ' H' ρ' G' M') (r : Reps K mg H1 G1 ds vs []) : Reps K mg H' G' ds vs [] := r.stay (StB.presG s t) t.gold
theorem StB.rep {H1 : Hp} {G1 : GA} {M1 : List Addr} {d : D} {v : V} (s : StOk K mg ks σ H1 ρ G1 M1) (t : StB K mg ⟨H1, G1, M1⟩ js σ' H' ρ' G' M') (r : Rep K mg H1 G1 d v []) : Rep K mg H' G' d v [] := r.stay (StB.presG s t) t.gold
end

inductive Out where
  | nx (ρ : Sl) | rt (d : D) (ρ : Sl) | bk (ρ : Sl) | ct (ρ : Sl) | ex (x : Xd) (ρ : Sl) | no
abbrev Sv := Sl → Out
structure Sx where
  W : WX
  kx : List Kd
  kl : List Kd
  kr : Kd
  kq : List Kd
/-- a value handed back -/
structure RtOk (K : PySem.W.Frag) (mg : MG) (B : Bs) (k : Kd) (kq : List Kd) (σ : St) (H : Hp) (ρ : Sl) (G : GA) (M : List Addr) (d : D) (v : V) (Mv : List Addr) : Prop where
  st : StB K mg B kq σ H ρ G M
  rep : Rep K mg H (gk k G) d v Mv
  fr : k = .F → Mv = []
  nd : Mv.Nodup
  new : ∀ a ∈ Mv, ¬ G a ∧ a ∉ M ∧ (a ∈ B.M0 ∨ B.H0 a = none)
def SOk (K : PySem.W.Frag) (mg : MG) (B : Bs) (S : Sx) (ks' : List Kd) (o : Out) (Dn : Ends) : Prop := match o with
  | .nx ρ => ∀ σ H G M, StB K mg B ks' σ H ρ G M → Dn.nx σ H
  | .bk ρ => ∀ σ H G M, StB K mg B S.kl σ H ρ G M → Dn.bk σ H
  | .ct ρ => ∀ σ H G M, StB K mg B S.kl σ H ρ G M → Dn.ct σ H
  | .rt d ρ => ∀ σ v H G M Mv, RtOk K mg B S.kr S.kq σ H ρ G M d v Mv → Dn.rt v H
  | .ex x ρ => ∀ σ H G M cls dd, StB K mg B S.kx σ H ρ G M → ExRep K mg H x cls dd → S.W cls dd σ H
  | .no => False
def sD (X : Cx) (B : Bs) (S : Sx) (ks ks' : List Kd) (f : Sv) : TS := fun Dn σ H => ∃ ρ G M, StB X.K X.mg B ks σ H ρ G M ∧ SOk X.K X.mg B S ks' (f ρ) Dn
def DS (X : Cx) (S : Sx) (ks ks' : List Kd) (st : Stmt) (f : Sv) : Prop := ∀ B, PS X st (sD X B S ks ks' f)
def DSs (X : Cx) (S : Sx) (ks ks' : List Kd) (st : List Stmt) (f : Sv) : Prop := ∀ B, PSs X st (sD X B S ks ks' f)
theorem PS_imp {X : Cx} {e : Stmt} {t t' : TS} (h : PS X e t) (i : ∀ D σ H, t' D σ H → t D σ H) : PS X e t' := ⟨fun pins s σ H D I q => h.run pins s σ H D I (i D σ H q)⟩
theorem PSs_imp {X : Cx} {e : List Stmt} {t t' : TS} (h : PSs X e t) (i : ∀ D σ H, t' D σ H → t D σ H) : PSs X e t' := ⟨fun pins s σ H D I q => h.run pins s σ H D I (i D σ H q)⟩

def oSeq (f g : Sv) : Sv := fun ρ => match f ρ with
  | .nx ρ' => g ρ'
  | o => o
def oNx : Sv := fun ρ => .nx ρ
def exo (x : Xd) (ρ : Sl) : Out := .ex x ρ
/-- an expression's value, then -/
def oE {α : Type} (r : Res α) (ρ : Sl) (c : α → Out) : Out := match r with
  | .ok d => c d
  | .exn x => .ex x ρ
  | .no => .no
def sSet (i : Nat) (f : Ev) : Sv := fun ρ => oE (f ρ) ρ fun d => .nx (ρ.set i (some d))
def sIf (t : Tv) (f g : Sv) : Sv := fun ρ => oE (t ρ) ρ fun b => if b = true then f ρ else g ρ
def sRet (f : Ev) : Sv := fun ρ => oE (f ρ) ρ fun d => .rt d ρ
def sRetN : Sv := fun ρ => .rt .non ρ
def sRetM (i : Nat) : Sv := fun ρ => match ρ[i]? with
  | some (some d) => .rt d (ρ.set i none)
  | _ => .no
def sEx (f : Ev) : Sv := fun ρ => oE (f ρ) ρ fun _ => .nx ρ
def oWhile (t : Tv) (b : Sv) : Nat → Sv
  | 0, _ => .no
  | n + 1, ρ => oE (t ρ) ρ fun c => if c = true then (match b ρ with
      | .nx ρ' => oWhile t b n ρ'
      | .ct ρ' => oWhile t b n ρ'
      | .bk ρ' => .nx ρ'
      | o => o) else .nx ρ
def oFor (tg : D → Sl → Option Sl) (b : Sv) : List D → Sv
  | [], ρ => .nx ρ
  | d :: ds, ρ => match tg d ρ with
    | none => .no
    | some ρ1 => match b ρ1 with
      | .nx ρ' => oFor tg b ds ρ'
      | .ct ρ' => oFor tg b ds ρ'
      | .bk ρ' => .nx ρ'
      | o => o

section
variable {X : Cx} {B : Bs} {S : Sx} {k : Kd} {ks k1 k2 js : List Kd} {σ : St} {H H' : Hp} {ρ : Sl} {G G' : GA} {M : List Addr} {Dn : Ends} {f : Ev} {t : Tv} {u w : Sv} {st : Stmt} {rest sts sts' : List Stmt} {e c : Expr} {pos : Pos}
theorem dss_nil : DSs X S ks ks [] oNx := fun B => PSs_imp pss_nil fun D σ H ⟨ρ, G, M, s, h⟩ => h σ H G M s
theorem dss_cons (h1 : DS X S ks k1 st u) (h2 : DSs X S k1 k2 rest w) : DSs X S ks k2 (st :: rest) (oSeq u w) := fun B => PSs_imp (pss_cons (h1 B) (h2 B)) fun D σ H ⟨ρ, G, M, s, h⟩ => by
  refine ⟨ρ, G, M, s, ?_⟩
  unfold oSeq at h
  cases e : u ρ with
  | nx ρ' => rw [e] at h; exact fun σ' H' G' M' s' => ⟨ρ', G', M', s', h⟩
  | _ => rw [e] at h; exact h
theorem dss_one (h1 : DS X S ks k1 st u) : DSs X S ks k1 [st] u := fun B => pss_one (h1 B)
theorem ds_weak (hk : leKs ks k1 = true) (h : DS X S k1 k2 st u) : DS X S ks k2 st u := fun B => PS_imp (h B) fun D σ H ⟨ρ, G, M, s, q⟩ => by
  obtain ⟨G2, M2, s2⟩ := s.weak hk
  exact ⟨ρ, G2, M2, s2, q⟩
theorem dss_weak (hk : leKs ks k1 = true) (h : DSs X S k1 k2 sts u) : DSs X S ks k2 sts u := fun B => PSs_imp (h B) fun D σ H ⟨ρ, G, M, s, q⟩ => by
  obtain ⟨G2, M2, s2⟩ := s.weak hk
  exact ⟨ρ, G2, M2, s2, q⟩
theorem SOk.weakR {K : PySem.W.Frag} {mg : MG} {o : Out} (hk : leKs k1 k2 = true) (q : SOk K mg B S k2 o Dn) : SOk K mg B S k1 o Dn := by
  cases o with
  | nx ρ =>
    intro σ H G M s
    obtain ⟨G2, M2, s2⟩ := s.weak hk
    exact q σ H G2 M2 s2
  | _ => exact q
theorem dss_weakR (hk : leKs k1 k2 = true) (h : DSs X S ks k1 sts u) : DSs X S ks k2 sts u := fun B => PSs_imp (h B) fun D σ H ⟨ρ, G, M, s, q⟩ => ⟨ρ, G, M, s, q.weakR hk⟩
theorem ds_weakR (hk : leKs k1 k2 = true) (h : DS X S ks k1 st u) : DS X S ks k2 st u := fun B => PS_imp (h B) fun D σ H ⟨ρ, G, M, s, q⟩ => ⟨ρ, G, M, s, q.weakR hk⟩
/-- an expression ahead of a statement's end -/
theorem sE {P : VK} {c : D → Out} {Dn : Ends} (hx : leKs ks S.kx = true) (s : StB X.K X.mg B ks σ H ρ G M) (h : SOk X.K X.mg B S k2 (oE (f ρ) ρ c) Dn)
    (hk : ∀ d v H' G' Mv, f ρ = .ok d → Grow H G H' G' → VRep X.K X.mg k H H' G' d v Mv → SOk X.K X.mg B S k2 (c d) Dn → P v H') : tD X S.W ks k f σ H P := by
  refine ⟨ρ, G, M, s.st, ?_⟩
  cases e : f ρ with
  | ok d => rw [e] at h; exact fun v H' G' Mv gr vr => hk d v H' G' Mv e gr vr h
  | exn x =>
    rw [e] at h
    intro H' cls dd sm er
    have gr : Grow H G H' G := Grow.of sm s.st.ex
    obtain ⟨G2, M2, s2⟩ := (s.grow gr).weak hx
    exact h σ H' G2 M2 cls dd s2 er
  | no => rw [e] at h; exact h.elim
theorem sT {P : Bool → Hp → Prop} {c : Bool → Out} {Dn : Ends} (hx : leKs ks S.kx = true) (s : StB X.K X.mg B ks σ H ρ G M) (h : SOk X.K X.mg B S k2 (oE (t ρ) ρ c) Dn)
    (hk : ∀ d H' G', t ρ = .ok d → Grow H G H' G' → SOk X.K X.mg B S k2 (c d) Dn → P d H') : tDT X S.W ks t σ H P := by
  refine ⟨ρ, G, M, s.st, ?_⟩
  cases e : t ρ with
  | ok d => rw [e] at h; exact fun H' G' gr => hk d H' G' e gr h
  | exn x =>
    rw [e] at h
    intro H' cls dd sm er
    have gr : Grow H G H' G := Grow.of sm s.st.ex
    obtain ⟨G2, M2, s2⟩ := (s.grow gr).weak hx
    exact h σ H' G2 M2 cls dd s2 er
  | no => rw [e] at h; exact h.elim
theorem StB.set {K : PySem.W.Frag} {mg : MG} {i : Nat} {d : D} {v : V} {Mv : List Addr} (s : StB K mg B ks σ H ρ G M) (gr : Grow H G H' G') (vr : VRep K mg k H H' G' d v Mv) (hi : i < ks.length) :
    ∃ M', StB K mg B (ks.set i k) (σ.set i (some v)) H' (ρ.set i (some d)) G' M' := by
  have s1 := s.grow gr
  have hi' : i < ρ.length := by
    have := s.st.sl.lens
    omega
  obtain ⟨M', h1, h2, h3⟩ := s1.st.sl.set vr.rep vr.fr (i := i) hi'
  refine ⟨M', ⟨h1, h2 s1.st.nd vr.nd fun a m z => ?_, fun a m => ?_, s1.st.ex⟩, s1.pres, fun a m => ?_, s1.gnew, s1.gold, s1.m0⟩
  · obtain ⟨o, e, _⟩ := s.st.sl.dom a z
    rw [(vr.new a m).1] at e; cases e
  · rcases h3 a m with z | z
    · exact s1.st.ng a z
    · exact (vr.new a z).2
  · rcases h3 a m with z | z
    · exact s1.own a z
    · exact .inr (s.back (vr.new a z).1)
theorem ds_set {i : Nat} {x : Str} {pos' : Pos} (hk : i < ks.length) (hx : leKs ks S.kx = true) (he : DE X S.W ks k e f)
    (h : ∀ {te : TE}, PE X e te → PS X (.Assign [.Name x pos'] e pos) (tAsg te (gName i))) : DS X S ks (ks.set i k) (.Assign [.Name x pos'] e pos) (sSet i f) := fun B => PS_imp (h he) fun Dn σ H ⟨ρ, G, M, s, q⟩ =>
  sE hx s q fun d v H' G' Mv _ gr vr q' => by
    obtain ⟨M', s'⟩ := s.set gr vr hk
    exact q' _ _ _ _ s'
theorem ds_if (hx : leKs ks S.kx = true) (hc : DT X S.W ks c t) (h1 : DSs X S ks k2 sts u) (h2 : DSs X S ks k2 sts' w) : DS X S ks k2 (.If c sts sts' pos) (sIf t u w) := fun B => PS_imp (ps_if hc (h1 B) (h2 B)) fun Dn σ H ⟨ρ, G, M, s, q⟩ =>
  sT hx s q fun d H' G' _ gr q' => by
    cases d with
    | true => exact ⟨ρ, G', M, s.grow gr, q'⟩
    | false => exact ⟨ρ, G', M, s.grow gr, q'⟩
theorem ds_ret (hx : leKs ks S.kx = true) (hq : leKs ks S.kq = true) (hk : S.kr = k) (he : DE X S.W ks k e f) : DS X S ks k2 (.Return (some e) pos) (sRet f) := fun B => PS_imp (ps_ret he) fun Dn σ H ⟨ρ, G, M, s, q⟩ =>
  sE hx s q fun d v H' G' Mv _ gr vr q' => by
    subst hk
    have s1 := s.grow gr
    obtain ⟨G2, M2, h1, h2, h3, h4⟩ := s1.st.weak hq
    have s2 : StB X.K X.mg B S.kq σ H' ρ G2 M2 := ⟨h1, s1.pres, fun a m => s1.own a (h2.subset m), fun a z => (h4 a z).elim (s1.gnew a) fun m => .inr (s1.own a m), fun a z => h3 a (s1.gold a z), s1.m0⟩
    have nm : ∀ a ∈ Mv, a ∉ M := fun a m z => by
      obtain ⟨o, e, _⟩ := s.st.sl.dom a z
      rw [(vr.new a m).1] at e; cases e
    exact q' σ v H' G2 M2 Mv ⟨s2, vr.rep.weakG (gk_mono h3), vr.fr, vr.nd, fun a m => ⟨fun z => (h4 a z).elim (vr.new a m).2 (nm a m), fun z => nm a m (h2.subset z), .inr (s.back (vr.new a m).1)⟩⟩
theorem ds_retN (hq : leKs ks S.kq = true) : DS X S ks k2 (.Return none pos) sRetN := fun B => PS_imp ps_retN fun Dn σ H ⟨ρ, G, M, s, q⟩ => by
  obtain ⟨G2, M2, s2⟩ := s.weak hq
  exact q σ .non H G2 M2 [] ⟨s2, .non, fun _ => rfl, .nil, fun a m => nomatch m⟩
theorem ds_ex (hx : leKs ks S.kx = true) (he : DE X S.W ks .F e f) (hs : swapsWith e none pos.line X.env = pure false := by rfl) : DS X S ks ks (.Expr e pos) (sEx f) := fun B => PS_imp (ps_expr he hs) fun Dn σ H ⟨ρ, G, M, s, q⟩ =>
  sE hx s q fun d v H' G' Mv _ gr vr q' => q' σ H' G' M (s.grow gr)
theorem ds_doc {x : Str} {j : Nat} {pos' : Pos} : DS X S ks ks (.Expr (.Constant (.str x) j pos) pos') oNx := fun B => PS_imp ps_doc fun Dn σ H ⟨ρ, G, M, s, q⟩ => q σ H G M s
theorem ds_pass : DS X S ks ks (.Pass pos) oNx := fun B => PS_imp ps_pass fun Dn σ H ⟨ρ, G, M, s, q⟩ => q σ H G M s
theorem ds_while (n : Nat) (hx : leKs ks S.kx = true) (hp : PassesOwn (model X.prog X.w) X.A X.env X.xe) (hc : DT X S.W ks c t) (hb : DSs X { S with kl := ks } ks ks sts u) : DS X S ks ks (.While c sts [] pos) (oWhile t u n) := fun B =>
  PS_imp (ps_while hp hc (hb B)) fun Dn σ H ⟨ρ, G, M, s, q⟩ => by
    refine ⟨fun m σ H => ∃ ρ G M, StB X.K X.mg B ks σ H ρ G M ∧ SOk X.K X.mg B S ks (oWhile t u m ρ) Dn, ⟨n, ρ, G, M, s, q⟩, ?_⟩
    rintro m σ H ⟨ρ, G, M, s, q⟩
    cases m with
    | zero => exact q.elim
    | succ m =>
      refine sT hx s q fun d H' G' _ gr q' => ?_
      cases d with
      | false => exact q' σ H' G' M (s.grow gr)
      | true =>
        refine ⟨fun σ' H' => ∃ ρ G M, StB X.K X.mg B ks σ' H' ρ G M ∧ SOk X.K X.mg B S ks (oWhile t u m ρ) Dn, fun σ' H' ⟨ρ, G, M, s, q⟩ => ⟨m, Nat.lt_succ_self m, ρ, G, M, s, q⟩, ρ, G', M, s.grow gr, ?_⟩
        have q'' : SOk X.K X.mg B S ks (match u ρ with | .nx ρ' => oWhile t u m ρ' | .ct ρ' => oWhile t u m ρ' | .bk ρ' => .nx ρ' | o => o) Dn := q'
        cases e : u ρ with
        | nx ρ' => rw [e] at q''; exact fun σ H G M s => ⟨ρ', G, M, s, q''⟩
        | ct ρ' => rw [e] at q''; exact fun σ H G M s => ⟨ρ', G, M, s, q''⟩
        | bk ρ' => rw [e] at q''; exact q''
        | rt d ρ' => rw [e] at q''; exact q''
        | ex x ρ' => rw [e] at q''; exact q''
        | no => rw [e] at q''; exact q''
theorem ds_break : DS X S S.kl k2 (.Break pos) (fun ρ => .bk ρ) := fun B => PS_imp ps_break fun Dn σ H ⟨ρ, G, M, s, q⟩ => q σ H G M s
theorem ds_continue : DS X S S.kl k2 (.Continue pos) (fun ρ => .ct ρ) := fun B => PS_imp ps_continue fun Dn σ H ⟨ρ, G, M, s, q⟩ => q σ H G M s
end
end DL
end

section
/-! DL: what is walked; for; comprehensions; targets. -/
namespace DL
open PySem L2

/-! ### targets -/
abbrev Tg := D → Sl → Option Sl
def tg1 (i : Nat) : Tg := fun d ρ => some (ρ.set i (some d))
def tgAll : List Tg → List D → Sl → Option Sl
  | [], [], ρ => some ρ
  | t :: ts, d :: ds, ρ => (t d ρ).bind (tgAll ts ds)
  | _, _, _ => none
def tgT (ts : List Tg) : Tg := fun d ρ => match d with
  | .tup ds => tgAll ts ds ρ
  | _ => none
/-- what a target's reading does -/
def DGv (X : Cx) (ks : List Kd) (g : TG) (tg : Tg) : Prop := ∀ (B : Bs) (σ : St) (H : Hp) (ρ ρ1 : Sl) (G : GA) (M : List Addr) (d : D) (v : V) (Q : St → Hp → Prop),
  StB X.K X.mg B ks σ H ρ G M → Rep X.K X.mg H G d v [] → tg d ρ = some ρ1 → (∀ σ1 M1, StB X.K X.mg B ks σ1 H ρ1 G M1 → Q σ1 H) → g v σ H Q
def DGs (X : Cx) (ks : List Kd) (g : TGs) (ts : List Tg) : Prop := ∀ (B : Bs) (σ : St) (H : Hp) (ρ ρ1 : Sl) (G : GA) (M : List Addr) (ds : List D) (vs : List V) (Q : St → Hp → Prop),
  StB X.K X.mg B ks σ H ρ G M → Reps X.K X.mg H G ds vs [] → tgAll ts ds ρ = some ρ1 → (∀ σ1 M1, StB X.K X.mg B ks σ1 H ρ1 G M1 → Q σ1 H) → g vs σ H Q
section
variable {X : Cx} {ks : List Kd}
theorem append_nil_of {M M' : List Addr} (h : M ++ M' = []) : M = [] ∧ M' = [] := List.append_eq_nil_iff.mp h
theorem Reps.cons_inv {K : PySem.W.Frag} {mg : MG} {H : Hp} {G : GA} {d : D} {ds : List D} {vs : List V} (r : Reps K mg H G (d :: ds) vs []) : ∃ v vs', vs = v :: vs' ∧ Rep K mg H G d v [] ∧ Reps K mg H G ds vs' [] := by
  generalize hM : ([] : List Addr) = M at r
  cases r with
  | cons h t =>
    obtain ⟨rfl, rfl⟩ := append_nil_of hM.symm
    exact ⟨_, _, rfl, h, t⟩
theorem set_self {α : Type} : ∀ {l : List α} {i : Nat} {a : α}, l[i]? = some a → l.set i a = l
  | [], _, _, h => by simp at h
  | x :: l, 0, a, h => by simp at h; simp [h]
  | x :: l, i + 1, a, h => by simp at h; simp [set_self h]
theorem StB.setF {K : PySem.W.Frag} {mg : MG} {B : Bs} {σ : St} {H : Hp} {ρ : Sl} {G : GA} {M : List Addr} {i : Nat} {d : D} {v : V} (s : StB K mg B ks σ H ρ G M) (r : Rep K mg H G d v []) (hk : ks[i]? = some .F) :
    ∃ M', StB K mg B ks (σ.set i (some v)) H (ρ.set i (some d)) G M' := by
  have hi : i < ks.length := (List.getElem?_eq_some_iff.mp hk).1
  obtain ⟨M', h⟩ := s.set (k := .F) (v := v) (d := d) (Mv := []) (Grow.refl s.st.ex) ⟨r, fun _ => rfl, .nil, fun a m => nomatch m⟩ hi
  rw [set_self hk] at h
  exact ⟨M', h⟩
theorem dg_name {i : Nat} (hk : ks[i]? = some .F) : DGv X ks (gName i) (tg1 i) := fun B σ H ρ ρ1 G M d v Q s r e q => by
  cases e
  obtain ⟨M', h⟩ := s.setF r hk
  exact q _ _ h
theorem dgs_nil : DGs X ks gNil [] := fun B σ H ρ ρ1 G M ds vs Q s r e q => by
  cases ds with
  | nil =>
    cases e
    generalize hM : ([] : List Addr) = M' at r
    cases r
    exact ⟨rfl, q _ _ s⟩
  | cons d ds => cases e
theorem dgs_cons {g : TG} {gs : TGs} {t : Tg} {ts : List Tg} (h1 : DGv X ks g t) (h2 : DGs X ks gs ts) : DGs X ks (gCons g gs) (t :: ts) := fun B σ H ρ ρ1 G M ds vs Q s r e q => by
  cases ds with
  | nil => cases e
  | cons d ds =>
    obtain ⟨v, vs', rfl, r1, r2⟩ := r.cons_inv
    unfold tgAll at e
    cases e2 : t d ρ with
    | none => rw [e2] at e; cases e
    | some ρ2 =>
      rw [e2] at e
      exact ⟨v, vs', rfl, h1 B σ H ρ ρ2 G M d v _ s r1 e2 fun σ1 M1 s1 => h2 B σ1 H ρ2 ρ1 G M1 ds vs' Q s1 r2 e q⟩
theorem tgAll_len : ∀ {ts : List Tg} {ds : List D} {ρ ρ1 : Sl}, tgAll ts ds ρ = some ρ1 → ds.length = ts.length
  | [], [], _, _, _ => rfl
  | [], _ :: _, _, _, h => by cases h
  | _ :: _, [], _, _, h => by cases h
  | t :: ts, d :: ds, ρ, ρ1, h => by
    unfold tgAll at h
    cases e : t d ρ with
    | none => rw [e] at h; cases h
    | some ρ2 => rw [e] at h; simp [tgAll_len (ρ := ρ2) h]
theorem dg_tup {gs : TGs} {ts : List Tg} {n : Nat} (hn : ts.length = n) (h : DGs X ks gs ts) : DGv X ks (gTup X.K n gs) (tgT ts) := fun B σ H ρ ρ1 G M d v Q s r e q => by
  cases d with
  | tup ds =>
    generalize hM : ([] : List Addr) = M' at r
    cases r with
    | tup hq rs =>
      subst hM
      exact ⟨_, _, rfl, hq, by rw [← rs.length, tgAll_len e, hn], h B σ H ρ ρ1 G M ds _ Q s rs e q⟩
  | _ => cases e
end

/-! ### iterators -/
def ItD (K : PySem.W.Frag) (mg : MG) (J : It) (H1 : Hp) (G1 : GA) (ds : List D) : Prop := ∀ (i : Nat) (H2 : Hp), Pres G1 H1 H2 →
  (∀ d, ds[i]? = some d → J.go i H2 ∧ ∀ x H3, J.yld i H2 x H3 → Same H2 H3 ∧ Rep K mg H3 G1 d x []) ∧ (ds.length ≤ i → J.stop i H2)
def IOk (K : PySem.W.Frag) (mg : MG) (W : WX) (σ : St) (H : Hp) (G : GA) (r : Res (List D)) (R : It → Hp → Prop) : Prop := match r with
  | .ok ds => ∀ J H' G', Grow H G H' G' → ItD K mg J H' G' ds → R J H'
  | .exn x => ∀ H' cls dd, Same H H' → ExRep K mg H' x cls dd → W cls dd σ H'
  | .no => False
def tDI (X : Cx) (W : WX) (ks : List Kd) (fs : Sl → Res (List D)) : TI := fun σ H R => ∃ ρ G M, StOk X.K X.mg ks σ H ρ G M ∧ IOk X.K X.mg W σ H G (fs ρ) R
def DI (X : Cx) (W : WX) (ks : List Kd) (tg it : Expr) (fs : Sl → Res (List D)) : Prop := PI X tg it (tDI X W ks fs)
theorem PI_imp {X : Cx} {tg e : Expr} {t t' : TI} (h : PI X tg e t) (i : ∀ σ H Q, t' σ H Q → t σ H Q) : PI X tg e t' := ⟨fun pins s σ H Q I q => h.run pins s σ H Q I (i σ H Q q)⟩

section
variable {X : Cx} {B : Bs} {S : Sx} {k : Kd} {ks k1 k2 js : List Kd} {σ : St} {H H' : Hp} {ρ : Sl} {G G' : GA} {M : List Addr} {Dn : Ends} {f : Ev} {t : Tv} {u w : Sv} {st : Stmt} {rest sts sts' : List Stmt} {e c tge it : Expr} {pos : Pos} {fs : Sl → Res (List D)}
def sFor (fs : Sl → Res (List D)) (tg : Tg) (b : Sv) : Sv := fun ρ => oE (fs ρ) ρ fun ds => oFor tg b ds ρ
theorem drop_at {α : Type} {l : List α} {i : Nat} {a : α} (h : l[i]? = some a) : l.drop i = a :: l.drop (i + 1) := by
  obtain ⟨hl, e⟩ := List.getElem?_eq_some_iff.mp h
  rw [List.drop_eq_getElem_cons hl, e]
theorem RtOk.trans {K : PySem.W.Frag} {mg : MG} {σ' : St} {ρ' : Sl} {H1 : Hp} {G1 : GA} {M1 : List Addr} {kq : List Kd} {d : D} {v : V} {Mv M' : List Addr} (s : StB K mg B ks σ H1 ρ G1 M1) (t : RtOk K mg ⟨H1, G1, M1⟩ k kq σ' H' ρ' G' M' d v Mv) : RtOk K mg B k kq σ' H' ρ' G' M' d v Mv :=
  ⟨s.trans t.st, t.rep, t.fr, t.nd, fun a m => ⟨(t.new a m).1, (t.new a m).2.1, (t.new a m).2.2.elim (s.own a) fun z => .inr (s.back z)⟩⟩
theorem ds_for {g : TG} {tg : Tg} (hx : leKs ks S.kx = true) (hp : PassesOwn (model X.prog X.w) X.A X.env X.xe) (hc : X.calm = true) (hi : DI X S.W ks tge it fs) (hg : PG X tge g) (hgd : DGv X ks g tg) (hb : DSs X { S with kl := ks } ks ks sts u)
    (hs : ∀ x, foldedSetIterable it X.env x = pure x := by intro _; rfl) : DS X S ks ks (.For tge it sts [] pos) (sFor fs tg u) := fun B => by
  -- the body over the loop's own start: any base
  refine ⟨fun pins s0 σ0 H0 Dn I ⟨ρ, G, M, s, q⟩ => ?_⟩
  refine (ps_for (tb := fun D σ H => ∃ B1, sD X B1 { S with kl := ks } ks ks u D σ H) hp hc hi hg ⟨fun pins s σ H D I ⟨B1, h⟩ => (hb B1).run pins s σ H D I h⟩ hs).run pins s0 σ0 H0 Dn I ?_
  refine ⟨ρ, G, M, s.st, ?_⟩
  unfold sFor at q
  cases e : fs ρ with
  | no => rw [e] at q; exact q.elim
  | exn x =>
    rw [e] at q
    intro H' cls dd sm er
    obtain ⟨G2, M2, s2⟩ := (s.grow (Grow.of sm s.st.ex)).weak hx
    exact q σ0 H' G2 M2 cls dd s2 er
  | ok ds =>
    rw [e] at q
    intro J H1 G1 gr hJ
    have s1 := s.grow gr
    refine ⟨fun i m σ' H' => m = ds.length - i ∧ i ≤ ds.length ∧ ∃ ρ' G' M', StB X.K X.mg ⟨H1, G1, M⟩ ks σ' H' ρ' G' M' ∧ SOk X.K X.mg B S ks (oFor tg u (ds.drop i) ρ') Dn, ⟨ds.length, by simp, Nat.zero_le _, ρ, G1, M, s1.st.base, q⟩, ?_⟩
    rintro i m σ' H' ⟨rfl, hi', ρ', G', M', t, q⟩
    have pr : Pres G1 H1 H' := fun a o e z => StB.presG s1.st t a o e fun y => .inl (z y)
    obtain ⟨j1, j2⟩ := hJ i H' pr
    cases ed : ds[i]? with
    | none =>
      have hl : ds.length ≤ i := List.getElem?_eq_none_iff.mp ed
      have hi2 : i = ds.length := Nat.le_antisymm hi' hl
      subst hi2
      rw [List.drop_length] at q
      exact .inl ⟨j2 hl, q σ' H' G' M' (s1.trans t)⟩
    | some d =>
      obtain ⟨go, y⟩ := j1 d ed
      have hlt : i < ds.length := (List.getElem?_eq_some_iff.mp ed).1
      refine .inr ⟨go, fun σ' H' => ∃ ρ' G' M', StB X.K X.mg ⟨H1, G1, M⟩ ks σ' H' ρ' G' M' ∧ SOk X.K X.mg B S ks (oFor tg u (ds.drop (i + 1)) ρ') Dn, fun σ2 H2 h2 => ⟨ds.length - (i + 1), by omega, rfl, hlt, h2⟩, fun x H3 hy => ?_⟩
      obtain ⟨sm, rp⟩ := y x H3 hy
      have t3 := t.grow (Grow.of sm t.st.ex)
      rw [drop_at ed] at q
      unfold oFor at q
      cases et : tg d ρ' with
      | none => rw [et] at q; exact q.elim
      | some ρ1 =>
        rw [et] at q
        refine hgd _ σ' H3 ρ' ρ1 G' M' d x _ t3 (rp.weakG t3.gold) et fun σ1 M1 t1 => ?_
        refine ⟨⟨H1, G1, M⟩, ρ1, G', M1, t1, ?_⟩
        have q' : SOk X.K X.mg B S ks (match u ρ1 with | .nx ρ' => oFor tg u (ds.drop (i + 1)) ρ' | .ct ρ' => oFor tg u (ds.drop (i + 1)) ρ' | .bk ρ' => .nx ρ' | o => o) Dn := q
        cases eu : u ρ1 with
        | nx ρ2 => rw [eu] at q'; exact fun σ H G M z => ⟨ρ2, G, M, z, q'⟩
        | ct ρ2 => rw [eu] at q'; exact fun σ H G M z => ⟨ρ2, G, M, z, q'⟩
        | bk ρ2 => rw [eu] at q'; exact fun σ H G M z => q' σ H G M (s1.trans z)
        | rt d ρ2 => rw [eu] at q'; exact fun σ v H G M Mv z => q' σ v H G M Mv (z.trans s1)
        | ex x ρ2 => rw [eu] at q'; exact fun σ H G M cls dd z er => q' σ H G M cls dd (s1.trans z) er
        | no => rw [eu] at q'; exact q'

/-! ### comprehensions -/
def wipeD (ρ : Sl) : List Nat → Sl
  | [] => ρ
  | v :: vs => (wipeD ρ vs).set v none
def compL (tg : Tg) (tt : Tv) (el : Ev) (ρ : Sl) : List D → Res (List D)
  | [] => .ok []
  | d :: ds => match tg d ρ with
    | none => .no
    | some ρ1 => match tt ρ1 with
      | .ok true => (match el ρ1 with
        | .ok y => (compL tg tt el ρ ds).bind fun ys => .ok (y :: ys)
        | _ => .no)
      | .ok false => compL tg tt el ρ ds
      | _ => .no
def eComp (fs : Sl → Res (List D)) (vs : List Nat) (tg : Tg) (tt : Tv) (el : Ev) : Ev := fun ρ => (fs ρ).bind fun ds => if ds.length ≤ 1000000 then (compL tg tt el (wipeD ρ vs) ds).bind fun ys => .ok (.lst ys) else .no
theorem Slots.wipe {K : PySem.W.Frag} {mg : MG} : ∀ {vs : List Nat}, StOk K mg ks σ H ρ G M → ∃ M', StOk K mg ks (wipe σ vs) H (wipeD ρ vs) G M'
  | [], s => ⟨M, s⟩
  | v :: vs, s => by
    obtain ⟨M1, s1⟩ := Slots.wipe (vs := vs) s
    obtain ⟨M2, h1, h2, h3⟩ := s1.sl.unset (i := v) (o := none)
    exact ⟨M2, h1, h2 s1.nd, fun a m => s1.ng a (h3 a m), s1.ex⟩
def kc : Kd → Kd
  | .O => .O
  | _ => .X
theorem gk_kc {k : Kd} {G : GA} : gk (kc k) G = gk k G := by cases k <;> rfl
def W0 : WX := fun _ _ _ _ => False
/-- the target keeps to its slots -/
def Keeps (vs : List Nat) (g : TG) : Prop := ∀ v σ H Q, g v σ H Q → g v σ H fun σ' H' => L2.wipe σ' vs = L2.wipe σ vs ∧ Q σ' H'
theorem wipe_get : ∀ (vs : List Nat) (σ : St) (k : Nat), (L2.wipe σ vs)[k]? = if k ∈ vs then (σ[k]?).map (fun _ => none) else σ[k]?
  | [], σ, k => by simp [L2.wipe]
  | v :: vs, σ, k => by
    unfold L2.wipe
    rw [List.getElem?_set]
    by_cases h : v = k
    · subst h
      simp only [if_true, List.mem_cons, true_or, wipe_length]
      by_cases hl : v < σ.length
      · simp [hl]
      · simp [hl, List.getElem?_eq_none (Nat.le_of_not_lt hl)]
    · have h2 : k ≠ v := fun e => h e.symm
      simp only [if_neg h, wipe_get vs σ k, List.mem_cons, h2, false_or]
theorem wipe_ext {vs : List Nat} {σ σ' : St} (h : ∀ k, k ∉ vs → σ'[k]? = σ[k]?) (hl : σ'.length = σ.length) : L2.wipe σ' vs = L2.wipe σ vs := by
  apply List.ext_getElem?
  intro k
  rw [wipe_get, wipe_get]
  by_cases hk : k ∈ vs
  · rw [if_pos hk, if_pos hk]
    by_cases h1 : k < σ.length
    · rw [List.getElem?_eq_getElem h1, List.getElem?_eq_getElem (hl ▸ h1)]; rfl
    · rw [List.getElem?_eq_none (Nat.le_of_not_lt h1), List.getElem?_eq_none (by omega)]
  · rw [if_neg hk, if_neg hk, h k hk]
theorem wipe_wipe (vs : List Nat) (σ : St) : L2.wipe (L2.wipe σ vs) vs = L2.wipe σ vs := wipe_ext (fun k hk => by rw [wipe_get, if_neg hk]) (wipe_length σ vs)
theorem wipe_set {vs : List Nat} {i : Nat} (hi : i ∈ vs) (σ : St) (x : Option V) : L2.wipe (σ.set i x) vs = L2.wipe σ vs := wipe_ext (fun k hk => List.getElem?_set_ne fun (e : i = k) => hk (e ▸ hi)) List.length_set
theorem keeps_name {vs : List Nat} {i : Nat} (hi : i ∈ vs) : Keeps vs (gName i) := fun v σ H Q h => ⟨wipe_set hi σ _, h⟩
theorem Keeps.wp {vs : List Nat} {g : TG} (h : Keeps vs g) : ∀ v σ H Q, g v (L2.wipe σ vs) H Q → g v (L2.wipe σ vs) H fun σ' H' => L2.wipe σ' vs = L2.wipe σ vs ∧ Q σ' H' := fun v σ H Q q => by
  have := h v (L2.wipe σ vs) H Q q
  rw [wipe_wipe] at this
  exact this
def KeepsS (vs : List Nat) (g : TGs) : Prop := ∀ v σ H Q, g v σ H Q → g v σ H fun σ' H' => L2.wipe σ' vs = L2.wipe σ vs ∧ Q σ' H'
theorem keeps_nil {vs : List Nat} : KeepsS vs gNil := fun v σ H Q h => ⟨h.1, rfl, h.2⟩
def MonoG (g : TG) : Prop := ∀ v σ H Q Q', (∀ σ' H', Q σ' H' → Q' σ' H') → g v σ H Q → g v σ H Q'
theorem mono_name {i : Nat} : MonoG (gName i) := fun v σ H Q Q' h q => h _ _ q
theorem keeps_cons {vs : List Nat} {g : TG} {gs : TGs} (m : MonoG g) (h : Keeps vs g) (h2 : KeepsS vs gs) : KeepsS vs (gCons g gs) := fun v σ H Q q => by
  obtain ⟨x, r, e, q⟩ := q
  refine ⟨x, r, e, m _ _ _ _ _ (fun σ' H' ⟨w, q'⟩ => ?_) (h _ _ _ _ q)⟩
  have q2 := h2 _ _ _ _ q'
  rw [w] at q2
  exact q2
theorem keeps_tup {vs : List Nat} {gs : TGs} {K : PySem.W.Frag} {n : Nat} (h : KeepsS vs gs) : Keeps vs (gTup K n gs) := fun v σ H Q q => by
  obtain ⟨a, xs, e, hq, hl, q⟩ := q
  exact ⟨a, xs, e, hq, hl, h _ _ _ _ q⟩
theorem reps_snoc {K : PySem.W.Frag} {mg : MG} : ∀ {ds : List D} {vs : List V} {M1 : List Addr} {d : D} {v : V} {M2 : List Addr}, Reps K mg H G ds vs M1 → Rep K mg H G d v M2 → Reps K mg H G (ds ++ [d]) (vs ++ [v]) (M1 ++ M2)
  | _, _, _, _, _, _, .nil, r => by have := Reps.cons r (Reps.nil (K := K) (mg := mg) (H := H) (G := G)); simpa using this
  | _, _, _, _, _, _, .cons h t, r => by rw [List.append_assoc]; exact .cons h (reps_snoc t r)
theorem lc_imp {g : TG} {tg : Tg} {el : Ev} {vs : List Nat} {W : WX} {Q : VK} (hgd : DGv X ks g tg) (hkp : Keeps vs g) (s : StOk X.K X.mg ks σ H ρ G M) (ho : OutOk X.K X.mg W (kc k) σ H G (eComp fs vs tg t el ρ) Q) :
    tLc (tDI X W ks fs) g (tDT X W0 ks t) (tD X W0 ks k el) vs σ H Q := by
  refine ⟨ρ, G, M, s, ?_⟩
  unfold eComp at ho
  cases e : fs ρ with
  | no => rw [e] at ho; exact ho.elim
  | exn x => rw [e] at ho; exact ho
  | ok ds =>
    rw [e] at ho
    intro J H1 G1 gr hJ A0 hA
    have ho' : OutOk X.K X.mg W (kc k) σ H G (if ds.length ≤ 1000000 then (compL tg t el (wipeD ρ vs) ds).bind fun ys => .ok (.lst ys) else .no) Q := ho
    by_cases hl : ds.length ≤ 1000000
    · rw [if_pos hl] at ho'
      have s1 := s.grow gr
      cases ec : compL tg t el (wipeD ρ vs) ds with
      | no => rw [ec] at ho'; exact ho'.elim
      | exn x =>
        exfalso
        have nex : ∀ l : List D, compL tg t el (wipeD ρ vs) l ≠ .exn x := fun l => by
          induction l with
          | nil => intro z; cases z
          | cons d l ih =>
            intro z
            unfold compL at z
            split at z
            · cases z
            · split at z
              · split at z
                · cases el2 : compL tg t el (wipeD ρ vs) l with
                  | ok ys => rw [el2] at z; cases z
                  | exn y => rw [el2] at z; cases z; exact ih el2
                  | no => rw [el2] at z; cases z
                · cases z
              · exact ih z
              · cases z
        exact nex ds ec
      | ok ys =>
        rw [ec] at ho'
        have nA : ∀ a, G1 a → a ≠ A0 := fun a z y => s1.ex a z (y ▸ hA)
        refine ⟨fun i m H' => m = ds.length - i ∧ i ≤ ds.length ∧ ∃ G' accD accV Mc rest, Grow H1 G1 H' G' ∧ H' A0 = some (.lst accV) ∧ ¬ G' A0 ∧ Reps X.K X.mg H' (gk k G') accD accV Mc ∧ (k = .F → Mc = []) ∧ Mc.Nodup ∧ (∀ a ∈ Mc, H1 a = none ∧ ¬ G' a ∧ a ≠ A0) ∧
          compL tg t el (wipeD ρ vs) (ds.drop i) = .ok rest ∧ accD ++ rest = ys ∧ accV.length ≤ i, ⟨ds.length, by simp, Nat.zero_le _, G1, [], [], [], ys, ⟨same_upd hA, fun _ z => z, fun _ z => .inl z, fun a z => by rw [upd_ne (nA a z)]; exact s1.ex a z⟩, upd_same, fun z => s1.ex A0 z hA, .nil, fun _ => rfl, .nil, (fun a m => nomatch m), ec, rfl, Nat.le_refl _⟩, ?_⟩
        rintro i m H' ⟨rfl, hi, G', accD, accV, Mc, rest, gr', hA', nG, rs, frc, ndc, newc, ecr, ear, hlen⟩
        have pr : Pres G1 H1 H' := Pres.of_same gr'.same
        obtain ⟨j1, j2⟩ := hJ i H' pr
        cases ed : ds[i]? with
        | none =>
          have hle : ds.length ≤ i := List.getElem?_eq_none_iff.mp ed
          have hi2 : i = ds.length := Nat.le_antisymm hi hle
          subst hi2
          rw [List.drop_length] at ecr
          have er : rest = [] := by cases ecr; rfl
          subst er
          rw [List.append_nil] at ear
          subst ear
          have fin : OutOk X.K X.mg W (kc k) σ H G (.ok (.lst accD)) Q := ho'
          refine .inl ⟨j2 hle, fin (.ref A0) H' G' (A0 :: Mc) (gr.trans gr') ⟨?_, fun z => ?_, List.nodup_cons.mpr ⟨fun m => (newc A0 m).2.2 rfl, ndc⟩, fun a m => ?_⟩⟩
          · rw [gk_kc]; exact .lstO hA' rs
          · cases k <;> cases z
          · rcases List.mem_cons.mp m with rfl | m
            · exact ⟨gr.same.free hA, nG⟩
            · exact ⟨gr.same.free (newc a m).1, (newc a m).2.1⟩
        | some d =>
          obtain ⟨go, y⟩ := j1 d ed
          have hlt : i < ds.length := (List.getElem?_eq_some_iff.mp ed).1
          rw [drop_at ed] at ecr
          unfold compL at ecr
          refine .inr ⟨go, fun H' => (fun i m H' => m = ds.length - i ∧ i ≤ ds.length ∧ ∃ G' accD accV Mc rest, Grow H1 G1 H' G' ∧ H' A0 = some (.lst accV) ∧ ¬ G' A0 ∧ Reps X.K X.mg H' (gk k G') accD accV Mc ∧ (k = .F → Mc = []) ∧ Mc.Nodup ∧ (∀ a ∈ Mc, H1 a = none ∧ ¬ G' a ∧ a ≠ A0) ∧
            compL tg t el (wipeD ρ vs) (ds.drop i) = .ok rest ∧ accD ++ rest = ys ∧ accV.length ≤ i) (i + 1) (ds.length - (i + 1)) H', fun H2 h2 => ⟨_, by omega, h2⟩, fun x H3 hy => ?_⟩
          obtain ⟨sm, rp⟩ := y x H3 hy
          cases et : tg d (wipeD ρ vs) with
          | none => rw [et] at ecr; cases ecr
          | some ρ1 =>
            rw [et] at ecr
            have g3 : Grow H' G' H3 G' := Grow.of sm gr'.ex
            obtain ⟨Mw, sw⟩ := Slots.wipe (vs := vs) ((s1.grow gr').grow g3)
            refine Keeps.wp hkp _ _ _ _ (hgd _ _ H3 _ ρ1 G' Mw d x _ sw.base (rp.weakG gr'.g) et fun σ1 M1 t1 => ?_)
            refine ⟨ρ1, G', M1, t1.st, ?_⟩
            have ecr' : (match t ρ1 with | .ok true => (match el ρ1 with | .ok y => (compL tg t el (wipeD ρ vs) (ds.drop (i + 1))).bind fun ys => .ok (y :: ys) | _ => .no) | .ok false => compL tg t el (wipeD ρ vs) (ds.drop (i + 1)) | _ => .no) = Res.ok rest := ecr
            cases ett : t ρ1 with
            | no => rw [ett] at ecr'; cases ecr'
            | exn z => rw [ett] at ecr'; cases ecr'
            | ok b =>
              rw [ett] at ecr'
              intro H4 G4 g4
              have g34 := g3.trans g4
              have n4 : ¬ G4 A0 := fun z => (g34.new A0 z).elim nG fun q => by rw [hA'] at q; cases q
              have m4 : ∀ a ∈ Mc, ¬ G4 a := fun a m z => (g34.new a z).elim (newc a m).2.1 fun q => by
                obtain ⟨o, e1, _⟩ := rs.dom a m
                rw [e1] at q; cases q
              cases b with
              | false =>
                exact ⟨rfl, hlt, G4, accD, accV, Mc, rest, gr'.trans g34, g34.same _ _ hA', n4, (rs.stay (Pres.of_same g34.same) (gk_mono g34.g)), frc, ndc, fun a m => ⟨(newc a m).1, m4 a m, (newc a m).2.2⟩, ecr', ear, Nat.le_succ_of_le hlen⟩
              | true =>
                refine ⟨ρ1, G4, M1, (t1.grow g4).st, ?_⟩
                have ecr2 : (match el ρ1 with | .ok y => (compL tg t el (wipeD ρ vs) (ds.drop (i + 1))).bind fun ys => .ok (y :: ys) | _ => .no) = Res.ok rest := ecr'
                cases ee : el ρ1 with
                | no => rw [ee] at ecr2; cases ecr2
                | exn z => rw [ee] at ecr2; cases ecr2
                | ok yd =>
                  rw [ee] at ecr2
                  intro v5 H5 G5 M5 g5 vr
                  cases er : compL tg t el (wipeD ρ vs) (ds.drop (i + 1)) with
                  | no => rw [er] at ecr2; cases ecr2
                  | exn z => rw [er] at ecr2; cases ecr2
                  | ok rest2 =>
                    rw [er] at ecr2
                    have e5 : yd :: rest2 = rest := by cases ecr2; rfl
                    subst e5
                    have g35 := g34.trans g5
                    have hA5 : H5 A0 = some (.lst accV) := g35.same _ _ hA'
                    have n5 : ¬ G5 A0 := fun z => (g35.new A0 z).elim nG fun q => by rw [hA'] at q; cases q
                    have m5 : ∀ a ∈ Mc, ¬ G5 a := fun a m z => (g35.new a z).elim (newc a m).2.1 fun q => by
                      obtain ⟨o, e1, _⟩ := rs.dom a m
                      rw [e1] at q; cases q
                    have vn : ∀ a ∈ M5, a ≠ A0 ∧ a ∉ Mc ∧ H1 a = none := fun a m => by
                      have z := (vr.new a m).1
                      refine ⟨fun q => ?_, fun q => ?_, ?_⟩
                      · subst q; rw [g34.same _ _ hA'] at z; cases z
                      · obtain ⟨o, e1, _⟩ := rs.dom a q
                        rw [g34.same _ _ e1] at z; cases z
                      · exact (gr'.trans g34).same.free z
                    have up : ∀ S : GA, (∀ a, S a → a ≠ A0) → Pres S H5 (upd H5 A0 (.lst (accV ++ [v5]))) := fun S hS a o e1 mu => by
                      by_cases hne : a = A0
                      · subst hne
                        rw [hA5] at e1; cases e1
                        exact absurd rfl (hS a (mu rfl))
                      · rw [upd_ne hne]; exact e1
                    have rs5 : Reps X.K X.mg (upd H5 A0 (.lst (accV ++ [v5]))) (gk k G5) accD accV Mc := (rs.stay (Pres.of_same g35.same) (gk_mono g35.g)).stay (up _ fun a z => z.elim (fun y q => n5 (q ▸ gk_le a y)) fun m => (newc a m).2.2) fun _ z => z
                    have r5 : Rep X.K X.mg (upd H5 A0 (.lst (accV ++ [v5]))) (gk k G5) yd v5 M5 := vr.rep.stay (up _ fun a z => z.elim (fun y q => n5 (q ▸ gk_le a y)) fun m => (vn a m).1) fun _ z => z
                    refine ⟨accV, hA5, ?_, rfl, hlt, G5, accD ++ [yd], accV ++ [v5], Mc ++ M5, rest2, ?_, upd_same, n5, reps_snoc rs5 r5, fun z => by rw [frc z, vr.fr z]; rfl, ?_, fun a m => ?_, er, by rw [List.append_assoc]; exact ear, by simp; exact hlen⟩
                    · show accV.length < sizeLine
                      rw [sizeLine_eq]; omega
                    · refine ⟨fun b o e1 => ?_, fun a z => (gr'.trans g35).g a z, fun a z => (gr'.trans g35).new a z, fun a z => ?_⟩
                      · rw [upd_ne (ne_of_none e1 hA)]
                        exact (gr'.trans g35).same b o e1
                      · by_cases hne : a = A0
                        · subst hne; rw [upd_same]; exact fun z => nomatch z
                        · rw [upd_ne hne]; exact g35.ex a z
                    · exact List.nodup_append.mpr ⟨ndc, vr.nd, fun a ha b hb q => (vn b hb).2.1 (q ▸ ha)⟩
                    · rcases List.mem_append.mp m with m | m
                      · exact ⟨(newc a m).1, m5 a m, (newc a m).2.2⟩
                      · exact ⟨(vn a m).2.2, (vr.new a m).2, (vn a m).1⟩
    · rw [if_neg hl] at ho'; exact ho'.elim
end
end DL
end

section
/-! DX: exceptions whose contexts are a finite chain; a try whose suites keep the exception as a value, or raise. -/
namespace DX
open PySem L2 DL
open PyProof.Rows (envOfC AllBare)

/-- a context: None, or an exception that nobody tracks, whose context is one step shorter -/
def Ch (B : Heap) (H : Hp) : Nat → Value → Prop
  | 0, v => v = .none
  | n + 1, v => v = .none ∨ ∃ c o vs w, v = .ref c ∧ B.get? c = some o ∧ o.data = .fields vs ∧ H c = none ∧ vs[2]? = some w ∧ Ch B H n w
theorem Ch.keep {B B' : Heap} {H : Hp} (k : ∀ b o vs, B.get? b = some o → o.data = .fields vs → B'.get? b = some o) : ∀ {n : Nat} {v : Value}, Ch B H n v → Ch B' H n v
  | 0, _, h => h
  | n + 1, v, h => h.imp id fun ⟨c, o, vs, w, h1, h2, h3, h4, h5, h6⟩ => ⟨c, o, vs, w, h1, k c o vs h2 h3, h3, h4, h5, Ch.keep k h6⟩
def Cx2 (B : Heap) (H : Hp) (o : Obj) : Prop := ∀ vs, o.data = .fields vs → ∃ w n, vs[2]? = some w ∧ Ch B H n w
def Zx (B : Heap) (H : Hp) (cls : Value) (d : Option Addr) : Obj → Prop := fun o => o.cls = cls ∧ o.dict = d ∧ Cx2 B H o
theorem cx2_steady {B : Heap} {H : Hp} : PXN.Steady1 (Cx2 B H) := fun o v h => by
  obtain ⟨c, d, dt, sl⟩ := o
  cases dt with
  | fields us =>
    intro vs e
    obtain ⟨w, n, h1, h2⟩ := h us rfl
    have e' : us.setIfInBounds 1 v = vs := Data.fields.inj e
    refine ⟨w, n, ?_, h2⟩
    rw [← e', Array.getElem?_setIfInBounds_ne (by decide)]
    exact h1
  | _ => exact fun vs e => by cases e
theorem Zx.steady {B : Heap} {H : Hp} {cls : Value} {d : Option Addr} : PXN.Steady1 (Zx B H cls d) :=
  PXN.steady_and PXN.steady_cls (PXN.steady_and PXN.steady_dict cx2_steady)

/-- in the air of X -/
structure Air (X : Cx) (W : WX) (s' : Shared) (a : Addr) (B : Heap) (sI : Shared) (pins : List (Addr × Obj)) (σ : St) (H : Hp) (cls : Value) (d : Option Addr) : Prop where
  inv : Inv X pins σ H sI
  grd : ∀ b o, sI.heap.get? b = some o → b ∉ frs X.stack → B.get? b = some o
  up : sI.heap.UpToSlots s'.heap
  sky : Sky B X.stack a (Zx B H cls d) X.env.locals s'.heap
  na : H a = none
  os : s'.os = sI.os
  ag : AllBare s'.gens
  wish : W cls d σ H
def XE (X : Cx) (W : WX) (u : Value) (s' : Shared) : Prop := ∃ a B sI pins σ H cls d, u = .ref a ∧ Air X W s' a B sI pins σ H cls d
def Takes (X : Cx) (W : WX) : Prop := ∀ u s', XE X W u s' → X.xe u s'
/-- behind a call that an exception left -/
structure Left (P : Program) (w : World) (outer : List Env) (H : Hp) (s : Shared) (E : XK) (s' : Shared) (a : Addr) (B : Heap) (H' : Hp) (cls : Value) (d : Option Addr) : Prop where
  fly : HandSPX.FlyingZ B outer a (Zx B H' cls d) s'.heap
  hok : HOk P w H' B
  ub : UB (frs outer) H H' s.heap B s'.heap
  na : H' a = none
  os : s'.os = s.os
  ag : AllBare s'.gens
  wish : E cls d H'
def CX (P : Program) (w : World) : CXT := fun outer H s E u s' => ∃ a B H' cls d, u = .ref a ∧ Left P w outer H s E s' a B H' cls d

section
variable {X : Cx} {pins : List (Addr × Obj)} {σ : St} {H : Hp} {sI s s' : Shared} {B : Heap} {W : WX} {E : XK}
theorem of_call (I : Inv X pins σ H s) {u : Value} (c : CX X.prog X.w X.stack H s (fun cls d H' => W cls d σ H') u s') : XE X W u s' := by
  obtain ⟨a, B, H', cls, d, e, L⟩ := c
  have keepB : B.StaysIn s'.heap := L.fly.1
  -- the ground and the frames, nothing else
  obtain ⟨g, hin, hout⟩ := restrict s'.heap fun b => (B.get? b).isSome || decide (b ∈ frs X.stack)
  have inB : ∀ b o, B.get? b = some o → g.get? b = some o := fun b o q => (hin b (by simp [q])).trans (keepB b o q)
  have inF : ∀ b ∈ frs X.stack, g.get? b = s'.heap.get? b := fun b hb => hin b (by simp [hb])
  have from_ : ∀ b o, g.get? b = some o → s'.heap.get? b = some o ∧ ((B.get? b).isSome = true ∨ b ∈ frs X.stack) := fun b o q => by
    by_cases c : ((B.get? b).isSome || decide (b ∈ frs X.stack)) = true
    · exact ⟨(hin b c).symm.trans q, by simpa using c⟩
    · rw [hout b (by simpa using c)] at q; cases q
  have J := I.call (ch := []) (g' := s'.gens) (t' := s'.toks) (d' := s'.drawn) (h' := g) (H' := H')
    { keep := fun b o q n hb _ => inB b o (L.ub.keep b o q n hb)
      slot := fun b o q n hb _ => by
        obtain ⟨sl, q2⟩ := L.ub.slot b o q hb
        exact ⟨sl, (inF b hb).trans q2⟩
      free := fun b o q n _ => L.ub.free b o q n
      there := fun b o q _ => by
        by_cases hb : b ∈ frs X.stack
        · obtain ⟨sl, q2⟩ := L.ub.slot b o q hb
          exact ⟨_, (inF b hb).trans q2⟩
        · obtain ⟨o', q2⟩ := L.ub.there b o q hb
          exact ⟨o', inB b o' q2⟩
      tups := L.ub.tups, frzs := L.ub.frzs, tbls := L.ub.tbls } (L.hok.kept inB) L.ag (fun _ z => nomatch z)
  refine ⟨a, B, _, pins, σ, H', cls, d, e, J, fun b o q hb => ?_, Heap.UpToSlots.of_keeps fun b o q => (from_ b o q).1, .inr (.inl L.fly), L.na, L.os, L.ag, L.wish⟩
  rcases (from_ b o q).2 with z | z
  · obtain ⟨o', z'⟩ := Option.isSome_iff_exists.mp z
    rw [z', ← (from_ b o q).1, keepB b o' z']
  · exact absurd z hb
theorem pass (tk : Takes X W) (σ : St) : PassesAt (CX X.prog X.w) X σ (WE W σ) := fun _ _ _ e s' I c => tk e s' (of_call I c)

/-- a new exception; what stood stands -/
theorem of_new {a : Addr} {oe : Obj} {vs : Array Value} {cls : Value} {d : Option Addr} {w : Value} {n : Nat} (I : Inv X pins σ H sI) (k : ∀ b o, sI.heap.get? b = some o → s'.heap.get? b = some o) (hne : sI.heap.get? a = none) (he : s'.heap.get? a = some oe)
    (hc : oe.cls = cls) (hdd : oe.dict = d) (hd : oe.data = .fields vs) (h1 : vs[1]? = some .none) (h2 : vs[2]? = some w) (ch : Ch (PySem.W.hideAll sI.heap (frs X.stack)) H n w) (na : H a = none) (os : s'.os = sI.os) (ag : AllBare s'.gens) (wi : W cls d σ H) : XE X W (.ref a) s' := by
  have sub : ∀ b o, (PySem.W.hideAll sI.heap (frs X.stack)).get? b = some o → sI.heap.get? b = some o := fun b o q => PySem.W.of_hideAll _ q
  refine ⟨a, PySem.W.hideAll sI.heap (frs X.stack), sI, pins, σ, H, cls, d, rfl, I, fun b o e hb => PySem.W.hideAll_get _ e hb, Heap.UpToSlots.of_keeps k, .inl ⟨fun b o q => k b o (sub b o q), ?_, ?_, oe, vs, he, ⟨hc, hdd, ?_⟩, hd, h1⟩, na, os, ag, wi⟩
  · cases q : (PySem.W.hideAll sI.heap (frs X.stack)).get? a with
    | none => rfl
    | some o => rw [sub a o q] at hne; cases hne
  · exact Heap.FunFrames.of_keeps (fun b o q _ => ⟨o, k b o q, rfl⟩) (funFrames_none I.stack fun b hb => PySem.W.hideAll_none _ hb)
  · intro us e
    rw [hd] at e
    cases e
    exact ⟨w, n, h2, ch⟩
/-- it leaves the def -/
theorem leave (hs : X.stack = X.env :: X.outer) (hf : X.env.frame = some X.env.locals) (hex : X.ex = []) {E₁ : Value → Shared → Prop} {u : Value} (x : XE X (fun cls d _ H => E cls d H) u s') :
    wpAny (model X.prog X.w) X.A (leaving X.env u) (fun _ s'' => CX X.prog X.w X.outer X.H_0 X.s_0 E u s'') E₁ s' := by
  obtain ⟨a, B, sI, pins, σ, H, cls, d, rfl, z⟩ := x
  have I := z.inv
  have hfr : X.A.frames = some (X.env :: X.outer) := by rw [I.ok.frames, hs]
  have nex : ∀ b, b ∉ X.ex := fun b hb => by rw [hex] at hb; exact nomatch hb
  have apart : ∀ b o, X.s_0.heap.get? b = some o → b ∉ X.fs → b ∉ frs X.stack := fun b o e hb hm => by
    rcases List.mem_cons.mp (I.stkSub b hm) with q | q
    · exact absurd (q ▸ Heap.lt_size e) (Nat.not_lt_of_le I.ok.above)
    · exact hb q
  have done : ∀ h', HandSPX.FlyingZ B X.outer a (Zx B H cls d) h' → s'.heap.UpToSlots h' → CX X.prog X.w X.outer X.H_0 X.s_0 E (.ref a) { s' with heap := h' } := fun h' fl up' =>
    ⟨a, B, H, cls, d, rfl, fl, I.inGround z.grd,
      { keep := fun b o e n hb => z.grd b o (I.base.keep b o e n hb (nex b)) (apart b o e hb)
        slot := fun b o e hb => by
          obtain ⟨_, o2, e2, nf⟩ := I.ok.funs.mem hb
          obtain rfl : o = o2 := Option.some.inj (e.symm.trans e2)
          obtain ⟨s1, q1⟩ := I.base.slot b o e (I.ok.frf b hb) hb (nex b)
          obtain ⟨s2, q2⟩ := z.up b _ q1 nf
          obtain ⟨s3, q3⟩ := up' b _ q2 nf
          exact ⟨s3, q3⟩
        free := fun b o e n => I.base.free b o e n (nex b)
        there := fun b o e hb => by
          obtain ⟨o', q⟩ := I.base.there b o e (nex b)
          exact ⟨o', z.grd b o' q (apart b o e hb)⟩
        tups := I.base.tups, frzs := I.base.frzs, tbls := I.base.tbls }, z.na, z.os.trans I.os, z.ag, z.wish⟩
  have sky := z.sky
  rw [hs] at sky
  rcases sky with ⟨k1, k2, k3, oe, vs, k4, k5, k6, k7⟩ | fl | hh
  · exact PXN.leaving_firstZ Zx.steady hfr k3 hf k4 k1 k2 k6 k7 k5 done
  · exact PXN.leaves_onZ Zx.steady hfr hf fl done
  · exact HandSPX.leaves_heldZ hf hh done
theorem takes_of (hs : X.stack = X.env :: X.outer) (hf : X.env.frame = some X.env.locals) (hex : X.ex = []) {E₁ : Value → Shared → Prop}
    (hx : X.xe = fun e s' => wpAny (model X.prog X.w) X.A (leaving X.env e) (fun _ s'' => CX X.prog X.w X.outer X.H_0 X.s_0 E e s'') E₁ s') : Takes X (fun cls d _ H => E cls d H) := fun u s' x => by
  rw [hx]; exact leave hs hf hex x
theorem takes0 : Takes X (fun _ _ _ _ => False) := fun _ _ ⟨_, _, _, _, _, _, _, _, _, z⟩ => z.wish.elim
end

section
variable {P : Program} {w : World} {K : PySem.W.Frag} {mg : Str → Option Value} {base : Heap}
/-- a def that may raise -/
theorem fun_ok {x qual : Str} {st : Stmt} {f : Addr} {fd : FuncData} {N ps : List Str} {k : Nat} {sp : Sp} (F : Fun K x qual st f fd) (S : FnScope N ps (defScope st)) (len : ∀ vs H Q E, sp vs H Q E → vs.length = ps.length)
    (hbody : ∀ (cdv : Value) (A : Around) (outer : List Env) (s : Shared) (H : Hp) (vs : List V) (Q : VK) (E : XK), Room k (A.deeper (envOfC qual (defScope st) s.heap.objs.size f cdv)) → sp vs H Q E →
      ∃ t, PSs (cxOf (CX P w) P w K mg base N qual (defScope st) f cdv A outer s H E) (defBody st) t ∧ t { nx := fun _ H' => Q .non H', rt := Q } (L2.start N vs) H) : FnOk P w K mg base (CX P w) (k + 1) f fd ps sp := by
  obtain ⟨oc, od, kV, doc, pm, an, cdv, ct, osl, e, lk, hcd⟩ := F.ex
  subst e
  exact fn_of lk hcd S len (hbody cdv)
end

/-! ### raise -/
section
variable {X : Cx} {W : WX} {e : Expr} {t : St → Hp → XK → Prop} {pos : Pos}
theorem ps_raise (hc : X.calm = true) (tk : Takes X W) (he : L2N.PMk X e t) : PS X (.Raise (some e) none pos) (fun _ σ H => t σ H fun cls d H' => W cls d σ H') := by
  refine ⟨fun pins s σ H D I h => ?_⟩
  have mk : wpAny (model X.prog X.w) X.A (do let v ← eval e X.env; standAt pos; pure v) (fun u s1 => L2N.MkP X pins σ (fun cls d H' => W cls d σ H') u s1) X.xe s :=
    wpAny_bind (wpAny_mono (he pins s σ H _ I h) (fun u s1 hu => wpAny_bind (wpAny_standAt (wpAny_pure hu))) fun _ _ q => q)
  show wpAny _ _ (do standAt pos; raiseStmt X.env (some (do let v ← eval e X.env; standAt pos; pure v)) none) _ _ _
  refine wpAny_bind (wpAny_standAt (raise_made (I.ok.hd hc) (wpAny_mono mk (fun u s1 hu => ?_) fun _ _ q => q)))
  obtain ⟨a, oe, vs, sI, H', cls, d, rfl, J, k, hne, ha, hz, hd, h1, na, os, ag, r, q⟩ := hu
  have rr := r (model X.prog X.w) s1.heap (J.kIn.keeps k)
  exact ⟨a, oe, vs, cls, rfl, ha, hz.1, hd, h1, rr.1, rr.2, tk _ _ (of_new (n := 0) J k hne ha hz.1 hz.2.1 hd h1 (hz.2.2 vs hd) rfl na os ag q)⟩
end

/-! ### raise where an exception is handled -/
/-- exceptions linked by their contexts, the last one's None -/
def Link (h : Heap) : List Addr → Prop
  | [] => False
  | [a] => ∃ o vs, h.get? a = some o ∧ o.data = .fields vs ∧ vs[2]? = some .none
  | a :: b :: r => (∃ o vs, h.get? a = some o ∧ o.data = .fields vs ∧ vs[2]? = some (.ref b)) ∧ Link h (b :: r)
theorem Link.keep {h h' : Heap} : ∀ {l : List Addr}, (∀ b ∈ l, ∀ o, h.get? b = some o → h'.get? b = some o) → Link h l → Link h' l
  | [], _, x => x
  | [a], k, ⟨o, vs, e, r⟩ => ⟨o, vs, k a (by simp) o e, r⟩
  | a :: b :: r, k, ⟨⟨o, vs, e, q⟩, t⟩ => ⟨⟨o, vs, k a (by simp) o e, q⟩, Link.keep (fun c hc => k c (List.mem_cons_of_mem _ hc)) t⟩
theorem Link.there {h : Heap} : ∀ {l : List Addr}, Link h l → ∀ b ∈ l, ∃ o, h.get? b = some o
  | [], x, _, _ => x.elim
  | [a], ⟨o, vs, e, r⟩, b, hb => by
    obtain rfl : b = a := by simpa using hb
    exact ⟨o, e⟩
  | a :: c :: r, ⟨⟨o, vs, e, q⟩, t⟩, b, hb => by
    rcases List.mem_cons.mp hb with rfl | hb
    · exact ⟨o, e⟩
    · exact Link.there t b hb
theorem Ch.list {B : Heap} {H : Hp} : ∀ {n : Nat} {v : Value}, Ch B H n v → v = .none ∨ ∃ c r, v = .ref c ∧ Link B (c :: r) ∧ ∀ b ∈ c :: r, H b = none ∧ ∃ o vs, B.get? b = some o ∧ o.data = .fields vs
  | 0, _, h => .inl h
  | n + 1, v, h => by
    rcases h with h | ⟨c, o, vs, w, h1, h2, h3, h4, h5, h6⟩
    · exact .inl h
    · refine .inr ⟨c, ?_⟩
      rcases Ch.list h6 with e | ⟨c2, r, e, l, q⟩
      · refine ⟨[], h1, ⟨o, vs, h2, h3, e ▸ h5⟩, fun b hb => ?_⟩
        obtain rfl : b = c := by simpa using hb
        exact ⟨h4, o, vs, h2, h3⟩
      · refine ⟨c2 :: r, h1, ⟨⟨o, vs, h2, h3, e ▸ h5⟩, l⟩, fun b hb => ?_⟩
        rcases List.mem_cons.mp hb with rfl | hb
        · exact ⟨h4, o, vs, h2, h3⟩
        · exact q b hb
theorem ref_eqF {a b : Addr} (h : a ≠ b) : (Value.ref a == Value.ref b) = false := by
  cases e : (Value.ref a == Value.ref b) with
  | false => rfl
  | true => exact absurd (Value.ref.inj (beq_iff_eq.mp e)) h
section
variable {prog : Program} {w : World} {A : Around} {E : Value → Shared → Prop} {s : Shared}
theorem fld2 {a : Addr} {o : Obj} {vs : Array Value} {v : Value} {Q : Value → Shared → Prop} (h : s.heap.get? a = some o) (d : o.data = .fields vs) (e : vs[2]? = some v) (q : Q v s) : wpAny (model prog w) A (field (.ref a) 2) Q E s := wpAny_field h d e q
/-- the chain is gone through, and nothing is cut -/
theorem walk_chain {a : Addr} : ∀ (r : List Addr) (o slow : Addr) (q m : List Addr) (t : Bool), Link s.heap (slow :: q) → slow :: q = m ++ (o :: r) → a ∉ o :: r →
    codeAny (model prog w) A (.builtin "proto.unchain" ⟨[.ref a, .ref o, .ref slow, .bool t], []⟩) (fun x s' => x = .ok (.ret .none) ∧ s' = s) s
  | [], o, slow, q, m, t, L, e, n => by
    have Lo : Link s.heap [o] := by
      have suf : ∀ (m l : List Addr), l = m ++ [o] → Link s.heap l → Link s.heap [o] := fun m => by
        induction m with
        | nil => intro l e x; rw [e] at x; exact x
        | cons y m ih =>
          intro l e x
          cases m with
          | nil => rw [e] at x; exact x.2
          | cons z m => rw [e] at x; exact ih _ rfl x.2
      exact suf m _ e L
    obtain ⟨ob, vs, h1, h2, h3⟩ := Lo
    refine codeAny_builtin HotX.entry_unchain ?_
    show wpAny _ _ (field (.ref o) 2 >>= _) _ _ s
    refine wpAny_bind (fld2 h1 h2 h3 ?_)
    rw [if_pos (show (Value.none == Value.none) = true from rfl)]
    first
    | exact wpAny_bind (wpAny_pure (wpAny_pure ⟨rfl, rfl⟩))
    | exact wpAny_pure ⟨rfl, rfl⟩
  | c :: r, o, slow, q, m, t, L, e, n => by
    have suf : ∀ (m l : List Addr), l = m ++ (o :: c :: r) → Link s.heap l → Link s.heap (o :: c :: r) := fun m => by
      induction m with
      | nil => intro l e x; rw [e] at x; exact x
      | cons y m ih =>
        intro l e x
        cases m with
        | nil => rw [e] at x; exact ih _ rfl x.2
        | cons z m => rw [e] at x; exact ih _ rfl x.2
    obtain ⟨⟨ob, vs, h1, h2, h3⟩, Lt⟩ := suf m _ e L
    refine codeAny_builtin HotX.entry_unchain ?_
    show wpAny _ _ (field (.ref o) 2 >>= _) _ _ s
    refine wpAny_bind (fld2 h1 h2 h3 ?_)
    rw [if_neg (show ¬ ((Value.ref c == Value.none) = true) from by simp)]
    have ca : c ≠ a := fun z => n (by simp [z])
    rw [if_neg (show ¬ ((Value.ref c == Value.ref a) = true) from by rw [ref_eqF ca]; decide)]
    by_cases hcs : (Value.ref c == Value.ref slow) = true
    · rw [if_pos hcs]
      first
      | exact wpAny_bind (wpAny_rule (wpAny_pure ⟨rfl, rfl⟩))
      | exact wpAny_bind (wpAny_rule (wpAny_bind (wpAny_pure (wpAny_pure ⟨rfl, rfl⟩))))
    · rw [if_neg hcs]
      have nr : a ∉ c :: r := fun z => n (List.mem_cons_of_mem _ z)
      cases t with
      | false =>
        refine wpAny_bind (wpAny_pure (wpAny_pure ⟨PySem.Code.quiet_builtin _ (by decide +kernel), ?_⟩))
        exact walk_chain r c slow q (m ++ [o]) true L (by rw [e, List.append_assoc]; rfl) nr
      | true =>
        -- slow goes one on
        have nx : ∃ s2 q2 m2, (∃ o2 vs2, s.heap.get? slow = some o2 ∧ o2.data = .fields vs2 ∧ vs2[2]? = some (.ref s2)) ∧ Link s.heap (s2 :: q2) ∧ s2 :: q2 = m2 ++ (c :: r) := by
          cases q with
          | nil =>
            exfalso
            have := congrArg List.length e
            simp at this
            omega
          | cons s2 q2 =>
            cases m with
            | nil =>
              simp at e
              exact ⟨s2, q2, [], L.1, L.2, by simp [e.2]⟩
            | cons y m =>
              simp at e
              exact ⟨s2, q2, m ++ [o], L.1, L.2, by rw [e.2, List.append_assoc]; rfl⟩
        obtain ⟨s2, q2, m2, ⟨o2, vs2, g1, g2, g3⟩, L2, e2⟩ := nx
        refine wpAny_bind (fld2 g1 g2 g3 (wpAny_pure ⟨PySem.Code.quiet_builtin _ (by decide +kernel), ?_⟩))
        exact walk_chain r c s2 q2 m2 false L2 e2 nr
/-- raising x anew while the exception at h is handled -/
theorem raise_new {α : Type} {a h : Addr} {oe : Obj} {vs : Array Value} {Q : α → Shared → Prop} {r : List Addr} (hh : A.handled = some (.ref h)) (L : Link s.heap (h :: r)) (n : a ∉ h :: r) (ha : s.heap.get? a = some oe) (da : oe.data = .fields vs) (hi : 2 < vs.size)
    (hE : E (.ref a) { s with heap := s.heap.update a (Obj.mapFields (·.setIfInBounds 2 (.ref h))) }) : wpAny (model prog w) A (raiseNew (.ref a) : Sem α) Q E s := by
  have ne : h ≠ a := fun z => n (by simp [z])
  unfold raiseNew
  refine wpAny_bind (wpAny_handled ?_)
  rw [hh]
  have hb : (Value.ref h != Value.ref a) = true := by
    show (!(Value.ref h == Value.ref a)) = true
    rw [ref_eqF ne]; rfl
  have chain : ∀ {Q' : Value → Shared → Prop}, Q' .none s → wpAny (model prog w) A (holding [Value.ref a] (runValue (.builtin "proto.unchain" ⟨[.ref a, .ref h, .ref h, .bool false], []⟩))) Q' E s := fun {Q'} q =>
    wpAny_holding (wpAny_runValue (codeAny_mono (walk_chain r h h r [] false L rfl n) fun x s' z => by
      obtain ⟨rfl, rfl⟩ := z
      exact q))
  have setc : wpAny (model prog w) A (updateField a 2 (.ref h)) (fun _ s' => wpAny (model prog w) A (throw (.ref a) : Sem α) Q E s') E s := by
    simp only [updateField]
    refine wpAny_bind (wpAny_load ha ?_)
    rw [da]
    show wpAny _ A (if 2 < vs.size then _ else _) _ E s
    rw [if_pos hi]
    exact wpAny_update ha (wpAny_throw hE)
  first
  | (show wpAny _ _ (if (Value.ref h != Value.ref a) = true then _ else _) _ _ _
     rw [if_pos hb]
     first
     | exact wpAny_bind (chain (wpAny_bind setc))
     | exact wpAny_bind (wpAny_bind (chain setc)))
  | (refine wpAny_bind ?_
     show wpAny _ _ (if (Value.ref h != Value.ref a) = true then _ else _) _ _ _
     rw [if_pos hb]
     exact wpAny_bind (chain setc))
/-- a raise statement, up to the throw -/
theorem raise_by {env : Env} {x : Sem Value} {Q : Flow → Shared → Prop} (h : wpAny (model prog w) A x (fun v s1 => ∃ a oe vs cls, v = .ref a ∧ s1.heap.get? a = some oe ∧ oe.cls = cls ∧ oe.data = .fields vs ∧ vs[1]? = some .none ∧
      PySem.W.Looks (model prog w) s1.heap (isSubtype cls (.type "BaseException")) true ∧ PySem.W.Looks (model prog w) s1.heap (typeOf cls) (.type "type") ∧ wpAny (model prog w) A (raiseNew (.ref a) : Sem Flow) Q E s1) E s) :
    wpAny (model prog w) A (raiseStmt env (some x) none) Q E s := by
  unfold raiseStmt
  dsimp only
  refine wpAny_bind (wpAny_mono h (fun v s1 hv => ?_) fun _ _ q => q)
  obtain ⟨a, oe, vs, cls, rfl, ha, hc, hd, h1, isExc, isTy, fin⟩ := hv
  have ty : PySem.W.Looks (model prog w) s1.heap (typeOf (.ref a)) cls := fun A Q E s2 k q => wpAny_typeOf_ref (k _ _ ha) (hc.symm ▸ q)
  have noType : ∀ {Q' : Bool → Shared → Prop}, Q' false s1 → wpAny (model prog w) A (isType (.ref a)) Q' E s1 := fun {Q'} q => by
    simp only [isType, loadHead]
    refine wpAny_bind (wpAny_loadPart ha ?_)
    rw [hd]
    exact wpAny_pure q
  have isInst : PySem.W.Looks (model prog w) s1.heap (isInstance (.ref a) (.type "BaseException")) true := ty.andThen isExc
  refine wpAny_bind (wpAny_pure ?_)
  dsimp only
  refine wpAny_bind (wpAny_holding ?_)
  unfold excFromValue isExcClass
  refine wpAny_bind (wpAny_bind (noType ?_))
  rw [if_neg Bool.false_ne_true]
  refine wpAny_pure ?_
  rw [if_neg Bool.false_ne_true]
  refine wpAny_bind (isInst.here ?_)
  rw [if_pos rfl]
  refine wpAny_pure (wpAny_bind (noType ?_))
  rw [if_neg Bool.false_ne_true]
  unfold raisedInstance
  refine wpAny_bind (wpAny_bind (ty.here (wpAny_bind (isTy.here ?_))))
  rw [if_pos (beq_self_eq_true _)]
  refine wpAny_pure ?_
  unfold setFlight
  refine wpAny_bind (wpAny_bind (wpAny_field ha hd h1 ?_))
  rw [if_neg (by decide)]
  exact wpAny_pure fin
end

/-! ### try -/
abbrev HK := Ends → WX
def wTry (K : PySem.W.Frag) (Wout : WX) (D : Ends) : List (Value × HK) → WX
  | [] => Wout
  | (c, h) :: r => fun cls d σ H => ∃ b, PySem.W.exmOne K cls c = some b ∧ (b = true → h D cls d σ H) ∧ (b = false → wTry K Wout D r cls d σ H)
def endN (D : Ends) (i : Nat) : Ends := { nx := fun σ H => D.nx (σ.set i none) H, rt := D.rt, bk := fun σ H => D.bk (σ.set i none) H, ct := fun σ H => D.ct (σ.set i none) H }
def hKeep (i : Nat) (ts : TS) : HK := fun D cls d σ H => ∃ C, cls = .ref C ∧ ∀ a, H a = none → ts (endN D i) (σ.set i (some (.ref a))) (upd H a (ExcO C d a))
def hPlain (ts : TS) : HK := fun D _ _ σ H => ts D σ H
def hRaise (Wout : WX) (t : St → Hp → XK → Prop) : HK := fun _ _ _ σ H => t σ H fun cls d H' => Wout cls d σ H'
/-- the context of a suite that raises -/
abbrev sx (X : Cx) (a : Addr) (pn : List (Addr × Obj)) : Cx := { X with A := X.A.mark (some (.ref a)), calm := false, pn := pn }
inductive Hds (X : Cx) (Wout : WX) : List ExceptHandler → List (Value × HK) → Prop
  | nil : Hds X Wout [] []
  | keep {x n : Str} {c : Value} {i : Nat} {ts : TS} {b0 : Stmt} {suite : List Stmt} {np p : Pos} {hs : List ExceptHandler} {l : List (Value × HK)} (hc : Names X x c) (hN : X.N.Nodup) (hi : X.N[i]? = some n) (hl : X.env.kindOf n = some .local)
      (su : ∀ (a : Addr) (pn : List (Addr × Obj)), PSs (X.suite a pn) (b0 :: suite) ts) (r : Hds X Wout hs l) : Hds X Wout (.ExceptHandler (some (.Name x np)) (some n) (b0 :: suite) p :: hs) ((c, hKeep i ts) :: l)
  | plain {x : Str} {c : Value} {ts : TS} {b0 : Stmt} {suite : List Stmt} {np p : Pos} {hs : List ExceptHandler} {l : List (Value × HK)} (hc : Names X x c)
      (su : ∀ (a : Addr) (pn : List (Addr × Obj)), PSs (X.suite a pn) (b0 :: suite) ts) (r : Hds X Wout hs l) : Hds X Wout (.ExceptHandler (some (.Name x np)) none (b0 :: suite) p :: hs) ((c, hPlain ts) :: l)
  | raises {x : Str} {c : Value} {t : St → Hp → XK → Prop} {e : Expr} {np p rp : Pos} {hs : List ExceptHandler} {l : List (Value × HK)} (hc : Names X x c)
      (mk : ∀ (a : Addr) (pn : List (Addr × Obj)), L2N.PMk (sx X a pn) e t) (r : Hds X Wout hs l) : Hds X Wout (.ExceptHandler (some (.Name x np)) none [.Raise (some e) none rp] p :: hs) ((c, hRaise Wout t) :: l)

section
variable {X : Cx} {pins : List (Addr × Obj)} {σ : St} {H : Hp} {s sI s' : Shared}
theorem ok_sx (ok : X.Ok) (a : Addr) (pn : List (Addr × Obj)) : (sx X a pn).Ok :=
  { mod := ok.mod, kind := ok.kind, glob := ok.glob, blt := ok.blt, above := ok.above, inj := ok.inj, has := ok.has, cab := ok.cab, hd := fun z => absurd (show false = true from z) Bool.false_ne_true
    frames := ok.frames, stk := ok.stk, exf := ok.exf, bs := ok.bs, bsz := ok.bsz, noex := ok.noex, exfs := ok.exfs, funs := ok.funs, frf := ok.frf }
/-- into a suite, with more pins -/
theorem to_sx (I : Inv X pins σ H s) (a : Addr) (pl : List (Addr × Obj)) (hp : ∀ p ∈ pl, s.heap.get? p.1 = some p.2 ∧ H p.1 = none ∧ p.1 ≠ X.env.locals ∧ p.1 ∉ X.fs ∧ ∀ v, p.2.data ≠ .cell v) : Inv (sx X a (pl ++ (X.pn ++ pins))) [] σ H s :=
  { ok := ok_sx I.ok a _, os := I.os, bare := I.bare, base := I.base, loc := I.loc, cell := I.cell, free := I.free, freeC := I.freeC, hok := I.hok, len := I.len
    pin := fun p hm => by
      rw [List.append_nil] at hm
      rcases List.mem_append.mp hm with z | z
      · exact hp p z
      · exact I.pin p z }
theorem from_sx {a : Addr} {pl pn' : List (Addr × Obj)} (I : Inv (sx X a (pl ++ (X.pn ++ pins))) pn' σ H s) (ok : X.Ok) : Inv X pins σ H s :=
  { ok := ok, os := I.os, bare := I.bare, base := I.base, loc := I.loc, cell := I.cell, free := I.free, freeC := I.freeC, hok := I.hok, len := I.len
    pin := fun p hm => I.pin p (List.mem_append_left _ (List.mem_append_right _ hm)) }
theorem to_su (I : Inv X pins σ H s) (a : Addr) : Inv (X.suite a (X.pn ++ pins)) [] σ H s :=
  (to_sx I a [] (fun _ z => nomatch z)).wish fun _ _ => False
theorem from_su {a : Addr} {pn' : List (Addr × Obj)} (I : Inv (X.suite a (X.pn ++ pins)) pn' σ H s) (ok : X.Ok) : Inv X pins σ H s :=
  { ok := ok, os := I.os, bare := I.bare, base := I.base, loc := I.loc, cell := I.cell, free := I.free, freeC := I.freeC, hok := I.hok, len := I.len
    pin := fun p hm => I.pin p (List.mem_append_left _ hm) }
/-- the caught exception is tracked from here on -/
theorem track {B : Heap} {a C : Addr} {d : Option Addr} {oe : Obj} {vs : Array Value} (I : Inv X pins σ H sI) (grd : ∀ b o, sI.heap.get? b = some o → b ∉ frs X.stack → B.get? b = some o) (st : B.StaysIn s'.heap) (up : sI.heap.UpToSlots s'.heap) (os : s'.os = sI.os) (ag : PyProof.Rows.AllBare s'.gens)
    (new : sI.heap.get? a = none) (na : H a = none) (he : s'.heap.get? a = some oe) (z : Zc (.ref C) d oe) (hd : oe.data = .fields vs) : Inv X pins σ (upd H a (ExcO C d a)) s' := by
  have fr : ∀ b ∈ frs X.stack, ∀ o, sI.heap.get? b = some o → ∃ sl, s'.heap.get? b = some { o with slots := sl } := fun b hb o e => by
    obtain ⟨_, o2, e2, nf⟩ := I.stack.mem hb
    obtain rfl : o = o2 := Option.some.inj (e.symm.trans e2)
    exact up b o e nf
  have ne : ∀ b o, sI.heap.get? b = some o → b ≠ a := fun b o e q => by rw [q, new] at e; cases e
  have hok : HOk X.prog X.w (upd H a (ExcO C d a)) s'.heap := fun b u q => by
    by_cases hb : b = a
    · subst hb
      rw [upd_same] at q
      cases q
      exact ⟨⟨oe, vs, he, z, hd⟩, ⟨oe, he⟩, fun h1 h2 ⟨o, us, x1, x2⟩ k => ⟨o, us, k o x1, x2⟩⟩
    · rw [upd_ne hb] at q
      exact ((I.inGround grd).kept st b u q).stay (fun _ _ _ r => r) (fun c r => by rw [upd_ne (ne_of_none r na)]; exact r) fun c xs r => by rw [upd_ne (ne_of_none r na)]; exact r
  have J := I.call (ch := []) (h' := s'.heap) (g' := s'.gens) (t' := s'.toks) (d' := s'.drawn) (H' := upd H a (ExcO C d a))
    { keep := fun b o e _ hb _ => st b o (grd b o e hb)
      slot := fun b o e _ hb _ => fr b hb o e
      free := fun b o e n _ => by rw [upd_ne (ne b o e)]; exact n
      there := fun b o e _ => by
        by_cases hb : b ∈ frs X.stack
        · obtain ⟨sl, q⟩ := fr b hb o e
          exact ⟨_, q⟩
        · exact ⟨o, st b o (grd b o e hb)⟩
      tups := fun b xs e => by rw [upd_ne (ne_of_none e na)]; exact e
      frzs := fun b o u e => by rw [upd_ne (ne_of_none e na)]; exact e
      tbls := fun b ps e => ⟨#[], by rw [upd_ne (ne_of_none e na), e]; simp⟩ } hok ag (fun _ z => nomatch z)
  obtain ⟨a1, a2, a3, a4, a5⟩ := s'
  obtain rfl : a5 = sI.os := os
  exact J
end

section
variable {X : Cx} {body : List Stmt} {h0 : ExceptHandler} {hds : List ExceptHandler} {l : List (Value × HK)} {pos : Pos} {tb : WX → TS} {Wout : WX}
theorem no_frame {B h : Heap} {l : List Env} {a : Addr} {o : Obj} {vs : Array Value} (ff : h.FunFrames B l) (e : h.get? a = some o) (d : o.data = .fields vs) : a ∉ frs l := fun hm => by
  obtain ⟨_, o2, e2, nf⟩ := ff.mem hm
  obtain rfl : o = o2 := Option.some.inj (e.symm.trans e2)
  exact nf vs d
theorem ps_try (hs : X.stack = X.env :: X.outer) (hf : X.env.frame = some X.env.locals) (hpa : ∀ hd : Option Value, PassesOwnAt (model X.prog X.w) (X.A.mark hd) X.A X.env X.xe) (tk : Takes X Wout)
    (hb : ∀ (W : WX) (pn : List (Addr × Obj)) (xe : Value → Shared → Prop), Takes (X.tr pn xe) W → PassesOwn (model X.prog X.w) X.A X.env xe → PSs (X.tr pn xe) body (tb W))
    (hh : Hds X Wout (h0 :: hds) l) : PS X (.Try body (h0 :: hds) [] [] pos) (fun D σ H => tb (wTry X.K Wout D l) D σ H) := by
  refine ⟨fun pins s σ H D I h => ?_⟩
  have ok := I.ok
  have hfr : X.A.frames = some (X.env :: X.outer) := by rw [ok.frames, hs]
  refine wpAny_Try_except (wpAny_mono ((hb (wTry X.K Wout D l) (X.pn ++ pins) _ ?_ PassesOwn.looking).run [] s σ H D (I.toTry _) h) (fun f s1 q => ?_) fun e s1 q => q)
  · intro u s' x
    obtain ⟨a, B, sI, pins', σ', H', cls, d, rfl, z⟩ := x
    have J : Inv X pins σ' H' sI := z.inv.ofTry ok
    have grd : ∀ b o, sI.heap.get? b = some o → b ∉ frs X.stack → B.get? b = some o := z.grd
    have sky : Sky B (X.env :: X.outer) a (Zx B H' cls d) X.env.locals s'.heap := by rw [← hs]; exact z.sky
    show wpAny (model X.prog X.w) X.A (noteFrame (.ref a) X.env) _ _ _
    refine L2N.Sky.land Zx.steady hfr hf sky fun h3 fl3 up3 => ?_
    have w : wTry X.K Wout D l cls d σ' H' := z.wish
    have J3 : Inv X pins σ' H' { s' with heap := h3 } := J.landed grd fl3.1 (z.up.trans up3) z.os z.ag
    obtain ⟨oe3, vs3, he3, hz3, hd3⟩ := fl3.there
    have nfr := no_frame fl3.2.2.1 he3 hd3
    have loc_in : X.env.locals ∈ frs (X.env :: X.outer) := List.mem_filterMap.mpr ⟨X.env, List.mem_cons_self, hf⟩
    have out_in : ∀ b ∈ X.fs, b ∈ frs (X.env :: X.outer) := fun b hm => by
      obtain ⟨e, he, q⟩ := List.mem_filterMap.mp hm
      exact List.mem_filterMap.mpr ⟨e, List.mem_cons_of_mem _ he, q⟩
    have newI : sI.heap.get? a = none := by
      cases q : sI.heap.get? a with
      | none => rfl
      | some o =>
        have := grd a o q (by rw [hs]; exact nfr)
        rw [fl3.2.1] at this; cases this
    have SU := to_su J3 a
    have look : PySem.W.Looks (model X.prog X.w) h3 (typeOf (.ref a)) cls := fun A Q E s k q => wpAny_typeOf_ref (k _ _ he3) (hz3.1.symm ▸ q)
    -- clause by clause
    have go : ∀ {hs' : List ExceptHandler} {l' : List (Value × HK)}, Hds X Wout hs' l' → wTry X.K Wout D l' cls d σ' H' → wpAny (model X.prog X.w) X.A (handleBy (.ref a) X.env hs') (SP X pins D) X.xe { s' with heap := h3 } := by
      intro hs' l' hk
      have named : ∀ {x : Str} {c : Value} {np : Pos} {Q : Value → Shared → Prop} {E : Value → Shared → Prop}, Names X x c → Q c { s' with heap := h3 } → wpAny (model X.prog X.w) (X.A.mark (some (.ref a))) (eval (.Name x np) X.env) Q E { s' with heap := h3 } := fun {x c np Q E} hn q => by
        obtain ⟨hg, nd, hm | ⟨hm, hv, nn⟩⟩ := hn
        · exact ld_glob (X := X.suite a (X.pn ++ pins)) SU hg hm q nd
        · exact ld_blt (X := X.suite a (X.pn ++ pins)) SU hg hm hv q nn nd
      induction hk with
      | nil =>
        intro w
        refine wpAny_handleBy_nil ?_
        obtain ⟨k1, k2, k3, oe, vs, T, oT, ts, he, hz, hd, h1, hr⟩ := id fl3
        unfold PySem.passOn
        refine wpAny_bind (wpAny_field he hd h1 ?_)
        rw [if_neg (show ¬ ((Value.ref T == Value.none) = true) from by simp)]
        have fin : wpAny (model X.prog X.w) X.A (setFlight (.ref a) X.env.frame) (fun _ s4 => wpAny (model X.prog X.w) X.A (throw (.ref a) : Sem Flow) (SP X pins D) X.xe s4) X.xe { s' with heap := h3 } := by
          rw [hf]
          exact HandSPX.setFlight_upZ fl3 fun h4 hh4 up4 => wpAny_throw (tk _ _ ⟨a, B, sI, pins, σ', H', cls, d, rfl, J, grd, (z.up.trans up3).trans up4, .inr (.inr (by rw [hs]; exact hh4)), z.na, z.os, z.ag, w⟩)
        first
          | exact wpAny_bind (wpAny_pure (wpAny_bind fin))
          | exact wpAny_bind fin
      | @keep x n c i ts b0 suite np p hs2 l2 hc hN hi hl su r ih =>
        intro w
        obtain ⟨b, hb1, hy, hno⟩ := w
        have LM := PySem.W.exm_one (M := model X.prog X.w) J3.kIn look hb1
        refine wpAny_handleBy_cons (codeAny_handlers_test (named hc (LM.here ?_))) (by intro q; cases q)
        cases b with
        | false => exact ih (hno rfl)
        | true =>
          obtain ⟨C, rfl, hk'⟩ := hy rfl
          refine codeAny_handlers_suite_as (HandSPX.lands_againZ fl3 fun h4 fl4 up4 => ?_)
          obtain ⟨oe4, vs4, he4, hz4, hd4⟩ := fl4.there
          have JT : Inv X pins σ' (upd H' a (ExcO C d a)) { s' with heap := h4 } := track J grd fl4.1 ((z.up.trans up3).trans up4) z.os z.ag newI z.na he4 ⟨hz4.1, hz4.2.1⟩ hd4
          refine store_ok (X := X.suite a (X.pn ++ pins)) (v := .ref a) (to_su JT a) hN hi (.inl hl) rfl (fun s5 S5 => ?_) (.inr hl)
          refine wpAny_mono ((su a (X.pn ++ pins)).run [] s5 _ _ _ S5 (hk' a z.na)) (fun f s6 q => ?_) fun _ _ q => q.elim
          have end_ : ∀ {σ6 : St} {H6 : Hp} {Q : Shared → Prop}, Inv (X.suite a (X.pn ++ pins)) [] σ6 H6 s6 → (∀ s7, Inv X pins (σ6.set i none) H6 s7 → Q s7) →
              wpAny (model X.prog X.w) X.A (do bindName X.env n .none; unbindBehindTheSuite X.env n p) (fun _ s7 => Q s7) X.xe s6 := fun {σ6 H6 Q} S6 hq => gone_ok (from_su S6 ok) hN hi hl hq
          cases f with
          | next => obtain ⟨σ6, H6, S6, q6⟩ := q; exact end_ S6 fun s7 J7 => ⟨_, _, J7, q6⟩
          | brk => obtain ⟨σ6, H6, S6, q6⟩ := q; exact end_ S6 fun s7 J7 => ⟨_, _, J7, q6⟩
          | cont => obtain ⟨σ6, H6, S6, q6⟩ := q; exact end_ S6 fun s7 J7 => ⟨_, _, J7, q6⟩
          | ret u => obtain ⟨v6, σ6, H6, S6, r6, q6⟩ := q; exact end_ S6 fun s7 J7 => ⟨_, _, _, J7, r6, q6⟩
      | @plain x c ts b0 suite np p hs2 l2 hc su r ih =>
        intro w
        obtain ⟨b, hb1, hy, hno⟩ := w
        have LM := PySem.W.exm_one (M := model X.prog X.w) J3.kIn look hb1
        refine wpAny_handleBy_cons (codeAny_handlers_test (named hc (LM.here ?_))) (by intro q; cases q)
        cases b with
        | false => exact ih (hno rfl)
        | true =>
          refine codeAny_handlers_suite (HandSPX.lands_againZ fl3 fun h4 fl4 up4 => ?_)
          have J4 : Inv X pins σ' H' { s' with heap := h4 } := J.landed grd fl4.1 ((z.up.trans up3).trans up4) z.os z.ag
          refine wpAny_mono ((su a (X.pn ++ pins)).run [] _ _ _ _ (to_su J4 a) (hy rfl)) (fun f s6 q => ?_) fun _ _ q => q.elim
          cases f with
          | next => obtain ⟨σ6, H6, S6, q6⟩ := q; exact ⟨_, _, from_su S6 ok, q6⟩
          | brk => obtain ⟨σ6, H6, S6, q6⟩ := q; exact ⟨_, _, from_su S6 ok, q6⟩
          | cont => obtain ⟨σ6, H6, S6, q6⟩ := q; exact ⟨_, _, from_su S6 ok, q6⟩
          | ret u => obtain ⟨v6, σ6, H6, S6, r6, q6⟩ := q; exact ⟨_, _, _, from_su S6 ok, r6, q6⟩
      | @raises x c t e np p rp hs2 l2 hc mk r ih =>
        intro w
        obtain ⟨b, hb1, hy, hno⟩ := w
        have LM := PySem.W.exm_one (M := model X.prog X.w) J3.kIn look hb1
        refine wpAny_handleBy_cons (codeAny_handlers_test (named hc (LM.here ?_))) (by intro q; cases q)
        cases b with
        | false => exact ih (hno rfl)
        | true =>
          refine codeAny_handlers_suite (HandSPX.lands_againZ fl3 fun h4 fl4 up4 => ?_)
          have J4 : Inv X pins σ' H' { s' with heap := h4 } := J.landed grd fl4.1 ((z.up.trans up3).trans up4) z.os z.ag
          obtain ⟨oe4, vs4, he4, hz4, hd4⟩ := fl4.there
          obtain ⟨cw, cn, hw, hch⟩ := hz4.2.2 vs4 hd4
          have ff4 := fl4.2.2.1
          -- the exception and its contexts, pinned
          have chain : ∃ cs : List Addr, Link h4 (a :: cs) ∧ (∀ b ∈ a :: cs, H' b = none ∧ ∃ o us, h4.get? b = some o ∧ o.data = .fields us) := by
            rcases hch.list with e0 | ⟨c2, r2, e0, lk, al⟩
            · refine ⟨[], ⟨oe4, vs4, he4, hd4, e0 ▸ hw⟩, fun b hb => ?_⟩
              obtain rfl : b = a := by simpa using hb
              exact ⟨z.na, oe4, vs4, he4, hd4⟩
            · refine ⟨c2 :: r2, ⟨⟨oe4, vs4, he4, hd4, e0 ▸ hw⟩, lk.keep fun b hb o q => fl4.1 b o q⟩, fun b hb => ?_⟩
              rcases List.mem_cons.mp hb with rfl | hb
              · exact ⟨z.na, oe4, vs4, he4, hd4⟩
              · obtain ⟨n1, o, us, q1, q2⟩ := al b hb
                exact ⟨n1, o, us, fl4.1 b o q1, q2⟩
          obtain ⟨cs, lk, al⟩ := chain
          have pl : ∃ pl : List (Addr × Obj), (∀ p ∈ pl, h4.get? p.1 = some p.2 ∧ H' p.1 = none ∧ p.1 ≠ X.env.locals ∧ p.1 ∉ X.fs ∧ ∀ v, p.2.data ≠ .cell v) ∧ ∀ b ∈ a :: cs, ∃ o, (b, o) ∈ pl := by
            refine ⟨(a :: cs).filterMap fun b => (h4.get? b).map fun o => (b, o), fun p hp => ?_, fun b hb => ?_⟩
            · obtain ⟨b, hb, q⟩ := List.mem_filterMap.mp hp
              obtain ⟨n1, o, us, q1, q2⟩ := al b hb
              rw [q1] at q
              obtain rfl : (b, o) = p := Option.some.inj q
              have nf := no_frame ff4 q1 q2
              exact ⟨q1, n1, fun y => nf (show b ∈ _ from (show b = _ from y) ▸ loc_in), fun y => nf (out_in _ y), fun v y => by rw [q2] at y; cases y⟩
            · obtain ⟨_, o, _, q1, _⟩ := al b hb
              exact ⟨o, List.mem_filterMap.mpr ⟨b, hb, by rw [q1]; rfl⟩⟩
          obtain ⟨pl, pl1, pl2⟩ := pl
          have S4 := to_sx J4 a pl pl1
          have run : wpAny (model X.prog X.w) (X.A.mark (some (.ref a))) (execs [.Raise (some e) none rp] X.env) (fun _ _ => False) X.xe { s' with heap := h4 } := by
            refine wpAny_execs_cons ?_
            have mkd : wpAny (model X.prog X.w) (X.A.mark (some (.ref a))) (do let v ← eval e X.env; standAt rp; pure v) (fun u s1 => L2N.MkP (sx X a (pl ++ (X.pn ++ pins))) [] σ' (fun cls' d' H2 => Wout cls' d' σ' H2) u s1) X.xe { s' with heap := h4 } :=
              wpAny_bind (wpAny_mono (mk a (pl ++ (X.pn ++ pins)) [] _ σ' H' _ S4 (hy rfl)) (fun u s1 hu => wpAny_bind (wpAny_standAt (wpAny_pure hu))) fun _ _ q => q)
            show wpAny _ _ (do standAt rp; raiseStmt X.env (some (do let v ← eval e X.env; standAt rp; pure v)) none) _ _ _
            refine wpAny_bind (wpAny_standAt (raise_by (wpAny_mono mkd (fun u s1 hu => ?_) fun _ _ q => q)))
            obtain ⟨a2, oe, vs, sJ, H2, cls2, d2, rfl, JJ, kk, hne, ha, hz, hd, h1, na2, os2, ag2, rr, q2⟩ := hu
            have JX : Inv X pins σ' H2 sJ := from_sx JJ ok
            have pinned : ∀ b ∈ a :: cs, ∀ o, h4.get? b = some o → sJ.heap.get? b = some o ∧ H2 b = none := fun b hb o q => by
              obtain ⟨o', m⟩ := pl2 b hb
              obtain ⟨q3, q4, _⟩ := JJ.pin (b, o') (List.mem_append_left _ (List.mem_append_left _ m))
              have : h4.get? b = some o' := (pl1 _ m).1
              obtain rfl : o = o' := Option.some.inj (q.symm.trans this)
              exact ⟨q3, q4⟩
            have lk2 : Link sJ.heap (a :: cs) := lk.keep fun b hb o q => (pinned b hb o q).1
            have na3 : a2 ∉ a :: cs := fun m => by
              obtain ⟨o, q⟩ := lk2.there a2 m
              rw [hne] at q; cases q
            have r2 := rr (model X.prog X.w) s1.heap (JJ.kIn.keeps kk)
            have hi : 2 < vs.size := (Array.getElem?_eq_some_iff.mp (hz.2.2 vs hd)).1
            refine ⟨a2, oe, vs, cls2, rfl, ha, hz.1, hd, h1, r2.1, r2.2, raise_new rfl (lk2.keep fun b _ o q => kk b o q) na3 ha hd hi (tk _ _ ?_)⟩
            have ups : ∀ b o, sJ.heap.get? b = some o → (s1.heap.update a2 (Obj.mapFields (·.setIfInBounds 2 (.ref a)))).get? b = some o := fun b o q => by
              rw [Heap.get?_update_other _ _ (fun y => by rw [← y, hne] at q; cases q)]
              exact kk b o q
            -- the context's own chain, in the ground
            have chB : ∃ n, Ch (PySem.W.hideAll sJ.heap (frs X.stack)) H2 n (.ref a) := by
              have each : ∀ b ∈ a :: cs, H2 b = none ∧ ∃ o us, (PySem.W.hideAll sJ.heap (frs X.stack)).get? b = some o ∧ o.data = .fields us := fun b hb => by
                obtain ⟨_, o, us, q1, q3⟩ := al b hb
                obtain ⟨q4, q5⟩ := pinned b hb o q1
                exact ⟨q5, o, us, PySem.W.hideAll_get _ q4 (by rw [hs]; exact no_frame ff4 q1 q3), q3⟩
              have mkCh : ∀ (l : List Addr) (b : Addr), Link sJ.heap (b :: l) → (∀ c ∈ b :: l, H2 c = none ∧ ∃ o us, (PySem.W.hideAll sJ.heap (frs X.stack)).get? c = some o ∧ o.data = .fields us) → ∃ n, Ch (PySem.W.hideAll sJ.heap (frs X.stack)) H2 n (.ref b) := fun l => by
                induction l with
                | nil =>
                  intro b ⟨o, us, q1, q3, q4⟩ ev
                  obtain ⟨n1, o', us', q5, q6⟩ := ev b (by simp)
                  obtain rfl : o = o' := Option.some.inj (q1.symm.trans (PySem.W.of_hideAll _ q5))
                  exact ⟨1, .inr ⟨b, o, us, .none, rfl, q5, q3, n1, q4, rfl⟩⟩
                | cons c l ih =>
                  intro b ⟨⟨o, us, q1, q3, q4⟩, lt⟩ ev
                  obtain ⟨n1, o', us', q5, q6⟩ := ev b (by simp)
                  obtain rfl : o = o' := Option.some.inj (q1.symm.trans (PySem.W.of_hideAll _ q5))
                  obtain ⟨n, hn⟩ := ih c lt fun y hy => ev y (List.mem_cons_of_mem _ hy)
                  exact ⟨n + 1, .inr ⟨b, o, us, .ref c, rfl, q5, q3, n1, q4, hn⟩⟩
              exact mkCh cs a lk2 each
            obtain ⟨n, chn⟩ := chB
            have dat := Obj.data_mapFields hd (·.setIfInBounds 2 (Value.ref a))
            exact of_new (s' := { s1 with heap := _ }) JX ups hne (Heap.get?_update_self _ ha (Obj.isFreed_of_fields dat)) ((Obj.cls_mapFields ..).trans hz.1) ((HandSPX.dict_mapFields ..).trans hz.2.1) dat
              (by rw [Array.getElem?_setIfInBounds_ne (by decide)]; exact h1) (by simp [hi]) chn na2 os2 ag2 q2
          exact wpAny_mono run (fun _ _ q => q.elim) fun e6 s6 q => hpa (some (.ref a)) e6 s6 q
    exact go hh w
  · cases f with
    | next => obtain ⟨σ', H', J', q⟩ := q; exact wpAny_execs_nil ⟨σ', H', J'.ofTry ok, q⟩
    | brk => obtain ⟨σ', H', J', q⟩ := q; exact ⟨σ', H', J'.ofTry ok, q⟩
    | cont => obtain ⟨σ', H', J', q⟩ := q; exact ⟨σ', H', J'.ofTry ok, q⟩
    | ret u => obtain ⟨v, σ', H', J', r, q⟩ := q; exact ⟨v, σ', H', J'.ofTry ok, r, q⟩
end
end DX
end

section
/-! DL: comprehensions as expressions, arguments, displays, calls of defs, defs. -/
namespace DL
open PySem L2
open PyProof.Rows (envOfC)

section
variable {X : Cx} {W : WX} {B : Bs} {S : Sx} {k : Kd} {ks k1 k2 js : List Kd} {σ : St} {H H' : Hp} {ρ : Sl} {G G' : GA} {M : List Addr} {Dn : Ends} {f : Ev} {t : Tv} {u w : Sv} {st : Stmt} {rest sts sts' : List Stmt} {e c tge it elt : Expr} {ifs es : List Expr} {scope : Scope} {pos : Pos} {fs : Sl → Res (List D)}
/-! ### comprehensions -/
def tYesD : Tv := fun _ => .ok true
theorem dts_nil : PTs X [] (tDT X W ks tYesD) := ⟨fun pins s σ H Q I ⟨ρ, G, M, st, h⟩ => pts_nil.run pins s σ H Q I (h H G (Grow.refl st.ex))⟩
theorem dts_one (h : DT X W ks c t) : PTs X [c] (tDT X W ks t) := pts_one h
theorem de_comp {own : List (Str × Nat)} {g : TG} {tg : Tg} {el : Ev} (hc : X.calm = true) (hN : X.N.Nodup) (hi : DI X W ks tge it fs) (ok : BlkOk X.N X.env.scope scope own)
    (hg : ∀ (s : Shared) (H : Hp) (C : Addr) (cl : List (Str × Addr)) (fp : List Addr), PG (X.blk s H scope (compEnvC scope cl C X.env) fp) tge g) (hgd : DGv X ks g tg) (hkp : Keeps (own.map (·.2)) g)
    (ht : ∀ (s : Shared) (H : Hp) (C : Addr) (cl : List (Str × Addr)) (fp : List Addr), PTs (X.blk s H scope (compEnvC scope cl C X.env) fp) ifs (tDT (X.blk s H scope (compEnvC scope cl C X.env) fp) W0 ks t))
    (he : ∀ (s : Shared) (H : Hp) (C : Addr) (cl : List (Str × Addr)) (fp : List Addr), DE (X.blk s H scope (compEnvC scope cl C X.env) fp) W0 ks k elt el) (hs : ∀ x, foldedSetIterable it X.env x = pure x := by intro _; rfl) :
    DE X W ks (kc k) (.ListComp elt [⟨tge, it, ifs, 0⟩] scope pos) (eComp fs (own.map (·.2)) tg t el) :=
  PE_imp (pe_lc (tt := tDT X W0 ks t) (te := tD X W0 ks k el) hc hN hi ok hg ht he hs) fun σ H Q ⟨ρ, G, M, S, ho⟩ => lc_imp hgd hkp S ho
theorem ds_setLc {i : Nat} {y : Str} {py spos : Pos} {own : List (Str × Nat)} {g : TG} {tg : Tg} {el : Ev} (hk : i < ks.length) (hx : leKs ks S.kx = true) (hc : X.calm = true) (hN : X.N.Nodup) (hy : X.N[i]? = some y) (hyl : X.env.scope.names.lookup y = some .local)
    (hsw : swapsWith (.ListComp elt [⟨tge, it, ifs, 0⟩] scope pos) (some (.Name y py)) spos.line X.env = pure true) (hi : DI X S.W ks tge it fs) (ok : BlkOk X.N X.env.scope scope own)
    (hg : ∀ (s : Shared) (H : Hp) (C : Addr) (cl : List (Str × Addr)) (fp : List Addr), PG (X.blk s H scope (compEnvC scope cl C X.env) fp) tge g) (hgd : DGv X ks g tg) (hkp : Keeps (own.map (·.2)) g)
    (ht : ∀ (s : Shared) (H : Hp) (C : Addr) (cl : List (Str × Addr)) (fp : List Addr), PTs (X.blk s H scope (compEnvC scope cl C X.env) fp) ifs (tDT (X.blk s H scope (compEnvC scope cl C X.env) fp) W0 ks t))
    (he : ∀ (s : Shared) (H : Hp) (C : Addr) (cl : List (Str × Addr)) (fp : List Addr), DE (X.blk s H scope (compEnvC scope cl C X.env) fp) W0 ks k elt el) (hs : ∀ x, foldedSetIterable it X.env x = pure x := by intro _; rfl) :
    DS X S ks (ks.set i (kc k)) (.Assign [.Name y py] (.ListComp elt [⟨tge, it, ifs, 0⟩] scope pos) spos) (sSet i (eComp fs (own.map (·.2)) tg t el)) := fun B =>
  PS_imp (ps_setLc (tt := tDT X W0 ks t) (te := tD X W0 ks k el) hc hN hy hyl hsw hi ok hg ht he hs) fun Dn σ H ⟨ρ, G, M, s, q⟩ => by
    obtain ⟨ρ', G', M', s', h'⟩ := (sE (P := fun x H1 => gName i x σ H1 Dn.nx) hx s q fun d v H' G' Mv _ gr vr q' => by
      obtain ⟨M', s'⟩ := s.set gr vr hk
      exact q' _ _ _ _ s' : tD X S.W ks (kc k) (eComp fs (own.map (·.2)) tg t el) σ H fun x H1 => gName i x σ H1 Dn.nx)
    exact lc_imp hgd hkp s' h'

/-! ### arguments -/
abbrev Av := Sl → Res (List D)
structure VReps (K : PySem.W.Frag) (mg : MG) (k : Kd) (H0 H : Hp) (G : GA) (ds : List D) (vs : List V) (M : List Addr) : Prop where
  rep : Reps K mg H (gk k G) ds vs M
  fr : k = .F → M = []
  nd : M.Nodup
  new : ∀ a ∈ M, H0 a = none ∧ ¬ G a
def AOk (K : PySem.W.Frag) (mg : MG) (W : WX) (k : Kd) (σ : St) (H : Hp) (G : GA) (r : Res (List D)) (Q : List V → Hp → Prop) : Prop := match r with
  | .ok ds => ∀ vs H' G' M, Grow H G H' G' → VReps K mg k H H' G' ds vs M → Q vs H'
  | .exn x => ∀ H' cls dd, Same H H' → ExRep K mg H' x cls dd → W cls dd σ H'
  | .no => False
def tDA (X : Cx) (W : WX) (ks : List Kd) (k : Kd) (f : Av) : TA := fun σ H Q => ∃ ρ G M, StOk X.K X.mg ks σ H ρ G M ∧ AOk X.K X.mg W k σ H G (f ρ) Q
def DA (X : Cx) (W : WX) (ks : List Kd) (k : Kd) (es : List Expr) (f : Av) : Prop := PA X es (tDA X W ks k f) ∧ ∀ ρ ds, f ρ = .ok ds → ds.length = es.length
theorem PA_imp {X : Cx} {es : List Expr} {t t' : TA} (h : PA X es t) (i : ∀ σ H Q, t' σ H Q → t σ H Q) : PA X es t' := ⟨fun pos pins s σ H Q I q => h.run pos pins s σ H Q I (i σ H Q q)⟩
def aN : Av := fun _ => .ok []
def aC (f : Ev) (g : Av) : Av := fun ρ => (f ρ).bind fun x => (g ρ).bind fun xs => .ok (x :: xs)
theorem da_nil : DA X W ks k [] aN := ⟨PA_imp pa_nil fun σ H Q ⟨ρ, G, M, S, ho⟩ => ho [] H G [] (Grow.refl S.ex) ⟨.nil, fun _ => rfl, .nil, fun a m => nomatch m⟩, fun ρ ds h => by cases h; rfl⟩
theorem da_cons {g : Av} (he : DE X W ks k e f) (ha : DA X W ks k es g) (hs : starEach (e :: es) X.env = (false, eval e X.env) :: starEach es X.env := by rfl) : DA X W ks k (e :: es) (aC f g) := by
  refine ⟨PA_imp (pa_cons he ha.1 hs) fun σ H Q ⟨ρ, G, M, S, ho⟩ => ⟨ρ, G, M, S, ?_⟩, fun ρ ds h => ?_⟩
  · unfold aC at ho
    cases e1 : f ρ with
    | no => rw [e1] at ho; exact ho.elim
    | exn x => rw [e1] at ho; exact ho
    | ok d =>
      rw [e1] at ho
      intro v H1 G1 M1 gr vr
      refine ⟨ρ, G1, M, S.grow gr, ?_⟩
      have ho' : AOk X.K X.mg W k σ H G ((g ρ).bind fun xs => .ok (d :: xs)) Q := ho
      cases e2 : g ρ with
      | no => rw [e2] at ho'; exact ho'.elim
      | exn x => rw [e2] at ho'; exact fun H' cls dd sm er => ho' H' cls dd (gr.same.trans sm) er
      | ok ds =>
        rw [e2] at ho'
        intro vs H2 G2 M2 gr2 vr2
        refine ho' (v :: vs) H2 G2 (M1 ++ M2) (gr.trans gr2) ⟨.cons (vr.rep.stay (Pres.of_same gr2.same) (gk_mono gr2.g)) vr2.rep, fun z => by rw [vr.fr z, vr2.fr z]; rfl, List.nodup_append.mpr ⟨vr.nd, vr2.nd, fun a ha b hb q => ?_⟩, fun a m => ?_⟩
        · subst q
          obtain ⟨o, e3, _⟩ := vr.rep.dom _ ha
          rw [(vr2.new _ hb).1] at e3; cases e3
        · rcases List.mem_append.mp m with m | m
          · refine ⟨(vr.new a m).1, fun z => (gr2.new a z).elim (vr.new a m).2 fun q => ?_⟩
            obtain ⟨o, e3, _⟩ := vr.rep.dom _ m
            rw [q] at e3; cases e3
          · exact ⟨gr.same.free (vr2.new a m).1, (vr2.new a m).2⟩
  · unfold aC at h
    cases e1 : f ρ with
    | no => rw [e1] at h; cases h
    | exn x => rw [e1] at h; cases h
    | ok d =>
      rw [e1] at h
      cases e2 : g ρ with
      | no => rw [show (Res.ok d).bind (fun x => (g ρ).bind fun xs => Res.ok (x :: xs)) = (g ρ).bind fun xs => Res.ok (d :: xs) from rfl, e2] at h; cases h
      | exn x => rw [show (Res.ok d).bind (fun x => (g ρ).bind fun xs => Res.ok (x :: xs)) = (g ρ).bind fun xs => Res.ok (d :: xs) from rfl, e2] at h; cases h
      | ok ds2 =>
        rw [show (Res.ok d).bind (fun x => (g ρ).bind fun xs => Res.ok (x :: xs)) = (g ρ).bind fun xs => Res.ok (d :: xs) from rfl, e2] at h
        cases h
        simp [ha.2 ρ ds2 e2]
/-- arguments, then -/
theorem tDA_then {g : Av} {c : List D → Res D} {P : List V → Hp → Prop} {Q : VK} {kq : Kd} (S : StOk X.K X.mg ks σ H ρ G M) (ho : OutOk X.K X.mg W kq σ H G ((g ρ).bind c) Q)
    (hk : ∀ ds vs H1 G1 M1, g ρ = .ok ds → Grow H G H1 G1 → VReps X.K X.mg k H H1 G1 ds vs M1 → StOk X.K X.mg ks σ H1 ρ G1 M → OutOk X.K X.mg W kq σ H1 G1 (c ds) Q → P vs H1) : tDA X W ks k g σ H P := by
  refine ⟨ρ, G, M, S, ?_⟩
  cases e : g ρ with
  | ok d =>
    rw [e] at ho
    intro v H' G' M' gr vr
    exact hk d v H' G' M' e gr vr (S.grow gr) (OutOk.grow (r := c d) ho gr)
  | exn x => rw [e] at ho; exact ho
  | no => rw [e] at ho; exact ho.elim
/-! ### displays -/
def eTup (g : Av) : Ev := fun ρ => (g ρ).bind fun ds => .ok (.tup ds)
def eLst (g : Av) : Ev := fun ρ => (g ρ).bind fun ds => .ok (.lst ds)
theorem de_tup {g : Av} {x1 : Nat} (ha : DA X W ks k es g) (hl : es.length ≤ 1000 := by decide) : DE X W ks k (.Tuple es x1 pos) (eTup g) := PE_imp (pe_tup ha.1) fun σ H Q ⟨ρ, G, M, S, ho⟩ =>
  ⟨ρ, G, M, S, by
    have ho' : OutOk X.K X.mg W k σ H G ((g ρ).bind fun ds => .ok (.tup ds)) Q := ho
    cases e : g ρ with
    | no => rw [e] at ho'; exact ho'.elim
    | exn x => rw [e] at ho'; exact ho'
    | ok ds =>
      rw [e] at ho'
      intro vs H1 G1 M1 gr vr
      have hlen : vs.length = es.length := by rw [← vr.rep.length, ha.2 ρ ds e]
      refine ⟨by rw [sizeLine_eq]; omega, fun p hp => ?_⟩
      have sm : Same H1 (upd H1 p (.tup vs)) := same_upd hp
      exact ho' (.ref p) _ G1 M1 (gr.trans (Grow.of sm gr.ex)) ⟨.tup (SqT.of upd_same) (vr.rep.stay (Pres.of_same sm) fun _ z => z), vr.fr, vr.nd, vr.new⟩⟩
theorem de_lst {g : Av} (hk : k ≠ .F) (ha : DA X W ks k es g) (hl : es.length ≤ 1000 := by decide) : DE X W ks k (.List es pos) (eLst g) := PE_imp (pe_lst ha.1) fun σ H Q ⟨ρ, G, M, S, ho⟩ =>
  ⟨ρ, G, M, S, by
    have ho' : OutOk X.K X.mg W k σ H G ((g ρ).bind fun ds => .ok (.lst ds)) Q := ho
    cases e : g ρ with
    | no => rw [e] at ho'; exact ho'.elim
    | exn x => rw [e] at ho'; exact ho'
    | ok ds =>
      rw [e] at ho'
      intro vs H1 G1 M1 gr vr
      have hlen : vs.length = es.length := by rw [← vr.rep.length, ha.2 ρ ds e]
      refine ⟨by rw [sizeLine_eq]; omega, fun p hp => ?_⟩
      have sm : Same H1 (upd H1 p (.lst vs)) := same_upd hp
      have np : ∀ a ∈ M1, a ≠ p := fun a m q => by
        obtain ⟨o, e3, _⟩ := vr.rep.dom _ m
        rw [q, hp] at e3; cases e3
      refine ho' (.ref p) _ G1 (p :: M1) (gr.trans (Grow.of sm gr.ex)) ⟨.lstO upd_same (vr.rep.stay (Pres.of_same sm) fun _ z => z), fun z => absurd z hk, List.nodup_cons.mpr ⟨fun m => np p m rfl, vr.nd⟩, fun a m => ?_⟩
      rcases List.mem_cons.mp m with rfl | m
      · exact ⟨gr.same.free hp, fun z => gr.ex _ z hp⟩
      · exact vr.new a m⟩
/-! ### calls -/
def spD (K : PySem.W.Frag) (mg : MG) (k : Kd) (m : List D → Res D) (n : Nat) : Sp := fun vs H Q E => vs.length = n ∧ ∃ G ds, Reps K mg H G ds vs [] ∧ (∀ a, G a → H a ≠ none) ∧ match m ds with
  | .ok d => ∀ v H' G' M, Grow H G H' G' → VRep K mg k H H' G' d v M → Q v H'
  | .exn x => ∀ H' cls dd, Same H H' → ExRep K mg H' x cls dd → E cls dd H'
  | .no => False
def eCall (m : List D → Res D) (g : Av) : Ev := fun ρ => (g ρ).bind m
theorem sp_of {K : PySem.W.Frag} {mg : MG} {kq : Kd} {m : List D → Res D} {n : Nat} {ds : List D} {vs : List V} {Q : VK} (hl : ds.length = n) (r : Reps K mg H G ds vs []) (ex : ∀ a, G a → H a ≠ none) (ho : OutOk K mg W kq σ H G (m ds) Q) : spD K mg kq m n vs H Q (WE W σ) := by
  refine ⟨by rw [← r.length, hl], G, ds, r, ex, ?_⟩
  cases e : m ds with
  | ok d => rw [e] at ho; exact ho
  | exn x => rw [e] at ho; exact ho
  | no => rw [e] at ho; exact ho
theorem de_call {g : Av} {m : List D → Res D} {j : Nat} {fa : Addr} {fd : FuncData} {ps : List Str} {x : Str} {p : Pos} {kq : Kd} (tk : DX.Takes X W) (F : FnOk X.prog X.w X.K X.mg X.base (DX.CX X.prog X.w) j fa fd ps (spD X.K X.mg kq m (e :: es).length)) (hr : Room j X.A)
    (hg : Gl X x) (hm : X.mg x = some (.ref fa)) (hk : PySem.W.keepIn X.K (.ref fa) = true) (hb : Binds X.K fd ps []) (ha : DA X W ks .F (e :: es) g) (hdb : (x == ("__debug__" : Str)) = false := by decide)
    (he : starEach (e :: es) X.env = (false, eval e X.env) :: starEach es X.env := by rfl) (hpl : (backTo pos (starEach es X.env)).any (·.1) = false := by rfl) : DE X W ks kq (.Call (.Name x p) (e :: es) [] pos) (eCall m g) :=
  PE_imp (pe_callS F hr hg hm hk hb (fun σ => DX.pass tk σ) ha.1 hdb he hpl) fun σ H Q ⟨ρ, G, M, S, ho⟩ => tDA_then S ho fun ds vs H1 G1 M1 e1 gr vr S1 ho1 => by
    obtain rfl := vr.fr rfl
    exact sp_of (ha.2 ρ ds e1) (vr.rep.weakG gk_le) S1.ex ho1
theorem pe_call0S {CX : CXT} {j : Nat} {fa : Addr} {fd : FuncData} {ps : List Str} {x : Str} {p : Pos} {sp : Sp} {E : St → XK} (F : FnOk X.prog X.w X.K X.mg X.base CX j fa fd ps sp) (hr : Room j X.A) (hg : Gl X x) (hm : X.mg x = some (.ref fa)) (hk : PySem.W.keepIn X.K (.ref fa) = true) (hb : Binds X.K fd ps []) (hx : ∀ σ, PassesAt CX X σ (E σ))
    (hdb : (x == ("__debug__" : Str)) = false := by decide) : PE X (.Call (.Name x p) [] [] pos) (tCallS sp E tNil) := by
  refine ⟨fun pins s σ H Q I h => ?_⟩
  refine wpAny_Call_Name_kw (ld_glob I hg hm ?_ hdb)
  exact PySem.W.callWith_K0 I.kIn hk (run_fnS (us := []) F hr hb (hx σ) I .nil h)

/-! ### a def -/
def runB (N : Nat) (b : Sv) (ds : List D) : Res D := match b (ds.map some ++ List.replicate (N - ds.length) none) with
  | .rt d _ => .ok d
  | .nx _ => .ok .non
  | .ex x _ => .exn x
  | _ => .no
theorem slots_start {K : PySem.W.Frag} {mg : MG} : ∀ {ds : List D} {vs : List V} {ks : List Kd} (n : Nat), Reps K mg H G ds vs [] → ks.length = vs.length + n → ks.take vs.length = List.replicate vs.length .F →
    Slots K mg H G ks (vs.map some ++ List.replicate n none) (ds.map some ++ List.replicate n none) []
  | [], vs, ks, n, r, hl, ht => by
    generalize hM : ([] : List Addr) = M at r
    cases r
    simp at hl
    subst hl
    clear ht hM
    induction ks with
    | nil => exact .nil
    | cons k ks ih => exact .non ih
  | d :: ds, vs, ks, n, r, hl, ht => by
    obtain ⟨v, vs', rfl, r1, r2⟩ := r.cons_inv
    cases ks with
    | nil => exact absurd hl (by simp; omega)
    | cons k ks =>
      have h2 := List.cons.inj (show k :: ks.take vs'.length = .F :: List.replicate vs'.length .F from ht)
      have := slots_start (ks := ks) n r2 (by simp at hl; omega) h2.2
      obtain rfl : k = .F := h2.1
      exact .som (M1 := []) r1 (fun _ => rfl) this
def fF (n : Nat) : List Kd := List.replicate n .F
def Sdef (kr : Kd) (n : Nat) (E : XK) : Sx := ⟨fun cls dd _ H => E cls dd H, fF n, fF n, kr, fF n⟩
theorem fn_dl {P : Program} {w : World} {K : PySem.W.Frag} {mg : Str → Option Value} {base : Heap} {x qual : Str} {fst : Stmt} {fa : Addr} {fd : FuncData} {N ps : List Str} {j : Nat} (F : Fun K x qual fst fa fd) (Sc : FnScope N ps (defScope fst)) (kr : Kd) (b : Sv) (k0 : List Kd) {ke : List Kd}
    (hk : k0.length = N.length) (hp : ps.length ≤ N.length) (hf : k0.take ps.length = List.replicate ps.length .F)
    (hb : ∀ (cdv : Value) (A : Around) (outer : List PySem.Env) (s : Shared) (H : Hp) (E : XK), Room j (A.deeper (envOfC qual (defScope fst) s.heap.objs.size fa cdv)) →
      DX.Takes (cxOf (DX.CX P w) P w K mg base N qual (defScope fst) fa cdv A outer s H E) (fun cls dd _ H => E cls dd H) →
      PassesOwn (model P w) (cxOf (DX.CX P w) P w K mg base N qual (defScope fst) fa cdv A outer s H E).A (cxOf (DX.CX P w) P w K mg base N qual (defScope fst) fa cdv A outer s H E).env (cxOf (DX.CX P w) P w K mg base N qual (defScope fst) fa cdv A outer s H E).xe →
      (∀ hd : Option Value, PassesOwnAt (model P w) ((cxOf (DX.CX P w) P w K mg base N qual (defScope fst) fa cdv A outer s H E).A.mark hd) (cxOf (DX.CX P w) P w K mg base N qual (defScope fst) fa cdv A outer s H E).A (cxOf (DX.CX P w) P w K mg base N qual (defScope fst) fa cdv A outer s H E).env (cxOf (DX.CX P w) P w K mg base N qual (defScope fst) fa cdv A outer s H E).xe) →
      DSs (cxOf (DX.CX P w) P w K mg base N qual (defScope fst) fa cdv A outer s H E) (Sdef kr N.length E) k0 ke (defBody fst) b) :
    FnOk P w K mg base (DX.CX P w) (j + 1) fa fd ps (spD K mg kr (runB N.length b) ps.length) := by
  refine DX.fun_ok F Sc (fun vs H Q E h => h.1) (fun cdv A outer s H vs Q E hr h => ⟨_, hb cdv A outer s H E hr (DX.takes_of rfl rfl rfl rfl) (passes_of (X := cxOf (DX.CX P w) P w K mg base N qual (defScope fst) fa cdv A outer s H E) rfl) (L2H.passesAt_of (X := cxOf (DX.CX P w) P w K mg base N qual (defScope fst) fa cdv A outer s H E) rfl) ⟨H, h.2.choose, []⟩, ?_⟩)
  obtain ⟨ds, r, ex, q⟩ := h.2.choose_spec
  have hlv := h.1
  have hld := r.length
  refine ⟨ds.map some ++ List.replicate (N.length - ds.length) none, _, [], ⟨⟨?_, .nil, (fun a m => nomatch m), ex⟩, (fun _ _ e _ => e), (fun _ m => nomatch m), (fun _ z => .inl z), (fun _ z => z), (fun _ m => nomatch m)⟩, ?_⟩
  · unfold L2.start
    rw [hld]
    exact slots_start _ r (by omega) (by rw [hlv]; exact hf)
  · unfold runB at q
    cases e : b (ds.map some ++ List.replicate (N.length - ds.length) none) with
    | nx ρ' =>
      rw [e] at q
      intro σ' H' G' M' s'
      exact q .non H' G' [] ⟨fun a o z => s'.pres a o z (by simp), s'.gold, fun a z => (s'.gnew a z).imp id fun y => y.elim (fun m => nomatch m) id, s'.st.ex⟩ ⟨.non, fun _ => rfl, .nil, fun a m => nomatch m⟩
    | rt d ρ' =>
      rw [e] at q
      intro σ' v H' G' M' Mv z
      have s' := z.st
      exact q v H' G' Mv ⟨fun a o z => s'.pres a o z (by simp), s'.gold, fun a z => (s'.gnew a z).imp id fun y => y.elim (fun m => nomatch m) id, s'.st.ex⟩ ⟨z.rep, z.fr, z.nd, fun a m => ⟨(z.new a m).2.2.elim (fun m => nomatch m) id, (z.new a m).1⟩⟩
    | ex x ρ' =>
      rw [e] at q
      intro σ' H' G' M' cls dd s' er
      exact q H' cls dd (fun a o z => s'.pres a o z (by simp)) er
    | bk ρ' => rw [e] at q; exact q.elim
    | ct ρ' => rw [e] at q; exact q.elim
    | no => rw [e] at q; exact q.elim
end
end DL
end

section
/-! DL: primitives. -/
namespace DL
open PySem L2
open PyProof.Rows (envOfC mul_int b2i)

theorem sz_ok {n : Nat} (h : n ≤ 1000000) : n ≤ sizeLine := by rw [sizeLine_eq]; omega
section
variable {X : Cx} {K : PySem.W.Frag} {mg : MG} {W : WX} {k : Kd} {ks : List Kd} {σ : St} {H H' : Hp} {ρ : Sl} {G G' : GA} {M : List Addr} {Q : VK}

/-! ### ints -/
def i2 (g : Int → Int → Option D) : D → D → Option D
  | .int i, .int j => g i j
  | _, _ => none
theorem i2_inv {g : Int → Int → Option D} {d1 d2 : D} {v1 v2 : V} {W : WX} {k : Kd} (r1 : Rep K mg H G d1 v1 []) (r2 : Rep K mg H G d2 v2 []) (ho : OutOk K mg W k σ H G (Res.of (i2 g d1 d2)) Q) :
    ∃ i j, v1 = .int i ∧ v2 = .int j ∧ OutOk K mg W k σ H G (Res.of (g i j)) Q := by
  cases d1 <;> first | exact ho.elim | (cases d2 <;> first | exact ho.elim | (cases r1; cases r2; exact ⟨_, _, rfl, rfl, ho⟩))
theorem od_I0 {g : Int → Int → Int} : OpD K mg .O (rI0 fun i j => .int (g i j)) (i2 fun i j => some (.int (g i j))) := by
  intro W σ H G Q d1 d2 v1 v2 r1 r2 ex ho
  obtain ⟨i, j, rfl, rfl, ho⟩ := i2_inv r1 r2 ho
  exact ⟨i, j, rfl, rfl, OutOk.imm (d := .int (g i j)) ho ex (.int _)⟩
theorem od_B0 {g : Int → Int → Bool} : OpD K mg .O (rI0 fun i j => .bl (g i j)) (i2 fun i j => some (.bl (g i j))) := by
  intro W σ H G Q d1 d2 v1 v2 r1 r2 ex ho
  obtain ⟨i, j, rfl, rfl, ho⟩ := i2_inv r1 r2 ho
  exact ⟨i, j, rfl, rfl, OutOk.imm (d := .bl (g i j)) ho ex (.bl _)⟩
theorem od_I {C : Int → Int → Prop} {c : Int → Int → Bool} {g : Int → Int → Int} (hc : ∀ i j, c i j = true → C i j) : OpD K mg .O (rI C fun i j => .int (g i j)) (i2 fun i j => if c i j = true then some (.int (g i j)) else none) := by
  intro W σ H G Q d1 d2 v1 v2 r1 r2 ex ho
  obtain ⟨i, j, rfl, rfl, ho⟩ := i2_inv r1 r2 ho
  by_cases h : c i j = true
  · rw [if_pos h] at ho
    exact ⟨i, j, rfl, rfl, hc i j h, OutOk.imm (d := .int (g i j)) ho ex (.int _)⟩
  · rw [if_neg h] at ho; exact ho.elim
/-- a product's size: one side small, or both below 2 ^ 400000 -/
def mulC (i j : Int) : Bool := decide (i.natAbs < 2 ^ 64) || decide (j.natAbs < 2 ^ 64) || (decide (i.natAbs < 2 ^ 400000) && decide (j.natAbs < 2 ^ 400000))
def divC (i j : Int) : Bool := decide (0 < j) && decide (j.natAbs < 2 ^ 9000)
def modC (i j : Int) : Bool := decide (0 < j)
def shC (i j : Int) : Bool := decide (0 ≤ j) && decide (j ≤ 1000000) && decide (i.natAbs < 2 ^ 64)
def shrC (i j : Int) : Bool := decide (0 ≤ j)
theorem op_mulD : OpR X (binaryOp .Mult) (rI (fun i j => mulC i j = true) fun i j => .int (i * j)) := opI fun i j _ _ _ _ _ hc q => by
  refine mul_int q ?_
  unfold mulC at hc
  simp only [Bool.or_eq_true, Bool.and_eq_true, decide_eq_true_eq] at hc
  rcases hc with (h | h) | h
  · exact CMul.ok (.inl (by omega))
  · exact CMul.ok (.inr (by omega))
  · exact (wide_mul (a := 400000) (b := 400000) h.1 h.2 (by decide) (by decide) (by decide)).ok
abbrev oMulI := i2 fun i j => if mulC i j = true then some (.int (i * j)) else none
abbrev oDiv := i2 fun i j => if divC i j = true then some (.int (i / j)) else none
abbrev oMod := i2 fun i j => if modC i j = true then some (.int (i % j)) else none
abbrev oPow := i2 fun i j => if shC i j = true then some (.int (i ^ j.toNat)) else none
abbrev oShl := i2 fun i j => if shC i j = true then some (.int (i * 2 ^ j.toNat)) else none
abbrev oShr := i2 fun i j => if shrC i j = true then some (.int (i / 2 ^ j.toNat)) else none
abbrev oSub := i2 fun i j => some (.int (i - j))
abbrev oAnd := i2 fun i j => some (.int (Builtin.bitAnd i j))
abbrev oOr := i2 fun i j => some (.int (Builtin.bitOr i j))
abbrev oLt := i2 fun i j => some (.bl (decide (i < j)))
abbrev oLe := i2 fun i j => some (.bl (decide (i ≤ j)))
abbrev oGt := i2 fun i j => some (.bl (decide (j < i)))
abbrev oGe := i2 fun i j => some (.bl (decide (j ≤ i)))
theorem od_mul : OpD K mg .O (rI (fun i j => mulC i j = true) fun i j => .int (i * j)) oMulI := od_I fun _ _ h => h
theorem od_div : OpD K mg .O (rI CDivW fun i j => .int (i / j)) oDiv := od_I fun i j h => by
  unfold divC at h
  simp only [Bool.and_eq_true, decide_eq_true_eq] at h
  exact wide_div h.1 h.2 (by decide) (by decide)
theorem od_mod : OpD K mg .O (rI (fun _ j => 0 < j) fun i j => .int (i % j)) oMod := od_I fun i j h => by
  unfold modC at h; simpa using h
theorem od_pow : OpD K mg .O (rI CPow fun i j => .int (i ^ j.toNat)) oPow := od_I fun i j h => by
  unfold shC at h
  simp only [Bool.and_eq_true, decide_eq_true_eq] at h
  exact ⟨h.1.1, h.1.2, h.2⟩
theorem od_shl : OpD K mg .O (rI CPow fun i j => .int (i * 2 ^ j.toNat)) oShl := od_I fun i j h => by
  unfold shC at h
  simp only [Bool.and_eq_true, decide_eq_true_eq] at h
  exact ⟨h.1.1, h.1.2, h.2⟩
theorem od_shr : OpD K mg .O (rI (fun _ j => 0 ≤ j) fun i j => .int (i / 2 ^ j.toNat)) oShr := od_I fun i j h => by
  unfold shrC at h; simpa using h
theorem od_sub : OpD K mg .O (rI0 fun i j => .int (i - j)) oSub := od_I0
theorem od_and : OpD K mg .O (rI0 fun i j => .int (Builtin.bitAnd i j)) oAnd := od_I0
theorem od_or : OpD K mg .O (rI0 fun i j => .int (Builtin.bitOr i j)) oOr := od_I0
theorem od_lt : OpD K mg .O (rI0 fun i j => .bl (decide (i < j))) oLt := od_B0
theorem od_le : OpD K mg .O (rI0 fun i j => .bl (decide (i ≤ j))) oLe := od_B0
theorem od_gt : OpD K mg .O (rI0 fun i j => .bl (decide (j < i))) oGt := od_B0
theorem od_ge : OpD K mg .O (rI0 fun i j => .bl (decide (j ≤ i))) oGe := od_B0

/-! ### + : ints, texts, lists, tuples -/
theorem lst_inv {ds : List D} {v : V} {M : List Addr} (r : Rep K mg H G (.lst ds) v M) : ∃ a vs M', v = .ref a ∧ H a = some (.lst vs) ∧ Reps K mg H G ds vs M' ∧ (M = [] → M' = []) := by
  cases r with
  | lstO h r => exact ⟨_, _, _, rfl, h, r, fun z => by cases z⟩
  | lstF h g r => exact ⟨_, _, _, rfl, h, r, fun z => rfl⟩
theorem lst_inv0 {ds : List D} {v : V} (r : Rep K mg H G (.lst ds) v []) : ∃ a vs, v = .ref a ∧ H a = some (.lst vs) ∧ Reps K mg H G ds vs [] := by
  obtain ⟨a, vs, M', e, h, r, z⟩ := lst_inv r
  rw [z rfl] at r
  exact ⟨a, vs, e, h, r⟩
theorem tup_inv {ds : List D} {v : V} {M : List Addr} (r : Rep K mg H G (.tup ds) v M) : ∃ a vs, v = .ref a ∧ SqT K H a vs ∧ Reps K mg H G ds vs M := by
  cases r with
  | tup h r => exact ⟨_, _, rfl, h, r⟩
theorem str_inv {l : List Nat} {v : V} {M : List Addr} (r : Rep K mg H G (.str l) v M) : ∃ x : Str, v = .str x ∧ x.cps.toList = l := by
  cases r with
  | str x => exact ⟨x, rfl, rfl⟩
theorem rep_str {x : Str} {l : List Nat} (e : x.cps.toList = l) : Rep K mg H G (.str l) (.str x) [] := e ▸ .str x
theorem reps_append : ∀ {ds es : List D} {vs us : List V}, Reps K mg H G ds vs [] → Reps K mg H G es us [] → Reps K mg H G (ds ++ es) (vs ++ us) []
  | [], es, vs, us, r, q => by
    generalize hM : ([] : List Addr) = M at r
    cases r
    exact q
  | d :: ds, es, vs, us, r, q => by
    obtain ⟨v, vs', rfl, r1, r2⟩ := r.cons_inv
    exact .cons (M := []) (M' := []) r1 (reps_append r2 q)
/-- a new frozen list, a new list of things that cannot change -/
theorem OutOk.lstO {ds : List D} {vs : List V} {p : Addr} (ho : OutOk K mg W .O σ H G (.ok (.lst ds)) Q) (ex : ∀ a, G a → H a ≠ none) (hp : H p = none) (r : Reps K mg H G ds vs []) (hi : imms ds = true) : Q (.ref p) (upd H p (.lst vs)) :=
  ho.new ex (by decide) hp (same_upd hp) (.lstO upd_same ((r.ofImm (G' := G0) hi).stay (Pres.of_same (same_upd hp)) fun _ z => z))
theorem OutOk.lstX {ds : List D} {vs : List V} {p : Addr} (ho : OutOk K mg W .X σ H G (.ok (.lst ds)) Q) (ex : ∀ a, G a → H a ≠ none) (hp : H p = none) (r : Reps K mg H G ds vs []) : Q (.ref p) (upd H p (.lst vs)) :=
  ho.new ex (by decide) hp (same_upd hp) (.lstO upd_same (r.stay (Pres.of_same (same_upd hp)) fun _ z => z))
theorem OutOk.tupF {ds : List D} {vs : List V} {p : Addr} (ho : OutOk K mg W .F σ H G (.ok (.tup ds)) Q) (ex : ∀ a, G a → H a ≠ none) (hp : H p = none) (r : Reps K mg H G ds vs []) : Q (.ref p) (upd H p (.tup vs)) :=
  ho (.ref p) _ G [] (Grow.of (same_upd hp) ex) ⟨.tup (SqT.of upd_same) (r.stay (Pres.of_same (same_upd hp)) fun _ z => z), fun _ => rfl, .nil, fun a m => nomatch m⟩
theorem OutOk.F {d : D} {v : V} (ho : OutOk K mg W .F σ H G (.ok d) Q) (ex : ∀ a, G a → H a ≠ none) (r : Rep K mg H G d v []) : Q v H := ho v H G [] (Grow.refl ex) ⟨r, fun _ => rfl, .nil, fun a m => nomatch m⟩
def addS (a b : List Nat) : Option D := if a.length + b.length ≤ 1000000 then some (.str (a ++ b)) else none
def addL (xs ys : List D) : Option D := if (imms xs && imms ys && decide (xs.length + ys.length ≤ 1000000)) = true then some (.lst (xs ++ ys)) else none
def addT (xs ys : List D) : Option D := if (imms xs && imms ys && decide (xs.length + ys.length ≤ 1000000)) = true then some (.tup (xs ++ ys)) else none
def oAdd : D → D → Option D
  | .int i, .int j => some (.int (i + j))
  | .int i, .bl b => some (.int (i + b2i b))
  | .str a, .str b => addS a b
  | .lst xs, .lst ys => addL xs ys
  | .tup xs, .tup ys => addT xs ys
  | _, _ => none
def rAddD (K : PySem.W.Frag) : R2 := fun x y H Q => ((((rI0 fun i j => .int (i + j)) x y H Q ∨ (∃ i k, x = .int i ∧ y = .bl k ∧ Q (.int (i + b2i k)) H)) ∨ (∃ i j, x = .str i ∧ y = .str j ∧ i.length + j.length ≤ sizeLine ∧ Q (.str (i ++ j)) H)) ∨ rCat x y H Q) ∨ rCatA K x y H Q
theorem op_addD : OpR X (binaryOp .Add) (rAddD X.K) := (((op_add.or op_add_ib).or op_add_str).or op_cat).or op_catA
theorem slen (x : Str) : x.length = x.cps.toList.length := by simp [Str.length]
theorem imms_append : ∀ {xs ys : List D}, imms xs = true → imms ys = true → imms (xs ++ ys) = true
  | [], _, _, h => h
  | x :: xs, ys, h1, h2 => by
    have h1' : (D.imm x && imms xs) = true := h1
    rw [Bool.and_eq_true] at h1'
    show (D.imm x && imms (xs ++ ys)) = true
    rw [h1'.1, imms_append h1'.2 h2]; rfl
theorem od_add : OpD K mg .O (rAddD K) oAdd := by
  intro W σ H G Q d1 d2 v1 v2 r1 r2 ex ho
  cases d1 with
  | int i =>
    cases d2 with
    | int j => cases r1; cases r2; exact .inl (.inl (.inl (.inl ⟨_, _, rfl, rfl, OutOk.imm (d := .int (i + j)) ho ex (.int _)⟩)))
    | bl b => cases r1; cases r2; exact .inl (.inl (.inl (.inr ⟨_, _, rfl, rfl, OutOk.imm (d := .int (i + b2i b)) ho ex (.int _)⟩)))
    | _ => exact ho.elim
  | str a =>
    cases d2 with
    | str b =>
      obtain ⟨x, rfl, rfl⟩ := str_inv r1
      obtain ⟨y, rfl, rfl⟩ := str_inv r2
      replace ho : OutOk K mg W .O σ H G (Res.of (addS x.cps.toList y.cps.toList)) Q := ho
      unfold addS at ho
      by_cases h : x.cps.toList.length + y.cps.toList.length ≤ 1000000
      · rw [if_pos h] at ho
        refine .inl (.inl (.inr ⟨x, y, rfl, rfl, by rw [slen, slen]; exact sz_ok h, OutOk.imm (d := .str (x.cps.toList ++ y.cps.toList)) ho ex (rep_str (TL.tl_append x y))⟩))
      · rw [if_neg h] at ho; exact ho.elim
    | _ => exact ho.elim
  | lst xs =>
    cases d2 with
    | lst ys =>
      obtain ⟨a, vs, rfl, ha, ra⟩ := lst_inv0 r1
      obtain ⟨b, us, rfl, hb, rb⟩ := lst_inv0 r2
      replace ho : OutOk K mg W .O σ H G (Res.of (addL xs ys)) Q := ho
      unfold addL at ho
      split at ho
      · rename_i h
        simp only [Bool.and_eq_true, decide_eq_true_eq] at h
        refine .inl (.inr ⟨a, b, vs, us, rfl, rfl, ha, hb, ?_, fun p hp => ho.lstO ex hp (reps_append ra rb) (imms_append h.1.1 h.1.2)⟩)
        rw [← ra.length, ← rb.length]; exact sz_ok h.2
      · exact ho.elim
    | _ => exact ho.elim
  | tup xs =>
    cases d2 with
    | tup ys =>
      obtain ⟨a, vs, rfl, ha, ra⟩ := tup_inv r1
      obtain ⟨b, us, rfl, hb, rb⟩ := tup_inv r2
      replace ho : OutOk K mg W .O σ H G (Res.of (addT xs ys)) Q := ho
      unfold addT at ho
      split at ho
      · rename_i h
        simp only [Bool.and_eq_true, decide_eq_true_eq] at h
        have im : D.imm (.tup (xs ++ ys)) = true := imms_append h.1.1 h.1.2
        refine .inr ⟨a, b, vs, us, rfl, rfl, ha, hb, ?_, fun e => ?_, fun _ e => ?_, fun _ _ p hp => ?_⟩
        · rw [← ra.length, ← rb.length]; exact sz_ok h.2
        · subst e
          have : xs = [] := by have := ra.length; cases xs <;> simp at this ⊢
          subst this
          exact ho.imm ex (r2.ofImm im)
        · subst e
          have : ys = [] := by have := rb.length; cases ys <;> simp at this ⊢
          subst this
          rw [List.append_nil] at ho im
          exact ho.imm ex (r1.ofImm im)
        · exact ho (.ref p) _ G [] (Grow.of (same_upd hp) ex) ⟨(Rep.tup (SqT.of upd_same) ((reps_append ra rb).stay (Pres.of_same (same_upd hp)) fun _ z => z)).ofImm im, (fun _ => rfl), .nil, fun a m => nomatch m⟩
      · exact ho.elim
    | _ => exact ho.elim
  | _ => exact ho.elim

/-! ### ==, in -/
mutual
def D.eqv : D → D → Bool
  | .non, .non => true
  | .bl a, .bl b => a == b
  | .bl a, .int j => (if a then 1 else 0) == j
  | .int i, .bl b => i == (if b then 1 else 0)
  | .int i, .int j => i == j
  | .str a, .str b => a == b
  | .lst xs, .lst ys => eqvs xs ys
  | .tup xs, .tup ys => eqvs xs ys
  | _, _ => false
def eqvs : List D → List D → Bool
  | [], [] => true
  | x :: xs, y :: ys => D.eqv x y && eqvs xs ys
  | _, _ => false
end
/-- data that == may be asked of, n levels deep -/
def okD : Nat → D → Bool
  | _, .non => true
  | _, .bl _ => true
  | _, .int _ => true
  | _, .str l => l.all (· < 128)
  | n + 1, .lst ds => ds.all (okD n)
  | n + 1, .tup ds => ds.all (okD n)
  | _, _ => false
def pd : Nat → D → PyData
  | _, .bl b => .bool b
  | _, .int i => .int i
  | _, .str l => .str ⟨l.toArray⟩
  | n + 1, .lst ds => .list (ds.map (pd n))
  | n + 1, .tup ds => .tuple (ds.map (pd n))
  | _, _ => .none
theorem canLayAll_of {ps : List PyData} (h : ∀ p ∈ ps, p.canLay0 = true) : PyData.canLayAll0 ps = true := by
  induction ps with
  | nil => simp [PyData.canLayAll0]
  | cons p ps ih => simp [PyData.canLayAll0, h p (by simp), ih fun q hq => h q (by simp [hq])]
theorem depthAll_of {ps : List PyData} {n : Nat} (h : ∀ p ∈ ps, p.depth ≤ n) : PyData.depthAll ps ≤ n := by
  induction ps with
  | nil => simp [PyData.depthAll]
  | cons p ps ih =>
    have h1 := h p (by simp)
    have h2 := ih fun q hq => h q (by simp [hq])
    simp [PyData.depthAll]; omega
theorem pd_ok : ∀ (n : Nat) (d : D), okD n d = true → (pd n d).canLay0 = true ∧ (pd n d).depth ≤ n
  | n, .non, _ => by cases n <;> simp [pd, PyData.canLay0, PyData.depth]
  | n, .bl b, _ => by cases n <;> simp [pd, PyData.canLay0, PyData.depth]
  | n, .int i, _ => by cases n <;> simp [pd, PyData.canLay0, PyData.depth]
  | n, .str l, h => by
    have h' : l.all (· < 128) = true := by cases n <;> exact h
    have : PyData.strOk ⟨l.toArray⟩ = true := by
      simp only [PyData.strOk, List.all_eq_true, decide_eq_true_eq] at h' ⊢
      simp only [List.all_toArray, List.all_eq_true, decide_eq_true_eq]
      intro x hx
      have := h' x hx
      omega
    cases n <;> simp [pd, PyData.canLay0, PyData.depth, this]
  | n + 1, .lst ds, h => by
    have h' : ∀ d ∈ ds, okD n d = true := by simpa [okD] using h
    have a : ∀ p ∈ ds.map (pd n), p.canLay0 = true ∧ p.depth ≤ n := fun p hp => by
      obtain ⟨d, hd, rfl⟩ := List.mem_map.mp hp
      exact pd_ok n d (h' d hd)
    have b := depthAll_of fun p hp => (a p hp).2
    simp only [pd, PyData.canLay0, PyData.depth]
    exact ⟨canLayAll_of fun p hp => (a p hp).1, by omega⟩
  | n + 1, .tup ds, h => by
    have h' : ∀ d ∈ ds, okD n d = true := by simpa [okD] using h
    have a : ∀ p ∈ ds.map (pd n), p.canLay0 = true ∧ p.depth ≤ n := fun p hp => by
      obtain ⟨d, hd, rfl⟩ := List.mem_map.mp hp
      exact pd_ok n d (h' d hd)
    have b := depthAll_of fun p hp => (a p hp).2
    simp only [pd, PyData.canLay0, PyData.depth]
    exact ⟨canLayAll_of fun p hp => (a p hp).1, by omega⟩
  | 0, .lst ds, h => by cases h
  | 0, .tup ds, h => by cases h
  | n, .ty _, h => by cases n <;> cases h
  | n, .scr _, h => by cases n <;> cases h
  | n, .dct _ _, h => by cases n <;> cases h
  | n, .ins _ _ _, h => by cases n <;> cases h
  | n, .exc _ _ _, h => by cases n <;> cases h
theorem dpAll_of {ds : List D} {n : Nat} (f : ∀ d ∈ ds, ∀ v M, Rep K mg H G d v M → Dp K H v (pd n d)) : ∀ {vs : List V} {M : List Addr}, Reps K mg H G ds vs M → DpAll K H vs (ds.map (pd n)) := by
  induction ds with
  | nil => intro vs M r; cases r; exact .nil
  | cons d ds ih =>
    intro vs M r
    cases r with
    | cons h t => exact .cons (f d (by simp) _ _ h) (ih (fun d' hd => f d' (by simp [hd])) t)
theorem pd_dp : ∀ (n : Nat) (d : D), okD n d = true → ∀ v M, Rep K mg H G d v M → Dp K H v (pd n d)
  | n, .non, _, v, M, r => by cases r; cases n <;> exact .non
  | n, .bl b, _, v, M, r => by cases r; cases n <;> exact .bl b
  | n, .int i, _, v, M, r => by cases r; cases n <;> exact .int i
  | n, .str l, h, v, M, r => by
    cases r with
    | str x =>
      have : pd n (.str x.cps.toList) = .str x := by cases n <;> rfl
      rw [this]; exact .str x
  | n + 1, .lst ds, h, v, M, r => by
    have h' : ∀ d ∈ ds, okD n d = true := by simpa [okD] using h
    obtain ⟨a, vs, M', rfl, ha, rs, _⟩ := lst_inv r
    exact .lst (SqL.of ha) (dpAll_of (fun d hd v M r => pd_dp n d (h' d hd) v M r) rs)
  | n + 1, .tup ds, h, v, M, r => by
    have h' : ∀ d ∈ ds, okD n d = true := by simpa [okD] using h
    obtain ⟨a, vs, rfl, ha, rs⟩ := tup_inv r
    exact .tup ha (dpAll_of (fun d hd v M r => pd_dp n d (h' d hd) v M r) rs)
  | 0, .lst ds, h, _, _, _ => by cases h
  | 0, .tup ds, h, _, _, _ => by cases h
  | n, .ty _, h, _, _, _ => by cases n <;> cases h
  | n, .scr _, h, _, _, _ => by cases n <;> cases h
  | n, .dct _ _, h, _, _, _ => by cases n <;> cases h
  | n, .ins _ _ _, h, _, _, _ => by cases n <;> cases h
  | n, .exc _ _ _, h, _, _, _ => by cases n <;> cases h
theorem eqvs_of {n : Nat} (f : ∀ d e, okD n d = true → okD n e = true → (pd n d).eqv (pd n e) = D.eqv d e) : ∀ {ds es : List D}, (∀ d ∈ ds, okD n d = true) → (∀ d ∈ es, okD n d = true) → PyData.eqvAll (ds.map (pd n)) (es.map (pd n)) = eqvs ds es
  | [], [], _, _ => by simp [PyData.eqvAll, eqvs]
  | d :: ds, [], _, _ => by simp [PyData.eqvAll, eqvs]
  | [], e :: es, _, _ => by simp [PyData.eqvAll, eqvs]
  | d :: ds, e :: es, h1, h2 => by
    simp only [List.map_cons, PyData.eqvAll, eqvs]
    rw [f d e (h1 d (by simp)) (h2 e (by simp)), eqvs_of f (fun d' hd => h1 d' (by simp [hd])) fun d' hd => h2 d' (by simp [hd])]
theorem str_beq (a b : List Nat) : ((⟨a.toArray⟩ : Str) == ⟨b.toArray⟩) = (a == b) := by
  rw [Bool.eq_iff_iff, beq_iff_eq, beq_iff_eq]
  exact ⟨fun h => by injection h with h; exact Array.toList_inj.mpr h, fun h => by rw [h]⟩
theorem pd_eqv : ∀ (n : Nat) (d e : D), okD n d = true → okD n e = true → (pd n d).eqv (pd n e) = D.eqv d e := by
  intro n
  induction n with
  | zero =>
    intro d e h1 h2
    cases d <;> cases e <;> first | (cases h1; done) | (cases h2; done) | simp [pd, PyData.eqv, D.eqv, str_beq]
  | succ n ih =>
    intro d e h1 h2
    cases d <;> cases e <;> first
      | (cases h1; done)
      | (cases h2; done)
      | (simp only [pd, PyData.eqv, D.eqv, str_beq]; done)
      | (simp only [pd, PyData.eqv, D.eqv]
         simp only [okD, List.all_eq_true] at h1 h2
         exact eqvs_of ih h1 h2)
def scalD : D → D → Option Bool
  | .non, .non => some true | .non, .int _ => some false | .int _, .non => some false | .non, .bl _ => some false | .bl _, .non => some false | .non, .str _ => some false | .str _, .non => some false
  | .int i, .int j => some (decide (i = j)) | .bl a, .bl b => some (decide (a = b)) | .str a, .str b => some (decide (a = b))
  | .int _, .str _ => some false | .str _, .int _ => some false | .bl _, .str _ => some false | .str _, .bl _ => some false
  | _, _ => none
def eqD (d e : D) : Option Bool := match scalD d e with
  | some b => some b
  | none => if (okD 8 d && okD 8 e) = true then some (D.eqv d e) else none
def oEq (d e : D) : Option D := (eqD d e).map D.bl
def oNe (d e : D) : Option D := (eqD d e).map fun b => D.bl (!b)
theorem scal_of {d e : D} {v u : V} {b : Bool} (r1 : Rep K mg H G d v []) (r2 : Rep K mg H G e u []) (h : scalD d e = some b) : scal v u = true ∧ decide (v = u) = b := by
  cases d <;> cases e <;> first | (cases h; done) | skip
  all_goals (cases r1; cases r2; cases h)
  all_goals refine ⟨rfl, ?_⟩
  all_goals first
    | rfl
    | (rw [Bool.eq_iff_iff, decide_eq_true_eq, decide_eq_true_eq]
       exact ⟨fun q => by injection q, fun q => by rw [q]⟩)
    | (rw [Bool.eq_iff_iff, decide_eq_true_eq, decide_eq_true_eq]
       exact ⟨fun q => by injection q with q; rw [q], fun q => by rw [TL.ext_tl q]⟩)
def rEqDD (K : PySem.W.Frag) : R2 := fun x y H Q => rEq x y H Q ∨ rEqD K x y H Q
def rNeDD (K : PySem.W.Frag) : R2 := fun x y H Q => rNe x y H Q ∨ rNeD K x y H Q
theorem op_eqDD (hu : X.A.units + 64 < cLine) : OpR X (compareOp .Eq) (rEqDD X.K) := op_eq.or (op_eqD hu)
theorem op_neDD (hu : X.A.units + 64 < cLine) : OpR X (compareOp .NotEq) (rNeDD X.K) := op_ne.or (op_neD hu)
theorem shaped_pd {d : D} (h : okD 8 d = true) : SeqAt.shaped (pd 8 d) = true := by
  obtain ⟨h1, h2⟩ := pd_ok 8 d h
  unfold SeqAt.shaped
  rw [h1, decide_eq_true (by omega : (pd 8 d).depth ≤ 64)]; rfl
theorem od_eq : OpD K mg .O (rEqDD K) oEq := by
  intro W σ H G Q d e v u r1 r2 ex ho
  unfold oEq eqD at ho
  cases h : scalD d e with
  | some b =>
    rw [h] at ho
    obtain ⟨h1, h2⟩ := scal_of r1 r2 h
    exact .inl ⟨h1, h2 ▸ OutOk.imm (d := .bl b) ho ex (.bl b)⟩
  | none =>
    rw [h] at ho
    simp only at ho
    split at ho
    · rename_i c
      rw [Bool.and_eq_true] at c
      refine .inr ⟨_, _, pd_dp 8 d c.1 v _ r1, pd_dp 8 e c.2 u _ r2, shaped_pd c.1, shaped_pd c.2, ?_⟩
      rw [pd_eqv 8 d e c.1 c.2]
      exact OutOk.imm (d := .bl (D.eqv d e)) ho ex (.bl _)
    · exact ho.elim
theorem od_ne : OpD K mg .O (rNeDD K) oNe := by
  intro W σ H G Q d e v u r1 r2 ex ho
  unfold oNe eqD at ho
  cases h : scalD d e with
  | some b =>
    rw [h] at ho
    obtain ⟨h1, h2⟩ := scal_of r1 r2 h
    exact .inl ⟨h1, h2 ▸ OutOk.imm (d := .bl (!b)) ho ex (.bl _)⟩
  | none =>
    rw [h] at ho
    simp only at ho
    split at ho
    · rename_i c
      rw [Bool.and_eq_true] at c
      refine .inr ⟨_, _, pd_dp 8 d c.1 v _ r1, pd_dp 8 e c.2 u _ r2, shaped_pd c.1, shaped_pd c.2, ?_⟩
      rw [pd_eqv 8 d e c.1 c.2]
      exact OutOk.imm (d := .bl (!D.eqv d e)) ho ex (.bl _)
    · exact ho.elim
end
end DL
end

section
/-! DL: subscripts, slices, in, built-ins, methods of texts. -/
namespace DL
open PySem L2
open PyProof.Rows (envOfC)

section
variable {X : Cx} {K : PySem.W.Frag} {mg : MG} {W : WX} {k : Kd} {ks : List Kd} {σ : St} {H H' : Hp} {ρ : Sl} {G G' : GA} {M : List Addr} {Q : VK} {e a b : Expr} {f g : Ev} {pos : Pos}

theorem Reps.at : ∀ {ds : List D} {vs : List V} {i : Nat} {d : D}, Reps K mg H G ds vs [] → ds[i]? = some d → ∃ v, vs[i]? = some v ∧ Rep K mg H G d v []
  | [], _, _, _, _, e => by simp at e
  | d :: ds, vs, i, d', r, e => by
    obtain ⟨v, vs', rfl, r1, r2⟩ := r.cons_inv
    cases i with
    | zero => simp at e; subst e; exact ⟨v, rfl, r1⟩
    | succ i => simpa using Reps.at r2 (by simpa using e)
theorem Reps.atI {ds : List D} {vs : List V} {i : Int} {d : D} (r : Reps K mg H G ds vs []) (e : atI ds i = some d) : ∃ v, atI vs i = some v ∧ Rep K mg H G d v [] := by
  unfold L2.atI at e ⊢
  rw [← r.length]
  cases h : ixN ds.length i with
  | none => rw [h] at e; cases e
  | some j =>
    rw [h] at e
    exact r.at e
theorem Reps.take : ∀ {ds : List D} {vs : List V} (n : Nat), Reps K mg H G ds vs [] → Reps K mg H G (ds.take n) (vs.take n) []
  | ds, vs, 0, r => by simpa using Reps.nil
  | [], vs, n + 1, r => by
    generalize hM : ([] : List Addr) = M at r
    cases r
    simpa using Reps.nil
  | d :: ds, vs, n + 1, r => by
    obtain ⟨v, vs', rfl, r1, r2⟩ := r.cons_inv
    exact .cons (M := []) (M' := []) r1 (Reps.take n r2)
theorem Reps.drop : ∀ {ds : List D} {vs : List V} (n : Nat), Reps K mg H G ds vs [] → Reps K mg H G (ds.drop n) (vs.drop n) []
  | ds, vs, 0, r => r
  | [], vs, n + 1, r => by
    generalize hM : ([] : List Addr) = M at r
    cases r
    simpa using Reps.nil
  | d :: ds, vs, n + 1, r => by
    obtain ⟨v, vs', rfl, r1, r2⟩ := r.cons_inv
    exact Reps.drop n r2
theorem reps_snoc0 {ds : List D} {vs : List V} {d : D} {v : V} (r : Reps K mg H G ds vs []) (q : Rep K mg H G d v []) : Reps K mg H G (ds ++ [d]) (vs ++ [v]) [] := reps_append r (.cons (M := []) (M' := []) q .nil)
theorem Reps.rev : ∀ {ds : List D} {vs : List V}, Reps K mg H G ds vs [] → Reps K mg H G ds.reverse vs.reverse []
  | [], vs, r => by
    generalize hM : ([] : List Addr) = M at r
    cases r
    exact .nil
  | d :: ds, vs, r => by
    obtain ⟨v, vs', rfl, r1, r2⟩ := r.cons_inv
    rw [List.reverse_cons, List.reverse_cons]
    exact reps_snoc0 (Reps.rev r2) r1
theorem imms_all : ∀ {ds : List D}, imms ds = true ↔ ∀ d ∈ ds, d.imm = true
  | [] => by simp [imms, D.imm.imms]
  | d :: ds => by
    show (d.imm && imms ds) = true ↔ _
    rw [Bool.and_eq_true, imms_all]
    simp

/-! ### subscripts -/
def oIx : D → D → Option D
  | .lst xs, .int i => atI xs i
  | .tup xs, .int i => atI xs i
  | .str l, .int i => if l.length ≤ 1000000 then (atI l i).map fun c => .str [c] else none
  | .scr ns, .int i => (atI ns i).map D.int
  | _, _ => none
theorem atI_map {α β : Type} (f : α → β) (xs : List α) (i : Int) : atI (xs.map f) i = (atI xs i).map f := by
  unfold atI
  rw [List.length_map]
  cases ixN xs.length i with
  | none => rfl
  | some j => simp
theorem od_ix : OpD K mg .F (rIx K) oIx := by
  intro W σ H G Q d1 d2 v1 v2 r1 r2 ex ho
  cases d2 with
  | int i =>
    cases r2
    cases d1 with
    | lst xs =>
      obtain ⟨a, vs, rfl, ha, rs⟩ := lst_inv0 r1
      replace ho : OutOk K mg W .F σ H G (Res.of (atI xs i)) Q := ho
      cases e : atI xs i with
      | none => rw [e] at ho; exact ho.elim
      | some d =>
        rw [e] at ho
        obtain ⟨v, h1, h2⟩ := rs.atI e
        exact .inl ⟨a, vs, i, v, rfl, rfl, SqL.of ha, h1, OutOk.F (d := d) ho ex h2⟩
    | tup xs =>
      obtain ⟨a, vs, rfl, ha, rs⟩ := tup_inv r1
      replace ho : OutOk K mg W .F σ H G (Res.of (atI xs i)) Q := ho
      cases e : atI xs i with
      | none => rw [e] at ho; exact ho.elim
      | some d =>
        rw [e] at ho
        obtain ⟨v, h1, h2⟩ := rs.atI e
        exact .inr (.inl ⟨a, vs, i, v, rfl, rfl, ha, h1, OutOk.F (d := d) ho ex h2⟩)
    | str l =>
      obtain ⟨x, rfl, rfl⟩ := str_inv r1
      replace ho : OutOk K mg W .F σ H G (Res.of (if x.cps.toList.length ≤ 1000000 then (atI x.cps.toList i).map fun c => .str [c] else none)) Q := ho
      split at ho
      · rename_i hl
        cases e : atI x.cps.toList i with
        | none => rw [e] at ho; exact ho.elim
        | some c =>
          rw [e] at ho
          exact .inr (.inr ⟨x, i, c, rfl, rfl, by rw [slen]; exact sz_ok hl, e, OutOk.F (d := .str [c]) ho ex (rep_str (x := ⟨#[c]⟩) rfl)⟩)
      · exact ho.elim
    | scr ns =>
      replace ho : OutOk K mg W .F σ H G (Res.of ((atI ns i).map D.int)) Q := ho
      cases r1 with
      | scr h =>
        cases e : atI ns i with
        | none => rw [e] at ho; exact ho.elim
        | some n =>
          rw [e] at ho
          exact .inl ⟨_, _, i, .int n, rfl, rfl, h.sq, by rw [atI_map, e]; rfl, OutOk.F (d := .int n) ho ex (.int n)⟩
    | _ => exact ho.elim
  | _ => cases d1 <;> exact ho.elim

/-! ### slices -/
abbrev Pv := Sl → Res (Option Int)
def tDO (X : Cx) (W : WX) (ks : List Kd) (f : Pv) : TO := fun σ H Q => ∃ ρ G M, StOk X.K X.mg ks σ H ρ G M ∧ match f ρ with
  | .ok b => ∀ H' G', Grow H G H' G' → Q b H'
  | .exn x => ∀ H' cls dd, Same H H' → ExRep X.K X.mg H' x cls dd → W cls dd σ H'
  | .no => False
def DO (X : Cx) (W : WX) (ks : List Kd) (e : Option Expr) (f : Pv) : Prop := PO X e (tDO X W ks f)
theorem PO_imp {X : Cx} {e : Option Expr} {t t' : TO} (h : PO X e t) (i : ∀ σ H Q, t' σ H Q → t σ H Q) : PO X e t' := by
  obtain ⟨h⟩ := h
  exact ⟨fun pins s σ H Q I q => h pins s σ H Q I (i σ H Q q)⟩
def pN : Pv := fun _ => .ok none
def pS (f : Ev) : Pv := fun ρ => (f ρ).bind fun d => match d with
  | .int i => .ok (some i)
  | _ => .no
theorem do_none : DO X W ks none pN := PO_imp po_none fun σ H Q ⟨ρ, G, M, S, ho⟩ => ho H G (Grow.refl S.ex)
theorem do_some (h : DE X W ks .F e f) : DO X W ks (some e) (pS f) := PO_imp (po_some h) fun σ H Q ⟨ρ, G, M, S, ho⟩ => ⟨ρ, G, M, S, by
  unfold pS at ho
  cases er : f ρ with
  | no => rw [er] at ho; exact ho.elim
  | exn x => rw [er] at ho; exact ho
  | ok d =>
    rw [er] at ho
    intro v H' G' M' gr vr
    obtain rfl := vr.fr rfl
    have rp := vr.rep
    cases d <;> first | exact ho.elim | skip
    cases rp
    exact ⟨_, rfl, ho H' G' gr⟩⟩
def cutD {α : Type} (xs : List α) (lo hi : Option Int) : List α := (xs.drop (HT.sIx xs.length 0 lo)).take (HT.sIx xs.length xs.length hi - HT.sIx xs.length 0 lo)
def cutL (xs : List D) (lo hi : Option Int) : Option D := if imms xs = true then some (.lst (cutD xs lo hi)) else none
def cutT (xs : List D) (lo hi : Option Int) : Option D := if imms xs = true then some (.tup (cutD xs lo hi)) else none
def cutX (l : List Nat) (lo hi : Option Int) : Option D := if l.length ≤ 1000000 then some (.str (cutD l lo hi)) else none
def oCut : D → Option Int → Option Int → Option D
  | .lst xs, lo, hi => cutL xs lo hi
  | .tup xs, lo, hi => cutT xs lo hi
  | .str l, lo, hi => cutX l lo hi
  | _, _, _ => none
def rSlD (K : PySem.W.Frag) : V → Option Int → Option Int → Hp → VK → Prop := fun x lo hi H Q => (rSlL K x lo hi H Q ∨ rSlA K x lo hi H Q) ∨ rSlS x lo hi H Q
theorem sl_D : SlR X (rSlD X.K) := (sl_list.or sl_tupA).or sl_str
theorem imms_cut {xs : List D} (h : imms xs = true) (lo hi : Option Int) : imms (cutD xs lo hi) = true := imms_all.mpr fun d hd => imms_all.mp h d (List.mem_of_mem_drop (List.mem_of_mem_take hd))
theorem od_cut {d : D} {lo hi : Option Int} {v : V} (r : Rep K mg H G d v []) (ex : ∀ a, G a → H a ≠ none) (ho : OutOk K mg W .O σ H G (Res.of (oCut d lo hi)) Q) : rSlD K v lo hi H Q := by
  cases d with
  | lst xs =>
    obtain ⟨a, vs, rfl, ha, rs⟩ := lst_inv0 r
    replace ho : OutOk K mg W .O σ H G (Res.of (cutL xs lo hi)) Q := ho
    unfold cutL at ho
    split at ho
    · rename_i hi'
      refine .inl (.inl ⟨a, vs, rfl, SqL.of ha, fun p hp => OutOk.lstO ho ex hp ?_ (imms_cut hi' lo hi)⟩)
      unfold cutD cutV
      rw [rs.length]
      exact (rs.drop _).take _
    · exact ho.elim
  | tup xs =>
    obtain ⟨a, vs, rfl, ha, rs⟩ := tup_inv r
    replace ho : OutOk K mg W .O σ H G (Res.of (cutT xs lo hi)) Q := ho
    unfold cutT at ho
    split at ho
    · rename_i hi'
      have im : D.imm (.tup (cutD xs lo hi)) = true := imms_cut hi' lo hi
      refine .inl (.inr ⟨a, vs, rfl, ha, fun hw => ?_, fun _ p hp => ?_⟩)
      · have e : cutD xs lo hi = xs := by
          unfold cutD
          rw [rs.length, hw.1, hw.2, List.drop_zero, Nat.sub_zero, ← rs.length, List.take_length]
        rw [e] at ho im
        exact ho.imm ex (r.ofImm im)
      · refine ho (.ref p) _ G [] (Grow.of (same_upd hp) ex) ⟨(Rep.tup (SqT.of upd_same) (Reps.stay (G := G) (M := []) ?_ (Pres.of_same (same_upd hp)) fun _ z => z)).ofImm im, (fun _ => rfl), .nil, fun a m => nomatch m⟩
        unfold cutD cutV
        rw [rs.length]
        exact (rs.drop _).take _
    · exact ho.elim
  | str l =>
    obtain ⟨x, rfl, rfl⟩ := str_inv r
    replace ho : OutOk K mg W .O σ H G (Res.of (cutX x.cps.toList lo hi)) Q := ho
    unfold cutX at ho
    split at ho
    · rename_i hl
      refine .inr ⟨x, rfl, by rw [slen]; exact sz_ok hl, OutOk.imm (d := .str (cutD x.cps.toList lo hi)) ho ex (rep_str ?_)⟩
      unfold cutS cutD
      rw [slen]
    · exact ho.elim
  | _ => exact ho.elim
def eCut (f : Ev) (p q : Pv) : Ev := fun ρ => (f ρ).bind fun d => (p ρ).bind fun lo => (q ρ).bind fun hi => Res.of (oCut d lo hi)
theorem tDO_then {α : Type} {p : Pv} {c : Option Int → Res D} {P : Option Int → Hp → Prop} (S : StOk X.K X.mg ks σ H ρ G M) (ho : OutOk X.K X.mg W k σ H G ((p ρ).bind c) Q)
    (hk : ∀ o H1 G1, Grow H G H1 G1 → StOk X.K X.mg ks σ H1 ρ G1 M → OutOk X.K X.mg W k σ H1 G1 (c o) Q → P o H1) : tDO X W ks p σ H P := by
  refine ⟨ρ, G, M, S, ?_⟩
  cases e : p ρ with
  | ok d =>
    rw [e] at ho
    exact fun H' G' gr => hk d H' G' gr (S.grow gr) (OutOk.grow (r := c d) ho gr)
  | exn x => rw [e] at ho; exact ho
  | no => rw [e] at ho; exact ho.elim
theorem de_cut {lo hi : Option Expr} {p q : Pv} {p2 : Pos} (he : DE X W ks .F e f) (hl : DO X W ks lo p) (hh : DO X W ks hi q) : DE X W ks .O (.Subscript e (.Slice lo hi none p2) pos) (eCut f p q) :=
  PE_imp (pe_slice sl_D he hl hh) fun σ H Q ⟨ρ, G, M, S, ho⟩ => tD_then (f := f) S ho fun d v H1 G1 _ gr rp S1 ho1 => tDO_then (α := Unit) (p := p) S1 ho1 fun lo H2 G2 gr2 S2 ho2 => tDO_then (α := Unit) (p := q) S2 ho2 fun hi H3 G3 gr3 S3 ho3 => od_cut ((rp.grow gr2).grow gr3) S3.ex ho3
/-- xs[::-1] -/
def eRev (f : Ev) : Ev := fun ρ => (f ρ).bind fun d => match d with
  | .lst xs => if imms xs = true then .ok (.lst xs.reverse) else .no
  | _ => .no
theorem de_rev {j : Nat} {p1 p2 p3 : Pos} (he : DE X W ks .F e f) : DE X W ks .O (.Subscript e (.Slice none none (some (.UnaryOp .USub (.Constant (.int 1) j p1) p2)) p3) pos) (eRev f) :=
  PE_imp (pe_revL he) fun σ H Q ⟨ρ, G, M, S, ho⟩ => tD_then (f := f) S ho fun d v H1 G1 _ gr rp S1 ho1 => by
    cases d <;> first | exact ho1.elim | skip
    rename_i xs
    obtain ⟨a, vs, rfl, ha, rs⟩ := lst_inv0 rp
    simp only at ho1
    split at ho1
    · rename_i hi
      exact ⟨a, vs, rfl, SqL.of ha, fun p hp => OutOk.lstO ho1 S1.ex hp rs.rev (imms_all.mpr fun d hd => imms_all.mp hi d (List.mem_reverse.mp hd))⟩
    · exact ho1.elim

/-! ### in -/
def flatD : D → Bool
  | .non => true | .bl _ => true | .int _ => true | .str _ => true | _ => false
theorem flat_rep {d : D} {v : V} {M : List Addr} (r : Rep K mg H G d v M) (h : flatD d = true) : flatV v = true := by
  cases r <;> first | rfl | (cases h; done)
theorem flat_reps : ∀ {ds : List D} {vs : List V} {M : List Addr}, Reps K mg H G ds vs M → ds.all flatD = true → vs.all flatV = true
  | _, _, _, .nil, _ => rfl
  | _, _, _, .cons r t, h => by
    simp only [List.all_cons, Bool.and_eq_true] at h ⊢
    exact ⟨flat_rep r h.1, flat_reps t h.2⟩
theorem eqV_D {d e : D} {v u : V} {M M' : List Addr} (r : Rep K mg H G d v M) (q : Rep K mg H G e u M') (h1 : flatD d = true) (h2 : flatD e = true) : eqV v u = D.eqv d e := by
  cases r <;> first | (cases h1; done) | skip
  all_goals cases q <;> first | (cases h2; done) | (simp [eqV, D.eqv]; done) | skip
  all_goals
    rename_i x y
    rw [show eqV (.str x) (.str y) = (x == y) from rfl]
    have := str_beq x.cps.toList y.cps.toList
    rw [show (⟨x.cps.toList.toArray⟩ : Str) = x from rfl, show (⟨y.cps.toList.toArray⟩ : Str) = y from rfl] at this
    rw [this]; simp [D.eqv]
theorem inV_D {d : D} {v : V} {M : List Addr} (r : Rep K mg H G d v M) (h : flatD d = true) : ∀ {ds : List D} {vs : List V} {M : List Addr}, Reps K mg H G ds vs M → ds.all flatD = true → inV v vs = ds.any fun y => D.eqv y d
  | _, _, _, .nil, _ => rfl
  | _, _, _, .cons q t, hf => by
    simp only [List.all_cons, Bool.and_eq_true] at hf
    unfold inV
    rw [List.any_cons, List.any_cons, eqV_D q r hf.1 h]
    exact congrArg _ (inV_D r h t hf.2)
def inF (d : D) (ds : List D) : Option Bool := if (flatD d && ds.all flatD) = true then some (ds.any fun y => D.eqv y d) else none
def inL (d : D) (ds : List D) : Option Bool := match inF d ds with
  | some b => some b
  | none => if (okD 8 d && ds.all (okD 8)) = true then some (ds.any fun y => D.eqv y d) else none
def inB : D → D → Option Bool
  | .str [c], .str l => some (decide (c ∈ l))
  | d, .tup ds => inF d ds
  | d, .lst ds => inL d ds
  | _, _ => none
def oIn (d e : D) : Option D := (inB d e).map D.bl
def oNotIn (d e : D) : Option D := (inB d e).map fun b => D.bl (!b)
def rInS (neg : Bool) : R2 := fun x y H Q => ∃ (c : Nat) (z : Str), x = .str ⟨#[c]⟩ ∧ y = .str z ∧ Q (.bl (if neg then !decide (c ∈ z.cps.toList) else decide (c ∈ z.cps.toList))) H
def rInX (K : PySem.W.Frag) (neg : Bool) : R2 := fun x y H Q => (rInS neg x y H Q ∨ rIn K neg x y H Q) ∨ (if neg then rNotInD K else rInD K) x y H Q
theorem op_inX (hu : X.A.units + 65 < cLine) : OpR X (compareOp .In) (rInX X.K false) := (op_in_sign.or op_in_seq).or (op_inD hu)
theorem op_notInX (hu : X.A.units + 65 < cLine) : OpR X (compareOp .NotIn) (rInX X.K true) := (op_notIn_sign.or op_notIn_seq).or (op_notInD hu)
theorem one_str {c : Nat} {v : V} (r : Rep K mg H G (.str [c]) v []) : v = .str ⟨#[c]⟩ := by
  obtain ⟨x, rfl, h⟩ := str_inv r
  exact congrArg V.str (TL.ext_tl h)
theorem shaped_lst {ds : List D} (h : ds.all (okD 8) = true) : SeqAt.shaped (.list (ds.map (pd 8))) = true := by
  have a : ∀ p ∈ ds.map (pd 8), p.canLay0 = true ∧ p.depth ≤ 8 := fun p hp => by
    obtain ⟨d, hd, rfl⟩ := List.mem_map.mp hp
    exact pd_ok 8 d (List.all_eq_true.mp h d hd)
  have b := depthAll_of fun p hp => (a p hp).2
  have h2 : (PyData.list (ds.map (pd 8))).depth ≤ 64 := by simp only [PyData.depth]; omega
  have h3 : (PyData.list (ds.map (pd 8))).canLay0 = true := by
    simp only [PyData.canLay0]
    exact canLayAll_of fun p hp => (a p hp).1
  unfold SeqAt.shaped
  rw [h3, decide_eq_true h2]; rfl
theorem od_inX {neg : Bool} : OpD K mg .O (rInX K neg) (fun d e => (inB d e).map fun b => D.bl (if neg then !b else b)) := by
  intro W σ H G Q d e v u r1 r2 ex ho
  have seq : ∀ ds vs p, u = .ref p → (SqL K H p vs ∨ SqT K H p vs) → Reps K mg H G ds vs [] → (flatD d && ds.all flatD) = true → OutOk K mg W .O σ H G (.ok (.bl (if neg then !(ds.any fun y => D.eqv y d) else ds.any fun y => D.eqv y d))) Q → rInX K neg v u H Q := fun ds vs p hu hq rs c ho => by
    rw [Bool.and_eq_true] at c
    refine .inl (.inr ⟨p, vs, hu, hq, flat_rep r1 c.1, flat_reps rs c.2, ?_⟩)
    rw [inV_D r1 c.1 rs c.2]
    exact OutOk.imm ho ex (.bl _)
  cases e with
  | str l =>
    cases d with
    | str s =>
      cases s with
      | nil => exact ho.elim
      | cons c s =>
        cases s with
        | cons _ _ => exact ho.elim
        | nil =>
          obtain ⟨z, rfl, rfl⟩ := str_inv r2
          have := one_str r1
          subst this
          exact .inl (.inl ⟨c, z, rfl, rfl, OutOk.imm (d := .bl (if neg then !decide (c ∈ z.cps.toList) else decide (c ∈ z.cps.toList))) ho ex (.bl _)⟩)
    | _ => exact ho.elim
  | tup ds =>
    replace ho : OutOk K mg W .O σ H G (Res.of ((inF d ds).map fun b => D.bl (if neg then !b else b))) Q := by
      cases d with
      | str s => cases s with
        | nil => exact ho
        | cons c s => cases s <;> exact ho
      | _ => exact ho
    unfold inF at ho
    obtain ⟨p, vs, rfl, ha, rs⟩ := tup_inv r2
    by_cases c : (flatD d && ds.all flatD) = true
    · rw [if_pos c] at ho
      exact seq ds vs p rfl (.inr ha) rs c ho
    · rw [if_neg c] at ho; exact ho.elim
  | lst ds =>
    replace ho : OutOk K mg W .O σ H G (Res.of ((inL d ds).map fun b => D.bl (if neg then !b else b))) Q := by
      cases d with
      | str s => cases s with
        | nil => exact ho
        | cons c s => cases s <;> exact ho
      | _ => exact ho
    unfold inL inF at ho
    obtain ⟨p, vs, rfl, ha, rs⟩ := lst_inv0 r2
    by_cases c : (flatD d && ds.all flatD) = true
    · rw [if_pos c] at ho
      exact seq ds vs p rfl (.inl (SqL.of ha)) rs c ho
    · rw [if_neg c] at ho
      by_cases c2 : (okD 8 d && ds.all (okD 8)) = true
      · replace ho : OutOk K mg W .O σ H G (Res.of ((if (okD 8 d && ds.all (okD 8)) = true then some (ds.any fun y => D.eqv y d) else none).map fun b => D.bl (if neg then !b else b))) Q := ho
        rw [if_pos c2] at ho
        rw [Bool.and_eq_true] at c2
        have h8 : ∀ y ∈ ds, okD 8 y = true := List.all_eq_true.mp c2.2
        have hany : (ds.map (pd 8)).any (fun z => PyData.eqv z (pd 8 d)) = ds.any fun y => D.eqv y d := by
          rw [List.any_map]
          have : ∀ l : List D, (∀ y ∈ l, okD 8 y = true) → l.any ((fun z => PyData.eqv z (pd 8 d)) ∘ pd 8) = l.any fun y => D.eqv y d := fun l => by
            induction l with
            | nil => intro _; rfl
            | cons y l ih =>
              intro hl
              rw [List.any_cons, List.any_cons, ih fun z hz => hl z (by simp [hz])]
              rw [Function.comp, pd_eqv 8 y d (hl y (by simp)) c2.1]
          exact this ds h8
        have r2' : Dp K H (.ref p) (.list (ds.map (pd 8))) := .lst (SqL.of ha) (dpAll_of (fun y hy v M r => pd_dp 8 y (h8 y hy) v M r) rs)
        have fin := OutOk.imm (d := .bl (if neg then !(ds.any fun y => D.eqv y d) else ds.any fun y => D.eqv y d)) ho ex (.bl _)
        refine .inr ?_
        cases neg with
        | true => exact ⟨_, _, pd_dp 8 d c2.1 v _ r1, r2', shaped_pd c2.1, shaped_lst c2.2, by rw [hany]; exact fin⟩
        | false => exact ⟨_, _, pd_dp 8 d c2.1 v _ r1, r2', shaped_pd c2.1, shaped_lst c2.2, by rw [hany]; exact fin⟩
      · replace ho : OutOk K mg W .O σ H G (Res.of ((if (okD 8 d && ds.all (okD 8)) = true then some (ds.any fun y => D.eqv y d) else none).map fun b => D.bl (if neg then !b else b))) Q := ho
        rw [if_neg c2] at ho; exact ho.elim
  | _ =>
    cases d with
    | str s => cases s with
      | nil => exact ho.elim
      | cons c s => cases s <;> exact ho.elim
    | _ => exact ho.elim
theorem od_in : OpD K mg .O (rInX K false) oIn := od_inX (neg := false)
theorem od_notIn : OpD K mg .O (rInX K true) oNotIn := od_inX (neg := true)

/-! ### is None -/
def isNonD : D → Bool
  | .non => true
  | _ => false
def oIsN (f : Ev) : Ev := fun ρ => (f ρ).bind fun d => .ok (.bl (isNonD d))
def oNotN (f : Ev) : Ev := fun ρ => (f ρ).bind fun d => .ok (.bl (!isNonD d))
theorem non_rep {d : D} {v : V} {M : List Addr} (r : Rep K mg H G d v M) : decide (v = .non) = isNonD d := by
  cases r <;> simp [isNonD]
theorem de_isN {j : Nat} {p : Pos} (ha : DE X W ks .F a f) : DE X W ks .O (.Compare a [.Is] [.Constant .none j p] pos) (oIsN f) := PE_imp (pe_cmp (pc_isN ha)) fun σ H Q ⟨ρ, G, M, S, ho⟩ => tD_then (f := f) S ho fun d v H1 G1 _ gr rp S1 ho1 => by
  rw [non_rep rp]; exact ho1.imm S1.ex (.bl _)
theorem de_notN {j : Nat} {p : Pos} (ha : DE X W ks .F a f) : DE X W ks .O (.Compare a [.IsNot] [.Constant .none j p] pos) (oNotN f) := PE_imp (pe_cmp (pc_notN ha)) fun σ H Q ⟨ρ, G, M, S, ho⟩ => tD_then (f := f) S ho fun d v H1 G1 _ gr rp S1 ho1 => by
  rw [non_rep rp]; exact ho1.imm S1.ex (.bl _)
theorem tB_test {Q : Bool → Hp → Prop} {f : Ev} {c : D → Bool} (S : StOk X.K X.mg ks σ H ρ G M) (ho : TOk X.K X.mg W σ H G (((f ρ).bind fun d => .ok (.bl (c d))).bind D.asB) Q) : TOk X.K X.mg W σ H G ((f ρ).bind fun d => .ok (c d)) Q := by
  cases e : f ρ with
  | ok d => rw [e] at ho; exact ho
  | exn x => rw [e] at ho; exact ho
  | no => rw [e] at ho; exact ho
theorem dt_isN {j : Nat} {p : Pos} (ha : DE X W ks .F a f) : DT X W ks (.Compare a [.Is] [.Constant .none j p] pos) (tB (oIsN f)) := PT_imp (pt_cmp (pc_isN ha)) fun σ H Q ⟨ρ, G, M, S, ho⟩ =>
  tD_test (f := f) S (tB_test S ho) fun d v H1 G1 _ gr rp S1 ho1 => ⟨_, rfl, by rw [non_rep rp]; exact ho1 H1 G1 (Grow.refl S1.ex)⟩
theorem dt_notN {j : Nat} {p : Pos} (ha : DE X W ks .F a f) : DT X W ks (.Compare a [.IsNot] [.Constant .none j p] pos) (tB (oNotN f)) := PT_imp (pt_cmp (pc_notN ha)) fun σ H Q ⟨ρ, G, M, S, ho⟩ =>
  tD_test (f := f) S (tB_test S ho) fun d v H1 G1 _ gr rp S1 ho1 => ⟨_, rfl, by rw [non_rep rp]; exact ho1 H1 G1 (Grow.refl S1.ex)⟩

/-! ### built-in functions and types -/
def CallD (K : PySem.W.Frag) (mg : MG) (k : Kd) (r : List V → Hp → VK → Prop) (o : List D → Option D) : Prop := ∀ {W : WX} {σ : St} {H : Hp} {G : GA} {Q : VK} {ds : List D} {vs : List V}, Reps K mg H G ds vs [] → (∀ a, G a → H a ≠ none) →
  OutOk K mg W k σ H G (Res.of (o ds)) Q → r vs H Q
def eBlt (o : List D → Option D) (g : Av) : Ev := fun ρ => (g ρ).bind fun ds => Res.of (o ds)
section
variable {es : List Expr} {g : Av} {o : List D → Option D} {r : List V → Hp → VK → Prop} {x : Str} {p : Pos} {id T : String}
theorem tCB_imp (hd : CallD X.K X.mg k r o) {Q : VK} (h : tD X W ks k (eBlt o g) σ H Q) : tCB r (tDA X W ks .F g) σ H Q := by
  obtain ⟨ρ, G, M, S, ho⟩ := h
  exact tDA_then S ho fun ds vs H1 G1 M1 e1 gr vr S1 ho1 => by
    obtain rfl := vr.fr rfl
    exact hd (vr.rep.weakG gk_le) S1.ex ho1
theorem de_blt (hr : CallR X (.builtin id) r) (hd : CallD X.K X.mg k r o) (hg : Gl X x) (hm : X.mg x = none) (hv : bootBuiltins x = some (.builtin id)) (ha : DA X W ks .F (e :: es) g) (hn : x ≠ "__name__" := by decide) (hdb : (x == ("__debug__" : Str)) = false := by decide)
    (he : starEach (e :: es) X.env = (false, eval e X.env) :: starEach es X.env := by rfl) (hpl : (backTo pos (starEach es X.env)).any (·.1) = false := by rfl) : DE X W ks k (.Call (.Name x p) (e :: es) [] pos) (eBlt o g) :=
  PE_imp (pe_callB hr hg hm hv ha.1 hn hdb he hpl) fun σ H Q h => tCB_imp hd h
theorem de_ty (hr : CallR X (.type T) r) (hd : CallD X.K X.mg k r o) (hg : Gl X x) (hm : X.mg x = none) (hv : bootBuiltins x = some (.type T)) (ha : DA X W ks .F (e :: es) g) (hn : x ≠ "__name__" := by decide) (hdb : (x == ("__debug__" : Str)) = false := by decide)
    (he : starEach (e :: es) X.env = (false, eval e X.env) :: starEach es X.env := by rfl) (hpl : (backTo pos (starEach es X.env)).any (·.1) = false := by rfl) : DE X W ks k (.Call (.Name x p) (e :: es) [] pos) (eBlt o g) :=
  PE_imp (pe_callTy hr hg hm hv ha.1 hn hdb he hpl) fun σ H Q h => tCB_imp hd h
end
theorem Reps.one {d : D} {vs : List V} (r : Reps K mg H G [d] vs []) : ∃ v, vs = [v] ∧ Rep K mg H G d v [] := by
  obtain ⟨v, vs', rfl, r1, r2⟩ := r.cons_inv
  generalize hM : ([] : List Addr) = M at r2
  cases r2
  exact ⟨v, rfl, r1⟩
theorem Reps.two {d d' : D} {vs : List V} (r : Reps K mg H G [d, d'] vs []) : ∃ v v', vs = [v, v'] ∧ Rep K mg H G d v [] ∧ Rep K mg H G d' v' [] := by
  obtain ⟨v, vs', rfl, r1, r2⟩ := r.cons_inv
  obtain ⟨v', rfl, r3⟩ := r2.one
  exact ⟨v, v', rfl, r1, r3⟩
def lenD : D → Option D
  | .lst xs => some (.int (xs.length : Int))
  | .tup xs => some (.int (xs.length : Int))
  | .str l => if l.length ≤ 1000000 then some (.int (l.length : Int)) else none
  | .scr ns => some (.int (ns.length : Int))
  | _ => none
def oLen : List D → Option D
  | [d] => lenD d
  | _ => none
def rLenD (K : PySem.W.Frag) : List V → Hp → VK → Prop := fun xs H Q => (∃ p ys, xs = [.ref p] ∧ (SqL K H p ys ∨ SqT K H p ys) ∧ Q (.int ys.length) H) ∨ (∃ z, xs = [.str z] ∧ z.length ≤ sizeLine ∧ Q (.int z.length) H)
theorem call_lenD' : CallR X (.builtin "len") (rLenD X.K) := call_len_seq.or call_len_str
theorem cd_len : CallD K mg .O (rLenD K) oLen := by
  intro W σ H G Q ds vs r ex ho
  cases ds with
  | nil => exact ho.elim
  | cons d ds =>
    cases ds with
    | cons _ _ => exact ho.elim
    | nil =>
      obtain ⟨v, rfl, r1⟩ := r.one
      replace ho : OutOk K mg W .O σ H G (Res.of (lenD d)) Q := ho
      cases d with
      | lst xs =>
        obtain ⟨a, us, rfl, ha, rs⟩ := lst_inv0 r1
        refine .inl ⟨a, us, rfl, .inl (SqL.of ha), ?_⟩
        rw [← rs.length]
        exact OutOk.imm (d := .int (xs.length : Int)) ho ex (.int _)
      | tup xs =>
        obtain ⟨a, us, rfl, ha, rs⟩ := tup_inv r1
        refine .inl ⟨a, us, rfl, .inr ha, ?_⟩
        rw [← rs.length]
        exact OutOk.imm (d := .int (xs.length : Int)) ho ex (.int _)
      | str l =>
        obtain ⟨x, rfl, rfl⟩ := str_inv r1
        replace ho : OutOk K mg W .O σ H G (Res.of (if x.cps.toList.length ≤ 1000000 then some (.int (x.cps.toList.length : Int)) else none)) Q := ho
        split at ho
        · rename_i hl
          exact .inr ⟨x, rfl, by rw [slen]; exact sz_ok hl, by rw [slen]; exact OutOk.imm (d := .int (x.cps.toList.length : Int)) ho ex (.int _)⟩
        · exact ho.elim
      | scr ns =>
        cases r1 with
        | scr h =>
          refine .inl ⟨_, _, rfl, .inl h.sq, ?_⟩
          rw [List.length_map]
          exact OutOk.imm (d := .int (ns.length : Int)) ho ex (.int _)
      | _ => exact ho.elim
/-! ### methods of built-in types -/
def MtD (K : PySem.W.Frag) (mg : MG) (k : Kd) (T : String) (r : V → List V → Hp → VK → Prop) (o : D → List D → Option D) : Prop := ∀ {W : WX} {σ : St} {H : Hp} {G : GA} {Q : VK} {d : D} {v : V} {ds : List D} {vs : List V}, Rep K mg H G d v [] → Reps K mg H G ds vs [] → (∀ a, G a → H a ≠ none) →
  OutOk K mg W k σ H G (Res.of (o d ds)) Q → r v vs H Q
def TyD (T : String) (d : D) : Bool := match d with
  | .str _ => T == "str" | .int _ => T == "int" | .lst _ => T == "list" | .scr _ => T == "list" | .dct _ _ => T == "dict" | _ => false
theorem tyD_rep {T : String} {d : D} {v : V} (r : Rep K mg H G d v []) (h : TyD T d = true) : tyV K T v H := by
  cases d with
  | str l => obtain ⟨x, rfl, _⟩ := str_inv r; exact beq_iff_eq.mp h
  | int i => cases r; exact beq_iff_eq.mp h
  | lst xs => obtain ⟨a, us, rfl, ha, rs⟩ := lst_inv0 r; exact .inl ⟨beq_iff_eq.mp h, _, SqL.of ha⟩
  | scr ns => cases r with | scr q => exact .inl ⟨beq_iff_eq.mp h, _, q.sq⟩
  | dct ks vs => 
    generalize hM : ([] : List Addr) = M at r
    cases r with
    | dctO q e r => cases hM
    | dctF q g e r => exact .inr (.inr (.inl ⟨beq_iff_eq.mp h, .inl ⟨_, q⟩⟩))
  | _ => cases h
def eMt (T : String) (o : D → List D → Option D) (f : Ev) (g : Av) : Ev := fun ρ => (f ρ).bind fun d => if TyD T d = true then (g ρ).bind fun ds => Res.of (o d ds) else .no
section
variable {es : List Expr} {g : Av} {o : D → List D → Option D} {r : V → List V → Hp → VK → Prop} {name : Str} {apos cpos : Pos} {id T : String} {oe : Expr}
theorem de_mt (pa : PlainAttrs T) (slot : Slot T name id) (hty : typeOf (.builtin id) = pure (.type "method_descriptor")) (hm : MtR X id r) (hd : MtD X.K X.mg k T r o) (ho : DE X W ks .F oe f) (ha : DA X W ks .F (e :: es) g)
    (hbase : attributeBase oe name X.env (eval oe X.env) = eval oe X.env := by rfl)
    (hfew : ((backTo cpos (starEach (e :: es) X.env)).all (fun x => !x.1) && (backToKw cpos (keywordEach [] X.env)).all (fun x => x.1.isSome)
      && decide ((e :: es).length + ([] : List Keyword).length + (if ([] : List Keyword).isEmpty then 0 else 1) < 30)) = true := by rfl)
    (hline : (apos.endLine == cpos.line) = true := by rfl) (hs : starEach (e :: es) X.env = (false, eval e X.env) :: starEach es X.env := by rfl) (hplain : (backTo cpos (starEach es X.env)).any (·.1) = false := by rfl) :
    DE X W ks k (.Call (.Attribute oe name apos) (e :: es) [] cpos) (eMt T o f g) :=
  PE_imp (pe_bm pa slot hty hm ho ha.1 hbase hfew hline hs hplain) fun σ H Q ⟨ρ, G, M, S, h⟩ => tD_then (f := f) S h fun d v H1 G1 _ gr rp S1 ho1 => by
    by_cases ht : TyD T d = true
    · rw [if_pos ht] at ho1
      refine ⟨tyD_rep rp ht, tDA_then S1 ho1 fun ds vs H2 G2 M2 e2 gr2 vr S2 ho2 => ?_⟩
      obtain rfl := vr.fr rfl
      exact hd (rp.grow gr2) (vr.rep.weakG gk_le) S2.ex ho2
    · rw [if_neg ht] at ho1; exact ho1.elim
end
/-! ### texts -/
def strsD : List D → Option (List (List Nat))
  | [] => some []
  | .str l :: ds => (strsD ds).map (l :: ·)
  | _ => none
theorem strs_rep : ∀ {ds : List D} {vs : List V} {ls : List (List Nat)}, Reps K mg H G ds vs [] → strsD ds = some ls → ∃ xs : List Str, vs = xs.map V.str ∧ xs.map TL.tl = ls
  | [], vs, ls, r, e => by
    generalize hM : ([] : List Addr) = M at r
    cases r
    cases e
    exact ⟨[], rfl, rfl⟩
  | d :: ds, vs, ls, r, e => by
    obtain ⟨v, vs', rfl, r1, r2⟩ := r.cons_inv
    cases d <;> first | (cases e; done) | skip
    rename_i l
    obtain ⟨x, rfl, rfl⟩ := str_inv r1
    cases e2 : strsD ds with
    | none => simp [strsD, e2] at e
    | some ls2 =>
      simp [strsD, e2] at e
      obtain ⟨xs, rfl, rfl⟩ := strs_rep r2 e2
      exact ⟨x :: xs, rfl, e⟩
/-- the parts, glued -/
def glue (s : List Nat) : List (List Nat) → List Nat
  | [] => []
  | [p] => p
  | p :: q :: r => p ++ (s ++ glue s (q :: r))
theorem glue_eq (s : List Nat) : ∀ ps, glue s ps = TL.joinL s ps
  | [] => rfl
  | [p] => rfl
  | p :: q :: r => by simp only [glue, TL.joinL, glue_eq s (q :: r)]
def joinD (s : List Nat) (ds : List D) : Option D := match strsD ds with
  | some ps => if (ps.map List.length).sum + ps.length * s.length ≤ 1000000 then some (.str (glue s ps)) else none
  | none => none
def oJoin : D → List D → Option D
  | .str s, [.lst ds] => joinD s ds
  | .str s, [.tup ds] => joinD s ds
  | _, _ => none
def rJoinD (K : PySem.W.Frag) : V → List V → Hp → VK → Prop := fun x xs H Q =>
    ∃ a p, ∃ ys : List Str, x = .str a ∧ xs = [.ref p] ∧ (SqL K H p (ys.map V.str) ∨ SqT K H p (ys.map V.str)) ∧ (ys.map (fun x => x.length)).sum + ys.length * a.length ≤ 16777216 ∧ Q (.str (Txt.join a ys)) H
theorem mt_joinD : MtR X "str.join" (rJoinD X.K) := mt_join
theorem md_join : MtD K mg .O "str" (rJoinD K) oJoin := by
  intro W σ H G Q d v ds vs r rs ex ho
  have fin : ∀ (a : Str) (es : List D) (us : List V), Reps K mg H G es us [] → OutOk K mg W .O σ H G (Res.of (joinD a.cps.toList es)) Q → ∃ ys : List Str, us = ys.map V.str ∧ (ys.map (fun x => x.length)).sum + ys.length * a.length ≤ 16777216 ∧ Q (.str (Txt.join a ys)) H := fun a es us r ho => by
    unfold joinD at ho
    cases e : strsD es with
    | none => rw [e] at ho; exact ho.elim
    | some ps =>
      rw [e] at ho
      obtain ⟨ys, rfl, rfl⟩ := strs_rep r e
      simp only at ho
      split at ho
      · rename_i hl
        refine ⟨ys, rfl, ?_, OutOk.imm (d := .str (glue a.cps.toList (ys.map TL.tl))) ho ex (rep_str ?_)⟩
        · have e1 : (ys.map TL.tl).map List.length = ys.map (fun x => x.length) := by
            rw [List.map_map]; exact List.map_congr_left fun y _ => (slen y).symm
          rw [e1, List.length_map, ← slen] at hl
          omega
        · rw [TL.join_eq, glue_eq]; exact TL.tl_join a ys
      · exact ho.elim
  cases d with
  | str s =>
    obtain ⟨a, rfl, rfl⟩ := str_inv r
    cases ds with
    | nil => exact ho.elim
    | cons d1 ds =>
      cases ds with
      | cons _ _ => cases d1 <;> exact ho.elim
      | nil =>
        obtain ⟨v1, rfl, r1⟩ := rs.one
        cases d1 with
        | lst es =>
          obtain ⟨p, us, rfl, hp, r2⟩ := lst_inv0 r1
          obtain ⟨ys, rfl, h1, h2⟩ := fin a es us r2 ho
          exact ⟨a, p, ys, rfl, rfl, .inl (SqL.of hp), h1, h2⟩
        | tup es =>
          obtain ⟨p, us, rfl, hp, r2⟩ := tup_inv r1
          obtain ⟨ys, rfl, h1, h2⟩ := fin a es us r2 ho
          exact ⟨a, p, ys, rfl, rfl, .inr hp, h1, h2⟩
        | _ => exact ho.elim
  | _ => exact ho.elim
/-- the parts between -/
def splitD (a b : List Nat) : Option D := if (b.all (· < 256) && !b.isEmpty && decide (a.length ≤ 1000000)) = true then some (.lst ((TL.spl b 0 [] a).map D.str)) else none
def oSplit : D → List D → Option D
  | .str a, [.str b] => splitD a b
  | _, _ => none
theorem reps_strs : ∀ (xs : List Str), Reps K mg H G ((xs.map TL.tl).map D.str) (xs.map V.str) []
  | [] => .nil
  | x :: xs => .cons (M := []) (M' := []) (.str x) (reps_strs xs)
theorem imms_strs (ls : List (List Nat)) : imms (ls.map D.str) = true := imms_all.mpr fun d hd => by
  obtain ⟨l, _, rfl⟩ := List.mem_map.mp hd
  rfl
theorem md_split : MtD K mg .O "str" (fun x xs H Q => ∃ a b, x = .str a ∧ xs = [.str b] ∧ (b.length == 0) = false ∧ a.length + 2 ≤ sizeLine ∧ rNewStrs (Txt.split a b) H Q) oSplit := by
  intro W σ H G Q d v ds vs r rs ex ho
  cases d <;> first | exact ho.elim | skip
  rename_i s
  obtain ⟨a, rfl, rfl⟩ := str_inv r
  cases ds with
  | nil => exact ho.elim
  | cons d1 ds =>
    cases ds with
    | cons _ _ => cases d1 <;> exact ho.elim
    | nil =>
      obtain ⟨v1, rfl, r1⟩ := rs.one
      cases d1 <;> first | exact ho.elim | skip
      obtain ⟨b, rfl, rfl⟩ := str_inv r1
      replace ho : OutOk K mg W .O σ H G (Res.of (splitD a.cps.toList b.cps.toList)) Q := ho
      unfold splitD at ho
      split at ho
      · rename_i c
        simp only [Bool.and_eq_true, decide_eq_true_eq, Bool.not_eq_true', List.isEmpty_eq_false_iff] at c
        refine ⟨a, b, rfl, rfl, ?_, ?_, fun p hp => ?_⟩
        · rw [slen]; simpa using c.1.2
        · rw [slen, sizeLine_eq]; omega
        · have hb : b.cps.all (· < 256) = true := by
            have := c.1.1
            rw [← Array.all_toList]; exact this
          have e := TL.split_spl a b c.1.2 (TL.kind_ok hb)
          refine OutOk.lstO (ds := (TL.spl b.cps.toList 0 [] a.cps.toList).map D.str) ho ex hp ?_ (imms_strs _)
          rw [← show (Txt.split a b).map TL.tl = TL.spl b.cps.toList 0 [] a.cps.toList from e]
          exact reps_strs _
      · exact ho.elim
/-- the first place of a sign -/
theorem occ_sign (z : Str) (c : Nat) : Builtin.Str.occurrences z ⟨#[c]⟩ 0 z.length 1 = (if c ∈ z.cps.toList then [z.cps.toList.idxOf c] else []) := by
  have at_iff : ∀ i, StrLaws.At z ⟨#[c]⟩ z.length i ↔ z.cps.toList[i]? = some c := fun i => StrLaws.subAt_one z c i
  have hlen := StrLaws.occ_length_le z ⟨#[c]⟩ 0 z.length 1
  rcases StrLaws.occ_head z ⟨#[c]⟩ 1 (Nat.le_refl 1) with ⟨h0, hn⟩ | ⟨i, r, h0, ha, hn⟩
  · rw [h0]
    have : c ∉ z.cps.toList := fun hm => by
      obtain ⟨i, hi⟩ := List.mem_iff_getElem?.mp hm
      exact hn i ((at_iff i).mpr hi)
    rw [if_neg this]
  · have hi := (at_iff i).mp ha
    have hm : c ∈ z.cps.toList := List.mem_of_getElem? hi
    rw [if_pos hm, h0]
    rw [h0] at hlen
    have hr : r = [] := by cases r with
      | nil => rfl
      | cons _ _ => simp at hlen
    subst hr
    congr 1
    have h1 : z.cps.toList.idxOf c ≤ i := by
      apply Classical.byContradiction
      intro hlt
      have hlt : i < z.cps.toList.idxOf c := Nat.lt_of_not_le hlt
      have := List.not_of_lt_findIdx (p := (· == c)) (xs := z.cps.toList) (i := i) hlt
      obtain ⟨hl, e⟩ := List.getElem?_eq_some_iff.mp hi
      simp [e] at this
    have h2 : ¬ z.cps.toList.idxOf c < i := fun hlt => by
      refine hn _ hlt ((at_iff _).mpr ?_)
      have := List.idxOf_lt_length_of_mem hm
      rw [List.getElem?_eq_getElem this, List.getElem_idxOf this]
    omega
def oFind : D → List D → Option D
  | .str a, [.str [c]] => some (.int (if c ∈ a then ((a.idxOf c : Nat) : Int) else -1))
  | _, _ => none
def oSIndex : D → List D → Option D
  | .str a, [.str [c]] => if c ∈ a then some (.int ((a.idxOf c : Nat) : Int)) else none
  | _, _ => none
theorem sign_args {ds : List D} {vs : List V} (rs : Reps K mg H G ds vs []) {P : Prop} (h : ∀ c, ds = [.str [c]] → vs = [.str ⟨#[c]⟩] → P) (n : (∀ c, ds ≠ [.str [c]]) → P) : P := by
  by_cases e : ∃ c, ds = [.str [c]]
  · obtain ⟨c, rfl⟩ := e
    obtain ⟨v, rfl, r⟩ := rs.one
    rw [one_str r] at *
    exact h c rfl rfl
  · exact n fun c q => e ⟨c, q⟩
theorem md_find : MtD K mg .O "str" (fun x xs H Q => ∃ a b, x = .str a ∧ xs = [.str b] ∧ Q (.int (Txt.find a b)) H) oFind := by
  intro W σ H G Q d v ds vs r rs ex ho
  cases d <;> first | (unfold oFind at ho; exact ho.elim) | skip
  rename_i s
  obtain ⟨a, rfl, rfl⟩ := str_inv r
  refine sign_args rs (fun c e1 e2 => ?_) fun n => ?_
  · subst e1; subst e2
    refine ⟨a, _, rfl, rfl, ?_⟩
    have e : Txt.find a ⟨#[c]⟩ = (if c ∈ a.cps.toList then ((a.cps.toList.idxOf c : Nat) : Int) else -1) := by
      unfold Txt.find
      rw [occ_sign]
      split <;> rename_i q <;> (split at q <;> simp_all)
    rw [e]
    exact OutOk.imm (d := .int (if c ∈ a.cps.toList then ((a.cps.toList.idxOf c : Nat) : Int) else -1)) ho ex (.int _)
  · have : oFind (.str a.cps.toList) ds = none := by
      unfold oFind
      split
      · rename_i c q; exact absurd rfl (n _)
      · rfl
    rw [this] at ho; exact ho.elim
theorem md_sindex : MtD K mg .O "str" (fun x xs H Q => ∃ a b i rest, x = .str a ∧ xs = [.str b] ∧ Builtin.Str.occurrences a b 0 a.length 1 = i :: rest ∧ Q (.int (i : Nat)) H) oSIndex := by
  intro W σ H G Q d v ds vs r rs ex ho
  cases d <;> first | (unfold oSIndex at ho; exact ho.elim) | skip
  rename_i s
  obtain ⟨a, rfl, rfl⟩ := str_inv r
  refine sign_args rs (fun c e1 e2 => ?_) fun n => ?_
  · subst e1; subst e2
    replace ho : OutOk K mg W .O σ H G (Res.of (if c ∈ a.cps.toList then some (.int ((a.cps.toList.idxOf c : Nat) : Int)) else none)) Q := ho
    split at ho
    · rename_i hm
      exact ⟨a, _, _, [], rfl, rfl, by rw [occ_sign, if_pos hm], OutOk.imm (d := .int ((a.cps.toList.idxOf c : Nat) : Int)) ho ex (.int _)⟩
    · exact ho.elim
  · have : oSIndex (.str a.cps.toList) ds = none := by
      unfold oSIndex
      split
      · rename_i c q; exact absurd rfl (n _)
      · rfl
    rw [this] at ho; exact ho.elim
end
end DL
end

section
/-! DL: the things that are walked. -/
namespace DL
open PySem L2
open PyProof.Rows (envOfC)

section
variable {X : Cx} {K : PySem.W.Frag} {mg : MG} {W : WX} {k : Kd} {ks : List Kd} {σ : St} {H H' : Hp} {ρ : Sl} {G G' : GA} {M : List Addr} {Q : VK} {e a b tg : Expr} {f g : Ev} {pos : Pos}
theorem lst_invF {ds : List D} {v : V} (r : Rep K mg H G (.lst ds) v []) : ∃ a vs, v = .ref a ∧ H a = some (.lst vs) ∧ G a ∧ Reps K mg H G ds vs [] := by
  generalize hM : ([] : List Addr) = M at r
  cases r with
  | lstO h r => cases hM
  | lstF h g r => exact ⟨_, _, rfl, h, g, r⟩
theorem pres_or {H1 H2 : Hp} (p : Pres G H1 H2) : Pres (fun a => G a ∨ a ∈ ([] : List Addr)) H1 H2 := fun a o e z => p a o e fun m => (z m).elim id fun w => nomatch w
theorem itD_list {ds : List D} {vs : List V} {a : Addr} (h : H a = some (.lst vs)) (hg : G a) (r : Reps K mg H G ds vs []) : ItD K mg (Itl K a) H G ds := fun i H2 p => by
  have h2 : SqL K H2 a vs := SqL.of (p a _ h fun _ => hg)
  have r2 : Reps K mg H2 G ds vs [] := r.stay (pres_or p) fun _ z => z
  refine ⟨fun d ed => ?_, fun hl => ⟨vs, h2, by rw [← r.length]; exact hl⟩⟩
  obtain ⟨v, h3, h4⟩ := r2.at ed
  refine ⟨⟨vs, v, h2, h3⟩, fun x H3 y => ?_⟩
  obtain ⟨rfl, y⟩ := y
  have e : x = v := Option.some.inj ((y vs h2).symm.trans h3)
  subst e
  exact ⟨Same.refl _, h4⟩
theorem itD_tup {ds : List D} {vs : List V} {a : Addr} (h : SqT K H a vs) (r : Reps K mg H G ds vs []) : ItD K mg (Itt K a) H G ds := fun i H2 p => by
  have h2 : SqT K H2 a vs := p.sqT h
  have r2 : Reps K mg H2 G ds vs [] := r.stay (pres_or p) fun _ z => z
  refine ⟨fun d ed => ?_, fun hl => ⟨vs, h2, by rw [← r.length]; exact hl⟩⟩
  obtain ⟨v, h3, h4⟩ := r2.at ed
  refine ⟨⟨vs, v, h2, h3⟩, fun x H3 y => ?_⟩
  obtain ⟨rfl, y⟩ := y
  have e : x = v := Option.some.inj ((y vs h2).symm.trans h3)
  subst e
  exact ⟨Same.refl _, h4⟩
theorem itD_str {x : Str} : ItD K mg (Its x) H G (x.cps.toList.map fun c => .str [c]) := fun i H2 p => by
  refine ⟨fun d ed => ?_, fun hl => by simpa [Its] using hl⟩
  simp only [List.getElem?_map] at ed
  cases ec : x.cps.toList[i]? with
  | none => rw [ec] at ed; cases ed
  | some c =>
    rw [ec] at ed
    cases ed
    have hl : i < x.cps.toList.length := (List.getElem?_eq_some_iff.mp ec).1
    refine ⟨by simpa [Its] using hl, fun v H3 y => ?_⟩
    obtain ⟨rfl, c', hc', rfl⟩ := y
    have : c' = c := by
      have h2 : x.cps[i]? = some c := by simpa using ec
      exact Option.some.inj (hc'.symm.trans h2)
    subst this
    exact ⟨Same.refl _, rep_str (x := ⟨#[c']⟩) rfl⟩
theorem itD_range {lo : Int} {n : Nat} : ItD K mg (Itr lo n) H G ((List.range n).map fun i => .int (lo + (i : Nat))) := fun i H2 p => by
  refine ⟨fun d ed => ?_, fun hl => by simpa [Itr] using hl⟩
  simp only [List.getElem?_map] at ed
  cases ec : (List.range n)[i]? with
  | none => rw [ec] at ed; cases ed
  | some c =>
    rw [ec] at ed
    cases ed
    obtain ⟨hl, e⟩ := List.getElem?_eq_some_iff.mp ec
    have hl' : i < n := by simpa using hl
    have : c = i := by rw [← e]; simp
    subst this
    refine ⟨hl', fun v H3 y => ?_⟩
    obtain ⟨rfl, rfl⟩ := y
    exact ⟨Same.refl _, .int _⟩
/-- a list, a tuple, a text -/
def itemsD : D → Res (List D)
  | .lst xs => .ok xs
  | .tup xs => .ok xs
  | .str l => .ok (l.map fun c => .str [c])
  | _ => .no
def ivD (f : Ev) : Sl → Res (List D) := fun ρ => (f ρ).bind itemsD
theorem di_any (he : DE X W ks .F e f) : DI X W ks tg e (ivD f) := ⟨fun pins s σ H R I ⟨ρ, G, M, S, h⟩ => by
  unfold ivD at h
  -- which kind of thing is walked is known ahead
  cases er : f ρ with
  | no => rw [er] at h; exact h.elim
  | exn x =>
    rw [er] at h
    refine (pi_list he).run pins s σ H R I ⟨ρ, G, M, S, ?_⟩
    rw [er]; exact h
  | ok d =>
    rw [er] at h
    cases d <;> first | exact h.elim | skip
    · refine (pi_str he).run pins s σ H R I ⟨ρ, G, M, S, ?_⟩
      rw [er]
      intro v H1 G1 M1 gr vr
      obtain rfl := vr.fr rfl
      obtain ⟨x, rfl, rfl⟩ := str_inv vr.rep
      exact ⟨x, rfl, h _ H1 G1 gr itD_str⟩
    · refine (pi_tup he).run pins s σ H R I ⟨ρ, G, M, S, ?_⟩
      rw [er]
      intro v H1 G1 M1 gr vr
      obtain rfl := vr.fr rfl
      obtain ⟨a, vs, rfl, ha, rs⟩ := tup_inv vr.rep
      exact ⟨a, rfl, ⟨vs, ha⟩, h _ H1 G1 gr (itD_tup ha rs)⟩
    · refine (pi_list he).run pins s σ H R I ⟨ρ, G, M, S, ?_⟩
      rw [er]
      intro v H1 G1 M1 gr vr
      obtain rfl := vr.fr rfl
      obtain ⟨a, vs, rfl, ha, hg, rs⟩ := lst_invF vr.rep
      exact ⟨a, rfl, ⟨vs, SqL.of ha⟩, h _ H1 G1 gr (itD_list ha hg rs)⟩⟩
/-! ### ranges -/
def rngD (lo hi : Int) : List D := (List.range (hi - lo).toNat).map fun i => .int (lo + (i : Nat))
def rng1 : List D → Res (List D)
  | [.int j] => if (decide (-(2 ^ 62) ≤ j) && decide (j < 2 ^ 62)) = true then .ok (rngD 0 j) else .no
  | _ => .no
def rng2 : List D → Res (List D)
  | [.int i, .int j] => if (decide (-(2 ^ 62) ≤ i) && decide (i < 2 ^ 62) && decide (-(2 ^ 62) ≤ j) && decide (j < 2 ^ 62)) = true then .ok (rngD i j) else .no
  | _ => .no
def irD (c : List D → Res (List D)) (g : Av) : Sl → Res (List D) := fun ρ => (g ρ).bind c
theorem tDA_it {g : Av} {c : List D → Res (List D)} {P : List V → Hp → Prop} {R : It → Hp → Prop} (S : StOk X.K X.mg ks σ H ρ G M)
    (h : IOk X.K X.mg W σ H G ((g ρ).bind c) R)
    (hk : ∀ ds vs H1 G1, g ρ = .ok ds → Grow H G H1 G1 → Reps X.K X.mg H1 G1 ds vs [] → IOk X.K X.mg W σ H G (c ds) R → P vs H1) : tDA X W ks .F g σ H P := by
  refine ⟨ρ, G, M, S, ?_⟩
  cases e : g ρ with
  | ok ds =>
    rw [e] at h
    intro vs H' G' M' gr vr
    obtain rfl := vr.fr rfl
    exact hk ds vs H' G' e gr vr.rep h
  | exn x => rw [e] at h; exact h
  | no => rw [e] at h; exact h.elim
theorem di_range1 {g : Av} {p : Pos} (hg : Gl X "range") (hm : X.mg "range" = none) (ha : DA X W ks .F [a] g) (hs : starEach [a] X.env = [(false, eval a X.env)] := by rfl) : DI X W ks tg (.Call (.Name "range" p) [a] [] pos) (irD rng1 g) :=
  PI_imp (pi_range1 hg hm ha.1 hs) fun σ H R ⟨ρ, G, M, S, h⟩ => tDA_it S h fun ds vs H1 G1 e gr rs h1 => by
    unfold rng1 at h1
    split at h1
    · rename_i j
      obtain ⟨v, rfl, r⟩ := rs.one
      cases r
      by_cases c : (decide (-(2 ^ 62) ≤ j) && decide (j < 2 ^ 62)) = true
      · rw [if_pos c] at h1
        simp only [Bool.and_eq_true, decide_eq_true_eq] at c
        refine ⟨j, rfl, c.1, c.2, h1 _ H1 G1 gr ?_⟩
        unfold rngD
        rw [Int.sub_zero]
        exact itD_range
      · rw [if_neg c] at h1; exact h1.elim
    · exact h1.elim
theorem di_range2 {g : Av} {p : Pos} (hg : Gl X "range") (hm : X.mg "range" = none) (ha : DA X W ks .F [a, b] g) (hs : starEach [a, b] X.env = [(false, eval a X.env), (false, eval b X.env)] := by rfl) (hs2 : starEach [b] X.env = [(false, eval b X.env)] := by rfl) : DI X W ks tg (.Call (.Name "range" p) [a, b] [] pos) (irD rng2 g) :=
  PI_imp (pi_range2 hg hm ha.1 hs hs2) fun σ H R ⟨ρ, G, M, S, h⟩ => tDA_it S h fun ds vs H1 G1 e gr rs h1 => by
    unfold rng2 at h1
    split at h1
    · rename_i i j
      obtain ⟨v, v', rfl, r, r'⟩ := rs.two
      cases r
      cases r'
      by_cases c : (decide (-(2 ^ 62) ≤ i) && decide (i < 2 ^ 62) && decide (-(2 ^ 62) ≤ j) && decide (j < 2 ^ 62)) = true
      · rw [if_pos c] at h1
        simp only [Bool.and_eq_true, decide_eq_true_eq] at c
        exact ⟨i, j, rfl, ⟨c.1.1.1, c.1.1.2, c.1.2, c.2⟩, h1 _ H1 G1 gr itD_range⟩
      · rw [if_neg c] at h1; exact h1.elim
    · exact h1.elim
/-! ### enumerate, reversed, zip -/
def enumD : Nat → List D → List D
  | _, [] => []
  | n, d :: ds => .tup [.int (n : Int), d] :: enumD (n + 1) ds
theorem enumD_get : ∀ (ds : List D) (n i : Nat), (enumD n ds)[i]? = ds[i]?.map fun d => .tup [.int ((n + i : Nat) : Int), d]
  | [], n, i => by simp [enumD]
  | d :: ds, n, 0 => by simp [enumD]
  | d :: ds, n, i + 1 => by
    simp only [enumD, List.getElem?_cons_succ, enumD_get ds (n + 1) i]
    rw [show n + 1 + i = n + (i + 1) by omega]
theorem enumD_len (ds : List D) (n : Nat) : (enumD n ds).length = ds.length := by
  induction ds generalizing n with
  | nil => rfl
  | cons d ds ih => simp [enumD, ih]
def enum1 : List D → Res (List D)
  | [.lst xs] => .ok (enumD 0 xs)
  | _ => .no
theorem reps2 {d d' : D} {v v' : V} (r : Rep K mg H G d v []) (r' : Rep K mg H G d' v' []) : Reps K mg H G [d, d'] [v, v'] [] := .cons (M := []) (M' := []) r (.cons (M := []) (M' := []) r' .nil)
theorem itD_enum {ds : List D} {vs : List V} {a : Addr} (h : H a = some (.lst vs)) (hg : G a) (r : Reps K mg H G ds vs []) : ItD K mg (Ite K a) H G (enumD 0 ds) := fun i H2 p => by
  have h2 : SqL K H2 a vs := SqL.of (p a _ h fun _ => hg)
  have r2 : Reps K mg H2 G ds vs [] := r.stay (pres_or p) fun _ z => z
  refine ⟨fun d ed => ?_, fun hl => ⟨vs, h2, by rw [← r.length]; rw [enumD_len] at hl; exact hl⟩⟩
  rw [enumD_get, Nat.zero_add] at ed
  cases e1 : ds[i]? with
  | none => rw [e1] at ed; cases ed
  | some d1 =>
    rw [e1] at ed
    cases ed
    obtain ⟨v, h3, h4⟩ := r2.at e1
    refine ⟨⟨vs, v, h2, h3⟩, fun x H3 y => ?_⟩
    obtain ⟨T, x', rfl, hT, rfl, y⟩ := y
    have e : x' = v := Option.some.inj ((y vs h2).symm.trans h3)
    subst e
    exact ⟨same_upd hT, .tup (SqT.of upd_same) ((reps2 (.int _) h4).stay (Pres.of_same (same_upd hT)) fun _ z => z)⟩
theorem di_enum {g : Av} {p tpos : Pos} {elts : List Expr} {kk : Nat} (hg : Gl X "enumerate") (hm : X.mg "enumerate" = none) (ha : DA X W ks .F [e] g) (hs : starEach [e] X.env = [(false, eval e X.env)] := by rfl) : DI X W ks (.Tuple elts kk tpos) (.Call (.Name "enumerate" p) [e] [] pos) (irD enum1 g) :=
  PI_imp (pi_enum hg hm ha.1 hs) fun σ H R ⟨ρ, G, M, S, h⟩ => tDA_it S h fun ds vs H1 G1 e gr rs h1 => by
    unfold enum1 at h1
    split at h1
    · rename_i xs
      obtain ⟨v, rfl, r⟩ := rs.one
      obtain ⟨a, us, rfl, hb, hg', rs'⟩ := lst_invF r
      exact ⟨a, us, rfl, SqL.of hb, h1 _ H1 G1 gr (itD_enum hb hg' rs')⟩
    · exact h1.elim
def ireD (f : Ev) : Sl → Res (List D) := fun ρ => (f ρ).bind fun d => match d with
  | .lst xs => .ok xs.reverse
  | .tup xs => .ok xs.reverse
  | _ => .no
theorem rev_get {α : Type} {xs : List α} {i : Nat} {x : α} (h : xs.reverse[i]? = some x) : i < xs.length ∧ xs[xs.length - 1 - i]? = some x := by
  have hl : i < xs.length := by simpa using (List.getElem?_eq_some_iff.mp h).1
  rw [List.getElem?_reverse hl] at h
  exact ⟨hl, h⟩
theorem itD_revL {ds : List D} {vs : List V} {a : Addr} (h : H a = some (.lst vs)) (hg : G a) (r : Reps K mg H G ds vs []) : ItD K mg (Itv K a vs.length) H G ds.reverse := fun i H2 p => by
  have h2 : SqL K H2 a vs := SqL.of (p a _ h fun _ => hg)
  have r2 : Reps K mg H2 G ds vs [] := r.stay (pres_or p) fun _ z => z
  refine ⟨fun d ed => ?_, fun hl => by rw [List.length_reverse, r.length] at hl; exact hl⟩
  obtain ⟨hl, e1⟩ := rev_get ed
  obtain ⟨v, h3, h4⟩ := r2.at e1
  rw [r.length] at h3 hl
  refine ⟨⟨hl, vs, v, h2, h3⟩, fun x H3 y => ?_⟩
  obtain ⟨rfl, y⟩ := y
  have e : x = v := Option.some.inj ((y vs h2).symm.trans h3)
  subst e
  exact ⟨Same.refl _, h4⟩
theorem itD_revT {ds : List D} {vs : List V} {a : Addr} (h : SqT K H a vs) (r : Reps K mg H G ds vs []) : ItD K mg (RT.ItvT K a vs.length) H G ds.reverse := fun i H2 p => by
  have h2 : SqT K H2 a vs := p.sqT h
  have r2 : Reps K mg H2 G ds vs [] := r.stay (pres_or p) fun _ z => z
  refine ⟨fun d ed => ?_, fun hl => by rw [List.length_reverse, r.length] at hl; exact hl⟩
  obtain ⟨hl, e1⟩ := rev_get ed
  obtain ⟨v, h3, h4⟩ := r2.at e1
  rw [r.length] at h3 hl
  refine ⟨⟨hl, vs, v, h2, h3⟩, fun x H3 y => ?_⟩
  obtain ⟨rfl, y⟩ := y
  have e : x = v := Option.some.inj ((y vs h2).symm.trans h3)
  subst e
  exact ⟨Same.refl _, h4⟩
theorem di_rev {p : Pos} (hg : Gl X "reversed") (hm : X.mg "reversed" = none) (he : DE X W ks .F e f) (hs : starEach [e] X.env = (false, eval e X.env) :: starEach [] X.env := by rfl) : DI X W ks tg (.Call (.Name "reversed" p) [e] [] pos) (ireD f) :=
  PI_imp (RT.pi_revA hg hm he hs) fun σ H R ⟨ρ, G, M, S, h⟩ => ⟨ρ, G, M, S, by
    unfold ireD at h
    cases er : f ρ with
    | no => rw [er] at h; exact h.elim
    | exn x => rw [er] at h; exact h
    | ok d =>
      rw [er] at h
      intro v H1 G1 M1 gr vr
      obtain rfl := vr.fr rfl
      have rp : Rep X.K X.mg H1 G1 d v [] := vr.rep
      cases d <;> first | exact h.elim | skip
      · obtain ⟨a, vs, rfl, ha, rs⟩ := tup_inv rp
        exact ⟨a, vs, rfl, .inr ⟨ha, h _ H1 G1 gr (itD_revT ha rs)⟩⟩
      · obtain ⟨a, vs, rfl, ha, hg, rs⟩ := lst_invF rp
        exact ⟨a, vs, rfl, .inl ⟨SqL.of ha, h _ H1 G1 gr (itD_revL ha hg rs)⟩⟩⟩
def zipD : List D → List D → List D
  | x :: xs, y :: ys => .tup [x, y] :: zipD xs ys
  | _, _ => []
theorem zipD_get : ∀ (xs ys : List D) (i : Nat) (d : D), (zipD xs ys)[i]? = some d → ∃ x y, xs[i]? = some x ∧ ys[i]? = some y ∧ d = .tup [x, y]
  | [], ys, i, d, h => by simp [zipD] at h
  | x :: xs, [], i, d, h => by simp [zipD] at h
  | x :: xs, y :: ys, 0, d, h => by simp [zipD] at h; exact ⟨x, y, rfl, rfl, h.symm⟩
  | x :: xs, y :: ys, i + 1, d, h => by
    simp only [zipD, List.getElem?_cons_succ] at h
    simpa using zipD_get xs ys i d h
theorem zipD_len : ∀ (xs ys : List D), (zipD xs ys).length = min xs.length ys.length
  | [], ys => by simp [zipD]
  | x :: xs, [] => by simp [zipD]
  | x :: xs, y :: ys => by simp [zipD, zipD_len xs ys]
def zip2 : List D → Res (List D)
  | [.lst xs, .lst ys] => .ok (zipD xs ys)
  | [.tup xs, .tup ys] => .ok (zipD xs ys)
  | _ => .no
theorem itD_zipL {ds es : List D} {vs us : List V} {a b : Addr} (h : H a = some (.lst vs)) (hg : G a) (r : Reps K mg H G ds vs []) (h' : H b = some (.lst us)) (hg' : G b) (r' : Reps K mg H G es us []) : ItD K mg (Itz K a b) H G (zipD ds es) := fun i H2 p => by
  have h2 : SqL K H2 a vs := SqL.of (p a _ h fun _ => hg)
  have h2' : SqL K H2 b us := SqL.of (p b _ h' fun _ => hg')
  have r2 : Reps K mg H2 G ds vs [] := r.stay (pres_or p) fun _ z => z
  have r2' : Reps K mg H2 G es us [] := r'.stay (pres_or p) fun _ z => z
  refine ⟨fun d ed => ?_, fun hl => ⟨vs, us, h2, h2', by rw [← r.length, ← r'.length]; rw [zipD_len] at hl; omega⟩⟩
  obtain ⟨x, y, e1, e2, rfl⟩ := zipD_get _ _ _ _ ed
  obtain ⟨v, h3, h4⟩ := r2.at e1
  obtain ⟨v', h3', h4'⟩ := r2'.at e2
  refine ⟨⟨vs, us, v, v', h2, h2', h3, h3'⟩, fun x H3 y => ?_⟩
  obtain ⟨T, x', y', rfl, hT, rfl, q, q'⟩ := y
  obtain rfl : x' = v := Option.some.inj ((q vs h2).symm.trans h3)
  obtain rfl : y' = v' := Option.some.inj ((q' us h2').symm.trans h3')
  exact ⟨same_upd hT, .tup (SqT.of upd_same) ((reps2 h4 h4').stay (Pres.of_same (same_upd hT)) fun _ z => z)⟩
theorem itD_zipT {ds es : List D} {vs us : List V} {a b : Addr} (h : SqT K H a vs) (r : Reps K mg H G ds vs []) (h' : SqT K H b us) (r' : Reps K mg H G es us []) : ItD K mg (RZ.ItzT K a b) H G (zipD ds es) := fun i H2 p => by
  have h2 : SqT K H2 a vs := p.sqT h
  have h2' : SqT K H2 b us := p.sqT h'
  have r2 : Reps K mg H2 G ds vs [] := r.stay (pres_or p) fun _ z => z
  have r2' : Reps K mg H2 G es us [] := r'.stay (pres_or p) fun _ z => z
  refine ⟨fun d ed => ?_, fun hl => ⟨vs, us, h2, h2', by rw [← r.length, ← r'.length]; rw [zipD_len] at hl; omega⟩⟩
  obtain ⟨x, y, e1, e2, rfl⟩ := zipD_get _ _ _ _ ed
  obtain ⟨v, h3, h4⟩ := r2.at e1
  obtain ⟨v', h3', h4'⟩ := r2'.at e2
  refine ⟨⟨vs, us, v, v', h2, h2', h3, h3'⟩, fun x H3 y => ?_⟩
  obtain ⟨T, x', y', rfl, hT, rfl, q, q'⟩ := y
  obtain rfl : x' = v := Option.some.inj ((q vs h2).symm.trans h3)
  obtain rfl : y' = v' := Option.some.inj ((q' us h2').symm.trans h3')
  exact ⟨same_upd hT, .tup (SqT.of upd_same) ((reps2 h4 h4').stay (Pres.of_same (same_upd hT)) fun _ z => z)⟩
theorem di_zip {g : Av} {p tpos : Pos} {elts : List Expr} {kk : Nat} (hg : Gl X "zip") (hm : X.mg "zip" = none) (ha : DA X W ks .F [a, b] g) (hs : starEach [a, b] X.env = (false, eval a X.env) :: starEach [b] X.env := by rfl) (hpl : (backTo pos (starEach [b] X.env)).any (·.1) = false := by rfl) : DI X W ks (.Tuple elts kk tpos) (.Call (.Name "zip" p) [a, b] [] pos) (irD zip2 g) :=
  PI_imp (RZ.pi_zipA hg hm ha.1 hs hpl) fun σ H R ⟨ρ, G, M, S, h⟩ => tDA_it S h fun ds vs H1 G1 e gr rs h1 => by
    unfold zip2 at h1
    split at h1
    · obtain ⟨v, v', rfl, r, r'⟩ := rs.two
      obtain ⟨a, us, rfl, hb, hg', rs'⟩ := lst_invF r
      obtain ⟨b, us2, rfl, hb2, hg2, rs2⟩ := lst_invF r'
      exact ⟨a, b, us, us2, rfl, .inl ⟨SqL.of hb, SqL.of hb2, h1 _ H1 G1 gr (itD_zipL hb hg' rs' hb2 hg2 rs2)⟩⟩
    · obtain ⟨v, v', rfl, r, r'⟩ := rs.two
      obtain ⟨a, us, rfl, hb, rs'⟩ := tup_inv r
      obtain ⟨b, us2, rfl, hb2, rs2⟩ := tup_inv r'
      exact ⟨a, b, us, us2, rfl, .inr ⟨hb, hb2, h1 _ H1 G1 gr (itD_zipT hb rs' hb2 rs2)⟩⟩
    · exact h1.elim
end
end DL
end

section
/-! DL: raise, try, append, unpacking. -/
namespace DL
open PySem L2
open PyProof.Rows (envOfC)

section
variable {X : Cx} {B : Bs} {S : Sx} {W : WX} {k : Kd} {ks k1 k2 kt js : List Kd} {σ : St} {H H' : Hp} {ρ : Sl} {G G' : GA} {M : List Addr} {Dn : Ends} {f : Ev} {t : Tv} {u w : Sv} {st : Stmt} {rest sts sts' : List Stmt} {e c : Expr} {pos : Pos}

/-! ### unpacking -/
def sAsg (tg : Tg) (f : Ev) : Sv := fun ρ => oE (f ρ) ρ fun d => match tg d ρ with
  | some ρ1 => .nx ρ1
  | none => .no
theorem ds_asg {tge : Expr} {g : TG} {tg : Tg} (hx : leKs ks S.kx = true) (he : DE X S.W ks .F e f) (hg : PG X tge g) (hgd : DGv X ks g tg) (hs : swapsWithSole [tge] e pos.line X.env = pure false := by rfl) (hw : swappedStores [tge] e X.env = pure none := by rfl)
    (h1 : (assignEach [tge] X.env).map (·.2) = [assign tge X.env] := by rfl) : DS X S ks ks (.Assign [tge] e pos) (sAsg tg f) := fun B => PS_imp (ps_asg he hg hs hw h1) fun Dn σ H ⟨ρ, G, M, s, q⟩ =>
  sE hx s q fun d v H' G' Mv _ gr vr q' => by
    obtain rfl := vr.fr rfl
    cases e1 : tg d ρ with
    | none => rw [e1] at q'; exact q'.elim
    | some ρ1 =>
      rw [e1] at q'
      exact hgd B σ H' ρ ρ1 G' M d v _ (s.grow gr) vr.rep e1 fun σ1 M1 s1 => q' σ1 H' G' M1 s1
/-! ### append -/
theorem StB.upd {K : PySem.W.Frag} {mg : MG} {i : Nat} {d d' : D} {v : V} {M1 M1' : List Addr} {a : Addr} {o : HO} (s : StB K mg B ks σ H ρ G M) (ha : H a ≠ none) (ham : a ∈ M) (w : ∃ M', Slots K mg (L2.upd H a o) G ks σ (ρ.set i (some d')) M' ∧ M'.Nodup ∧ ∀ b ∈ M', b ∈ M ∨ b ∈ M1') (n1 : ∀ b ∈ M1', b ∈ M ∨ (¬ G b ∧ B.H0 b = none)) :
    ∃ M', StB K mg B ks σ (L2.upd H a o) (ρ.set i (some d')) G M' := by
  obtain ⟨M', h1, h2, h3⟩ := w
  have al : ∀ b ∈ M', b ∈ M ∨ (¬ G b ∧ B.H0 b = none) := fun b m => (h3 b m).elim .inl (n1 b)
  have there : ∀ b, H b ≠ none → L2.upd H a o b ≠ none := fun b hb => by
    by_cases e : b = a
    · rw [e, upd_same]; exact fun z => nomatch z
    · rw [upd_ne e]; exact hb
  refine ⟨M', ⟨h1, h2, fun b m => (al b m).elim (s.st.ng b) And.left, fun b z => there b (s.st.ex b z)⟩, fun b o' e m => ?_, fun b m => (al b m).elim (s.own b) fun z => .inr z.2, s.gnew, s.gold, fun b m => there b (s.m0 b m)⟩
  have ne : b ≠ a := fun q => by
    subst q
    exact (s.own _ ham).elim m fun z => by rw [z] at e; cases e
  rw [upd_ne ne]
  exact s.pres b o' e m
def sApp (i : Nat) (f : Ev) : Sv := fun ρ => match ρ[i]? with
  | some (some (.lst xs)) => oE (f ρ) ρ fun d => if xs.length < 1000000 then .nx (ρ.set i (some (.lst (xs ++ [d])))) else .no
  | _ => .no
theorem ds_app {i : Nat} {x : Str} {np ap cp : Pos} (hk : ks[i]? = some .O) (hx : leKs ks S.kx = true) (he : DE X S.W ks .O e f) (hv : PE X (.Name x np) (tVar i))
    (hr : ∀ {te : TE}, PE X e te → PE X (.Call (.Attribute (.Name x np) "append" ap) [e] [] cp) (tBM X.K "list" rAppend (tVar i) (tCons te tNil)))
    (hs : swapsWith (.Call (.Attribute (.Name x np) "append" ap) [e] [] cp) none pos.line X.env = pure false := by rfl) : DS X S ks ks (.Expr (.Call (.Attribute (.Name x np) "append" ap) [e] [] cp) pos) (sApp i f) := fun B => PS_imp (ps_expr (hr he) hs) fun Dn σ H ⟨ρ, G, M, s, q⟩ => by
  unfold sApp at q
  cases e1 : ρ[i]? with
  | none => rw [e1] at q; exact q.elim
  | some o1 =>
    cases o1 with
    | none => rw [e1] at q; exact q.elim
    | some d1 =>
      rw [e1] at q
      cases d1 <;> first | exact q.elim | skip
      rename_i xs
      obtain ⟨v, M1, g1, g2, g3, g4⟩ := s.st.sl.get e1 hk
      obtain ⟨a, vs, M2, rfl, ha, rs, _⟩ := lst_inv g2
      refine ⟨.ref a, g1, .inl ⟨rfl, vs, SqL.of ha⟩, ?_⟩
      refine sE (c := fun d => if xs.length < 1000000 then .nx (ρ.set i (some (.lst (xs ++ [d])))) else .no) hx s q fun d y H1 G1 My _ gr vr q' => ?_
      show rAppend (.ref a) [y] H1 (fun _ H2 => Dn.nx σ H2)
      by_cases hl : xs.length < 1000000
      · rw [if_pos hl] at q'
        have s1 := s.grow gr
        obtain ⟨v', M1', h1, h2, _, h4, h5, h6⟩ := s1.st.sl.upd e1 hk s1.st.nd
        obtain rfl : V.ref a = v' := by rw [g1] at h1; exact Option.some.inj (Option.some.inj h1)
        have inv : ∃ vs' M3, H1 a = some (.lst vs') ∧ M1' = a :: M3 ∧ Reps X.K X.mg H1 G0 xs vs' M3 := by
          generalize hd : D.lst xs = dd at h2
          cases h2 with
          | lstO h r => cases hd; exact ⟨_, _, h, rfl, r⟩
          | lstF h g r => exact g.elim
          | _ => cases hd
        obtain ⟨vs', M3, ha1, rfl, rs1⟩ := inv
        have ey : ∀ b ∈ My, b ∉ M := fun b m z => by
          obtain ⟨o, e, _⟩ := s.st.sl.dom b z
          rw [(vr.new b m).1] at e; cases e
        have aM : a ∈ M := h4 a (by simp)
        have nd := List.nodup_cons.mp h5
        have up : ∀ P : GA, (∀ b, P b → b ≠ a) → Pres P H1 (L2.upd H1 a (.lst (vs' ++ [y]))) := fun P hP b o e mu => by
          by_cases hb : b = a
          · subst hb
            rw [ha1] at e; cases e
            exact absurd rfl (hP b (mu rfl))
          · rw [upd_ne hb]; exact e
        have w := h6 (L2.upd H1 a (.lst (vs' ++ [y]))) G1 (.lst (xs ++ [d])) (a :: (M3 ++ My)) (up _ fun b z q => by
            subst q
            rcases z with z | z
            · exact s1.st.ng _ aM z
            · exact z.2 (by simp)) (fun _ z => z)
          (.lstO upd_same (reps_snoc (rs1.stay (up _ fun b z q => by
              subst q
              rcases z with z | z
              · exact z.elim
              · exact nd.1 z) fun _ z => z) (vr.rep.stay (up _ fun b z q => by
              subst q
              rcases z with z | z
              · exact z.elim
              · exact ey _ z aM) fun _ z => z)))
          (fun z => by cases z)
          (List.nodup_cons.mpr ⟨fun m => (List.mem_append.mp m).elim nd.1 fun z => ey a z aM, List.nodup_append.mpr ⟨nd.2, vr.nd, fun b hb b2 hb2 q => ey b2 hb2 (h4 b2 (by subst q; exact List.mem_cons_of_mem _ hb))⟩⟩)
          (fun b m => by
            rcases List.mem_cons.mp m with rfl | m
            · exact .inr (by simp)
            · rcases List.mem_append.mp m with m | m
              · exact .inr (by simp [m])
              · exact .inl (ey b m))
        obtain ⟨M', s2⟩ := StB.upd (v := y) (M1 := []) (d := d) s1 (by rw [ha1]; exact fun z => nomatch z) aM w fun b m => by
          rcases List.mem_cons.mp m with rfl | m
          · exact .inl aM
          · rcases List.mem_append.mp m with m | m
            · exact .inl (h4 b (by simp [m]))
            · exact .inr ⟨(vr.new b m).2, s.back (vr.new b m).1⟩
        refine ⟨a, vs', y, rfl, rfl, ha1, ?_, q' _ _ _ _ s2⟩
        rw [← rs1.length, sizeLine_eq]; omega
      · rw [if_neg hl] at q'; exact q'.elim
/-! ### raise -/
def sRaise (y : Str) : Sv := fun ρ => .ex ⟨y, [], []⟩ ρ
theorem ds_raise {y : Str} {C : Addr} (hc : X.calm = true) (tk : DX.Takes X S.W) (hx : leKs ks S.kx = true) (hm : X.mg y = some (.ref C)) (mk : L2N.PMk X e (fun _ H Q => Q (.ref C) none H)) : DS X S ks k2 (.Raise (some e) none pos) (sRaise y) := fun B => PS_imp (DX.ps_raise hc tk mk) fun Dn σ H ⟨ρ, G, M, s, q⟩ => by
  obtain ⟨G2, M2, s2⟩ := s.weak hx
  exact q σ H G2 M2 (.ref C) none s2 ⟨C, rfl, hm, .inl ⟨rfl, rfl, rfl⟩⟩
/-! ### try -/
inductive HdD where
  | keep (i : Nat) (u : Sv) | plain (u : Sv) | raise (y : Str)
def unsetO (i : Nat) : Out → Out
  | .nx ρ => .nx (ρ.set i none) | .bk ρ => .bk (ρ.set i none) | .ct ρ => .ct (ρ.set i none) | .ex _ _ => .no | o => o
def noEx : Out → Out
  | .ex _ _ => .no | o => o
def hdl : List ((Str → Option Bool) × HdD) → Xd → Sl → Out
  | [], x, ρ => .ex x ρ
  | (t, h) :: r, x, ρ => match t x.c with
    | none => .no
    | some false => hdl r x ρ
    | some true => match h with
      | .keep i u => unsetO i (u (ρ.set i (some (.exc x.c x.ns x.ds))))
      | .plain u => noEx (u ρ)
      | .raise y => .ex ⟨y, [], []⟩ ρ
def sTry (b : Sv) (hs : List ((Str → Option Bool) × HdD)) : Sv := fun ρ => match b ρ with
  | .ex x ρ' => hdl hs x ρ'
  | o => o
/-- which classes a clause names -/
def Tests (X : Cx) (c : Value) (t : Str → Option Bool) : Prop := ∀ y C b, X.mg y = some (.ref C) → t y = some b → PySem.W.exmOne X.K (.ref C) c = some b
inductive HDs (X : Cx) (S : Sx) (kt k2 : List Kd) : List ExceptHandler → List ((Str → Option Bool) × HdD) → Prop
  | nil (h : leKs kt S.kx = true) : HDs X S kt k2 [] []
  | keep {x n : Str} {c : Value} {t : Str → Option Bool} {i : Nat} {u : Sv} {kk : List Kd} {b0 : Stmt} {suite : List Stmt} {np p : Pos} {hs : List ExceptHandler} {l : List ((Str → Option Bool) × HdD)} (hc : Names X x c) (ht : Tests X c t) (hN : X.N.Nodup) (hi : X.N[i]? = some n) (hl : X.env.kindOf n = some .local)
      (hik : i < kt.length) (hk : leKs kk k2 = true) (su : ∀ (a : Addr) (pn : List (Addr × Obj)), DSs (X.suite a pn) { S with W := W0 } (kt.set i .F) kk (b0 :: suite) u) (r : HDs X S kt k2 hs l) : HDs X S kt k2 (.ExceptHandler (some (.Name x np)) (some n) (b0 :: suite) p :: hs) ((t, .keep i u) :: l)
  | plain {x : Str} {c : Value} {t : Str → Option Bool} {u : Sv} {kk : List Kd} {b0 : Stmt} {suite : List Stmt} {np p : Pos} {hs : List ExceptHandler} {l : List ((Str → Option Bool) × HdD)} (hc : Names X x c) (ht : Tests X c t) (hk : leKs kk k2 = true)
      (su : ∀ (a : Addr) (pn : List (Addr × Obj)), DSs (X.suite a pn) { S with W := W0 } kt kk (b0 :: suite) u) (r : HDs X S kt k2 hs l) : HDs X S kt k2 (.ExceptHandler (some (.Name x np)) none (b0 :: suite) p :: hs) ((t, .plain u) :: l)
  | raises {x y : Str} {c : Value} {C : Addr} {t : Str → Option Bool} {e : Expr} {np p rp : Pos} {hs : List ExceptHandler} {l : List ((Str → Option Bool) × HdD)} (hc : Names X x c) (ht : Tests X c t) (hm : X.mg y = some (.ref C)) (hk : leKs kt S.kx = true)
      (mk : ∀ (a : Addr) (pn : List (Addr × Obj)), L2N.PMk (DX.sx X a pn) e (fun _ H Q => Q (.ref C) none H)) (r : HDs X S kt k2 hs l) : HDs X S kt k2 (.ExceptHandler (some (.Name x np)) none [.Raise (some e) none rp] p :: hs) ((t, .raise y) :: l)
theorem SOk.noEx {K : PySem.W.Frag} {mg : MG} {o : Out} {W' : WX} (q : SOk K mg B S k2 (noEx o) Dn) : SOk K mg B { S with W := W' } k2 o Dn := by
  cases o <;> first | exact q | exact q.elim
theorem StB.unset {K : PySem.W.Frag} {mg : MG} {i : Nat} (s : StB K mg B ks σ H ρ G M) : ∃ M', StB K mg B ks (σ.set i none) H (ρ.set i none) G M' := by
  obtain ⟨M', h1, h2, h3⟩ := s.st.sl.unset (i := i) (o := none)
  exact ⟨M', ⟨h1, h2 s.st.nd, fun a m => s.st.ng a (h3 a m), s.st.ex⟩, s.pres, fun a m => s.own a (h3 a m), s.gnew, s.gold, s.m0⟩
theorem SOk.unset {K : PySem.W.Frag} {mg : MG} {o : Out} {i : Nat} (q : SOk K mg B S k2 (unsetO i o) Dn) : SOk K mg B { S with W := W0 } k2 o (DX.endN Dn i) := by
  cases o with
  | nx ρ => intro σ H G M s; obtain ⟨M', s'⟩ := s.unset (i := i); exact q _ _ _ _ s'
  | bk ρ => intro σ H G M s; obtain ⟨M', s'⟩ := s.unset (i := i); exact q _ _ _ _ s'
  | ct ρ => intro σ H G M s; obtain ⟨M', s'⟩ := s.unset (i := i); exact q _ _ _ _ s'
  | rt d ρ => exact q
  | ex x ρ => exact q.elim
  | no => exact q.elim
theorem rep_exc {K : PySem.W.Frag} {mg : MG} {x : Xd} {C : Addr} {dd : Option Addr} {a : Addr} (er : ExRep K mg H x (.ref C) dd) (ha : H a = none) : Rep K mg (L2.upd H a (ExcO C dd a)) G (.exc x.c x.ns x.ds) (.ref a) [] := by
  obtain ⟨C', e, hm, z⟩ := er
  cases e
  obtain ⟨xc, xn, xd⟩ := x
  rcases z with ⟨rfl, rfl, rfl⟩ | ⟨d, fs, rfl, hd, hn, hi, rs⟩
  · exact .exc0 upd_same hm
  · refine .exc upd_same ?_ hm hn.symm ((rs.stay (Pres.of_same (same_upd ha)) fun _ z => z).weakG fun _ z => z.elim)
    rw [upd_ne (ne_of_none hd ha)]; exact hd
theorem ds_try {body : List Stmt} {b : Sv} {h0 : ExceptHandler} {hds : List ExceptHandler} {dl : List ((Str → Option Bool) × HdD)} (hs : X.stack = X.env :: X.outer) (hf : X.env.frame = some X.env.locals) (hpa : ∀ hd : Option Value, PassesOwnAt (model X.prog X.w) (X.A.mark hd) X.A X.env X.xe) (tk : DX.Takes X S.W) (kt : List Kd)
    (hb : ∀ (W : WX) (pn : List (Addr × Obj)) (xe : Value → Shared → Prop), DX.Takes (X.tr pn xe) W → PassesOwn (model X.prog X.w) X.A X.env xe → DSs (X.tr pn xe) { S with W := W, kx := kt } ks k2 body b)
    (hh : HDs X S kt k2 (h0 :: hds) dl) : DS X S ks k2 (.Try body (h0 :: hds) [] [] pos) (sTry b dl) := fun B => by
  -- the clauses' readings over this base
  have clauses : ∀ {hs : List ExceptHandler} {dl : List ((Str → Option Bool) × HdD)}, HDs X S kt k2 hs dl → ∃ l, DX.Hds X S.W hs l ∧ ∀ Dn x ρ σ H G M cls dd, StB X.K X.mg B kt σ H ρ G M → ExRep X.K X.mg H x cls dd → SOk X.K X.mg B S k2 (hdl dl x ρ) Dn → DX.wTry X.K S.W Dn l cls dd σ H := fun h => by
    induction h with
    | nil hk =>
      refine ⟨[], .nil, fun Dn x ρ σ H G M cls dd s er q => ?_⟩
      obtain ⟨G2, M2, s2⟩ := s.weak hk
      exact q σ H G2 M2 cls dd s2 er
    | @keep x n c t i u kk b0 suite np p hs dl hc ht hN hi hl hik hk su r ih =>
      obtain ⟨l, h1, h2⟩ := ih
      refine ⟨_, .keep (ts := sD X B { S with W := W0 } (kt.set i .F) kk u) hc hN hi hl (fun a pn => su a pn B) h1, fun Dn x ρ σ H G M cls dd s er q => ?_⟩
      have er' := er
      obtain ⟨C, rfl, hm, _⟩ := er'
      unfold hdl at q
      cases et : t x.c with
      | none => rw [et] at q; exact q.elim
      | some bb =>
        rw [et] at q
        refine ⟨bb, ht _ _ _ hm et, fun eb => ?_, fun eb => ?_⟩
        · subst eb
          refine ⟨C, rfl, fun a ha => ?_⟩
          have gr : Grow H G (L2.upd H a (ExcO C dd a)) G := Grow.of (same_upd ha) s.st.ex
          obtain ⟨M', s'⟩ := s.set (k := .F) (d := .exc x.c x.ns x.ds) (v := .ref a) (Mv := []) gr ⟨rep_exc er ha, fun _ => rfl, .nil, fun a m => nomatch m⟩ hik
          exact ⟨_, G, M', s', (SOk.unset q).weakR hk⟩
        · subst eb
          exact h2 Dn x ρ σ H G M (.ref C) dd s er q
    | @plain x c t u kk b0 suite np p hs dl hc ht hk su r ih =>
      obtain ⟨l, h1, h2⟩ := ih
      refine ⟨_, .plain (ts := sD X B { S with W := W0 } kt kk u) hc (fun a pn => su a pn B) h1, fun Dn x ρ σ H G M cls dd s er q => ?_⟩
      have er' := er
      obtain ⟨C, rfl, hm, _⟩ := er'
      unfold hdl at q
      cases et : t x.c with
      | none => rw [et] at q; exact q.elim
      | some bb =>
        rw [et] at q
        refine ⟨bb, ht _ _ _ hm et, fun eb => ?_, fun eb => ?_⟩
        · subst eb
          exact ⟨ρ, G, M, s, (SOk.noEx q).weakR hk⟩
        · subst eb
          exact h2 Dn x ρ σ H G M (.ref C) dd s er q
    | @raises x y c C0 t e np p rp hs dl hc ht hm0 hk mk r ih =>
      obtain ⟨l, h1, h2⟩ := ih
      refine ⟨_, .raises hc mk h1, fun Dn x ρ σ H G M cls dd s er q => ?_⟩
      have er' := er
      obtain ⟨C, rfl, hm, _⟩ := er'
      unfold hdl at q
      cases et : t x.c with
      | none => rw [et] at q; exact q.elim
      | some bb =>
        rw [et] at q
        refine ⟨bb, ht _ _ _ hm et, fun eb => ?_, fun eb => ?_⟩
        · subst eb
          obtain ⟨G2, M2, s2⟩ := s.weak hk
          exact q σ H G2 M2 (.ref C0) none s2 ⟨C0, rfl, hm0, .inl ⟨rfl, rfl, rfl⟩⟩
        · subst eb
          exact h2 Dn x ρ σ H G M (.ref C) dd s er q
  obtain ⟨l, h1, h2⟩ := clauses hh
  refine PS_imp (DX.ps_try (tb := fun W => sD X B { S with W := W, kx := kt } ks k2 b) hs hf hpa tk (fun W pn xe t p => hb W pn xe t p B) h1) fun Dn σ H ⟨ρ, G, M, s, q⟩ => ⟨ρ, G, M, s, ?_⟩
  unfold sTry at q
  cases eb : b ρ with
  | ex x ρ' => rw [eb] at q; exact fun σ H G M cls dd s er => h2 Dn x ρ' σ H G M cls dd s er q
  | _ => rw [eb] at q; exact q
end
end DL
end

section
/-! DL: borrowing in tests, values of tests, isinstance, names of the module, moves. -/
namespace DL
open PySem L2
open PyProof.Rows (envOfC)

section
variable {X : Cx} {W : WX} {B : Bs} {S : Sx} {k : Kd} {ks k1 k2 kt js : List Kd} {σ : St} {H H' : Hp} {ρ : Sl} {G G' : GA} {M : List Addr} {Q : VK} {Dn : Ends} {f g : Ev} {t u : Tv} {st : Stmt} {rest sts sts' : List Stmt} {e c a b tg : Expr} {pos : Pos} {d : D} {v : V}
theorem leKs_F : ∀ l : List Kd, leKs l (List.replicate l.length .F) = true
  | [] => rfl
  | a :: l => by
    have := leKs_F l
    cases a <;> simpa [List.replicate, leKs, leK] using this
theorem dt_borrow {n : Nat} (hn : ks.length = n) (h : DT X W (List.replicate n .F) e t) : DT X W ks e t := PT_imp h fun σ H Q ⟨ρ, G, M, S, ho⟩ => by
  obtain ⟨G2, M2, S2, _, g1, g2⟩ := S.weak (hn ▸ leKs_F ks)
  refine ⟨ρ, G2, M2, S2, ?_⟩
  cases er : t ρ with
  | ok d => rw [er] at ho; exact fun H' G' gr => ho H' G (Grow.of gr.same S.ex)
  | exn x => rw [er] at ho; exact ho
  | no => rw [er] at ho; exact ho.elim
/-- a test's answer as a value -/
def eT (t : Tv) : Ev := fun ρ => (t ρ).bind fun b => .ok (.bl b)
theorem de_ifB {f1 f2 : Ev} (hc : DT X W ks c t) (h1 : DE X W ks k a f1) (h2 : DE X W ks k b f2) : DE X W ks k (.IfExp c a b pos) (fun ρ => (t ρ).bind fun z => if z = true then f1 ρ else f2 ρ) :=
  PE_imp (pe_ifExp hc h1 h2) fun σ H Q ⟨ρ, G, M, S, ho⟩ => by
    refine ⟨ρ, G, M, S, ?_⟩
    replace ho : OutOk X.K X.mg W k σ H G ((t ρ).bind fun z => if z = true then f1 ρ else f2 ρ) Q := ho
    cases e1 : t ρ with
    | no => rw [e1] at ho; exact ho.elim
    | exn x => rw [e1] at ho; exact ho
    | ok z =>
      rw [e1] at ho
      intro H1 G1 gr
      have ho' : OutOk X.K X.mg W k σ H G (if z = true then f1 ρ else f2 ρ) Q := ho
      cases z with
      | true => exact ⟨ρ, G1, M, S.grow gr, OutOk.grow (r := f1 ρ) ho' gr⟩
      | false => exact ⟨ρ, G1, M, S.grow gr, OutOk.grow (r := f2 ρ) ho' gr⟩
/-! and, or, not as values of bools -/
def eNot (f : Ev) : Ev := fun ρ => (f ρ).bind fun d => match d with | .bl b => .ok (.bl (!b)) | _ => .no
def eAnd (f g : Ev) : Ev := fun ρ => (f ρ).bind fun d => match d with | .bl true => g ρ | .bl false => .ok (.bl false) | _ => .no
def eOr (f g : Ev) : Ev := fun ρ => (f ρ).bind fun d => match d with | .bl true => .ok (.bl true) | .bl false => g ρ | _ => .no
theorem bl_inv {K : PySem.W.Frag} {mg : MG} {c : Bool} {M : List Addr} (r : Rep K mg H G (.bl c) v M) : v = .bl c := by cases r; rfl
theorem de_not (ha : DE X W ks .F a f) : DE X W ks .O (.UnaryOp .Not a pos) (eNot f) := PE_imp (pe_not ha) fun σ H Q ⟨ρ, G, M, S, ho⟩ => tD_then (f := f) S ho fun d v H1 G1 _ gr rp S1 ho1 => by
  cases d <;> first | exact ho1.elim | (obtain rfl := bl_inv rp; exact ⟨_, rfl, OutOk.imm (d := .bl _) ho1 S1.ex (.bl _)⟩)
theorem de_one {op : BoolOp} (ha : DE X W ks k a f) : DE X W ks k (.BoolOp op [a] pos) f := pe_one ha
theorem de_and {rs : List Expr} (ha : DE X W ks .F a f) (hb : DE X W ks .O (.BoolOp .And (b :: rs) pos) g) : DE X W ks .O (.BoolOp .And (a :: b :: rs) pos) (eAnd f g) := PE_imp (pe_and ha hb) fun σ H Q ⟨ρ, G, M, S, ho⟩ => tD_then (f := f) S ho fun d v H1 G1 _ gr rp S1 ho1 => by
  cases d with
  | bl c =>
    obtain rfl := bl_inv rp
    cases c with
    | true => exact ⟨_, rfl, ρ, G1, M, S1, ho1⟩
    | false => exact ⟨_, rfl, OutOk.imm (d := .bl _) ho1 S1.ex (.bl _)⟩
  | _ => exact ho1.elim
theorem de_or {rs : List Expr} (ha : DE X W ks .F a f) (hb : DE X W ks .O (.BoolOp .Or (b :: rs) pos) g) : DE X W ks .O (.BoolOp .Or (a :: b :: rs) pos) (eOr f g) := PE_imp (pe_or ha hb) fun σ H Q ⟨ρ, G, M, S, ho⟩ => tD_then (f := f) S ho fun d v H1 G1 _ gr rp S1 ho1 => by
  cases d with
  | bl c =>
    obtain rfl := bl_inv rp
    cases c with
    | true => exact ⟨_, rfl, OutOk.imm (d := .bl _) ho1 S1.ex (.bl _)⟩
    | false => exact ⟨_, rfl, ρ, G1, M, S1, ho1⟩
  | _ => exact ho1.elim
/-! a minus sign -/
def eNeg (f : Ev) : Ev := fun ρ => (f ρ).bind fun d => match d with | .int i => .ok (.int (-i)) | _ => .no
theorem de_neg (ha : DE X W ks .F a f) : DE X W ks .O (.UnaryOp .USub a pos) (eNeg f) := PE_imp (pe_un un_neg ha) fun σ H Q ⟨ρ, G, M, S, ho⟩ => tD_then (f := f) S ho fun d v H1 G1 _ gr rp S1 ho1 => by
  cases d <;> first | exact ho1.elim | skip
  cases rp
  exact ⟨_, rfl, OutOk.imm (d := .int _) ho1 S1.ex (.int _)⟩
/-! the empty dict -/
def eDct : Ev := eC (.dct [] [])
theorem de_dct : DE X W ks .O (.Dict [] [] pos) eDct := PE_imp pe_dnewK fun σ H Q ⟨ρ, G, M, S, ho⟩ p hp => OutOk.new (d := .dct [] []) ho S.ex (fun z => nomatch z) hp (same_upd hp) (.dctO (kvs := []) upd_same rfl .nil)
/-! names of the module -/
theorem de_gstr {x z : Str} {l : List Nat} (hg : Gl X x) (hm : ∃ t, X.mg x = some (.str z t)) (hl : z.cps.toList = l := by rfl) (hd : (x == ("__debug__" : Str)) = false := by decide) : DE X W ks .O (.Name x pos) (eC (.str l)) := by
  obtain ⟨t, hm⟩ := hm
  exact de_C (v := .str z) (fun _ => hl ▸ .str z) (pe_glob hg hm ⟨t, rfl⟩ hd)
theorem de_gint {x : Str} {i : Int} (hg : Gl X x) (hm : ∃ t, X.mg x = some (.int i t)) (hd : (x == ("__debug__" : Str)) = false := by decide) : DE X W ks .O (.Name x pos) (eC (.int i)) := by
  obtain ⟨t, hm⟩ := hm
  exact de_C (v := .int i) (fun _ => .int i) (pe_glob hg hm ⟨t, rfl⟩ hd)
/-! a local handed back -/
theorem Slots.take {K : PySem.W.Frag} {mg : MG} (s : Slots K mg H G ks σ ρ M) : ∀ {i : Nat} {d : D} {k : Kd}, ρ[i]? = some (some d) → ks[i]? = some k → M.Nodup → ∃ v M1 M', σ[i]? = some (some v) ∧ Rep K mg H (gk k G) d v M1 ∧ M1.Nodup ∧ Slots K mg H G ks σ (ρ.set i none) M' ∧ M'.Nodup ∧ (∀ a ∈ M1, a ∈ M ∧ a ∉ M') ∧ ∀ a ∈ M', a ∈ M := by
  induction s with
  | nil => intro i d k e; simp at e
  | @non k ks v σ ρ M t ih =>
    intro i d k e1 e2 n
    cases i with
    | zero => simp at e1
    | succ i =>
      obtain ⟨v, M1, M', h1, h2, h3, h4, h5, h6, h7⟩ := ih (by simpa using e1) (by simpa using e2) n
      exact ⟨v, M1, M', by simpa using h1, h2, h3, .non h4, h5, h6, h7⟩
  | @som k0 ks v0 d0 σ ρ Ma M r0 f0 t ih =>
    intro i d k e1 e2 n
    obtain ⟨q1, q2, q3⟩ := List.nodup_append.mp n
    cases i with
    | zero =>
      simp at e1 e2
      subst e1; subst e2
      exact ⟨_, _, _, rfl, r0, q1, .non t, q2, fun a m => ⟨List.mem_append_left _ m, fun z => q3 a m a z rfl⟩, fun a m => List.mem_append_right _ m⟩
    | succ i =>
      obtain ⟨v, M1, M', h1, h2, h3, h4, h5, h6, h7⟩ := ih (by simpa using e1) (by simpa using e2) q2
      refine ⟨v, M1, Ma ++ M', by simpa using h1, h2, h3, .som r0 f0 h4, List.nodup_append.mpr ⟨q1, h5, fun a ha b hb e => q3 a ha b (h7 b hb) e⟩, fun a m => ⟨List.mem_append_right _ (h6 a m).1, fun z => (List.mem_append.mp z).elim (fun y => q3 a y a (h6 a m).1 rfl) (h6 a m).2⟩, fun a m => (List.mem_append.mp m).elim (fun y => List.mem_append_left _ y) fun y => List.mem_append_right _ (h7 a y)⟩
theorem ds_retM {i : Nat} {x : Str} {np : Pos} (hi : ks[i]? = some .O) (hq : leKs ks S.kq = true) (hk : S.kr = .O) (hv : PE X (.Name x np) (tVar i)) : DS X S ks k2 (.Return (some (.Name x np)) pos) (sRetM i) := fun B => PS_imp (ps_ret hv) fun Dn σ H ⟨ρ, G, M, s, q⟩ => by
  unfold sRetM at q
  cases e1 : ρ[i]? with
  | none => rw [e1] at q; exact q.elim
  | some o1 =>
    cases o1 with
    | none => rw [e1] at q; exact q.elim
    | some d1 =>
      rw [e1] at q
      obtain ⟨v, M1, M', h1, h2, h3, h4, h5, h6, h7⟩ := s.st.sl.take e1 hi s.st.nd
      refine ⟨v, h1, ?_⟩
      have s1 : StB X.K X.mg B ks σ H (ρ.set i none) G M' := ⟨⟨h4, h5, fun a m => s.st.ng a (h7 a m), s.st.ex⟩, s.pres, fun a m => s.own a (h7 a m), s.gnew, s.gold, s.m0⟩
      obtain ⟨G2, M2, w1, w2, w3, w4⟩ := s1.st.weak hq
      have s2 : StB X.K X.mg B S.kq σ H (ρ.set i none) G2 M2 := ⟨w1, s1.pres, fun a m => s1.own a (w2.subset m), fun a z => (w4 a z).elim (s1.gnew a) fun m => .inr (s1.own a m), fun a z => w3 a (s1.gold a z), s1.m0⟩
      exact q σ v H G2 M2 M1 ⟨s2, by rw [hk]; exact h2, (fun z => by rw [hk] at z; cases z), h3, fun a m => ⟨fun z => (w4 a z).elim (s.st.ng a (h6 a m).1) (h6 a m).2, fun z => (h6 a m).2 (w2.subset z), s.own a (h6 a m).1⟩⟩
end
end DL
end

section
/-! DL: classes of errors, isinstance. -/
namespace DL
open PySem L2
open PyProof.Rows (envOfC)

/-- own error classes: name, its own ancestors (itself among them) -/
abbrev Hi := List (Str × List Str)
def tagD : D → Option String
  | .non => some "NoneType" | .bl _ => some "bool" | .int _ => some "int" | .str _ => some "str" | .tup _ => some "tuple" | .lst _ => some "list" | .scr _ => some "list" | .dct _ _ => some "dict" | _ => none
def tags : List String := ["NoneType", "bool", "int", "str", "tuple", "list", "dict"]
theorem tag_mem {d : D} {a : String} (h : tagD d = some a) : a ∈ tags := by
  cases d <;> first | (cases h; done) | (cases h; decide)
def isTB (T a : String) : Bool := a == T || (a == "bool" && T == "int")
/-- isinstance by a built-in class -/
def isT (hs : Hi) (T : String) : D → Option Bool
  | .exc c _ _ => (hs.lookup c).map fun _ => T == "ValueError"
  | d => (tagD d).map (isTB T)
/-- isinstance by an own error class -/
def isC (hs : Hi) (y : Str) : D → Option Bool
  | .exc c _ _ => (hs.lookup c).map (·.contains y)
  | d => (tagD d).map fun _ => false
def tC' (hs : Hi) (y : Str) : Str → Option Bool := fun c => (hs.lookup c).map (·.contains y)

/-! ### what the written part says -/
def excB (K : PySem.W.Frag) (C : Addr) : Bool :=
  (PySem.W.clsIn K C).isSome && (He.eqO (PySem.W.findIn K (.ref C) "__getattribute__") (some (some (.builtin "BaseException.__getattribute__"))) && (He.eqO (PySem.W.findIn K (.ref C) "__getattr__") (some none) && (decide (PySem.W.subIn K (.ref C) (.type "BaseException") = some true) &&
  (He.eqO (PySem.W.findIn K (.ref C) "__class__") (some (some (.builtin "object.__class__"))) && (decide (PySem.W.mroIn K C (.type "object") = some true) && (PySem.W.keepIn K (.ref C) && (decide (PySem.W.typeIn K (.ref C) = some (.type "type")) && decide (PySem.W.kitOne K (.ref C) (.type "ValueError") = some true))))))))
def relB' (K : PySem.W.Frag) (C E : Addr) (b : Bool) : Bool := decide (PySem.W.kitOne K (.ref C) (.ref E) = some b) && decide (PySem.W.exmOne K (.ref C) (.ref E) = some b)
def tagB (K : PySem.W.Frag) (C : Addr) : Bool := tags.all fun a => decide (PySem.W.kitOne K (.type a) (.ref C) = some false)
def tysB (K : PySem.W.Frag) (C : Addr) : Bool := tags.all fun a => decide (PySem.W.kitOne K (.ref C) (.type a) = some false)
def hiB (K : PySem.W.Frag) (hs : Hi) : Bool := decide (PySem.W.specialIn K (.builtin "object.__class__") "__get__" = some (some (.builtin "getset_descriptor.__get__"))) && (decide (PySem.W.takesIn K (.builtin "object.__class__") = some true) &&
  hs.all fun p => He.eqO (PySem.W.nsIn K mainGlobals p.1) (some (some (.ref (He.ga K p.1)))) && (excB K (He.ga K p.1) && (tagB K (He.ga K p.1) && (tysB K (He.ga K p.1) && hs.all fun q => relB' K (He.ga K p.1) (He.ga K q.1) (p.2.contains q.1)))))
structure HiOk (K : PySem.W.Frag) (mg : MG) (hs : Hi) : Prop where
  hn : PySem.W.specialIn K (.builtin "object.__class__") "__get__" = some (some (.builtin "getset_descriptor.__get__"))
  ht : PySem.W.takesIn K (.builtin "object.__class__") = some true
  mg_ : ∀ p ∈ hs, mg p.1 = some (.ref (He.ga K p.1))
  exc : ∀ p ∈ hs, excB K (He.ga K p.1) = true
  tag : ∀ p ∈ hs, tagB K (He.ga K p.1) = true
  tys : ∀ p ∈ hs, tysB K (He.ga K p.1) = true
  rel : ∀ p ∈ hs, ∀ q ∈ hs, relB' K (He.ga K p.1) (He.ga K q.1) (p.2.contains q.1) = true
theorem hi_ok {K : PySem.W.Frag} {mg : MG} {hs : Hi} {h : Heap} (X : K.In h) (G : h.Ns mainGlobals mg) (c : hiB K hs = true) : HiOk K mg hs := by
  obtain ⟨c1, c2⟩ := He.ba c
  obtain ⟨c2, c3⟩ := He.ba c2
  have c4 := List.all_eq_true.mp c3
  refine ⟨of_decide_eq_true c1, of_decide_eq_true c2, fun p hp => ?_, fun p hp => ?_, fun p hp => ?_, fun p hp => ?_, fun p hp q hq => ?_⟩
  all_goals obtain ⟨d1, d2⟩ := He.ba (c4 p hp); obtain ⟨d2, d3⟩ := He.ba d2; obtain ⟨d3, d4⟩ := He.ba d3; obtain ⟨d4, d5⟩ := He.ba d4
  · exact PySem.W.mg_of X G (He.eqO_ok d1)
  · exact d2
  · exact d3
  · exact d4
  · exact List.all_eq_true.mp d5 q hq
section
variable {X : Cx} {W : WX} {B : Bs} {S : Sx} {k : Kd} {ks k1 k2 kt js : List Kd} {σ : St} {H H' : Hp} {ρ : Sl} {G G' : GA} {M : List Addr} {Q : VK} {Dn : Ends} {f g : Ev} {t u : Tv} {st : Stmt} {e c a b tg : Expr} {pos : Pos} {d : D} {v : V} {K : PySem.W.Frag} {mg : MG} {hs : Hi}
theorem lookup_mem' {c : Str} {l : List Str} : ∀ {hs : Hi}, hs.lookup c = some l → (c, l) ∈ hs
  | [], h => by cases h
  | (b, u) :: r, h => by
    have h2 : (match c == b with | true => some u | false => r.lookup c) = some l := h
    cases q : (c == b) with
    | true =>
      rw [q] at h2
      have e : u = l := Option.some.inj h2
      rw [beq_iff_eq.mp q, e]
      exact List.mem_cons_self
    | false =>
      rw [q] at h2
      exact List.mem_cons_of_mem _ (lookup_mem' h2)
theorem HiOk.addr (h : HiOk K mg hs) {c : Str} {l : List Str} {C : Addr} (e : hs.lookup c = some l) (m : mg c = some (.ref C)) : C = He.ga K c := by
  have := h.mg_ _ (lookup_mem' e)
  rw [this] at m; cases m; rfl
/-- an except clause by an own class -/
theorem HiOk.tests (h : HiOk X.K X.mg hs) {y : Str} (hy : (hs.lookup y).isSome = true) : Tests X (.ref (He.ga X.K y)) (tC' hs y) := fun c C b m e => by
  obtain ⟨ly, ey⟩ := Option.isSome_iff_exists.mp hy
  unfold tC' at e
  cases q : hs.lookup c with
  | none => rw [q] at e; cases e
  | some l =>
    rw [q] at e
    obtain rfl := h.addr q m
    obtain rfl : l.contains y = b := Option.some.inj e
    exact of_decide_eq_true (He.ba (h.rel _ (lookup_mem' q) _ (lookup_mem' ey))).2
theorem HiOk.names (h : HiOk X.K X.mg hs) {y : Str} (hy : (hs.lookup y).isSome = true) (hg : Gl X y) (hd : (y == ("__debug__" : Str)) = false := by decide) : Names X y (.ref (He.ga X.K y)) := by
  obtain ⟨ly, ey⟩ := Option.isSome_iff_exists.mp hy
  exact ⟨hg, hd, .inl (h.mg_ _ (lookup_mem' ey))⟩
theorem HiOk.mg' (h : HiOk K mg hs) {y : Str} (hy : (hs.lookup y).isSome = true) : mg y = some (.ref (He.ga K y)) := by
  obtain ⟨ly, ey⟩ := Option.isSome_iff_exists.mp hy
  exact h.mg_ _ (lookup_mem' ey)
theorem ty_of {d : D} {v : V} {M : List Addr} {a : String} (r : Rep K mg H G d v M) (h : tagD d = some a) : TyX K H v (.type a) := by
  cases r <;> first
    | (cases h; done)
    | skip
  case non => cases h; exact .base .non
  case bl => cases h; exact .base (.bl _)
  case int => cases h; exact .base (.int _)
  case str => cases h; exact .base (.str _)
  case tup s r =>
    cases h
    rcases s with (s | ⟨o, s⟩) | ⟨o, its, n, s, c, _⟩
    · exact .base (.tup s)
    · exact .fTuple s
    · exact .kTuple s c
  case lstO s r => cases h; exact .base (.lst s)
  case lstF s g r => cases h; exact .base (.lst s)
  case scr s =>
    cases h
    rcases s with ⟨o, s⟩ | ⟨o, its, n, s, c, _⟩
    · exact .base (.frz s)
    · exact .kList s c
  case dctO s e r => cases h; exact .base (.dK s)
  case dctF s g e r => cases h; exact .base (.dK s)
def rIsEx (K : PySem.W.Frag) : List V → Hp → VK → Prop := fun xs H Q => ∃ (a C : Addr) (dd : Option Addr) (c : V) (u : Value) (b : Bool), xs = [.ref a, c] ∧ ClsV c u ∧ H a = some (ExcO C dd a) ∧ (∀ x, dd = some x → ∃ fs, H x = some (.xd fs)) ∧ excB K C = true ∧
  PySem.W.specialIn K (.builtin "object.__class__") "__get__" = some (some (.builtin "getset_descriptor.__get__")) ∧ PySem.W.takesIn K (.builtin "object.__class__") = some true ∧ PySem.W.kitOne K (.ref C) u = some b ∧ Q (.bl b) H
theorem call_isEx : CallR X (.builtin "isinstance") (rIsEx X.K) := by
  intro pins s σ H xs us Q I r h
  obtain ⟨a, C, dd, c, u, b, rfl, k, ha, hdd, hx, hn, ht, e, q⟩ := h
  obtain ⟨u1, u2, rfl, r1, r2⟩ := vals2 r
  obtain rfl := k.eq r2
  cases (show u1 = Value.ref a from r1)
  obtain ⟨oe, vs, g1, g2, g3⟩ := (show ∃ (oe : Obj) (vs : Array Value), s.heap.get? a = some oe ∧ Zc (.ref C) dd oe ∧ oe.data = .fields vs from (I.hok a _ ha).1)
  obtain ⟨c1, hx⟩ := He.ba hx
  obtain ⟨c2, hx⟩ := He.ba hx
  obtain ⟨c3, hx⟩ := He.ba hx
  obtain ⟨c4, hx⟩ := He.ba hx
  obtain ⟨c5, hx⟩ := He.ba hx
  obtain ⟨c6, hx⟩ := He.ba hx
  have J : ∃ od, PySem.W.InstAt s.heap a oe C od := by
    cases dd with
    | none => exact ⟨none, g1, g2.1, by unfold PySem.W.notCls; rw [g3] <;> rfl, by rw [g2.2]; trivial⟩
    | some x =>
      obtain ⟨fs, hf⟩ := hdd x rfl
      obtain ⟨mA, hns, _⟩ := (show ∃ mA, s.heap.Ns1 x mA ∧ ∀ f, RelO (fs.lookup f) (mA f) from I.hok x _ hf)
      obtain ⟨od, ho, _⟩ := lookIn_ns hns
      exact ⟨some od, g1, g2.1, by unfold PySem.W.notCls; rw [g3] <;> rfl, by rw [g2.2]; exact ho⟩
  obtain ⟨od, J⟩ := J
  exact PySem.W.kia_one (PySem.W.kitx_exc c1 (He.eqO_ok c2) (He.eqO_ok c3) (of_decide_eq_true c4) (He.eqO_ok c5) hn ht (of_decide_eq_true c6)) I.kIn J e (fun z => nomatch z) fun tk => ⟨.bl b, H, I.tok tk, rfl, q⟩
def rIsAll (K : PySem.W.Frag) : List V → Hp → VK → Prop := fun xs H Q => rIsi K xs H Q ∨ rIsEx K xs H Q
theorem call_isAll : CallR X (.builtin "isinstance") (rIsAll X.K) := call_isi.or call_isEx
theorem exc_inv {c : Str} {ns : List Str} {ds : List D} {v : V} {M : List Addr} (r : Rep K mg H G (.exc c ns ds) v M) : ∃ a C dd, v = .ref a ∧ H a = some (ExcO C dd a) ∧ mg c = some (.ref C) ∧ ∀ x, dd = some x → ∃ fs, H x = some (.xd fs) := by
  cases r with
  | exc0 h hc => exact ⟨_, _, none, rfl, h, hc, fun x e => nomatch e⟩
  | exc h hd hc e r => exact ⟨_, _, some _, rfl, h, hc, fun x e => by cases e; exact ⟨_, hd⟩⟩
def eIs (is : D → Option Bool) (f : Ev) : Ev := fun ρ => (f ρ).bind fun d => Res.of ((is d).map D.bl)
/-- what isinstance by c says -/
def IsOk (K : PySem.W.Frag) (mg : MG) (c : V) (is : D → Option Bool) : Prop := ∀ (H : Hp) (G : GA) (d : D) (v : V) (b : Bool) (Q : VK), Rep K mg H G d v [] → is d = some b → Q (.bl b) H → rIsAll K [v, c] H Q
theorem isT_ok (h : HiOk K mg hs) {T : String} (ht : T ∈ tags ∨ T = "ValueError") (hk : ∀ a ∈ tags, kitB a T = some (isTB T a)) : IsOk K mg (.ty T) (isT hs T) := by
  intro H G d v b Q r e q
  have base : ∀ a, tagD d = some a → isTB T a = b → rIsAll K [v, .ty T] H Q := fun a ea eb => by
    refine .inl ⟨v, .ty T, .type a, .type T, b, rfl, .ty T, ty_of r ea, kit_ty ?_, q⟩
    rw [hk a (tag_mem ea), eb]
  cases d <;> first | exact base _ rfl (Option.some.inj e) | (cases e; done) | skip
  rename_i c ns ds
  obtain ⟨a, C, dd, rfl, ha, hm, hdd⟩ := exc_inv r
  replace e : (hs.lookup c).map (fun _ => T == "ValueError") = some b := e
  cases q2 : hs.lookup c with
  | none => rw [q2] at e; cases e
  | some l =>
    rw [q2] at e
    obtain rfl : (T == "ValueError") = b := Option.some.inj e
    obtain rfl := h.addr q2 hm
    refine .inr ⟨a, _, dd, .ty T, .type T, _, rfl, .ty T, ha, hdd, h.exc _ (lookup_mem' q2), h.hn, h.ht, ?_, q⟩
    rcases ht with ht | rfl
    · have z := of_decide_eq_true (List.all_eq_true.mp (h.tys _ (lookup_mem' q2)) T ht)
      rw [z]
      have : (T == "ValueError") = false := by
        simp only [tags, List.mem_cons, List.not_mem_nil, or_false] at ht
        rcases ht with rfl | rfl | rfl | rfl | rfl | rfl | rfl <;> decide
      rw [this]
    · obtain ⟨_, hx⟩ := He.ba (h.exc _ (lookup_mem' q2))
      obtain ⟨_, hx⟩ := He.ba hx
      obtain ⟨_, hx⟩ := He.ba hx
      obtain ⟨_, hx⟩ := He.ba hx
      obtain ⟨_, hx⟩ := He.ba hx
      obtain ⟨_, hx⟩ := He.ba hx
      obtain ⟨_, hx⟩ := He.ba hx
      obtain ⟨_, hx⟩ := He.ba hx
      exact of_decide_eq_true hx
theorem isC_ok (h : HiOk K mg hs) {y : Str} (hy : (hs.lookup y).isSome = true) : IsOk K mg (.ref (He.ga K y)) (isC hs y) := by
  obtain ⟨ly, ey⟩ := Option.isSome_iff_exists.mp hy
  intro H G d v b Q r e q
  have base : ∀ a, tagD d = some a → false = b → rIsAll K [v, .ref (He.ga K y)] H Q := fun a ea eb => by
    refine .inl ⟨v, _, .type a, .ref (He.ga K y), b, rfl, .own _, ty_of r ea, ?_, q⟩
    rw [← eb]
    exact of_decide_eq_true (List.all_eq_true.mp (h.tag _ (lookup_mem' ey)) a (tag_mem ea))
  cases d <;> first | exact base _ rfl (Option.some.inj e) | (cases e; done) | skip
  rename_i c ns ds
  obtain ⟨a, C, dd, rfl, ha, hm, hdd⟩ := exc_inv r
  replace e : (hs.lookup c).map (·.contains y) = some b := e
  cases q2 : hs.lookup c with
  | none => rw [q2] at e; cases e
  | some l =>
    rw [q2] at e
    obtain rfl : l.contains y = b := Option.some.inj e
    obtain rfl := h.addr q2 hm
    exact .inr ⟨a, _, dd, _, .ref (He.ga K y), _, rfl, .own _, ha, hdd, h.exc _ (lookup_mem' q2), h.hn, h.ht, of_decide_eq_true (He.ba (h.rel _ (lookup_mem' q2) _ (lookup_mem' ey))).1, q⟩
theorem de_is {is : D → Option Bool} {p : Pos} {ce : Expr} {cv : V} (ok : IsOk X.K X.mg cv is) (hce : PE X ce (tC cv)) (hg : Gl X "isinstance") (hm : X.mg "isinstance" = none) (he : DE X W ks .F e f)
    (h1 : starEach (e :: [ce]) X.env = (false, eval e X.env) :: starEach [ce] X.env := by rfl) (h2 : starEach (ce :: []) X.env = (false, eval ce X.env) :: starEach [] X.env := by rfl) (hpl : (backTo pos (starEach [ce] X.env)).any (·.1) = false := by rfl) :
    DE X W ks .O (.Call (.Name "isinstance" p) [e, ce] [] pos) (eIs is f) :=
  PE_imp (pe_callB call_isAll hg hm PyProof.Rows.boot_isinstance (pa_cons he (pa_cons hce pa_nil h2) h1) (he := h1) (hpl := hpl)) fun σ H Q ⟨ρ, G, M, S, ho⟩ => tD_then (f := f) S ho fun d v H1 G1 _ gr rp S1 ho1 => by
    cases q : is d with
    | none => rw [q] at ho1; exact ho1.elim
    | some b =>
      rw [q] at ho1
      exact ok H1 G1 d v b Q rp q (OutOk.imm (d := .bl b) ho1 S1.ex (.bl b))
theorem de_isTy {T : String} {x : Str} {p p2 : Pos} (h : HiOk X.K X.mg hs) (hv : bootBuiltins x = some (.type T)) (hgT : Gl X x) (hmT : X.mg x = none) (hg : Gl X "isinstance") (hm : X.mg "isinstance" = none) (he : DE X W ks .F e f) (ht : T ∈ tags ∨ T = "ValueError") (hk : ∀ a ∈ tags, kitB a T = some (isTB T a))
    (hn : x ≠ "__name__" := by decide) (hdb : (x == ("__debug__" : Str)) = false := by decide)
    (h1 : starEach (e :: [.Name x p2]) X.env = (false, eval e X.env) :: starEach [.Name x p2] X.env := by rfl) : DE X W ks .O (.Call (.Name "isinstance" p) [e, .Name x p2] [] pos) (eIs (isT hs T) f) :=
  de_is (isT_ok h ht hk) (pe_bltn hgT hmT hv rfl hn hdb) hg hm he h1
theorem de_isCl {y : Str} {p p2 : Pos} (h : HiOk X.K X.mg hs) (hy : (hs.lookup y).isSome = true) (hgT : Gl X y) (hg : Gl X "isinstance") (hm : X.mg "isinstance" = none) (he : DE X W ks .F e f) (hdb : (y == ("__debug__" : Str)) = false := by decide)
    (h1 : starEach (e :: [.Name y p2]) X.env = (false, eval e X.env) :: starEach [.Name y p2] X.env := by rfl) : DE X W ks .O (.Call (.Name "isinstance" p) [e, .Name y p2] [] pos) (eIs (isC hs y) f) :=
  de_is (isC_ok h hy) (pe_glob hgT (h.mg' hy) rfl hdb) hg hm he h1
theorem kit_str : ∀ a ∈ tags, kitB a "str" = some (isTB "str" a) := by decide +kernel
theorem kit_int : ∀ a ∈ tags, kitB a "int" = some (isTB "int" a) := by decide +kernel
theorem kit_bool : ∀ a ∈ tags, kitB a "bool" = some (isTB "bool" a) := by decide +kernel
theorem kit_list : ∀ a ∈ tags, kitB a "list" = some (isTB "list" a) := by decide +kernel
theorem kit_tuple : ∀ a ∈ tags, kitB a "tuple" = some (isTB "tuple" a) := by decide +kernel
theorem kit_VE : ∀ a ∈ tags, kitB a "ValueError" = some (isTB "ValueError" a) := by decide +kernel
/-! ### own errors raised -/
def mkB (K : PySem.W.Frag) (x : Str) : Bool := PySem.W.excIn K (He.ga K x) He.veBase "ValueError.__new__"
theorem HiOk.raises (h : HiOk X.K X.mg hs) {y : Str} (hy : (hs.lookup y).isSome = true) : Raises X (.ref (He.ga X.K y)) := by
  obtain ⟨ly, ey⟩ := Option.isSome_iff_exists.mp hy
  obtain ⟨_, hx⟩ := He.ba (h.exc _ (lookup_mem' ey))
  obtain ⟨_, hx⟩ := He.ba hx
  obtain ⟨_, hx⟩ := He.ba hx
  obtain ⟨c4, hx⟩ := He.ba hx
  obtain ⟨_, hx⟩ := He.ba hx
  obtain ⟨_, hx⟩ := He.ba hx
  obtain ⟨_, hx⟩ := He.ba hx
  obtain ⟨c8, hx⟩ := He.ba hx
  exact raises_own (of_decide_eq_true c4) (of_decide_eq_true c8)
theorem HiOk.kept (h : HiOk X.K X.mg hs) {y : Str} (hy : (hs.lookup y).isSome = true) : PySem.W.keepIn X.K (.ref (He.ga X.K y)) = true := by
  obtain ⟨ly, ey⟩ := Option.isSome_iff_exists.mp hy
  obtain ⟨_, hx⟩ := He.ba (h.exc _ (lookup_mem' ey))
  obtain ⟨_, hx⟩ := He.ba hx
  obtain ⟨_, hx⟩ := He.ba hx
  obtain ⟨_, hx⟩ := He.ba hx
  obtain ⟨_, hx⟩ := He.ba hx
  obtain ⟨_, hx⟩ := He.ba hx
  exact (He.ba hx).1
theorem HiOk.make {m : Str} {j : Nat} {p p2 : Pos} (h : HiOk X.K X.mg hs) {y : Str} (hy : (hs.lookup y).isSome = true) (hmk : mkB X.K y = true) (hg : Gl X y) (hdb : (y == ("__debug__" : Str)) = false := by decide) :
    L2N.PMk X (.Call (.Name y p) [.Constant (.str m) j p2] [] pos) (fun _ H Q => Q (.ref (He.ga X.K y)) none H) := L2N.pmk_own PySem.F.excBase_ValueError hmk (h.mg' hy) (h.kept hy) (h.raises hy) hg hdb
end
end DL
end

section
/-! DL: a def of the top with its name, place, binding; the law's end. -/
namespace DL
open PySem L2 PySem.Spec
open PyProof.Rows

/-- a def as the top leaves it -/
structure Dn (K : PySem.W.Frag) (mg : MG) (x qual : Str) (st : Stmt) (ps : List Str) where
  fa : Addr
  fd : FuncData
  F : Fun K x qual st fa fd
  b : Binds K fd ps []
  g : mg x = some (.ref fa)
  a : ∀ (s : Shared) (us : List Value), us.length = ps.length → BindsTo s fd ⟨us, []⟩ (ps.zip us)
theorem fun_ofD {K : PySem.W.Frag} {x qual : Str} {st : Stmt} {f : Addr} {fd : FuncData} (F : FunD K x qual (defArgs st) (defBody st) (defScope st) [] [] f fd) : Fun K x qual st f fd := by
  obtain ⟨oc, od, dV, kV, doc, pm, an, cdv, ct, osl, rfl, lk, hcd, hD, hK⟩ := F.ex
  rcases hD with ⟨_, rfl⟩ | ⟨e, _⟩
  · exact ⟨⟨oc, od, kV, doc, pm, an, cdv, ct, osl, rfl, lk, hcd⟩, F.kp⟩
  · exact absurd rfl e
abbrev dD (x qual : Str) (st : Stmt) : He.DefD := ⟨(x, none), x, qual, defArgs st, defBody st, defScope st, [], []⟩
theorem dn_of {K : PySem.W.Frag} {mg : MG} {x qual : Str} {st : Stmt} {ps : List Str} {h : Heap} (X : K.In h) (G : h.Ns mainGlobals mg) (c : ∃ fd, FunD K x qual (defArgs st) (defBody st) (defScope st) [] [] (He.fAd K (x, none)) fd) (cg : (He.Fa.glo x).ok K = true)
    (hb : ∀ (kV doc pm : Value) (an : Option Addr) (cdv ct : Value) (us : List Value), us.length = ps.length → bindArgs (PySem.W.fnOf x qual (defArgs st) (defBody st) (defScope st) .none kV doc pm an cdv ct) ⟨us, []⟩ = pure (ps.zip us)) : Nonempty (Dn K mg x qual st ps) := by
  obtain ⟨fd, F⟩ := c
  exact ⟨⟨He.fAd K (x, none), fd, fun_ofD F, F.bindsN hb, He.glo_ok X G cg, fun s us hl => F.bindsA hb s us hl⟩⟩
section
variable {X : Cx} {W : WX} {k : Kd} {ks : List Kd} {e : Expr} {f : Ev}
theorem de_FX (h : DE X W ks .F e f) : DE X W ks .X e f := PE_imp h fun σ H Q ⟨ρ, G, M, S, ho⟩ => by
  refine ⟨ρ, G, M, S, ?_⟩
  cases er : f ρ with
  | ok d =>
    rw [er] at ho
    intro v H' G' M' gr vr
    obtain rfl := vr.fr rfl
    exact ho v H' G' [] gr ⟨vr.rep, (fun z => nomatch z), vr.nd, vr.new⟩
  | exn x => rw [er] at ho; exact ho
  | no => rw [er] at ho; exact ho.elim
end
theorem ds_toR {X : Cx} {S : Sx} {ks k1 k2 : List Kd} {st : Stmt} {u : Sv} (h : k1 = k2) (d : DS X S ks k1 st u) : DS X S ks k2 st u := h ▸ d
def eIf (t : Tv) (f g : Ev) : Ev := fun ρ => (t ρ).bind fun z => if z = true then f ρ else g ρ
theorem de_if {X : Cx} {W : WX} {k : Kd} {ks : List Kd} {c a b : Expr} {t : Tv} {f g : Ev} {pos : Pos} (hc : DT X W ks c t) (h1 : DE X W ks k a f) (h2 : DE X W ks k b g) : DE X W ks k (.IfExp c a b pos) (eIf t f g) := de_ifB hc h1 h2
section
variable {X : Cx} {W : WX} {S : Sx} {k : Kd} {ks : List Kd} {e tge it elt : Expr} {ifs : List Expr} {scope : Scope} {pos : Pos} {fs : Sl → Res (List D)} {t : Tv}
theorem de_compV {own : List (Str × Nat)} {g : TG} {tg : Tg} {el : Ev} (vs : List Nat) (hc : X.calm = true) (hN : X.N.Nodup) (hi : DI X W ks tge it fs) (ok : BlkOk X.N X.env.scope scope own) (hv : own.map (·.2) = vs)
    (hg : ∀ (s : Shared) (H : Hp) (C : Addr) (cl : List (Str × Addr)) (fp : List Addr), PG (X.blk s H scope (compEnvC scope cl C X.env) fp) tge g) (hgd : DGv X ks g tg) (hkp : Keeps vs g)
    (ht : ∀ (s : Shared) (H : Hp) (C : Addr) (cl : List (Str × Addr)) (fp : List Addr), PTs (X.blk s H scope (compEnvC scope cl C X.env) fp) ifs (tDT (X.blk s H scope (compEnvC scope cl C X.env) fp) W0 ks t))
    (he : ∀ (s : Shared) (H : Hp) (C : Addr) (cl : List (Str × Addr)) (fp : List Addr), DE (X.blk s H scope (compEnvC scope cl C X.env) fp) W0 ks k elt el) (hs : ∀ x, foldedSetIterable it X.env x = pure x := by intro _; rfl) :
    DE X W ks (kc k) (.ListComp elt [⟨tge, it, ifs, 0⟩] scope pos) (eComp fs vs tg t el) := by
  subst hv; exact de_comp hc hN hi ok hg hgd hkp ht he hs
theorem ds_setLcV {i : Nat} {y : Str} {py spos : Pos} {own : List (Str × Nat)} {g : TG} {tg : Tg} {el : Ev} (vs : List Nat) (hk : i < ks.length) (hx : leKs ks S.kx = true) (hc : X.calm = true) (hN : X.N.Nodup) (hy : X.N[i]? = some y) (hyl : X.env.scope.names.lookup y = some .local)
    (hsw : swapsWith (.ListComp elt [⟨tge, it, ifs, 0⟩] scope pos) (some (.Name y py)) spos.line X.env = pure true) (hi : DI X S.W ks tge it fs) (ok : BlkOk X.N X.env.scope scope own) (hv : own.map (·.2) = vs)
    (hg : ∀ (s : Shared) (H : Hp) (C : Addr) (cl : List (Str × Addr)) (fp : List Addr), PG (X.blk s H scope (compEnvC scope cl C X.env) fp) tge g) (hgd : DGv X ks g tg) (hkp : Keeps vs g)
    (ht : ∀ (s : Shared) (H : Hp) (C : Addr) (cl : List (Str × Addr)) (fp : List Addr), PTs (X.blk s H scope (compEnvC scope cl C X.env) fp) ifs (tDT (X.blk s H scope (compEnvC scope cl C X.env) fp) W0 ks t))
    (he : ∀ (s : Shared) (H : Hp) (C : Addr) (cl : List (Str × Addr)) (fp : List Addr), DE (X.blk s H scope (compEnvC scope cl C X.env) fp) W0 ks k elt el) (hs : ∀ x, foldedSetIterable it X.env x = pure x := by intro _; rfl) :
    DS X S ks (ks.set i (kc k)) (.Assign [.Name y py] (.ListComp elt [⟨tge, it, ifs, 0⟩] scope pos) spos) (sSet i (eComp fs vs tg t el)) := by
  subst hv; exact ds_setLc hk hx hc hN hy hyl hsw hi ok hg hgd hkp ht he hs
end
theorem boot_ValueError : bootBuiltins "ValueError" = some (.type "ValueError") := by decide +kernel
theorem hu64 {j : Nat} {A : Around} (h : Room j A) : A.units + 64 < cLine := by have := h.un; omega
theorem hu65 {j : Nat} {A : Around} (h : Room j A) : A.units + 65 < cLine := by have := h.un; omega
end DL
namespace DL
open PySem L2 PySem.Spec
open PyProof.Rows
/-! ### the end of a law -/
theorem fz_of {K : PySem.W.Frag} {H : Hp} {a : Addr} {xs : List V} (hO : Only H) (h : SqL K H a xs) : FzL K H a xs := by
  rcases h with (h | h) | h
  · rcases hO a with e | ⟨o, ys, e⟩ <;> rw [e] at h <;> cases h
  · exact .inl h
  · exact .inr h
/-- the mirror of the law's def says True of every script: the law's walk -/
theorem law_by {l : PySem.W.OpenLaw} {n k : Nat} {q : Program} {loose : List Str} {XP : (Str → Option Value) → Heap → Prop} {YP : World → Heap → Prop} {d : DefRec} {x : Str} {kr : Kd} {m : List D → Res D}
    (hn : l.most = some n) (hn2 : n ≤ sizeLine) (hdf : d.params.defaults = []) (hr : Room k callerA)
    (hm : ∀ ns : List Int, ns.length ≤ n → (∀ z ∈ ns, Builtin.Int.intBits z ≤ 1048576) → m [.scr ns] = .ok (.bl true))
    (F : ∀ (w : World) (mg : Str → Option Value) (fa : Addr) (h : Heap), YP w h → h.Ns mainGlobals mg → mg d.name = some (.ref fa) →
      ∃ (K : PySem.W.Frag) (fd : FuncData), K.In h ∧ (∀ (s : Shared) (u : Value), BindsTo s fd ⟨[u], []⟩ [(x, u)]) ∧
        ∀ base : Heap, K.In base → base.Ns mainGlobals mg → FnOk l.prog w K mg base (DX.CX l.prog w) k fa fd [x] (spD K mg kr m 1)) :
    PySem.W.WalkO q loose XP YP l.row.toRowW d [] (fun f vs => PySem.call f vs) := by
  refine Att.attach_callB hn hdf fun w s0 s1 mg mb fa o pm cd doc a vs ns G Y ho hd hcd hmg hobj hints hlen hbits hg => ?_
  obtain ⟨K, fd, KX, hb, hF⟩ := F w mg fa _ Y G.T.g hmg
  refine law_call KX G.T.g G.T.b G.T.builtins G.T.nolimit hg hobj hints (Nat.le_trans hlen hn2) hr hF hb (fun H hO hS => ?_) fun H e s' c => ?_
  · refine ⟨rfl, G0, [.scr ns], .cons (M := []) (M' := []) (.scr (fz_of hO hS)) .nil, (fun a z => z.elim), ?_⟩
    rw [hm ns hlen hbits]
    exact fun v H' G' M gr vr => bl_inv vr.rep
  · obtain ⟨a, B, H', cls, d, _, z⟩ := c
    exact z.wish.elim
end DL
end

section
/-! DL, mathematics: how mirrors are reckoned. -/
namespace DL
open PySem

/-! ### what a def hands back -/
def Out.fin : Out → Res D
  | .rt d _ => .ok d
  | .nx _ => .ok .non
  | .ex x _ => .exn x
  | _ => .no
def Out.seq (o : Out) (g : Sv) : Out := match o with
  | .nx ρ => g ρ
  | o => o
def Out.wl (o : Out) (g : Sv) : Out := match o with
  | .nx ρ => g ρ
  | .ct ρ => g ρ
  | .bk ρ => .nx ρ
  | o => o
def Out.try_ (o : Out) (hs : List ((Str → Option Bool) × HdD)) : Out := match o with
  | .ex x ρ => hdl hs x ρ
  | o => o
theorem runB_fin (N : Nat) (b : Sv) (ds : List D) : runB N b ds = (b (ds.map some ++ List.replicate (N - ds.length) none)).fin := by
  unfold runB Out.fin
  cases b (ds.map some ++ List.replicate (N - ds.length) none) <;> rfl
section
variable {α β : Type} {d d1 d2 : D} {x : Xd} {ρ : Sl} {c : D → Out} {f g : Ev} {u w : Sv} {t : Tv} {i j : Nat}
theorem fin_rt : (Out.rt d ρ).fin = .ok d := rfl
theorem fin_nx : (Out.nx ρ).fin = .ok .non := rfl
theorem fin_ex : (Out.ex x ρ).fin = .exn x := rfl
theorem seq_nx : (Out.nx ρ).seq w = w ρ := rfl
theorem seq_rt : (Out.rt d ρ).seq w = .rt d ρ := rfl
theorem seq_ex : (Out.ex x ρ).seq w = .ex x ρ := rfl
theorem seq_bk : (Out.bk ρ).seq w = .bk ρ := rfl
theorem seq_ct : (Out.ct ρ).seq w = .ct ρ := rfl
theorem wl_nx : (Out.nx ρ).wl w = w ρ := rfl
theorem wl_ct : (Out.ct ρ).wl w = w ρ := rfl
theorem wl_bk : (Out.bk ρ).wl w = .nx ρ := rfl
theorem wl_rt : (Out.rt d ρ).wl w = .rt d ρ := rfl
theorem wl_ex : (Out.ex x ρ).wl w = .ex x ρ := rfl
theorem try_ex {hs : List ((Str → Option Bool) × HdD)} : (Out.ex x ρ).try_ hs = hdl hs x ρ := rfl
theorem try_nx {hs : List ((Str → Option Bool) × HdD)} : (Out.nx ρ).try_ hs = .nx ρ := rfl
theorem try_rt {hs : List ((Str → Option Bool) × HdD)} : (Out.rt d ρ).try_ hs = .rt d ρ := rfl
theorem oE_ok {a : α} {c : α → Out} : oE (.ok a) ρ c = c a := rfl
theorem oE_exn {c : α → Out} : oE (.exn x : Res α) ρ c = .ex x ρ := rfl
theorem bind_ok {a : α} {c : α → Res β} : (Res.ok a).bind c = c a := rfl
theorem bind_exn {c : α → Res β} : (Res.exn x : Res α).bind c = .exn x := rfl
theorem of_some {a : α} : Res.of (some a) = .ok a := rfl
theorem oSeq_at : oSeq u w ρ = (u ρ).seq w := by unfold oSeq Out.seq; cases u ρ <;> rfl
theorem sSet_at : sSet i f ρ = oE (f ρ) ρ fun d => .nx (ρ.set i (some d)) := rfl
theorem sIf_at : sIf t u w ρ = oE (t ρ) ρ fun b => if b = true then u ρ else w ρ := rfl
theorem sRet_at : sRet f ρ = oE (f ρ) ρ fun d => .rt d ρ := rfl
theorem sRetN_at : sRetN ρ = .rt .non ρ := rfl
theorem sEx_at : sEx f ρ = oE (f ρ) ρ fun _ => .nx ρ := rfl
theorem oNx_at : oNx ρ = .nx ρ := rfl
theorem sRaise_at {y : Str} : sRaise y ρ = .ex ⟨y, [], []⟩ ρ := rfl
theorem sTry_at {b : Sv} {hs : List ((Str → Option Bool) × HdD)} : sTry b hs ρ = (b ρ).try_ hs := by unfold sTry Out.try_; cases b ρ <;> rfl
theorem sFor_at {fs : Sl → Res (List D)} {tg : Tg} : sFor fs tg u ρ = oE (fs ρ) ρ fun ds => oFor tg u ds ρ := rfl
theorem sAsg_at {tg : Tg} : sAsg tg f ρ = oE (f ρ) ρ fun d => match tg d ρ with | some ρ1 => .nx ρ1 | none => .no := rfl
theorem eC_at : eC d ρ = .ok d := rfl
theorem eOp_at {o : D → D → Option D} : eOp o f g ρ = (f ρ).bind fun x => (g ρ).bind fun y => Res.of (o x y) := rfl
theorem tB_at : tB f ρ = (f ρ).bind D.asB := rfl
theorem asB_bl {b : Bool} : D.asB (.bl b) = .ok b := rfl
theorem tNot_at : tNot t ρ = (t ρ).bind fun b => .ok (!b) := rfl
theorem tAnd_at {t u : Tv} : tAnd t u ρ = (t ρ).bind fun b => if b = true then u ρ else .ok false := rfl
theorem tOr_at {t u : Tv} : tOr t u ρ = (t ρ).bind fun b => if b = true then .ok true else u ρ := rfl
theorem aN_at : aN ρ = .ok [] := rfl
theorem aC_at {g : Av} : aC f g ρ = (f ρ).bind fun x => (g ρ).bind fun xs => .ok (x :: xs) := rfl
theorem eTup_at {g : Av} : eTup g ρ = (g ρ).bind fun ds => .ok (.tup ds) := rfl
theorem eLst_at {g : Av} : eLst g ρ = (g ρ).bind fun ds => .ok (.lst ds) := rfl
theorem eCall_at {g : Av} {m : List D → Res D} : eCall m g ρ = (g ρ).bind m := rfl
theorem eBlt_at {g : Av} {o : List D → Option D} : eBlt o g ρ = (g ρ).bind fun ds => Res.of (o ds) := rfl
theorem eMt_at {T : String} {g : Av} {o : D → List D → Option D} : eMt T o f g ρ = (f ρ).bind fun d => if TyD T d = true then (g ρ).bind fun ds => Res.of (o d ds) else .no := rfl
theorem tyD_str {l : List Nat} : TyD "str" (.str l) = true := rfl
theorem tyD_lst {l : List D} : TyD "list" (.lst l) = true := rfl
theorem gImm_at : gImm f ρ = (f ρ).bind fun d => if d.imm = true then .ok d else .no := rfl
theorem imm_int {i : Int} : (D.int i).imm = true := rfl
theorem imm_str {l : List Nat} : (D.str l).imm = true := rfl
theorem eIs_at {is : D → Option Bool} : eIs is f ρ = (f ρ).bind fun d => Res.of ((is d).map D.bl) := rfl
theorem eNot_at : eNot f ρ = (f ρ).bind fun d => match d with | .bl b => .ok (.bl (!b)) | _ => .no := rfl
theorem eAnd_at : eAnd f g ρ = (f ρ).bind fun d => match d with | .bl true => g ρ | .bl false => .ok (.bl false) | _ => .no := rfl
theorem eOr_at : eOr f g ρ = (f ρ).bind fun d => match d with | .bl true => .ok (.bl true) | .bl false => g ρ | _ => .no := rfl
theorem eNeg_at : eNeg f ρ = (f ρ).bind fun d => match d with | .int i => .ok (.int (-i)) | _ => .no := rfl
theorem eIf_at : eIf t f g ρ = (t ρ).bind fun z => if z = true then f ρ else g ρ := rfl
theorem oIsN_at : oIsN f ρ = (f ρ).bind fun d => .ok (.bl (isNonD d)) := rfl
theorem oNotN_at : oNotN f ρ = (f ρ).bind fun d => .ok (.bl (!isNonD d)) := rfl
theorem ivD_at : ivD f ρ = (f ρ).bind itemsD := rfl
theorem irD_at {c : List D → Res (List D)} {g : Av} : irD c g ρ = (g ρ).bind c := rfl
theorem pN_at : pN ρ = .ok none := rfl
theorem pS_at : pS f ρ = (f ρ).bind fun d => match d with | .int i => .ok (some i) | _ => .no := by first | rfl | (unfold pS; rfl)
theorem eDct_at : eDct ρ = .ok (.dct [] []) := rfl
theorem eCut_at {p q : Pv} : eCut f p q ρ = (f ρ).bind fun d => (p ρ).bind fun lo => (q ρ).bind fun hi => Res.of (oCut d lo hi) := rfl
theorem eRev_at : eRev f ρ = (f ρ).bind fun d => match d with | .lst xs => if imms xs = true then .ok (.lst xs.reverse) else .no | _ => .no := by first | rfl | (unfold eRev; rfl)
-- slots
variable {a a0 a1 a2 a3 a4 a5 a6 a7 a8 a9 b0 : Option D} {v v0 v1 v2 v3 v4 v5 v6 v7 v8 v9 : D} {l : Sl}
theorem eV_at : eV i ρ = match ρ[i]? with | some (some d) => .ok d | _ => .no := rfl
theorem eV0 : eV 0 (some v :: l) = .ok v := rfl
theorem eV1 : eV 1 (a0 :: some v :: l) = .ok v := rfl
theorem eV2 : eV 2 (a0 :: a1 :: some v :: l) = .ok v := rfl
theorem eV3 : eV 3 (a0 :: a1 :: a2 :: some v :: l) = .ok v := rfl
theorem eV4 : eV 4 (a0 :: a1 :: a2 :: a3 :: some v :: l) = .ok v := rfl
theorem eV5 : eV 5 (a0 :: a1 :: a2 :: a3 :: a4 :: some v :: l) = .ok v := rfl
theorem eV6 : eV 6 (a0 :: a1 :: a2 :: a3 :: a4 :: a5 :: some v :: l) = .ok v := rfl
theorem eV7 : eV 7 (a0 :: a1 :: a2 :: a3 :: a4 :: a5 :: a6 :: some v :: l) = .ok v := rfl
theorem eV8 : eV 8 (a0 :: a1 :: a2 :: a3 :: a4 :: a5 :: a6 :: a7 :: some v :: l) = .ok v := rfl
theorem eV9 : eV 9 (a0 :: a1 :: a2 :: a3 :: a4 :: a5 :: a6 :: a7 :: a8 :: some v :: l) = .ok v := rfl
theorem set0 : (a0 :: l).set 0 a = a :: l := rfl
theorem set1 : (a0 :: a1 :: l).set 1 a = a0 :: a :: l := rfl
theorem set2 : (a0 :: a1 :: a2 :: l).set 2 a = a0 :: a1 :: a :: l := rfl
theorem set3 : (a0 :: a1 :: a2 :: a3 :: l).set 3 a = a0 :: a1 :: a2 :: a :: l := rfl
theorem set4 : (a0 :: a1 :: a2 :: a3 :: a4 :: l).set 4 a = a0 :: a1 :: a2 :: a3 :: a :: l := rfl
theorem set5 : (a0 :: a1 :: a2 :: a3 :: a4 :: a5 :: l).set 5 a = a0 :: a1 :: a2 :: a3 :: a4 :: a :: l := rfl
theorem set6 : (a0 :: a1 :: a2 :: a3 :: a4 :: a5 :: a6 :: l).set 6 a = a0 :: a1 :: a2 :: a3 :: a4 :: a5 :: a :: l := rfl
theorem set7 : (a0 :: a1 :: a2 :: a3 :: a4 :: a5 :: a6 :: a7 :: l).set 7 a = a0 :: a1 :: a2 :: a3 :: a4 :: a5 :: a6 :: a :: l := rfl
theorem set8 : (a0 :: a1 :: a2 :: a3 :: a4 :: a5 :: a6 :: a7 :: a8 :: l).set 8 a = a0 :: a1 :: a2 :: a3 :: a4 :: a5 :: a6 :: a7 :: a :: l := rfl
theorem set9 : (a0 :: a1 :: a2 :: a3 :: a4 :: a5 :: a6 :: a7 :: a8 :: a9 :: l).set 9 a = a0 :: a1 :: a2 :: a3 :: a4 :: a5 :: a6 :: a7 :: a8 :: a :: l := rfl
theorem app_at : sApp i f ρ = match ρ[i]? with | some (some (.lst xs)) => oE (f ρ) ρ fun d => if xs.length < 1000000 then .nx (ρ.set i (some (.lst (xs ++ [d])))) else .no | _ => .no := rfl
theorem app0 {xs : List D} (h : xs.length < 1000000) : sApp 0 f (some (.lst xs) :: l) = oE (f (some (.lst xs) :: l)) (some (.lst xs) :: l) fun d => .nx (some (.lst (xs ++ [d])) :: l) := by
  show oE _ _ (fun d => if xs.length < 1000000 then Out.nx _ else .no) = _
  simp only [if_pos h]; rfl
theorem app1 {xs : List D} (h : xs.length < 1000000) : sApp 1 f (a0 :: some (.lst xs) :: l) = oE (f (a0 :: some (.lst xs) :: l)) (a0 :: some (.lst xs) :: l) fun d => .nx (a0 :: some (.lst (xs ++ [d])) :: l) := by
  show oE _ _ (fun d => if xs.length < 1000000 then Out.nx _ else .no) = _
  simp only [if_pos h]; rfl
theorem app2 {xs : List D} (h : xs.length < 1000000) : sApp 2 f (a0 :: a1 :: some (.lst xs) :: l) = oE (f (a0 :: a1 :: some (.lst xs) :: l)) (a0 :: a1 :: some (.lst xs) :: l) fun d => .nx (a0 :: a1 :: some (.lst (xs ++ [d])) :: l) := by
  show oE _ _ (fun d => if xs.length < 1000000 then Out.nx _ else .no) = _
  simp only [if_pos h]; rfl
theorem retM_at : sRetM i ρ = match ρ[i]? with | some (some d) => .rt d (ρ.set i none) | _ => .no := rfl
theorem retM1 : sRetM 1 (a0 :: some v :: l) = .rt v (a0 :: none :: l) := rfl
theorem retM2 : sRetM 2 (a0 :: a1 :: some v :: l) = .rt v (a0 :: a1 :: none :: l) := rfl
theorem retM3 : sRetM 3 (a0 :: a1 :: a2 :: some v :: l) = .rt v (a0 :: a1 :: a2 :: none :: l) := rfl
theorem tg1_at : tg1 i d ρ = some (ρ.set i (some d)) := rfl
-- operators
variable {m n : Int} {p q : List Nat} {xs ys : List D}
theorem add_ii : oAdd (.int m) (.int n) = some (.int (m + n)) := rfl
theorem add_ss (h : p.length + q.length ≤ 1000000) : oAdd (.str p) (.str q) = some (.str (p ++ q)) := if_pos h
theorem add_ll (h1 : imms xs = true) (h2 : imms ys = true) (h : xs.length + ys.length ≤ 1000000) : oAdd (.lst xs) (.lst ys) = some (.lst (xs ++ ys)) := if_pos (by simp [h1, h2, h])
theorem i2_ii {g : Int → Int → Option D} : i2 g (.int m) (.int n) = g m n := rfl
theorem sub_ii : oSub (.int m) (.int n) = some (.int (m - n)) := rfl
theorem lt_ii : oLt (.int m) (.int n) = some (.bl (decide (m < n))) := rfl
theorem le_ii : oLe (.int m) (.int n) = some (.bl (decide (m ≤ n))) := rfl
theorem gt_ii : oGt (.int m) (.int n) = some (.bl (decide (n < m))) := rfl
theorem ge_ii : oGe (.int m) (.int n) = some (.bl (decide (n ≤ m))) := rfl
theorem mulC_s (h : m.natAbs < 2 ^ 64) : mulC m n = true := by simp [mulC, h]
theorem mulC_t (h : n.natAbs < 2 ^ 64) : mulC m n = true := by simp [mulC, h]
theorem mulC_b (h : m.natAbs < 2 ^ 400000) (h2 : n.natAbs < 2 ^ 400000) : mulC m n = true := by
  unfold mulC
  rw [decide_eq_true h, decide_eq_true h2]; simp
theorem eqD_ii : eqD (.int m) (.int n) = some (decide (m = n)) := rfl
theorem eqD_ss : eqD (.str p) (.str q) = some (decide (p = q)) := rfl
theorem oEq_ii : oEq (.int m) (.int n) = some (.bl (decide (m = n))) := rfl
theorem oEq_ss : oEq (.str p) (.str q) = some (.bl (decide (p = q))) := rfl
theorem oNe_ii : oNe (.int m) (.int n) = some (.bl (!decide (m = n))) := rfl
theorem oNe_ss : oNe (.str p) (.str q) = some (.bl (!decide (p = q))) := rfl
theorem notIn_s {k : Nat} : oNotIn (.str [k]) (.str p) = some (.bl (!decide (k ∈ p))) := rfl
theorem in_s {k : Nat} : oIn (.str [k]) (.str p) = some (.bl (decide (k ∈ p))) := rfl
theorem len_l : oLen [.lst xs] = some (.int (xs.length : Int)) := rfl
theorem len_t : oLen [.tup xs] = some (.int (xs.length : Int)) := rfl
theorem len_scr {ns : List Int} : oLen [.scr ns] = some (.int (ns.length : Int)) := rfl
theorem len_s (h : p.length ≤ 1000000) : oLen [.str p] = some (.int (p.length : Int)) := if_pos h
theorem ix_s {k : Nat} (h : p.length ≤ 1000000) (e : p[k]? = some j) : oIx (.str p) (.int (k : Int)) = some (.str [j]) := by
  show (if p.length ≤ 1000000 then (L2.atI p (k : Int)).map (fun c => D.str [c]) else none) = _
  rw [if_pos h, L2.atI_nat (j := k) e]; rfl
theorem ix_l {k : Nat} (e : xs[k]? = some d) : oIx (.lst xs) (.int (k : Int)) = some d := L2.atI_nat (j := k) e
theorem ix_t {k : Nat} (e : xs[k]? = some d) : oIx (.tup xs) (.int (k : Int)) = some d := L2.atI_nat (j := k) e
theorem ix_scr {ns : List Int} {k : Nat} {z : Int} (e : ns[k]? = some z) : oIx (.scr ns) (.int (k : Int)) = some (.int z) := by
  show (L2.atI ns (k : Int)).map D.int = _
  rw [L2.atI_nat (j := k) e]; rfl
theorem items_l : itemsD (.lst xs) = .ok xs := rfl
theorem items_t : itemsD (.tup xs) = .ok xs := rfl
theorem items_s : itemsD (.str p) = .ok (p.map fun c => .str [c]) := rfl
theorem split_b (h : p.length ≤ 1000000) (h1 : q.all (· < 256) = true) (h2 : q.isEmpty = false) : oSplit (.str p) [.str q] = some (.lst ((TL.spl q 0 [] p).map D.str)) := by
  show (if (q.all (· < 256) && !q.isEmpty && decide (p.length ≤ 1000000)) = true then _ else none) = _
  rw [if_pos (by simp [h1, h2, h])]
theorem strsD_map (ls : List (List Nat)) : strsD (ls.map D.str) = some ls := by
  induction ls with
  | nil => rfl
  | cons a r ih => show (strsD (r.map D.str)).map (a :: ·) = _; rw [ih]; rfl
theorem join_s {ls : List (List Nat)} (h : (ls.map List.length).sum + ls.length * q.length ≤ 1000000) : oJoin (.str q) [.lst (ls.map D.str)] = some (.str (glue q ls)) := by
  show joinD q (ls.map D.str) = _
  unfold joinD
  rw [strsD_map]
  exact if_pos h
theorem find_s {k : Nat} : oFind (.str p) [.str [k]] = some (.int (if k ∈ p then ((p.idxOf k : Nat) : Int) else -1)) := rfl
theorem sindex_s {k : Nat} (h : k ∈ p) : oSIndex (.str p) [.str [k]] = some (.int ((p.idxOf k : Nat) : Int)) := if_pos h
theorem rng1_n {k : Nat} (h : k < 1000000) : rng1 [.int (k : Int)] = .ok ((List.range k).map fun (i : Nat) => D.int (i : Int)) := by
  have h1 : -(2 ^ 62) ≤ (k : Int) := by omega
  have h2 : (k : Int) < 2 ^ 62 := by omega
  simp only [rng1, decide_eq_true h1, decide_eq_true h2, Bool.and_true, if_true]
  unfold rngD
  have e : ((k : Int) - 0).toNat = k := by omega
  rw [e]
  congr 1
  exact List.map_congr_left fun i _ => by rw [Int.zero_add]
/-! ### loops -/
theorem oFor_nil {tg : Tg} : oFor tg u [] ρ = .nx ρ := rfl
theorem oFor_cons {tg : Tg} {ds : List D} {ρ1 : Sl} (h : tg d ρ = some ρ1) : oFor tg u (d :: ds) ρ = (u ρ1).wl (oFor tg u ds) := by
  simp only [oFor, h]
  unfold Out.wl
  cases u ρ1 <;> rfl
/-- a loop that goes through -/
theorem oFor_inv {tg : Tg} {A : Type} (e : A → D) (P : List A → Sl → Prop) : ∀ (todo : List A) (done : List A) (ρ : Sl), P done ρ →
    (∀ dn a rest ρ, done ++ todo = dn ++ a :: rest → P dn ρ → ∃ ρ1 ρ2, tg (e a) ρ = some ρ1 ∧ (u ρ1 = .nx ρ2 ∨ u ρ1 = .ct ρ2) ∧ P (dn ++ [a]) ρ2) → ∃ ρ', oFor tg u (todo.map e) ρ = .nx ρ' ∧ P (done ++ todo) ρ'
  | [], done, ρ, h, _ => ⟨ρ, rfl, by simpa using h⟩
  | a :: r, done, ρ, h, hs => by
    obtain ⟨ρ1, ρ2, h1, h2, h3⟩ := hs done a r ρ rfl h
    obtain ⟨ρ', h4, h5⟩ := oFor_inv e P r (done ++ [a]) ρ2 h3 fun dn b rest ρ eq => hs dn b rest ρ (by rw [← eq]; simp)
    refine ⟨ρ', ?_, by simpa using h5⟩
    show oFor tg u (e a :: r.map e) ρ = _
    rw [oFor_cons h1]
    rcases h2 with h2 | h2 <;> rw [h2]
    · exact h4
    · exact h4
theorem oWhile_at {n : Nat} : oWhile t u (n + 1) ρ = oE (t ρ) ρ fun c => if c = true then (u ρ).wl (oWhile t u n) else .nx ρ := by
  simp only [oWhile]
  cases t ρ with
  | ok c =>
    cases c with
    | true => simp only [oE, if_true]; unfold Out.wl; cases u ρ <;> rfl
    | false => rfl
  | _ => rfl
/-- a comprehension -/
theorem compL_map {tg : Tg} {tt : Tv} {el : Ev} {A : Type} (e : A → D) (p : A → Bool) (g : A → D) : ∀ (l : List A), (∀ a ∈ l, ∃ ρ1, tg (e a) ρ = some ρ1 ∧ tt ρ1 = .ok (p a) ∧ (p a = true → el ρ1 = .ok (g a))) → compL tg tt el ρ (l.map e) = .ok ((l.filter p).map g)
  | [], _ => rfl
  | a :: r, h => by
    obtain ⟨ρ1, h1, h2, h3⟩ := h a List.mem_cons_self
    have ih := compL_map e p g r fun b hb => h b (List.mem_cons_of_mem _ hb)
    show (match tg (e a) ρ with | none => Res.no | some ρ1 => _) = _
    rw [h1]
    show (match tt ρ1 with | .ok true => _ | .ok false => _ | _ => _) = _
    rw [h2]
    cases hp : p a with
    | false =>
      rw [List.filter_cons_of_neg (by simp [hp])]
      exact ih
    | true =>
      rw [List.filter_cons_of_pos hp]
      show (match el ρ1 with | .ok y => (compL tg tt el ρ (r.map e)).bind fun ys => .ok (y :: ys) | _ => .no) = _
      rw [h3 hp]
      show (compL tg tt el ρ (r.map e)).bind (fun ys => .ok (g a :: ys)) = _
      rw [ih]; rfl
theorem eComp_at {fs : Sl → Res (List D)} {vs : List Nat} {tg : Tg} {tt : Tv} {el : Ev} {ds : List D} (h : fs ρ = .ok ds) (hl : ds.length ≤ 1000000) : eComp fs vs tg tt el ρ = (compL tg tt el (wipeD ρ vs) ds).bind fun ys => .ok (.lst ys) := by
  unfold eComp
  rw [h]
  exact if_pos hl
end
end DL
end

section
namespace Lk04
open PySem PySem.Spec PyProof.Rows L2 DL
abbrev rowP : Program := PySem.Challenge.pw_trickproof_k04_a_hand_written
def topS (i : Nat) : Stmt := rowP.main.body.getD i (.Pass ⟨0, 0, 0, 0⟩)
def hs : Hi := [("TrickError", ["TrickError"]), ("NoCard", ["NoCard", "TrickError"]), ("NoHand", ["NoHand", "TrickError"]), ("NoDeal", ["NoDeal", "TrickError"])]
def mades : List Str := ["NoCard", "NoHand"]
def frees : List Str := ["ValueError", "bool", "int", "isinstance", "len", "range", "str"]
abbrev s_cards_in : Stmt := topS 1
theorem sc_cards_in : FnScope ["hand", "found", "card"] ["hand"] (defScope s_cards_in) := ⟨rfl, rfl, rfl, by decide +kernel, rfl, by decide +kernel, by decide +kernel⟩
abbrev s_read_card : Stmt := topS 10
theorem sc_read_card : FnScope ["text"] ["text"] (defScope s_read_card) := ⟨rfl, rfl, rfl, by decide +kernel, rfl, by decide +kernel, by decide +kernel⟩
abbrev s_hand_text : Stmt := topS 11
theorem sc_hand_text : FnScope ["hand", "words", "suit", "figures", "card"] ["hand"] (defScope s_hand_text) := ⟨rfl, rfl, rfl, by decide +kernel, rfl, by decide +kernel, by decide +kernel⟩
abbrev s_word_hand : Stmt := topS 12
theorem sc_word_hand : FnScope ["word", "hand", "figure"] ["word"] (defScope s_word_hand) := ⟨rfl, rfl, rfl, by decide +kernel, rfl, by decide +kernel, by decide +kernel⟩
abbrev s_read_hand : Stmt := topS 13
theorem sc_read_hand : FnScope ["text", "hand", "word"] ["text"] (defScope s_read_hand) := ⟨rfl, rfl, rfl, by decide +kernel, rfl, by decide +kernel, by decide +kernel⟩
abbrev s_law_mixed : Stmt := topS 15
theorem sc_law_mixed : FnScope ["_law_script", "_law_k", "_law_number", "_law_root"] ["_law_script", "_law_k"] (defScope s_law_mixed) := ⟨rfl, rfl, rfl, by decide +kernel, rfl, by decide +kernel, by decide +kernel⟩
abbrev s_law_hand : Stmt := topS 16
theorem sc_law_hand : FnScope ["_law_script", "_law_k", "_law_way", "_law_hand_here"] ["_law_script", "_law_k"] (defScope s_law_hand) := ⟨rfl, rfl, rfl, by decide +kernel, rfl, by decide +kernel, by decide +kernel⟩
abbrev s_law_cards : Stmt := topS 17
theorem sc_law_cards : FnScope ["_law_hand_here", "_law_card"] ["_law_hand_here"] (defScope s_law_cards) := ⟨rfl, rfl, rfl, by decide +kernel, rfl, by decide +kernel, by decide +kernel⟩
abbrev s_law_whole : Stmt := topS 18
theorem sc_law_whole : FnScope ["_law_found"] ["_law_found"] (defScope s_law_whole) := ⟨rfl, rfl, rfl, by decide +kernel, rfl, by decide +kernel, by decide +kernel⟩
abbrev s_law_other : Stmt := topS 19
theorem sc_law_other : FnScope ["_law_caught"] ["_law_caught"] (defScope s_law_other) := ⟨rfl, rfl, rfl, by decide +kernel, rfl, by decide +kernel, by decide +kernel⟩
abbrev s_law_refusal : Stmt := topS 20
theorem sc_law_refusal : FnScope ["_law_caught"] ["_law_caught"] (defScope s_law_refusal) := ⟨rfl, rfl, rfl, by decide +kernel, rfl, by decide +kernel, by decide +kernel⟩
abbrev s_law_written : Stmt := topS 21
theorem sc_law_written : FnScope ["_law_hand_here", "_law_words", "_law_suit", "_law_word", "_law_card"] ["_law_hand_here"] (defScope s_law_written) := ⟨rfl, rfl, rfl, by decide +kernel, rfl, by decide +kernel, by decide +kernel⟩
abbrev s_law_spoilt : Stmt := topS 22
theorem sc_law_spoilt : FnScope ["_law_script", "_law_good", "_law_way", "_law_at", "_law_sign", "_law_words", "_law_some"] ["_law_script", "_law_good"] (defScope s_law_spoilt) := ⟨rfl, rfl, rfl, by decide +kernel, rfl, by decide +kernel, by decide +kernel⟩
abbrev s_law_due : Stmt := topS 23
theorem sc_law_due : FnScope ["_law_text", "_law_hand_here", "_law_suit", "_law_sign", "_law_place"] ["_law_text"] (defScope s_law_due) := ⟨rfl, rfl, rfl, by decide +kernel, rfl, by decide +kernel, by decide +kernel⟩
abbrev s_law_read : Stmt := topS 24
theorem sc_law_read : FnScope ["_law_text", "_law_found", "_law_caught", "e"] ["_law_text"] (defScope s_law_read) := ⟨rfl, rfl, rfl, by decide +kernel, rfl, by decide +kernel, by decide +kernel⟩
abbrev s_law : Stmt := topS 25
theorem sc_law : FnScope ["_law_script", "_law_hand_here", "_law_good", "_law_text", "_law_thing", "_law_drawn", "_law_due_here", "_law_found", "_law_caught"] ["_law_script"] (defScope s_law) := ⟨rfl, rfl, rfl, by decide +kernel, rfl, by decide +kernel, by decide +kernel⟩
structure Tp (K : PySem.W.Frag) (mg : MG) where
  d_cards_in : Dn K mg "cards_in" "cards_in" s_cards_in ["hand"]
  d_read_card : Dn K mg "read_card" "read_card" s_read_card ["text"]
  d_hand_text : Dn K mg "hand_text" "hand_text" s_hand_text ["hand"]
  d_word_hand : Dn K mg "word_hand" "word_hand" s_word_hand ["word"]
  d_read_hand : Dn K mg "read_hand" "read_hand" s_read_hand ["text"]
  d_law_mixed : Dn K mg "_law_mixed" "_law_mixed" s_law_mixed ["_law_script", "_law_k"]
  d_law_hand : Dn K mg "_law_hand" "_law_hand" s_law_hand ["_law_script", "_law_k"]
  d_law_cards : Dn K mg "_law_cards" "_law_cards" s_law_cards ["_law_hand_here"]
  d_law_whole : Dn K mg "_law_whole" "_law_whole" s_law_whole ["_law_found"]
  d_law_other : Dn K mg "_law_other" "_law_other" s_law_other ["_law_caught"]
  d_law_refusal : Dn K mg "_law_refusal" "_law_refusal" s_law_refusal ["_law_caught"]
  d_law_written : Dn K mg "_law_written" "_law_written" s_law_written ["_law_hand_here"]
  d_law_spoilt : Dn K mg "_law_spoilt" "_law_spoilt" s_law_spoilt ["_law_script", "_law_good"]
  d_law_due : Dn K mg "_law_due" "_law_due" s_law_due ["_law_text"]
  d_law_read : Dn K mg "_law_read" "_law_read" s_law_read ["_law_text"]
  d_law : Dn K mg "law" "law" s_law ["_law_script"]
  hi : HiOk K mg hs
  mkr : ∀ x, x ∈ mades → mkB K x = true
  fr : ∀ x, x ∈ frees → mg x = none
  c_LETTERS : ∃ t, mg "LETTERS" = some (.str "abcd" t)
  c_FIGURES : ∃ t, mg "FIGURES" = some (.str "12345678" t)
def b_cards_in : Sv := (oSeq (sSet 1 (eLst aN)) (oSeq (sSet 2 (eC (.int 0))) (oSeq (oWhile (tB (eOp oGt (eV 0) (eC (.int 0)))) (oSeq (sIf (tB (eOp oEq (eOp oAnd (eV 0) (eC (.int 1))) (eC (.int 1)))) (sApp 1 (gImm (eV 2))) oNx) (oSeq (sSet 0 (eOp oShr (eV 0) (eC (.int 1)))) (sSet 2 (eOp oAdd (eV 2) (eC (.int 1)))))) 1000000) (sRetM 1))))
def m_cards_in : List D → Res D := runB 3 b_cards_in
def b_read_card : Sv := (oSeq (sIf (tOr (tNot (tB (eIs (isT hs "str") (eV 0)))) (tOr (tB (eOp oNe (eBlt oLen (aC (eV 0) aN)) (eC (.int 2)))) (tOr (tB (eOp oNotIn (eOp oIx (eV 0) (eC (.int 0))) (eC (.str [97, 98, 99, 100])))) (tB (eOp oNotIn (eOp oIx (eV 0) (eC (.int 1))) (eC (.str [49, 50, 51, 52, 53, 54, 55, 56]))))))) (sRaise "NoCard") oNx) (sRet (eOp oAdd (eOp oMulI (eC (.int 8)) (eMt "str" oSIndex (eC (.str [97, 98, 99, 100])) (aC (eOp oIx (eV 0) (eC (.int 0))) aN))) (eMt "str" oSIndex (eC (.str [49, 50, 51, 52, 53, 54, 55, 56])) (aC (eOp oIx (eV 0) (eC (.int 1))) aN)))))
def m_read_card : List D → Res D := runB 1 b_read_card
def b_hand_text : Sv := (oSeq (sIf (tB (eOp oEq (eV 0) (eC (.int 0)))) (sRet (eC (.str [45]))) oNx) (oSeq (sSet 1 (eLst aN)) (oSeq (sFor (irD rng1 (aC (eC (.int 4)) aN)) (tg1 2) (oSeq (sSet 3 (eMt "str" oJoin (eC (.str [])) (aC (eComp (ivD (eCall m_cards_in (aC (eV 0) aN))) [4] (tg1 4) (tB (eOp oEq (eOp oDiv (eV 4) (eC (.int 8))) (eV 2))) (eOp oIx (eC (.str [49, 50, 51, 52, 53, 54, 55, 56])) (eOp oMod (eV 4) (eC (.int 8))))) aN))) (sIf (tB (eOp oNe (eV 3) (eC (.str [])))) (sApp 1 (eOp oAdd (eOp oIx (eC (.str [97, 98, 99, 100])) (eV 2)) (eV 3))) oNx))) (sRet (eMt "str" oJoin (eC (.str [32])) (aC (eV 1) aN))))))
def m_hand_text : List D → Res D := runB 5 b_hand_text
def b_word_hand : Sv := (oSeq (sSet 1 (eC (.int 0))) (oSeq (sFor (ivD (eCut (eV 0) (pS (eC (.int 1))) pN)) (tg1 2) (sSet 1 (eOp oOr (eV 1) (eOp oShl (eC (.int 1)) (eCall m_read_card (aC (eOp oAdd (eOp oIx (eV 0) (eC (.int 0))) (eV 2)) aN)))))) (sRet (eV 1))))
def m_word_hand : List D → Res D := runB 3 b_word_hand
def b_read_hand : Sv := (oSeq (sIf (tNot (tB (eIs (isT hs "str") (eV 0)))) (sRaise "NoHand") oNx) (oSeq (sSet 1 (eC (.int 0))) (oSeq (sIf (tB (eOp oNe (eV 0) (eC (.str [45])))) (sFor (ivD (eMt "str" oSplit (eV 0) (aC (eC (.str [32])) aN))) (tg1 2) (sTry (sSet 1 (eOp oOr (eV 1) (eCall m_word_hand (aC (eV 2) aN)))) [(tC' hs "NoCard", .raise "NoHand")])) oNx) (oSeq (sIf (tB (eOp oNe (eCall m_hand_text (aC (eV 1) aN)) (eV 0))) (sRaise "NoHand") oNx) (sRet (eV 1))))))
def m_read_hand : List D → Res D := runB 3 b_read_hand
def b_law_mixed : Sv := (oSeq (sSet 2 (eOp oAdd (eV 1) (eC (.int 3)))) (oSeq (sIf (tB (eOp oGt (eBlt oLen (aC (eV 0) aN)) (eC (.int 0)))) (sSet 2 (eOp oAdd (eV 2) (eOp oMulI (eOp oMod (eOp oIx (eV 0) (eOp oMod (eV 1) (eBlt oLen (aC (eV 0) aN)))) (eOp oPow (eC (.int 10)) (eC (.int 64)))) (eOp oAdd (eOp oDiv (eV 1) (eBlt oLen (aC (eV 0) aN))) (eC (.int 1)))))) oNx) (oSeq (sSet 3 (eOp oMulI (eV 2) (eC (.int 6364136223846793005)))) (sRet (eOp oDiv (eOp oMulI (eOp oMulI (eV 3) (eV 3)) (eV 3)) (eC (.int 1000003)))))))
def m_law_mixed : List D → Res D := runB 4 b_law_mixed
def b_law_hand : Sv := (oSeq (sSet 2 (eOp oMod (eCall m_law_mixed (aC (eV 0) (aC (eV 1) aN))) (eC (.int 6)))) (oSeq (sSet 3 (eOp oMod (eOp oDiv (eCall m_law_mixed (aC (eV 0) (aC (eOp oAdd (eV 1) (eC (.int 1))) aN))) (eC (.int 7))) (eC (.int 4294967296)))) (oSeq (sIf (tB (eOp oEq (eV 2) (eC (.int 0)))) (sRet (eC (.int 0))) oNx) (oSeq (sIf (tB (eOp oEq (eV 2) (eC (.int 1)))) (sRet (eOp oShl (eC (.int 1)) (eOp oMod (eCall m_law_mixed (aC (eV 0) (aC (eOp oAdd (eV 1) (eC (.int 2))) aN))) (eC (.int 32))))) oNx) (oSeq (sIf (tB (eOp oEq (eV 2) (eC (.int 2)))) (sRet (eOp oSub (eC (.int 4294967295)) (eOp oShl (eC (.int 1)) (eOp oMod (eCall m_law_mixed (aC (eV 0) (aC (eOp oAdd (eV 1) (eC (.int 2))) aN))) (eC (.int 32)))))) oNx) (oSeq (sIf (tB (eOp oEq (eV 2) (eC (.int 3)))) (sRet (eOp oAnd (eOp oAnd (eV 3) (eOp oMod (eOp oDiv (eCall m_law_mixed (aC (eV 0) (aC (eOp oAdd (eV 1) (eC (.int 3))) aN))) (eC (.int 11))) (eC (.int 4294967296)))) (eOp oMod (eOp oDiv (eCall m_law_mixed (aC (eV 0) (aC (eOp oAdd (eV 1) (eC (.int 4))) aN))) (eC (.int 13))) (eC (.int 4294967296))))) oNx) (sRet (eV 3))))))))
def m_law_hand : List D → Res D := runB 4 b_law_hand
def b_law_cards : Sv := (sRet (eComp (irD rng1 (aC (eC (.int 32)) aN)) [1] (tg1 1) (tB (eOp oEq (eOp oMod (eOp oDiv (eV 0) (eOp oShl (eC (.int 1)) (eV 1))) (eC (.int 2))) (eC (.int 1)))) (eV 1)))
def m_law_cards : List D → Res D := runB 2 b_law_cards
def b_law_whole : Sv := (sRet (eAnd (eIs (isT hs "int") (eV 0)) (eNot (eIs (isT hs "bool") (eV 0)))))
def m_law_whole : List D → Res D := runB 1 b_law_whole
def b_law_other : Sv := (sRet (eOr (eIs (isC hs "NoCard") (eV 0)) (eIs (isC hs "NoDeal") (eV 0))))
def m_law_other : List D → Res D := runB 1 b_law_other
def b_law_refusal : Sv := (oSeq (sIf (tOr (tB (oIsN (eV 0))) (tNot (tB (eIs (isC hs "NoHand") (eV 0))))) (sRet (eC (.bl false))) oNx) (sRet (eAnd (eIs (isT hs "ValueError") (eV 0)) (eNot (eCall m_law_other (aC (eV 0) aN))))))
def m_law_refusal : List D → Res D := runB 1 b_law_refusal
def b_law_written : Sv := (oSeq (sSet 1 (eLst aN)) (oSeq (sFor (irD rng1 (aC (eC (.int 4)) aN)) (tg1 2) (oSeq (sSet 3 (eC (.str []))) (oSeq (sFor (ivD (eCall m_law_cards (aC (eV 0) aN))) (tg1 4) (sIf (tB (eOp oEq (eOp oDiv (eV 4) (eC (.int 8))) (eV 2))) (sSet 3 (eOp oAdd (eV 3) (eOp oIx (eC (.str [49, 50, 51, 52, 53, 54, 55, 56])) (eOp oMod (eV 4) (eC (.int 8)))))) oNx)) (sIf (tB (eOp oNe (eV 3) (eC (.str [])))) (sApp 1 (eOp oAdd (eOp oIx (eC (.str [97, 98, 99, 100])) (eV 2)) (eV 3))) oNx)))) (oSeq (sIf (tB (eOp oEq (eV 1) (eLst aN))) (sRet (eC (.str [45]))) oNx) (sRet (eMt "str" oJoin (eC (.str [32])) (aC (eV 1) aN))))))
def m_law_written : List D → Res D := runB 5 b_law_written
def b_law_spoilt : Sv := (oSeq (sSet 2 (eOp oMod (eCall m_law_mixed (aC (eV 0) (aC (eC (.int 10)) aN))) (eC (.int 12)))) (oSeq (sSet 3 (eOp oMod (eCall m_law_mixed (aC (eV 0) (aC (eC (.int 11)) aN))) (eBlt oLen (aC (eV 1) aN)))) (oSeq (sSet 4 (eOp oIx (eC (.str [97, 98, 99, 100, 49, 50, 51, 52, 53, 54, 55, 56, 32, 45, 47, 101, 65, 57, 48])) (eOp oMod (eCall m_law_mixed (aC (eV 0) (aC (eC (.int 12)) aN))) (eC (.int 19))))) (oSeq (sSet 5 (eMt "str" oSplit (eV 1) (aC (eC (.str [32])) aN))) (oSeq (sSet 6 (eLst (aC (eV 1) (aC (eV 1) (aC (eV 1) (aC (eOp oAdd (eCut (eV 1) pN (pS (eV 3))) (eCut (eV 1) (pS (eOp oAdd (eV 3) (eC (.int 1)))) pN)) (aC (eOp oAdd (eOp oAdd (eCut (eV 1) pN (pS (eV 3))) (eV 4)) (eCut (eV 1) (pS (eV 3)) pN)) (aC (eOp oAdd (eOp oAdd (eCut (eV 1) pN (pS (eV 3))) (eV 4)) (eCut (eV 1) (pS (eOp oAdd (eV 3) (eC (.int 1)))) pN)) aN)))))))) (oSeq (sSet 6 (eOp oAdd (eV 6) (eLst (aC (eMt "str" oJoin (eC (.str [32])) (aC (eRev (eV 5)) aN)) (aC (eMt "str" oJoin (eC (.str [32])) (aC (eOp oAdd (eV 5) (eLst (aC (eOp oIx (eV 5) (eC (.int 0))) aN))) aN)) (aC (eOp oAdd (eV 1) (eC (.str [32]))) (aC (eMt "str" oJoin (eC (.str [32, 32])) (aC (eV 5) aN)) (aC (eC (.str [])) (aC (eV 4) aN))))))))) (sRet (eOp oIx (eV 6) (eV 2)))))))))
def m_law_spoilt : List D → Res D := runB 7 b_law_spoilt
def b_law_due : Sv := (oSeq (sSet 1 (eC (.int 0))) (oSeq (sSet 2 (eNeg (eC (.int 1)))) (oSeq (sFor (ivD (eV 0)) (tg1 3) (oSeq (sSet 4 (eMt "str" oFind (eC (.str [97, 98, 99, 100])) (aC (eV 3) aN))) (sIf (tB (eOp oGe (eV 4) (eC (.int 0)))) (sSet 2 (eV 4)) (sIf (tAnd (tB (eOp oGe (eV 2) (eC (.int 0)))) (tB (eOp oGe (eMt "str" oFind (eC (.str [49, 50, 51, 52, 53, 54, 55, 56])) (aC (eV 3) aN)) (eC (.int 0))))) (sSet 1 (eOp oOr (eV 1) (eOp oShl (eC (.int 1)) (eOp oAdd (eOp oMulI (eC (.int 8)) (eV 2)) (eMt "str" oFind (eC (.str [49, 50, 51, 52, 53, 54, 55, 56])) (aC (eV 3) aN)))))) oNx)))) (oSeq (sIf (tB (eOp oEq (eCall m_law_written (aC (eV 1) aN)) (eV 0))) (sRet (eV 1)) oNx) (sRet (eNeg (eC (.int 1))))))))
def m_law_due : List D → Res D := runB 5 b_law_due
def b_law_read : Sv := (oSeq (sSet 1 (eC .non)) (oSeq (sSet 2 (eC .non)) (oSeq (sTry (sSet 1 (eCall m_read_hand (aC (eV 0) aN))) [(tC' hs "TrickError", .keep 3 (sSet 2 (eV 3)))]) (sRet (eTup (aC (eV 1) (aC (eV 2) aN)))))))
def m_law_read : List D → Res D := runB 4 b_law_read
def b_law : Sv := (oSeq (sSet 1 (eCall m_law_hand (aC (eV 0) (aC (eC (.int 0)) aN)))) (oSeq (sSet 2 (eCall m_law_written (aC (eV 1) aN))) (oSeq (sSet 3 (eCall m_hand_text (aC (eV 1) aN))) (oSeq (sIf (tOr (tNot (tB (eIs (isT hs "str") (eV 3)))) (tB (eOp oNe (eV 3) (eV 2)))) (sRet (eC (.bl false))) oNx) (oSeq (sAsg (tgT [(tg1 7), (tg1 8)]) (eCall m_law_read (aC (eV 2) aN))) (oSeq (sIf (tOr (tB (oNotN (eV 8))) (tOr (tNot (tB (eCall m_law_whole (aC (eV 7) aN)))) (tB (eOp oNe (eV 7) (eV 1))))) (sRet (eC (.bl false))) oNx) (oSeq (sSet 4 (eOp oIx (eLst (aC (eV 1) (aC (eC .non) (aC (eC (.bl false)) (aC (eLst (aC (eV 2) aN)) (aC (eTup (aC (eC (.str [45])) aN)) (aC (eC (.int 0)) (aC (eLst (aC (eC (.str [97, 49])) aN)) (aC eDct aN))))))))) (eOp oMod (eCall m_law_mixed (aC (eV 0) (aC (eC (.int 13)) aN))) (eC (.int 8))))) (oSeq (sAsg (tgT [(tg1 7), (tg1 8)]) (eCall m_law_read (aC (eV 4) aN))) (oSeq (sIf (tNot (tB (eCall m_law_refusal (aC (eV 8) aN)))) (sRet (eC (.bl false))) oNx) (oSeq (sSet 5 (eCall m_law_spoilt (aC (eV 0) (aC (eV 2) aN)))) (oSeq (sSet 6 (eCall m_law_due (aC (eV 5) aN))) (oSeq (sAsg (tgT [(tg1 7), (tg1 8)]) (eCall m_law_read (aC (eV 5) aN))) (oSeq (sIf (tB (eOp oLt (eV 6) (eC (.int 0)))) (sRet (eAnd (eCall m_law_refusal (aC (eV 8) aN)) (eOp oEq (eCall m_read_hand (aC (eV 2) aN)) (eV 1)))) oNx) (sRet (eAnd (oIsN (eV 8)) (eAnd (eOp oEq (eV 7) (eV 6)) (eOp oEq (eCall m_read_hand (aC (eV 2) aN)) (eV 1))))))))))))))))))
def m_law : List D → Res D := runB 9 b_law
section
variable {P : Program} {w : World} {K : PySem.W.Frag} {mg : MG} {base : Heap}
theorem ok_cards_in (T : Tp K mg) : FnOk P w K mg base (DX.CX P w) 1 T.d_cards_in.fa T.d_cards_in.fd ["hand"] (spD K mg .O m_cards_in 1) :=
  fn_dl (j := 0) T.d_cards_in.F sc_cards_in .O b_cards_in [.F, .O, .F] (ke := [.F, .F, .F]) rfl (by decide) rfl fun _ A _ _ _ _ hr tk po pa => (
  (dss_cons (ds_toR (k2 := [.F, .O, .F]) rfl (ds_set (i := 1) (by decide) rfl (de_lst (k := .O) (by decide) da_nil) fun h => ps_set (i := 1) sc_cards_in.nd rfl (by first | exact .inl rfl | exact .inr rfl) h))
  (dss_cons (ds_toR (k2 := [.F, .O, .F]) rfl (ds_set (i := 2) (by decide) rfl (de_F de_int) fun h => ps_set (i := 2) sc_cards_in.nd rfl (by first | exact .inl rfl | exact .inr rfl) h))
  (dss_cons (ds_while 1000000 rfl po (dt_cmp op_gt od_gt (de_V rfl (pv 0)) (de_F de_int) (nomark _))
  (dss_cons (ds_if rfl (dt_cmp (op_eqDD (hu64 hr)) od_eq (de_F (de_op op_and od_and (de_V rfl (pv 0)) (de_F de_int))) (de_F de_int) (nomark _))
  (dss_one (ds_app rfl rfl (de_imm (de_V rfl (pv 2))) (pv 1) fun h => pe_bm PySem.F.plainAttrs_list PySem.F.slot_list_append PySem.F.type_list_append mt_append (pv 1) (pa_cons h pa_nil)))
  dss_nil)
  (dss_cons (ds_toR (k2 := [.F, .O, .F]) rfl (ds_set (i := 0) (by decide) rfl (de_F (de_op op_shr od_shr (de_V rfl (pv 0)) (de_F de_int))) fun h => ps_set (i := 0) sc_cards_in.nd rfl (by first | exact .inl rfl | exact .inr rfl) h))
  (dss_one (ds_toR (k2 := [.F, .O, .F]) rfl (ds_set (i := 2) (by decide) rfl (de_F (de_op op_addD od_add (de_V rfl (pv 2)) (de_F de_int))) fun h => ps_set (i := 2) sc_cards_in.nd rfl (by first | exact .inl rfl | exact .inr rfl) h))))))
  (dss_one (ds_retM (i := 1) rfl rfl rfl (pv 1)))))))
theorem ok_read_card (T : Tp K mg) : FnOk P w K mg base (DX.CX P w) 1 T.d_read_card.fa T.d_read_card.fd ["text"] (spD K mg .O m_read_card 1) :=
  fn_dl (j := 0) T.d_read_card.F sc_read_card .O b_read_card [.F] (ke := [.F]) rfl (by decide) rfl fun _ A _ _ _ _ hr tk po pa => (
  (dss_cons (ds_if rfl (DW.pt (dw_or (dt_not (dt_val (de_F (de_isTy T.hi boot_str rfl (T.fr "str" (by decide +kernel)) rfl (T.fr "isinstance" (by decide +kernel)) (de_V rfl (pv 0)) (.inl (by decide)) kit_str)))) (dw_or (dt_cmp (op_neDD (hu64 hr)) od_ne (de_F (de_blt call_lenD' cd_len rfl (T.fr "len" (by decide +kernel)) PySem.boot_len (da_cons (de_V rfl (pv 0)) da_nil))) (de_F de_int) (nomark _)) (dw_or (dt_cmp (op_notInX (hu65 hr)) od_notIn (de_ix ix_seq od_ix (de_V rfl (pv 0)) (de_F de_int) (fun _ _ => rfl)) (de_F (de_gstr rfl T.c_LETTERS)) (by rfl)) (dw_or1 (dt_cmp (op_notInX (hu65 hr)) od_notIn (de_ix ix_seq od_ix (de_V rfl (pv 0)) (de_F de_int) (fun _ _ => rfl)) (de_F (de_gstr rfl T.c_FIGURES)) (by rfl)))))))
  (dss_one (ds_raise rfl tk rfl (T.hi.mg' (by decide +kernel)) (T.hi.make (by decide +kernel) (T.mkr "NoCard" (by decide +kernel)) rfl)))
  dss_nil)
  (dss_one (ds_ret rfl rfl rfl (de_op op_addD od_add (de_F (de_op op_mulD od_mul (de_F de_int) (de_F (de_mt PySem.F.plainAttrs_str PySem.F.slot_str_index PySem.F.type_str_index mt_sindex md_sindex (de_F (de_gstr rfl T.c_LETTERS)) (da_cons (de_ix ix_seq od_ix (de_V rfl (pv 0)) (de_F de_int) (fun _ _ => rfl)) da_nil))))) (de_F (de_mt PySem.F.plainAttrs_str PySem.F.slot_str_index PySem.F.type_str_index mt_sindex md_sindex (de_F (de_gstr rfl T.c_FIGURES)) (da_cons (de_ix ix_seq od_ix (de_V rfl (pv 0)) (de_F de_int) (fun _ _ => rfl)) da_nil))))))))
theorem ok_hand_text (T : Tp K mg) : FnOk P w K mg base (DX.CX P w) 2 T.d_hand_text.fa T.d_hand_text.fd ["hand"] (spD K mg .O m_hand_text 1) :=
  fn_dl (j := 1) T.d_hand_text.F sc_hand_text .O b_hand_text [.F, .O, .F, .F, .F] (ke := [.F, .F, .F, .F, .F]) rfl (by decide) rfl fun _ A _ _ _ _ hr tk po pa => (
  (dss_cons (ds_if rfl (dt_cmp (op_eqDD (hu64 hr)) od_eq (de_V rfl (pv 0)) (de_F de_int) (nomark _))
  (dss_one (ds_ret rfl rfl rfl de_str))
  dss_nil)
  (dss_cons (ds_toR (k2 := [.F, .O, .F, .F, .F]) rfl (ds_set (i := 1) (by decide) rfl (de_lst (k := .O) (by decide) da_nil) fun h => ps_set (i := 1) sc_hand_text.nd rfl (by first | exact .inl rfl | exact .inr rfl) h))
  (dss_cons (ds_for rfl po rfl (di_range1 rfl (T.fr "range" (by decide +kernel)) (da_cons (de_F de_int) da_nil)) (pg_name (i := 2) sc_hand_text.nd rfl (by first | exact .inl rfl | exact .inr rfl)) (dg_name rfl)
  (dss_cons (ds_toR (k2 := [.F, .O, .F, .F, .F]) rfl (ds_set (i := 3) (by decide) rfl (de_F (de_mt PySem.F.plainAttrs_str PySem.F.slot_str_join PySem.F.type_str_join mt_joinD md_join (de_F de_str) (da_cons (de_F (de_compV [4] rfl sc_hand_text.nd (di_any (de_F (de_call tk (ok_cards_in T) (hr.mono (by decide)) rfl T.d_cards_in.g T.d_cards_in.F.kp T.d_cards_in.b (da_cons (de_V rfl (pv 0)) da_nil)))) (show BlkOk _ _ _ [("card", 4)] from ⟨rfl, by dsimp only [cxOf, envOfC, compEnvC]; decide +kernel, by dsimp only [cxOf, envOfC, compEnvC]; decide +kernel, by dsimp only [cxOf, envOfC, compEnvC]; decide +kernel, by dsimp only [cxOf, envOfC, compEnvC]; decide +kernel⟩) rfl (fun _ _ _ _ _ => (pg_name (i := 4) sc_hand_text.nd rfl (by first | exact .inl rfl | exact .inr rfl))) (dg_name rfl) (keeps_name (by decide)) (fun _ _ _ _ _ => (dts_one (dt_cmp (op_eqDD (hu64 hr)) od_eq (de_F (de_op op_fdivW od_div (de_V rfl (pv 4)) (de_F de_int))) (de_V rfl (pv 2)) (nomark _)))) (fun _ _ _ _ _ => (de_ix ix_seq od_ix (de_F (de_gstr rfl T.c_FIGURES)) (de_F (de_op op_mod od_mod (de_V rfl (pv 4)) (de_F de_int))) (fun _ _ => rfl))))) da_nil))) fun h => ps_set (i := 3) sc_hand_text.nd rfl (by first | exact .inl rfl | exact .inr rfl) h))
  (dss_one (ds_if rfl (dt_cmp (op_neDD (hu64 hr)) od_ne (de_V rfl (pv 3)) (de_F de_str) (nomark _))
  (dss_one (ds_app rfl rfl (de_op op_addD od_add (de_ix ix_seq od_ix (de_F (de_gstr rfl T.c_LETTERS)) (de_V rfl (pv 2)) (fun _ _ => rfl)) (de_V rfl (pv 3))) (pv 1) fun h => pe_bm PySem.F.plainAttrs_list PySem.F.slot_list_append PySem.F.type_list_append mt_append (pv 1) (pa_cons h pa_nil)))
  dss_nil))))
  (dss_one (ds_ret rfl rfl rfl (de_borrow rfl (de_mt PySem.F.plainAttrs_str PySem.F.slot_str_join PySem.F.type_str_join mt_joinD md_join (de_F de_str) (da_cons (de_V rfl (pv 1)) da_nil)))))))))
theorem ok_word_hand (T : Tp K mg) : FnOk P w K mg base (DX.CX P w) 2 T.d_word_hand.fa T.d_word_hand.fd ["word"] (spD K mg .F m_word_hand 1) :=
  fn_dl (j := 1) T.d_word_hand.F sc_word_hand .F b_word_hand [.F, .F, .F] (ke := [.F, .F, .F]) rfl (by decide) rfl fun _ A _ _ _ _ hr tk po pa => (
  (dss_cons (ds_toR (k2 := [.F, .F, .F]) rfl (ds_set (i := 1) (by decide) rfl (de_F de_int) fun h => ps_set (i := 1) sc_word_hand.nd rfl (by first | exact .inl rfl | exact .inr rfl) h))
  (dss_cons (ds_for rfl po rfl (di_any (de_F (de_cut (de_V rfl (pv 0)) (do_some (de_F de_int)) do_none))) (pg_name (i := 2) sc_word_hand.nd rfl (by first | exact .inl rfl | exact .inr rfl)) (dg_name rfl)
  (dss_one (ds_toR (k2 := [.F, .F, .F]) rfl (ds_set (i := 1) (by decide) rfl (de_F (de_op op_or od_or (de_V rfl (pv 1)) (de_F (de_op op_shl od_shl (de_F de_int) (de_F (de_call tk (ok_read_card T) (hr.mono (by decide)) rfl T.d_read_card.g T.d_read_card.F.kp T.d_read_card.b (da_cons (de_F (de_op op_addD od_add (de_ix ix_seq od_ix (de_V rfl (pv 0)) (de_F de_int) (fun _ _ => rfl)) (de_V rfl (pv 2)))) da_nil))))))) fun h => ps_set (i := 1) sc_word_hand.nd rfl (by first | exact .inl rfl | exact .inr rfl) h))))
  (dss_one (ds_ret rfl rfl rfl (de_V rfl (pv 1)))))))
theorem ok_read_hand (T : Tp K mg) : FnOk P w K mg base (DX.CX P w) 3 T.d_read_hand.fa T.d_read_hand.fd ["text"] (spD K mg .F m_read_hand 1) :=
  fn_dl (j := 2) T.d_read_hand.F sc_read_hand .F b_read_hand [.F, .F, .F] (ke := [.F, .F, .F]) rfl (by decide) rfl fun _ A _ _ _ _ hr tk po pa => (
  (dss_cons (ds_if rfl (dt_not (dt_val (de_F (de_isTy T.hi boot_str rfl (T.fr "str" (by decide +kernel)) rfl (T.fr "isinstance" (by decide +kernel)) (de_V rfl (pv 0)) (.inl (by decide)) kit_str))))
  (dss_one (ds_raise rfl tk rfl (T.hi.mg' (by decide +kernel)) (T.hi.make (by decide +kernel) (T.mkr "NoHand" (by decide +kernel)) rfl)))
  dss_nil)
  (dss_cons (ds_toR (k2 := [.F, .F, .F]) rfl (ds_set (i := 1) (by decide) rfl (de_F de_int) fun h => ps_set (i := 1) sc_read_hand.nd rfl (by first | exact .inl rfl | exact .inr rfl) h))
  (dss_cons (ds_if rfl (dt_cmp (op_neDD (hu64 hr)) od_ne (de_V rfl (pv 0)) (de_F de_str) (nomark _))
  (dss_one (ds_for rfl po rfl (di_any (de_F (de_mt PySem.F.plainAttrs_str PySem.F.slot_str_split PySem.F.type_str_split mt_split md_split (de_V rfl (pv 0)) (da_cons (de_F de_str) da_nil)))) (pg_name (i := 2) sc_read_hand.nd rfl (by first | exact .inl rfl | exact .inr rfl)) (dg_name rfl)
  (dss_one (ds_try rfl rfl pa tk [.F, .F, .F] (fun W pn xe t p =>
  (dss_one (ds_toR (k2 := [.F, .F, .F]) rfl (ds_set (i := 1) (by decide) rfl (de_F (de_op op_or od_or (de_V rfl (pv 1)) (de_call t (ok_word_hand T) (hr.mono (by decide)) rfl T.d_word_hand.g T.d_word_hand.F.kp T.d_word_hand.b (da_cons (de_V rfl (pv 2)) da_nil)))) fun h => ps_set (i := 1) sc_read_hand.nd rfl (by first | exact .inl rfl | exact .inr rfl) h))))
  (.raises (T.hi.names (by decide +kernel) rfl) (T.hi.tests (by decide +kernel)) (T.hi.mg' (by decide +kernel)) rfl (fun _ _ => T.hi.make (by decide +kernel) (T.mkr "NoHand" (by decide +kernel)) rfl) (.nil rfl))))))
  dss_nil)
  (dss_cons (ds_if rfl (dt_cmp (op_neDD (hu64 hr)) od_ne (de_F (de_call tk (ok_hand_text T) (hr.mono (by decide)) rfl T.d_hand_text.g T.d_hand_text.F.kp T.d_hand_text.b (da_cons (de_V rfl (pv 1)) da_nil))) (de_V rfl (pv 0)) (nomark _))
  (dss_one (ds_raise rfl tk rfl (T.hi.mg' (by decide +kernel)) (T.hi.make (by decide +kernel) (T.mkr "NoHand" (by decide +kernel)) rfl)))
  dss_nil)
  (dss_one (ds_ret rfl rfl rfl (de_V rfl (pv 1)))))))))
theorem ok_law_mixed (T : Tp K mg) : FnOk P w K mg base (DX.CX P w) 1 T.d_law_mixed.fa T.d_law_mixed.fd ["_law_script", "_law_k"] (spD K mg .O m_law_mixed 2) :=
  fn_dl (j := 0) T.d_law_mixed.F sc_law_mixed .O b_law_mixed [.F, .F, .F, .F] (ke := [.F, .F, .F, .F]) rfl (by decide) rfl fun _ A _ _ _ _ hr tk po pa => (
  (dss_cons (ds_toR (k2 := [.F, .F, .F, .F]) rfl (ds_set (i := 2) (by decide) rfl (de_F (de_op op_addD od_add (de_V rfl (pv 1)) (de_F de_int))) fun h => ps_set (i := 2) sc_law_mixed.nd rfl (by first | exact .inl rfl | exact .inr rfl) h))
  (dss_cons (ds_if rfl (dt_cmp op_gt od_gt (de_F (de_blt call_lenD' cd_len rfl (T.fr "len" (by decide +kernel)) PySem.boot_len (da_cons (de_V rfl (pv 0)) da_nil))) (de_F de_int) (nomark _))
  (dss_one (ds_toR (k2 := [.F, .F, .F, .F]) rfl (ds_set (i := 2) (by decide) rfl (de_F (de_op op_addD od_add (de_V rfl (pv 2)) (de_F (de_op op_mulD od_mul (de_F (de_op op_mod od_mod (de_ix ix_seq od_ix (de_V rfl (pv 0)) (de_F (de_op op_mod od_mod (de_V rfl (pv 1)) (de_F (de_blt call_lenD' cd_len rfl (T.fr "len" (by decide +kernel)) PySem.boot_len (da_cons (de_V rfl (pv 0)) da_nil))))) (fun _ _ => rfl)) (de_F (de_op op_pow od_pow (de_F de_int) (de_F de_int))))) (de_F (de_op op_addD od_add (de_F (de_op op_fdivW od_div (de_V rfl (pv 1)) (de_F (de_blt call_lenD' cd_len rfl (T.fr "len" (by decide +kernel)) PySem.boot_len (da_cons (de_V rfl (pv 0)) da_nil))))) (de_F de_int))))))) fun h => ps_set (i := 2) sc_law_mixed.nd rfl (by first | exact .inl rfl | exact .inr rfl) h)))
  dss_nil)
  (dss_cons (ds_toR (k2 := [.F, .F, .F, .F]) rfl (ds_set (i := 3) (by decide) rfl (de_F (de_op op_mulD od_mul (de_V rfl (pv 2)) (de_F de_int))) fun h => ps_set (i := 3) sc_law_mixed.nd rfl (by first | exact .inl rfl | exact .inr rfl) h))
  (dss_one (ds_ret rfl rfl rfl (de_op op_fdivW od_div (de_F (de_op op_mulD od_mul (de_F (de_op op_mulD od_mul (de_V rfl (pv 3)) (de_V rfl (pv 3)))) (de_V rfl (pv 3)))) (de_F de_int))))))))
theorem ok_law_hand (T : Tp K mg) : FnOk P w K mg base (DX.CX P w) 2 T.d_law_hand.fa T.d_law_hand.fd ["_law_script", "_law_k"] (spD K mg .F m_law_hand 2) :=
  fn_dl (j := 1) T.d_law_hand.F sc_law_hand .F b_law_hand [.F, .F, .F, .F] (ke := [.F, .F, .F, .F]) rfl (by decide) rfl fun _ A _ _ _ _ hr tk po pa => (
  (dss_cons (ds_toR (k2 := [.F, .F, .F, .F]) rfl (ds_set (i := 2) (by decide) rfl (de_F (de_op op_mod od_mod (de_F (de_call tk (ok_law_mixed T) (hr.mono (by decide)) rfl T.d_law_mixed.g T.d_law_mixed.F.kp T.d_law_mixed.b (da_cons (de_V rfl (pv 0)) (da_cons (de_V rfl (pv 1)) da_nil)))) (de_F de_int))) fun h => ps_set (i := 2) sc_law_hand.nd rfl (by first | exact .inl rfl | exact .inr rfl) h))
  (dss_cons (ds_toR (k2 := [.F, .F, .F, .F]) rfl (ds_set (i := 3) (by decide) rfl (de_F (de_op op_mod od_mod (de_F (de_op op_fdivW od_div (de_F (de_call tk (ok_law_mixed T) (hr.mono (by decide)) rfl T.d_law_mixed.g T.d_law_mixed.F.kp T.d_law_mixed.b (da_cons (de_V rfl (pv 0)) (da_cons (de_F (de_op op_addD od_add (de_V rfl (pv 1)) (de_F de_int))) da_nil)))) (de_F de_int))) (de_F de_int))) fun h => ps_set (i := 3) sc_law_hand.nd rfl (by first | exact .inl rfl | exact .inr rfl) h))
  (dss_cons (ds_if rfl (dt_cmp (op_eqDD (hu64 hr)) od_eq (de_V rfl (pv 2)) (de_F de_int) (nomark _))
  (dss_one (ds_ret rfl rfl rfl (de_F de_int)))
  dss_nil)
  (dss_cons (ds_if rfl (dt_cmp (op_eqDD (hu64 hr)) od_eq (de_V rfl (pv 2)) (de_F de_int) (nomark _))
  (dss_one (ds_ret rfl rfl rfl (de_F (de_op op_shl od_shl (de_F de_int) (de_F (de_op op_mod od_mod (de_F (de_call tk (ok_law_mixed T) (hr.mono (by decide)) rfl T.d_law_mixed.g T.d_law_mixed.F.kp T.d_law_mixed.b (da_cons (de_V rfl (pv 0)) (da_cons (de_F (de_op op_addD od_add (de_V rfl (pv 1)) (de_F de_int))) da_nil)))) (de_F de_int)))))))
  dss_nil)
  (dss_cons (ds_if rfl (dt_cmp (op_eqDD (hu64 hr)) od_eq (de_V rfl (pv 2)) (de_F de_int) (nomark _))
  (dss_one (ds_ret rfl rfl rfl (de_F (de_op op_sub od_sub (de_F de_int) (de_F (de_op op_shl od_shl (de_F de_int) (de_F (de_op op_mod od_mod (de_F (de_call tk (ok_law_mixed T) (hr.mono (by decide)) rfl T.d_law_mixed.g T.d_law_mixed.F.kp T.d_law_mixed.b (da_cons (de_V rfl (pv 0)) (da_cons (de_F (de_op op_addD od_add (de_V rfl (pv 1)) (de_F de_int))) da_nil)))) (de_F de_int)))))))))
  dss_nil)
  (dss_cons (ds_if rfl (dt_cmp (op_eqDD (hu64 hr)) od_eq (de_V rfl (pv 2)) (de_F de_int) (nomark _))
  (dss_one (ds_ret rfl rfl rfl (de_F (de_op op_and od_and (de_F (de_op op_and od_and (de_V rfl (pv 3)) (de_F (de_op op_mod od_mod (de_F (de_op op_fdivW od_div (de_F (de_call tk (ok_law_mixed T) (hr.mono (by decide)) rfl T.d_law_mixed.g T.d_law_mixed.F.kp T.d_law_mixed.b (da_cons (de_V rfl (pv 0)) (da_cons (de_F (de_op op_addD od_add (de_V rfl (pv 1)) (de_F de_int))) da_nil)))) (de_F de_int))) (de_F de_int))))) (de_F (de_op op_mod od_mod (de_F (de_op op_fdivW od_div (de_F (de_call tk (ok_law_mixed T) (hr.mono (by decide)) rfl T.d_law_mixed.g T.d_law_mixed.F.kp T.d_law_mixed.b (da_cons (de_V rfl (pv 0)) (da_cons (de_F (de_op op_addD od_add (de_V rfl (pv 1)) (de_F de_int))) da_nil)))) (de_F de_int))) (de_F de_int)))))))
  dss_nil)
  (dss_one (ds_ret rfl rfl rfl (de_V rfl (pv 3)))))))))))
theorem ok_law_cards (T : Tp K mg) : FnOk P w K mg base (DX.CX P w) 1 T.d_law_cards.fa T.d_law_cards.fd ["_law_hand_here"] (spD K mg .F m_law_cards 1) :=
  fn_dl (j := 0) T.d_law_cards.F sc_law_cards .F b_law_cards [.F, .F] (ke := [.F, .F]) rfl (by decide) rfl fun _ A _ _ _ _ hr tk po pa => (
  (dss_one (ds_ret rfl rfl rfl (de_F (de_compV [1] rfl sc_law_cards.nd (di_range1 rfl (T.fr "range" (by decide +kernel)) (da_cons (de_F de_int) da_nil)) (show BlkOk _ _ _ [("_law_card", 1)] from ⟨rfl, by dsimp only [cxOf, envOfC, compEnvC]; decide +kernel, by dsimp only [cxOf, envOfC, compEnvC]; decide +kernel, by dsimp only [cxOf, envOfC, compEnvC]; decide +kernel, by dsimp only [cxOf, envOfC, compEnvC]; decide +kernel⟩) rfl (fun _ _ _ _ _ => (pg_name (i := 1) sc_law_cards.nd rfl (by first | exact .inl rfl | exact .inr rfl))) (dg_name rfl) (keeps_name (by decide)) (fun _ _ _ _ _ => (dts_one (dt_cmp (op_eqDD (hu64 hr)) od_eq (de_F (de_op op_mod od_mod (de_F (de_op op_fdivW od_div (de_V rfl (pv 0)) (de_F (de_op op_shl od_shl (de_F de_int) (de_V rfl (pv 1)))))) (de_F de_int))) (de_F de_int) (nomark _)))) (fun _ _ _ _ _ => (de_V rfl (pv 1))))))))
theorem ok_law_whole (T : Tp K mg) : FnOk P w K mg base (DX.CX P w) 1 T.d_law_whole.fa T.d_law_whole.fd ["_law_found"] (spD K mg .O m_law_whole 1) :=
  fn_dl (j := 0) T.d_law_whole.F sc_law_whole .O b_law_whole [.F] (ke := [.F]) rfl (by decide) rfl fun _ A _ _ _ _ hr tk po pa => (
  (dss_one (ds_ret rfl rfl rfl (de_and (de_F (de_isTy T.hi boot_int rfl (T.fr "int" (by decide +kernel)) rfl (T.fr "isinstance" (by decide +kernel)) (de_V rfl (pv 0)) (.inl (by decide)) kit_int)) (de_one (de_not (de_F (de_isTy T.hi boot_bool rfl (T.fr "bool" (by decide +kernel)) rfl (T.fr "isinstance" (by decide +kernel)) (de_V rfl (pv 0)) (.inl (by decide)) kit_bool))))))))
theorem ok_law_other (T : Tp K mg) : FnOk P w K mg base (DX.CX P w) 1 T.d_law_other.fa T.d_law_other.fd ["_law_caught"] (spD K mg .O m_law_other 1) :=
  fn_dl (j := 0) T.d_law_other.F sc_law_other .O b_law_other [.F] (ke := [.F]) rfl (by decide) rfl fun _ A _ _ _ _ hr tk po pa => (
  (dss_one (ds_ret rfl rfl rfl (de_or (de_F (de_isCl T.hi (by decide +kernel) rfl rfl (T.fr "isinstance" (by decide +kernel)) (de_V rfl (pv 0)))) (de_one (de_isCl T.hi (by decide +kernel) rfl rfl (T.fr "isinstance" (by decide +kernel)) (de_V rfl (pv 0))))))))
theorem ok_law_refusal (T : Tp K mg) : FnOk P w K mg base (DX.CX P w) 2 T.d_law_refusal.fa T.d_law_refusal.fd ["_law_caught"] (spD K mg .O m_law_refusal 1) :=
  fn_dl (j := 1) T.d_law_refusal.F sc_law_refusal .O b_law_refusal [.F] (ke := [.F]) rfl (by decide) rfl fun _ A _ _ _ _ hr tk po pa => (
  (dss_cons (ds_if rfl (DW.pt (dw_or (dt_isN (de_V rfl (pv 0))) (dw_or1 (dt_not (dt_val (de_F (de_isCl T.hi (by decide +kernel) rfl rfl (T.fr "isinstance" (by decide +kernel)) (de_V rfl (pv 0)))))))))
  (dss_one (ds_ret rfl rfl rfl de_bl))
  dss_nil)
  (dss_one (ds_ret rfl rfl rfl (de_and (de_F (de_isTy T.hi boot_ValueError rfl (T.fr "ValueError" (by decide +kernel)) rfl (T.fr "isinstance" (by decide +kernel)) (de_V rfl (pv 0)) (.inr rfl) kit_VE)) (de_one (de_not (de_F (de_call tk (ok_law_other T) (hr.mono (by decide)) rfl T.d_law_other.g T.d_law_other.F.kp T.d_law_other.b (da_cons (de_V rfl (pv 0)) da_nil))))))))))
theorem ok_law_written (T : Tp K mg) : FnOk P w K mg base (DX.CX P w) 2 T.d_law_written.fa T.d_law_written.fd ["_law_hand_here"] (spD K mg .O m_law_written 1) :=
  fn_dl (j := 1) T.d_law_written.F sc_law_written .O b_law_written [.F, .O, .F, .F, .F] (ke := [.F, .F, .F, .F, .F]) rfl (by decide) rfl fun _ A _ _ _ _ hr tk po pa => (
  (dss_cons (ds_toR (k2 := [.F, .O, .F, .F, .F]) rfl (ds_set (i := 1) (by decide) rfl (de_lst (k := .O) (by decide) da_nil) fun h => ps_set (i := 1) sc_law_written.nd rfl (by first | exact .inl rfl | exact .inr rfl) h))
  (dss_cons (ds_for rfl po rfl (di_range1 rfl (T.fr "range" (by decide +kernel)) (da_cons (de_F de_int) da_nil)) (pg_name (i := 2) sc_law_written.nd rfl (by first | exact .inl rfl | exact .inr rfl)) (dg_name rfl)
  (dss_cons (ds_toR (k2 := [.F, .O, .F, .F, .F]) rfl (ds_set (i := 3) (by decide) rfl (de_F de_str) fun h => ps_set (i := 3) sc_law_written.nd rfl (by first | exact .inl rfl | exact .inr rfl) h))
  (dss_cons (ds_for rfl po rfl (di_any (de_call tk (ok_law_cards T) (hr.mono (by decide)) rfl T.d_law_cards.g T.d_law_cards.F.kp T.d_law_cards.b (da_cons (de_V rfl (pv 0)) da_nil))) (pg_name (i := 4) sc_law_written.nd rfl (by first | exact .inl rfl | exact .inr rfl)) (dg_name rfl)
  (dss_one (ds_if rfl (dt_cmp (op_eqDD (hu64 hr)) od_eq (de_F (de_op op_fdivW od_div (de_V rfl (pv 4)) (de_F de_int))) (de_V rfl (pv 2)) (nomark _))
  (dss_one (ds_toR (k2 := [.F, .O, .F, .F, .F]) rfl (ds_set (i := 3) (by decide) rfl (de_F (de_op op_addD od_add (de_V rfl (pv 3)) (de_ix ix_seq od_ix (de_F de_str) (de_F (de_op op_mod od_mod (de_V rfl (pv 4)) (de_F de_int))) (fun _ _ => rfl)))) fun h => ps_set (i := 3) sc_law_written.nd rfl (by first | exact .inl rfl | exact .inr rfl) h)))
  dss_nil)))
  (dss_one (ds_if rfl (dt_cmp (op_neDD (hu64 hr)) od_ne (de_V rfl (pv 3)) (de_F de_str) (nomark _))
  (dss_one (ds_app rfl rfl (de_op op_addD od_add (de_ix ix_seq od_ix (de_F de_str) (de_V rfl (pv 2)) (fun _ _ => rfl)) (de_V rfl (pv 3))) (pv 1) fun h => pe_bm PySem.F.plainAttrs_list PySem.F.slot_list_append PySem.F.type_list_append mt_append (pv 1) (pa_cons h pa_nil)))
  dss_nil)))))
  (dss_cons (ds_if rfl (dt_borrow rfl (dt_cmp (op_eqDD (hu64 hr)) od_eq (de_V rfl (pv 1)) (de_F (de_lst (k := .O) (by decide) da_nil)) (nomark _)))
  (dss_one (ds_ret rfl rfl rfl de_str))
  dss_nil)
  (dss_one (ds_ret rfl rfl rfl (de_borrow rfl (de_mt PySem.F.plainAttrs_str PySem.F.slot_str_join PySem.F.type_str_join mt_joinD md_join (de_F de_str) (da_cons (de_V rfl (pv 1)) da_nil)))))))))
theorem ok_law_spoilt (T : Tp K mg) : FnOk P w K mg base (DX.CX P w) 2 T.d_law_spoilt.fa T.d_law_spoilt.fd ["_law_script", "_law_good"] (spD K mg .F m_law_spoilt 2) :=
  fn_dl (j := 1) T.d_law_spoilt.F sc_law_spoilt .F b_law_spoilt [.F, .F, .F, .F, .F, .F, .F] (ke := [.F, .F, .F, .F, .F, .F, .F]) rfl (by decide) rfl fun _ A _ _ _ _ hr tk po pa => (
  (dss_cons (ds_toR (k2 := [.F, .F, .F, .F, .F, .F, .F]) rfl (ds_set (i := 2) (by decide) rfl (de_F (de_op op_mod od_mod (de_F (de_call tk (ok_law_mixed T) (hr.mono (by decide)) rfl T.d_law_mixed.g T.d_law_mixed.F.kp T.d_law_mixed.b (da_cons (de_V rfl (pv 0)) (da_cons (de_F de_int) da_nil)))) (de_F de_int))) fun h => ps_set (i := 2) sc_law_spoilt.nd rfl (by first | exact .inl rfl | exact .inr rfl) h))
  (dss_cons (ds_toR (k2 := [.F, .F, .F, .F, .F, .F, .F]) rfl (ds_set (i := 3) (by decide) rfl (de_F (de_op op_mod od_mod (de_F (de_call tk (ok_law_mixed T) (hr.mono (by decide)) rfl T.d_law_mixed.g T.d_law_mixed.F.kp T.d_law_mixed.b (da_cons (de_V rfl (pv 0)) (da_cons (de_F de_int) da_nil)))) (de_F (de_blt call_lenD' cd_len rfl (T.fr "len" (by decide +kernel)) PySem.boot_len (da_cons (de_V rfl (pv 1)) da_nil))))) fun h => ps_set (i := 3) sc_law_spoilt.nd rfl (by first | exact .inl rfl | exact .inr rfl) h))
  (dss_cons (ds_toR (k2 := [.F, .F, .F, .F, .F, .F, .F]) rfl (ds_set (i := 4) (by decide) rfl (de_ix ix_seq od_ix (de_F de_str) (de_F (de_op op_mod od_mod (de_F (de_call tk (ok_law_mixed T) (hr.mono (by decide)) rfl T.d_law_mixed.g T.d_law_mixed.F.kp T.d_law_mixed.b (da_cons (de_V rfl (pv 0)) (da_cons (de_F de_int) da_nil)))) (de_F de_int))) (fun _ _ => rfl)) fun h => ps_set (i := 4) sc_law_spoilt.nd rfl (by first | exact .inl rfl | exact .inr rfl) h))
  (dss_cons (ds_toR (k2 := [.F, .F, .F, .F, .F, .F, .F]) rfl (ds_set (i := 5) (by decide) rfl (de_F (de_mt PySem.F.plainAttrs_str PySem.F.slot_str_split PySem.F.type_str_split mt_split md_split (de_V rfl (pv 1)) (da_cons (de_F de_str) da_nil))) fun h => ps_set (i := 5) sc_law_spoilt.nd rfl (by first | exact .inl rfl | exact .inr rfl) h))
  (dss_cons (ds_toR (k2 := [.F, .F, .F, .F, .F, .F, .F]) rfl (ds_set (i := 6) (by decide) rfl (de_F (de_lst (k := .X) (by decide) (da_cons (de_FX (de_V rfl (pv 1))) (da_cons (de_FX (de_V rfl (pv 1))) (da_cons (de_FX (de_V rfl (pv 1))) (da_cons (de_X (de_op op_addD od_add (de_F (de_cut (de_V rfl (pv 1)) do_none (do_some (de_V rfl (pv 3))))) (de_F (de_cut (de_V rfl (pv 1)) (do_some (de_F (de_op op_addD od_add (de_V rfl (pv 3)) (de_F de_int)))) do_none)))) (da_cons (de_X (de_op op_addD od_add (de_F (de_op op_addD od_add (de_F (de_cut (de_V rfl (pv 1)) do_none (do_some (de_V rfl (pv 3))))) (de_V rfl (pv 4)))) (de_F (de_cut (de_V rfl (pv 1)) (do_some (de_V rfl (pv 3))) do_none)))) (da_cons (de_X (de_op op_addD od_add (de_F (de_op op_addD od_add (de_F (de_cut (de_V rfl (pv 1)) do_none (do_some (de_V rfl (pv 3))))) (de_V rfl (pv 4)))) (de_F (de_cut (de_V rfl (pv 1)) (do_some (de_F (de_op op_addD od_add (de_V rfl (pv 3)) (de_F de_int)))) do_none)))) da_nil)))))))) fun h => ps_set (i := 6) sc_law_spoilt.nd rfl (by first | exact .inl rfl | exact .inr rfl) h))
  (dss_cons (ds_toR (k2 := [.F, .F, .F, .F, .F, .F, .F]) rfl (ds_set (i := 6) (by decide) rfl (de_F (de_op op_addD od_add (de_V rfl (pv 6)) (de_F (de_lst (k := .X) (by decide) (da_cons (de_X (de_mt PySem.F.plainAttrs_str PySem.F.slot_str_join PySem.F.type_str_join mt_joinD md_join (de_F de_str) (da_cons (de_F (de_rev (de_V rfl (pv 5)))) da_nil))) (da_cons (de_X (de_mt PySem.F.plainAttrs_str PySem.F.slot_str_join PySem.F.type_str_join mt_joinD md_join (de_F de_str) (da_cons (de_F (de_op op_addD od_add (de_V rfl (pv 5)) (de_F (de_lst (k := .X) (by decide) (da_cons (de_FX (de_ix ix_seq od_ix (de_V rfl (pv 5)) (de_F de_int) (fun _ _ => rfl))) da_nil))))) da_nil))) (da_cons (de_X (de_op op_addD od_add (de_V rfl (pv 1)) (de_F de_str))) (da_cons (de_X (de_mt PySem.F.plainAttrs_str PySem.F.slot_str_join PySem.F.type_str_join mt_joinD md_join (de_F de_str) (da_cons (de_V rfl (pv 5)) da_nil))) (da_cons (de_X de_str) (da_cons (de_FX (de_V rfl (pv 4))) da_nil)))))))))) fun h => ps_set (i := 6) sc_law_spoilt.nd rfl (by first | exact .inl rfl | exact .inr rfl) h))
  (dss_one (ds_ret rfl rfl rfl (de_ix ix_seq od_ix (de_V rfl (pv 6)) (de_V rfl (pv 2)) (fun _ _ => rfl)))))))))))
theorem ok_law_due (T : Tp K mg) : FnOk P w K mg base (DX.CX P w) 3 T.d_law_due.fa T.d_law_due.fd ["_law_text"] (spD K mg .F m_law_due 1) :=
  fn_dl (j := 2) T.d_law_due.F sc_law_due .F b_law_due [.F, .F, .F, .F, .F] (ke := [.F, .F, .F, .F, .F]) rfl (by decide) rfl fun _ A _ _ _ _ hr tk po pa => (
  (dss_cons (ds_toR (k2 := [.F, .F, .F, .F, .F]) rfl (ds_set (i := 1) (by decide) rfl (de_F de_int) fun h => ps_set (i := 1) sc_law_due.nd rfl (by first | exact .inl rfl | exact .inr rfl) h))
  (dss_cons (ds_toR (k2 := [.F, .F, .F, .F, .F]) rfl (ds_set (i := 2) (by decide) rfl (de_F (de_neg (de_F de_int))) fun h => ps_set (i := 2) sc_law_due.nd rfl (by first | exact .inl rfl | exact .inr rfl) h))
  (dss_cons (ds_for rfl po rfl (di_any (de_V rfl (pv 0))) (pg_name (i := 3) sc_law_due.nd rfl (by first | exact .inl rfl | exact .inr rfl)) (dg_name rfl)
  (dss_cons (ds_toR (k2 := [.F, .F, .F, .F, .F]) rfl (ds_set (i := 4) (by decide) rfl (de_F (de_mt PySem.F.plainAttrs_str PySem.F.slot_str_find PySem.F.type_str_find mt_find md_find (de_F de_str) (da_cons (de_V rfl (pv 3)) da_nil))) fun h => ps_set (i := 4) sc_law_due.nd rfl (by first | exact .inl rfl | exact .inr rfl) h))
  (dss_one (ds_if rfl (dt_cmp op_ge od_ge (de_V rfl (pv 4)) (de_F de_int) (nomark _))
  (dss_one (ds_toR (k2 := [.F, .F, .F, .F, .F]) rfl (ds_set (i := 2) (by decide) rfl (de_V rfl (pv 4)) fun h => ps_set (i := 2) sc_law_due.nd rfl (by first | exact .inl rfl | exact .inr rfl) h)))
  (dss_one (ds_if rfl (DW.pt (dw_and (dt_cmp op_ge od_ge (de_V rfl (pv 2)) (de_F de_int) (nomark _)) (dw_and1 (dt_cmp op_ge od_ge (de_F (de_mt PySem.F.plainAttrs_str PySem.F.slot_str_find PySem.F.type_str_find mt_find md_find (de_F de_str) (da_cons (de_V rfl (pv 3)) da_nil))) (de_F de_int) (nomark _)))))
  (dss_one (ds_toR (k2 := [.F, .F, .F, .F, .F]) rfl (ds_set (i := 1) (by decide) rfl (de_F (de_op op_or od_or (de_V rfl (pv 1)) (de_F (de_op op_shl od_shl (de_F de_int) (de_F (de_op op_addD od_add (de_F (de_op op_mulD od_mul (de_F de_int) (de_V rfl (pv 2)))) (de_F (de_mt PySem.F.plainAttrs_str PySem.F.slot_str_find PySem.F.type_str_find mt_find md_find (de_F de_str) (da_cons (de_V rfl (pv 3)) da_nil))))))))) fun h => ps_set (i := 1) sc_law_due.nd rfl (by first | exact .inl rfl | exact .inr rfl) h)))
  dss_nil))))))
  (dss_cons (ds_if rfl (dt_cmp (op_eqDD (hu64 hr)) od_eq (de_F (de_call tk (ok_law_written T) (hr.mono (by decide)) rfl T.d_law_written.g T.d_law_written.F.kp T.d_law_written.b (da_cons (de_V rfl (pv 1)) da_nil))) (de_V rfl (pv 0)) (nomark _))
  (dss_one (ds_ret rfl rfl rfl (de_V rfl (pv 1))))
  dss_nil)
  (dss_one (ds_ret rfl rfl rfl (de_F (de_neg (de_F de_int))))))))))
theorem ok_law_read (T : Tp K mg) : FnOk P w K mg base (DX.CX P w) 4 T.d_law_read.fa T.d_law_read.fd ["_law_text"] (spD K mg .F m_law_read 1) :=
  fn_dl (j := 3) T.d_law_read.F sc_law_read .F b_law_read [.F, .F, .F, .F] (ke := [.F, .F, .F, .F]) rfl (by decide) rfl fun _ A _ _ _ _ hr tk po pa => (
  (dss_cons (ds_toR (k2 := [.F, .F, .F, .F]) rfl (ds_set (i := 1) (by decide) rfl (de_F de_non) fun h => ps_set (i := 1) sc_law_read.nd rfl (by first | exact .inl rfl | exact .inr rfl) h))
  (dss_cons (ds_toR (k2 := [.F, .F, .F, .F]) rfl (ds_set (i := 2) (by decide) rfl (de_F de_non) fun h => ps_set (i := 2) sc_law_read.nd rfl (by first | exact .inl rfl | exact .inr rfl) h))
  (dss_cons (ds_try rfl rfl pa tk [.F, .F, .F, .F] (fun W pn xe t p =>
  (dss_one (ds_toR (k2 := [.F, .F, .F, .F]) rfl (ds_set (i := 1) (by decide) rfl (de_call t (ok_read_hand T) (hr.mono (by decide)) rfl T.d_read_hand.g T.d_read_hand.F.kp T.d_read_hand.b (da_cons (de_V rfl (pv 0)) da_nil)) fun h => ps_set (i := 1) sc_law_read.nd rfl (by first | exact .inl rfl | exact .inr rfl) h))))
  (.keep (T.hi.names (by decide +kernel) rfl) (T.hi.tests (by decide +kernel)) sc_law_read.nd (i := 3) rfl rfl (by decide) rfl (fun _ _ => (dss_one (ds_toR (k2 := [.F, .F, .F, .F]) rfl (ds_set (i := 2) (by decide) rfl (de_V rfl (pv 3)) fun h => ps_set (i := 2) sc_law_read.nd rfl (by first | exact .inl rfl | exact .inr rfl) h)))) (.nil rfl)))
  (dss_one (ds_ret rfl rfl rfl (de_tup (da_cons (de_V rfl (pv 1)) (da_cons (de_V rfl (pv 2)) da_nil)))))))))
theorem ok_law (T : Tp K mg) : FnOk P w K mg base (DX.CX P w) 5 T.d_law.fa T.d_law.fd ["_law_script"] (spD K mg .O m_law 1) :=
  fn_dl (j := 4) T.d_law.F sc_law .O b_law [.F, .F, .F, .F, .F, .F, .F, .F, .F] (ke := [.F, .F, .F, .F, .F, .F, .F, .F, .F]) rfl (by decide) rfl fun _ A _ _ _ _ hr tk po pa => (
  (dss_cons (ds_toR (k2 := [.F, .F, .F, .F, .F, .F, .F, .F, .F]) rfl (ds_set (i := 1) (by decide) rfl (de_call tk (ok_law_hand T) (hr.mono (by decide)) rfl T.d_law_hand.g T.d_law_hand.F.kp T.d_law_hand.b (da_cons (de_V rfl (pv 0)) (da_cons (de_F de_int) da_nil))) fun h => ps_set (i := 1) sc_law.nd rfl (by first | exact .inl rfl | exact .inr rfl) h))
  (dss_cons (ds_toR (k2 := [.F, .F, .F, .F, .F, .F, .F, .F, .F]) rfl (ds_set (i := 2) (by decide) rfl (de_F (de_call tk (ok_law_written T) (hr.mono (by decide)) rfl T.d_law_written.g T.d_law_written.F.kp T.d_law_written.b (da_cons (de_V rfl (pv 1)) da_nil))) fun h => ps_set (i := 2) sc_law.nd rfl (by first | exact .inl rfl | exact .inr rfl) h))
  (dss_cons (ds_toR (k2 := [.F, .F, .F, .F, .F, .F, .F, .F, .F]) rfl (ds_set (i := 3) (by decide) rfl (de_F (de_call tk (ok_hand_text T) (hr.mono (by decide)) rfl T.d_hand_text.g T.d_hand_text.F.kp T.d_hand_text.b (da_cons (de_V rfl (pv 1)) da_nil))) fun h => ps_set (i := 3) sc_law.nd rfl (by first | exact .inl rfl | exact .inr rfl) h))
  (dss_cons (ds_if rfl (DW.pt (dw_or (dt_not (dt_val (de_F (de_isTy T.hi boot_str rfl (T.fr "str" (by decide +kernel)) rfl (T.fr "isinstance" (by decide +kernel)) (de_V rfl (pv 3)) (.inl (by decide)) kit_str)))) (dw_or1 (dt_cmp (op_neDD (hu64 hr)) od_ne (de_V rfl (pv 3)) (de_V rfl (pv 2)) (nomark _)))))
  (dss_one (ds_ret rfl rfl rfl de_bl))
  dss_nil)
  (dss_cons (ds_asg rfl (de_call tk (ok_law_read T) (hr.mono (by decide)) rfl T.d_law_read.g T.d_law_read.F.kp T.d_law_read.b (da_cons (de_V rfl (pv 2)) da_nil)) (pg_tup rfl (pgs_cons (pg_name (i := 7) sc_law.nd rfl (by first | exact .inl rfl | exact .inr rfl)) (pgs_cons (pg_name (i := 8) sc_law.nd rfl (by first | exact .inl rfl | exact .inr rfl)) pgs_nil))) (dg_tup rfl (dgs_cons (dg_name rfl) (dgs_cons (dg_name rfl) dgs_nil))))
  (dss_cons (ds_if rfl (DW.pt (dw_or (dt_notN (de_V rfl (pv 8))) (dw_or (dt_not (dt_val (de_F (de_call tk (ok_law_whole T) (hr.mono (by decide)) rfl T.d_law_whole.g T.d_law_whole.F.kp T.d_law_whole.b (da_cons (de_V rfl (pv 7)) da_nil))))) (dw_or1 (dt_cmp (op_neDD (hu64 hr)) od_ne (de_V rfl (pv 7)) (de_V rfl (pv 1)) (nomark _))))))
  (dss_one (ds_ret rfl rfl rfl de_bl))
  dss_nil)
  (dss_cons (ds_toR (k2 := [.F, .F, .F, .F, .F, .F, .F, .F, .F]) rfl (ds_set (i := 4) (by decide) rfl (de_ix ix_seq od_ix (de_F (de_lst (k := .X) (by decide) (da_cons (de_FX (de_V rfl (pv 1))) (da_cons (de_X de_non) (da_cons (de_X de_bl) (da_cons (de_lst (k := .X) (by decide) (da_cons (de_FX (de_V rfl (pv 2))) da_nil)) (da_cons (de_X (de_tup (da_cons de_str da_nil))) (da_cons (de_X de_int) (da_cons (de_X (de_lst (k := .O) (by decide) (da_cons de_str da_nil))) (da_cons (de_X de_dct) da_nil)))))))))) (de_F (de_op op_mod od_mod (de_F (de_call tk (ok_law_mixed T) (hr.mono (by decide)) rfl T.d_law_mixed.g T.d_law_mixed.F.kp T.d_law_mixed.b (da_cons (de_V rfl (pv 0)) (da_cons (de_F de_int) da_nil)))) (de_F de_int))) (fun _ _ => rfl)) fun h => ps_set (i := 4) sc_law.nd rfl (by first | exact .inl rfl | exact .inr rfl) h))
  (dss_cons (ds_asg rfl (de_call tk (ok_law_read T) (hr.mono (by decide)) rfl T.d_law_read.g T.d_law_read.F.kp T.d_law_read.b (da_cons (de_V rfl (pv 4)) da_nil)) (pg_tup rfl (pgs_cons (pg_name (i := 7) sc_law.nd rfl (by first | exact .inl rfl | exact .inr rfl)) (pgs_cons (pg_name (i := 8) sc_law.nd rfl (by first | exact .inl rfl | exact .inr rfl)) pgs_nil))) (dg_tup rfl (dgs_cons (dg_name rfl) (dgs_cons (dg_name rfl) dgs_nil))))
  (dss_cons (ds_if rfl (dt_not (dt_val (de_F (de_call tk (ok_law_refusal T) (hr.mono (by decide)) rfl T.d_law_refusal.g T.d_law_refusal.F.kp T.d_law_refusal.b (da_cons (de_V rfl (pv 8)) da_nil)))))
  (dss_one (ds_ret rfl rfl rfl de_bl))
  dss_nil)
  (dss_cons (ds_toR (k2 := [.F, .F, .F, .F, .F, .F, .F, .F, .F]) rfl (ds_set (i := 5) (by decide) rfl (de_call tk (ok_law_spoilt T) (hr.mono (by decide)) rfl T.d_law_spoilt.g T.d_law_spoilt.F.kp T.d_law_spoilt.b (da_cons (de_V rfl (pv 0)) (da_cons (de_V rfl (pv 2)) da_nil))) fun h => ps_set (i := 5) sc_law.nd rfl (by first | exact .inl rfl | exact .inr rfl) h))
  (dss_cons (ds_toR (k2 := [.F, .F, .F, .F, .F, .F, .F, .F, .F]) rfl (ds_set (i := 6) (by decide) rfl (de_call tk (ok_law_due T) (hr.mono (by decide)) rfl T.d_law_due.g T.d_law_due.F.kp T.d_law_due.b (da_cons (de_V rfl (pv 5)) da_nil)) fun h => ps_set (i := 6) sc_law.nd rfl (by first | exact .inl rfl | exact .inr rfl) h))
  (dss_cons (ds_asg rfl (de_call tk (ok_law_read T) (hr.mono (by decide)) rfl T.d_law_read.g T.d_law_read.F.kp T.d_law_read.b (da_cons (de_V rfl (pv 5)) da_nil)) (pg_tup rfl (pgs_cons (pg_name (i := 7) sc_law.nd rfl (by first | exact .inl rfl | exact .inr rfl)) (pgs_cons (pg_name (i := 8) sc_law.nd rfl (by first | exact .inl rfl | exact .inr rfl)) pgs_nil))) (dg_tup rfl (dgs_cons (dg_name rfl) (dgs_cons (dg_name rfl) dgs_nil))))
  (dss_cons (ds_if rfl (dt_cmp op_lt od_lt (de_V rfl (pv 6)) (de_F de_int) (nomark _))
  (dss_one (ds_ret rfl rfl rfl (de_and (de_F (de_call tk (ok_law_refusal T) (hr.mono (by decide)) rfl T.d_law_refusal.g T.d_law_refusal.F.kp T.d_law_refusal.b (da_cons (de_V rfl (pv 8)) da_nil))) (de_one (de_cmp (op_eqDD (hu64 hr)) od_eq (de_call tk (ok_read_hand T) (hr.mono (by decide)) rfl T.d_read_hand.g T.d_read_hand.F.kp T.d_read_hand.b (da_cons (de_V rfl (pv 2)) da_nil)) (de_V rfl (pv 1)) (nomark _))))))
  dss_nil)
  (dss_one (ds_ret rfl rfl rfl (de_and (de_F (de_isN (de_V rfl (pv 8)))) (de_and (de_F (de_cmp (op_eqDD (hu64 hr)) od_eq (de_V rfl (pv 7)) (de_V rfl (pv 6)) (nomark _))) (de_one (de_cmp (op_eqDD (hu64 hr)) od_eq (de_call tk (ok_read_hand T) (hr.mono (by decide)) rfl T.d_read_hand.g T.d_read_hand.F.kp T.d_read_hand.b (da_cons (de_V rfl (pv 2)) da_nil)) (de_V rfl (pv 1)) (nomark _)))))))))))))))))))))
end
def fnL : List He.DefD := [dD "cards_in" "cards_in" s_cards_in, dD "read_card" "read_card" s_read_card, dD "hand_text" "hand_text" s_hand_text, dD "word_hand" "word_hand" s_word_hand, dD "read_hand" "read_hand" s_read_hand, dD "_law_mixed" "_law_mixed" s_law_mixed, dD "_law_hand" "_law_hand" s_law_hand, dD "_law_cards" "_law_cards" s_law_cards, dD "_law_whole" "_law_whole" s_law_whole, dD "_law_other" "_law_other" s_law_other, dD "_law_refusal" "_law_refusal" s_law_refusal, dD "_law_written" "_law_written" s_law_written, dD "_law_spoilt" "_law_spoilt" s_law_spoilt, dD "_law_due" "_law_due" s_law_due, dD "_law_read" "_law_read" s_law_read, dD "law" "law" s_law]
def faL : List He.Fa := [.glo "cards_in", .glo "read_card", .glo "hand_text", .glo "word_hand", .glo "read_hand", .glo "_law_mixed", .glo "_law_hand", .glo "_law_cards", .glo "_law_whole", .glo "_law_other", .glo "_law_refusal", .glo "_law_written", .glo "_law_spoilt", .glo "_law_due", .glo "_law_read", .glo "law", .free "ValueError", .free "bool", .free "int", .free "isinstance", .free "len", .free "range", .free "str", .str "LETTERS" "abcd", .str "FIGURES" "12345678"]
def exL (K : PySem.W.Frag) : Bool := hiB K hs && mades.all (mkB K)
theorem frees_ok {K : PySem.W.Frag} {mg : MG} {h : Heap} (X : K.In h) (G : h.Ns mainGlobals mg) (c : He.SaysD faL fnL K) : ∀ x, x ∈ frees → mg x = none := fun x hx => He.free_ok X G (c.facts (f := .free x) (by
  simp only [frees, List.mem_cons, List.not_mem_nil, or_false] at hx
  rcases hx with rfl | rfl | rfl | rfl | rfl | rfl | rfl <;> simp [faL]))
theorem tp_of {K : PySem.W.Frag} {mg : MG} {h : Heap} (X : K.In h) (G : h.Ns mainGlobals mg) (c : He.SaysD faL fnL K) (ex : exL K = true) : Nonempty (Tp K mg) := by
  obtain ⟨d0⟩ := dn_of (x := "cards_in") (qual := "cards_in") (st := s_cards_in) (ps := ["hand"]) X G (c.def_ 0 (d := dD "cards_in" "cards_in" s_cards_in) rfl) (c.fact 0 (f := .glo "cards_in") rfl) fun _ _ _ _ _ _ us hl => match us, hl with | [_], _ => rfl
  obtain ⟨d1⟩ := dn_of (x := "read_card") (qual := "read_card") (st := s_read_card) (ps := ["text"]) X G (c.def_ 1 (d := dD "read_card" "read_card" s_read_card) rfl) (c.fact 1 (f := .glo "read_card") rfl) fun _ _ _ _ _ _ us hl => match us, hl with | [_], _ => rfl
  obtain ⟨d2⟩ := dn_of (x := "hand_text") (qual := "hand_text") (st := s_hand_text) (ps := ["hand"]) X G (c.def_ 2 (d := dD "hand_text" "hand_text" s_hand_text) rfl) (c.fact 2 (f := .glo "hand_text") rfl) fun _ _ _ _ _ _ us hl => match us, hl with | [_], _ => rfl
  obtain ⟨d3⟩ := dn_of (x := "word_hand") (qual := "word_hand") (st := s_word_hand) (ps := ["word"]) X G (c.def_ 3 (d := dD "word_hand" "word_hand" s_word_hand) rfl) (c.fact 3 (f := .glo "word_hand") rfl) fun _ _ _ _ _ _ us hl => match us, hl with | [_], _ => rfl
  obtain ⟨d4⟩ := dn_of (x := "read_hand") (qual := "read_hand") (st := s_read_hand) (ps := ["text"]) X G (c.def_ 4 (d := dD "read_hand" "read_hand" s_read_hand) rfl) (c.fact 4 (f := .glo "read_hand") rfl) fun _ _ _ _ _ _ us hl => match us, hl with | [_], _ => rfl
  obtain ⟨d5⟩ := dn_of (x := "_law_mixed") (qual := "_law_mixed") (st := s_law_mixed) (ps := ["_law_script", "_law_k"]) X G (c.def_ 5 (d := dD "_law_mixed" "_law_mixed" s_law_mixed) rfl) (c.fact 5 (f := .glo "_law_mixed") rfl) fun _ _ _ _ _ _ us hl => match us, hl with | [_, _], _ => rfl
  obtain ⟨d6⟩ := dn_of (x := "_law_hand") (qual := "_law_hand") (st := s_law_hand) (ps := ["_law_script", "_law_k"]) X G (c.def_ 6 (d := dD "_law_hand" "_law_hand" s_law_hand) rfl) (c.fact 6 (f := .glo "_law_hand") rfl) fun _ _ _ _ _ _ us hl => match us, hl with | [_, _], _ => rfl
  obtain ⟨d7⟩ := dn_of (x := "_law_cards") (qual := "_law_cards") (st := s_law_cards) (ps := ["_law_hand_here"]) X G (c.def_ 7 (d := dD "_law_cards" "_law_cards" s_law_cards) rfl) (c.fact 7 (f := .glo "_law_cards") rfl) fun _ _ _ _ _ _ us hl => match us, hl with | [_], _ => rfl
  obtain ⟨d8⟩ := dn_of (x := "_law_whole") (qual := "_law_whole") (st := s_law_whole) (ps := ["_law_found"]) X G (c.def_ 8 (d := dD "_law_whole" "_law_whole" s_law_whole) rfl) (c.fact 8 (f := .glo "_law_whole") rfl) fun _ _ _ _ _ _ us hl => match us, hl with | [_], _ => rfl
  obtain ⟨d9⟩ := dn_of (x := "_law_other") (qual := "_law_other") (st := s_law_other) (ps := ["_law_caught"]) X G (c.def_ 9 (d := dD "_law_other" "_law_other" s_law_other) rfl) (c.fact 9 (f := .glo "_law_other") rfl) fun _ _ _ _ _ _ us hl => match us, hl with | [_], _ => rfl
  obtain ⟨d10⟩ := dn_of (x := "_law_refusal") (qual := "_law_refusal") (st := s_law_refusal) (ps := ["_law_caught"]) X G (c.def_ 10 (d := dD "_law_refusal" "_law_refusal" s_law_refusal) rfl) (c.fact 10 (f := .glo "_law_refusal") rfl) fun _ _ _ _ _ _ us hl => match us, hl with | [_], _ => rfl
  obtain ⟨d11⟩ := dn_of (x := "_law_written") (qual := "_law_written") (st := s_law_written) (ps := ["_law_hand_here"]) X G (c.def_ 11 (d := dD "_law_written" "_law_written" s_law_written) rfl) (c.fact 11 (f := .glo "_law_written") rfl) fun _ _ _ _ _ _ us hl => match us, hl with | [_], _ => rfl
  obtain ⟨d12⟩ := dn_of (x := "_law_spoilt") (qual := "_law_spoilt") (st := s_law_spoilt) (ps := ["_law_script", "_law_good"]) X G (c.def_ 12 (d := dD "_law_spoilt" "_law_spoilt" s_law_spoilt) rfl) (c.fact 12 (f := .glo "_law_spoilt") rfl) fun _ _ _ _ _ _ us hl => match us, hl with | [_, _], _ => rfl
  obtain ⟨d13⟩ := dn_of (x := "_law_due") (qual := "_law_due") (st := s_law_due) (ps := ["_law_text"]) X G (c.def_ 13 (d := dD "_law_due" "_law_due" s_law_due) rfl) (c.fact 13 (f := .glo "_law_due") rfl) fun _ _ _ _ _ _ us hl => match us, hl with | [_], _ => rfl
  obtain ⟨d14⟩ := dn_of (x := "_law_read") (qual := "_law_read") (st := s_law_read) (ps := ["_law_text"]) X G (c.def_ 14 (d := dD "_law_read" "_law_read" s_law_read) rfl) (c.fact 14 (f := .glo "_law_read") rfl) fun _ _ _ _ _ _ us hl => match us, hl with | [_], _ => rfl
  obtain ⟨d15⟩ := dn_of (x := "law") (qual := "law") (st := s_law) (ps := ["_law_script"]) X G (c.def_ 15 (d := dD "law" "law" s_law) rfl) (c.fact 15 (f := .glo "law") rfl) fun _ _ _ _ _ _ us hl => match us, hl with | [_], _ => rfl
  obtain ⟨e1, e2⟩ := He.ba ex
  exact ⟨{ d_cards_in := d0, d_read_card := d1, d_hand_text := d2, d_word_hand := d3, d_read_hand := d4, d_law_mixed := d5, d_law_hand := d6, d_law_cards := d7, d_law_whole := d8, d_law_other := d9, d_law_refusal := d10, d_law_written := d11, d_law_spoilt := d12, d_law_due := d13, d_law_read := d14, d_law := d15, hi := hi_ok X G e1, mkr := fun x hx => List.all_eq_true.mp e2 x hx, fr := frees_ok X G c, c_LETTERS := He.str_ok X G (c.fact 23 (f := .str "LETTERS" "abcd") rfl), c_FIGURES := He.str_ok X G (c.fact 24 (f := .str "FIGURES" "12345678") rfl) }⟩
abbrev R : PySem.W.OpenRow := PySem.W.OpenLaw.row PySem.Challenge.rw_trickproof_k04_a_hand_written
abbrev hk : PySem.W.Hook := He.hookX 4 faL fnL [] [] exL
def ob (s : PySem.W.SharedT) : He.AlX := He.obsX 4 faL fnL [] [] exL (HandSHeadRun.getT s)
theorem ob_eq (s : PySem.W.SharedT) : ob s = hk.obs s.abs := He.obsX_eq (HandSHeadRun.getT_eq s)
def loose0 : List PySem.Str := ["cards_in", "TrickError", "NoCard", "NoHand", "NoDeal", "LETTERS", "FIGURES", "read_card", "hand_text", "word_hand", "read_hand", "_law_mixed", "_law_hand", "_law_cards", "_law_whole", "_law_other", "_law_refusal", "_law_written", "_law_spoilt", "_law_due", "_law_read"]
def loose : List PySem.Str := loose0
theorem run (w : World) : HandSHeadRun.RunEq R (PySem.W.view R.prog [25]) hk ob 6000 loose w := by
  intro os
  kernel_rfl

end Lk04
end
section
namespace Lk04
open DL PySem
local macro_rules | `(tactic| walk_at "dl") => `(tactic| simp only [runB_fin, List.map_cons, List.map_nil, List.length_cons, List.length_nil, Nat.reduceAdd, Nat.reduceSub, Nat.sub_self, Nat.zero_add, List.replicate_succ, List.replicate_zero, List.cons_append, List.nil_append, List.append_nil,
  fin_rt, fin_nx, fin_ex, seq_nx, seq_rt, seq_ex, seq_bk, seq_ct, wl_nx, wl_ct, wl_bk, wl_rt, wl_ex, try_ex, try_nx, try_rt, oE_ok, oE_exn, bind_ok, bind_exn, of_some, oSeq_at, sSet_at, sIf_at, sRet_at, sRetN_at, sEx_at, oNx_at, sRaise_at, sTry_at, sFor_at, sAsg_at, eC_at, eOp_at, tB_at, asB_bl, tNot_at, tAnd_at, tOr_at, aN_at, aC_at, eTup_at, eLst_at, eCall_at, eBlt_at, eMt_at, tyD_str, tyD_lst, gImm_at, imm_int, imm_str, eIs_at, eNot_at, eAnd_at, eOr_at, eNeg_at, eIf_at, oIsN_at, oNotN_at, ivD_at, irD_at, pN_at, eDct_at, pS_at, eCut_at, eRev_at,
  eV0, eV1, eV2, eV3, eV4, eV5, eV6, eV7, eV8, eV9, set0, set1, set2, set3, set4, set5, set6, set7, set8, set9, retM1, retM2, retM3, tg1_at, add_ii, sub_ii, lt_ii, le_ii, gt_ii, ge_ii, oEq_ii, oEq_ss, oNe_ii, oNe_ss, notIn_s, in_s, len_l, len_t, len_scr, items_l, items_t, items_s, find_s, if_true, Bool.not_true, Bool.not_false, Bool.true_eq_false, Bool.false_eq_true, if_false, decide_true, decide_false, Option.map_some])

/-! ### numbers -/
theorem bor (a b : Nat) : Builtin.bitOr (a : Int) (b : Int) = ((a ||| b : Nat) : Int) := by
  rw [L2.bitOr_nn (Int.natCast_nonneg a) (Int.natCast_nonneg b), Int.toNat_natCast, Int.toNat_natCast]
theorem shl1 (k : Nat) (h : k ≤ 1000) : oShl (.int 1) (.int (k : Int)) = some (.int ((2 ^ k : Nat) : Int)) := by
  have e : shC 1 (k : Int) = true := by unfold shC; simp; omega
  simp only [i2_ii, e, if_true, Int.toNat_natCast, Int.one_mul]
  rw [Int.natCast_pow]; rfl
theorem div_n (a b : Nat) (h : 0 < b) (h2 : b < 2 ^ 9000) : oDiv (.int (a : Int)) (.int (b : Int)) = some (.int ((a / b : Nat) : Int)) := by
  have e : divC (a : Int) (b : Int) = true := by unfold divC; rw [decide_eq_true (by omega : 0 < (b : Int)), decide_eq_true (show (b : Int).natAbs < 2 ^ 9000 from by rw [Int.natAbs_natCast]; exact h2)]; rfl
  simp only [i2_ii, e, if_true]
  rfl
theorem mod_n (a b : Nat) (h : 0 < b) : oMod (.int (a : Int)) (.int (b : Int)) = some (.int ((a % b : Nat) : Int)) := by
  have e : modC (a : Int) (b : Int) = true := by unfold modC; rw [decide_eq_true (by omega : 0 < (b : Int))]
  simp only [i2_ii, e, if_true]
  rfl
theorem mul_n (a b : Nat) (h : a < 2 ^ 64) : oMulI (.int (a : Int)) (.int (b : Int)) = some (.int ((a * b : Nat) : Int)) := by
  simp only [i2_ii, mulC_s (m := (a : Int)) (n := (b : Int)) (by simpa using h), if_true]
  rw [Int.natCast_mul]
theorem add_n (a b : Nat) : oAdd (.int (a : Int)) (.int (b : Int)) = some (.int ((a + b : Nat) : Int)) := by
  rw [add_ii, Int.natCast_add]
theorem or_n (a b : Nat) : oOr (.int (a : Int)) (.int (b : Int)) = some (.int ((a ||| b : Nat) : Int)) := by
  show some (D.int (Builtin.bitOr (a : Int) (b : Int))) = _
  rw [bor]
theorem eq_n (a b : Nat) : oEq (.int (a : Int)) (.int (b : Int)) = some (.bl (decide (a = b))) := by
  rw [oEq_ii]
  congr 2
  exact decide_eq_decide.mpr (by omega)
/-! ### a card's two signs -/
def rc (c f : Nat) : Option Nat := if c ∈ [97, 98, 99, 100] ∧ f ∈ [49, 50, 51, 52, 53, 54, 55, 56] then some (8 * (c - 97) + (f - 49)) else none
theorem rc_lt {c f k : Nat} (h : rc c f = some k) : k < 32 := by
  unfold rc at h
  split at h
  · rename_i q
    obtain ⟨q1, q2⟩ := q
    simp only [List.mem_cons, List.not_mem_nil, or_false] at q1 q2
    cases h
    omega
  · cases h
theorem idx_c {c : Nat} (h : c ∈ [97, 98, 99, 100]) : List.idxOf c [97, 98, 99, 100] = c - 97 := by
  simp only [List.mem_cons, List.not_mem_nil, or_false] at h
  rcases h with rfl | rfl | rfl | rfl <;> decide
theorem idx_f {c : Nat} (h : c ∈ [49, 50, 51, 52, 53, 54, 55, 56]) : List.idxOf c [49, 50, 51, 52, 53, 54, 55, 56] = c - 49 := by
  simp only [List.mem_cons, List.not_mem_nil, or_false] at h
  rcases h with rfl | rfl | rfl | rfl | rfl | rfl | rfl | rfl <;> decide
abbrev noCard : Xd := ⟨"NoCard", [], []⟩
abbrev noHand : Xd := ⟨"NoHand", [], []⟩
theorem read_card_eq (c f : Nat) : m_read_card [.str [c, f]] = match rc c f with | some k => .ok (.int (k : Int)) | none => .exn noCard := by
  unfold m_read_card b_read_card
  walk_at "dl"
  have e1 : oLen [.str [c, f]] = some (.int 2) := rfl
  have e2 : oIx (.str [c, f]) (.int 0) = some (.str [c]) := ix_s (k := 0) (Nat.le_of_ble_eq_true rfl) rfl
  have e3 : oIx (.str [c, f]) (.int 1) = some (.str [f]) := ix_s (k := 1) (Nat.le_of_ble_eq_true rfl) rfl
  have e4 : isT hs "str" (.str [c, f]) = some true := rfl
  simp only [e1, e2, e3, e4]
  walk_at "dl"
  by_cases h1 : c ∈ [97, 98, 99, 100]
  · by_cases h2 : f ∈ [49, 50, 51, 52, 53, 54, 55, 56]
    · simp only [h1, h2]
      walk_at "dl"
      simp only [e2, e3]
      walk_at "dl"
      simp only [sindex_s h1, sindex_s h2, idx_c h1, idx_f h2]
      walk_at "dl"
      have e5 : oMulI (.int 8) (.int ((c - 97 : Nat) : Int)) = some (D.int ((8 * (c - 97) : Nat) : Int)) := mul_n 8 (c - 97) (by decide)
      simp only [e5]
      walk_at "dl"
      simp only [rc, h1, h2, and_self, if_true, Int.natCast_add]
    · simp only [h1, h2]
      walk_at "dl"
      simp only [rc, h2, and_false, if_false]
  · simp only [h1]
    walk_at "dl"
    simp only [rc, h1, false_and, if_false]
/-! ### a word -/
def wordGo (c : Nat) (fs : List Nat) (a : Nat) : Option Nat := match fs with
  | [] => some a
  | f :: r => match rc c f with
    | some k => wordGo c r (a ||| 2 ^ k)
    | none => none
def wordHand : List Nat → Option Nat
  | [] => some 0
  | c :: fs => wordGo c fs 0
theorem wordGo_lt {c : Nat} : ∀ {fs : List Nat} {a h : Nat}, wordGo c fs a = some h → a < 2 ^ 32 → h < 2 ^ 32
  | [], a, h, e, l => by cases e; exact l
  | f :: r, a, h, e, l => by
    unfold wordGo at e
    cases q : rc c f with
    | none => rw [q] at e; cases e
    | some k =>
      rw [q] at e
      exact wordGo_lt e (Nat.or_lt_two_pow l (Nat.pow_lt_pow_right (by omega) (rc_lt q)))
theorem wordHand_lt {w : List Nat} {h : Nat} (e : wordHand w = some h) : h < 2 ^ 32 := by
  cases w with
  | nil => cases e; decide
  | cons c fs => exact wordGo_lt e (by decide)
abbrev bWord : Sv := sSet 1 (eOp oOr (eV 1) (eOp oShl (eC (.int 1)) (eCall m_read_card (aC (eOp oAdd (eOp oIx (eV 0) (eC (.int 0))) (eV 2)) aN))))
theorem word_step (c f a : Nat) (fs0 : List Nat) (hl : (c :: fs0).length ≤ 1000000) : bWord [some (.str (c :: fs0)), some (.int (a : Int)), some (.str [f])] =
    match rc c f with | some k => .nx [some (.str (c :: fs0)), some (.int ((a ||| 2 ^ k : Nat) : Int)), some (.str [f])] | none => .ex noCard [some (.str (c :: fs0)), some (.int (a : Int)), some (.str [f])] := by
  unfold bWord
  walk_at "dl"
  have e2 : oIx (.str (c :: fs0)) (.int 0) = some (.str [c]) := ix_s (k := 0) hl rfl
  have e3 : oAdd (.str [c]) (.str [f]) = some (.str [c, f]) := add_ss (Nat.le_of_ble_eq_true rfl)
  simp only [e2]
  walk_at "dl"
  simp only [e3]
  walk_at "dl"
  rw [read_card_eq]
  cases q : rc c f with
  | none => rfl
  | some k =>
    walk_at "dl"
    rw [shl1 k (by have := rc_lt q; omega)]
    walk_at "dl"
    rw [or_n]
    walk_at "dl"
theorem word_loop (c : Nat) (fs0 : List Nat) (hl : (c :: fs0).length ≤ 1000000) : ∀ (fs : List Nat) (a : Nat) (x : Option D),
    (∃ h y, wordGo c fs a = some h ∧ oFor (tg1 2) bWord (fs.map fun f => .str [f]) [some (.str (c :: fs0)), some (.int (a : Int)), x] = .nx [some (.str (c :: fs0)), some (.int (h : Int)), y]) ∨
    (wordGo c fs a = none ∧ ∃ ρ, oFor (tg1 2) bWord (fs.map fun f => .str [f]) [some (.str (c :: fs0)), some (.int (a : Int)), x] = .ex noCard ρ)
  | [], a, x => .inl ⟨a, x, rfl, rfl⟩
  | f :: r, a, x => by
    rw [List.map_cons, oFor_cons (ρ1 := [some (.str (c :: fs0)), some (.int (a : Int)), some (.str [f])]) rfl, word_step c f a fs0 hl]
    unfold wordGo
    cases q : rc c f with
    | none => exact .inr ⟨rfl, _, rfl⟩
    | some k => exact word_loop c fs0 hl r (a ||| 2 ^ k) _
theorem cut_tail (w : List Nat) : cutD w (some 1) none = w.tail := by
  unfold cutD
  have e1 : HT.sIx w.length 0 (some 1) = min 1 w.length := HT.sIx_nat w.length 0 1
  have e2 : HT.sIx w.length w.length none = w.length := HT.sIx_none _ _
  rw [e1, e2]
  cases w with
  | nil => rfl
  | cons c r =>
    have : min 1 (c :: r).length = 1 := by rw [List.length_cons]; omega
    rw [this]
    show r.take ((c :: r).length - 1) = r
    rw [List.length_cons, Nat.add_sub_cancel, List.take_length]
theorem word_hand_eq (w : List Nat) (hl : w.length ≤ 1000000) : m_word_hand [.str w] = match wordHand w with | some h => .ok (.int (h : Int)) | none => .exn noCard := by
  unfold m_word_hand b_word_hand
  walk_at "dl"
  have e1 : pS (eC (.int 1)) [some (D.str w), some (D.int 0), none] = .ok (some 1) := rfl
  have e2 : oCut (.str w) (some 1) none = some (.str w.tail) := by
    show (if w.length ≤ 1000000 then some (D.str (cutD w (some 1) none)) else none) = _
    rw [if_pos hl, cut_tail]
  simp only [e2]
  walk_at "dl"
  cases w with
  | nil => rfl
  | cons c fs =>
    have z := word_loop c fs hl fs 0 none
    simp only [Int.natCast_zero, Int.cast_ofNat_Int] at z
    show Out.fin (Out.seq (oFor (tg1 2) bWord (fs.map fun f => .str [f]) _) _) = _
    have e3 : wordHand (c :: fs) = wordGo c fs 0 := rfl
    rw [e3]
    rcases z with ⟨h, y, z1, z2⟩ | ⟨z1, ρ, z2⟩
    · rw [z1, z2]
      walk_at "dl"
    · rw [z1, z2]
      walk_at "dl"
/-! ### the cards of a hand -/
def cardsOf (h : Nat) : List Nat := (List.range 32).filter h.testBit
def bitsFrom : Nat → Nat → Nat → List Nat
  | 0, _, _ => []
  | n + 1, c, h => (if h % 2 = 1 then [c] else []) ++ bitsFrom n (c + 1) (h / 2)
theorem bitsFrom_zero : ∀ n c, bitsFrom n c 0 = []
  | 0, _ => rfl
  | n + 1, c => by show (if 0 % 2 = 1 then [c] else []) ++ bitsFrom n (c + 1) (0 / 2) = []; simp [bitsFrom_zero n]
theorem bitsFrom_len : ∀ n c h, (bitsFrom n c h).length ≤ n
  | 0, _, _ => Nat.le_refl _
  | n + 1, c, h => by
    have := bitsFrom_len n (c + 1) (h / 2)
    show ((if h % 2 = 1 then [c] else []) ++ bitsFrom n (c + 1) (h / 2)).length ≤ n + 1
    rw [List.length_append]
    split <;> simp <;> omega
theorem bitsFrom_eq : ∀ n c h, bitsFrom n c h = ((List.range n).filter h.testBit).map (c + ·)
  | 0, _, _ => rfl
  | n + 1, c, h => by
    show (if h % 2 = 1 then [c] else []) ++ bitsFrom n (c + 1) (h / 2) = _
    rw [bitsFrom_eq n, List.range_succ_eq_map]
    have e : (List.map Nat.succ (List.range n)).filter h.testBit = ((List.range n).filter (h / 2).testBit).map Nat.succ := by
      rw [List.filter_map]
      congr 1
      refine List.filter_congr fun i _ => ?_
      show h.testBit (i + 1) = _
      rw [Nat.testBit_succ]
    have e2 : ∀ l : List Nat, l.map (c + 1 + ·) = (l.map Nat.succ).map (c + ·) := fun l => by
      rw [List.map_map]
      exact List.map_congr_left fun i _ => by show c + 1 + i = c + (i + 1); omega
    by_cases hb : h % 2 = 1
    · have hb0 : h.testBit 0 = true := by rw [Nat.testBit_zero]; exact decide_eq_true hb
      rw [if_pos hb, List.filter_cons_of_pos hb0, e, e2]
      rfl
    · have hb0 : ¬ h.testBit 0 = true := by rw [Nat.testBit_zero]; simp; omega
      rw [if_neg hb, List.filter_cons_of_neg hb0, e, e2]
      rfl
def tCards : Tv := tB (eOp oGt (eV 0) (eC (.int 0)))
def bCards : Sv := oSeq (sIf (tB (eOp oEq (eOp oAnd (eV 0) (eC (.int 1))) (eC (.int 1)))) (sApp 1 (gImm (eV 2))) oNx) (oSeq (sSet 0 (eOp oShr (eV 0) (eC (.int 1)))) (sSet 2 (eOp oAdd (eV 2) (eC (.int 1)))))
theorem and1 (h : Nat) : oAnd (.int (h : Int)) (.int 1) = some (.int ((h % 2 : Nat) : Int)) := by
  show some (D.int (Builtin.bitAnd (h : Int) 1)) = _
  unfold Builtin.bitAnd
  rw [decide_eq_true (Int.natCast_nonneg h), decide_eq_true (show (0 : Int) ≤ 1 from by decide)]
  show some (D.int (((h : Int).toNat &&& 1 : Nat) : Int)) = _
  rw [Int.toNat_natCast, Nat.and_one_is_mod]
theorem shr1 (h : Nat) : oShr (.int (h : Int)) (.int 1) = some (.int ((h / 2 : Nat) : Int)) := by
  show (if shrC (h : Int) 1 = true then some (D.int ((h : Int) / 2 ^ (1 : Int).toNat)) else none) = _
  rw [if_pos (show shrC (h : Int) 1 = true from rfl)]
  rfl
theorem eq_1 (a : Nat) : oEq (.int (a : Int)) (.int 1) = some (.bl (decide (a = 1))) := eq_n a 1
theorem add_1 (a : Nat) : oAdd (.int (a : Int)) (.int 1) = some (.int ((a + 1 : Nat) : Int)) := add_n a 1
theorem cards_step (h c : Nat) (xs : List D) (hl : xs.length < 1000000) : bCards [some (.int (h : Int)), some (.lst xs), some (.int (c : Int))] =
    .nx [some (.int ((h / 2 : Nat) : Int)), some (.lst (xs ++ (if h % 2 = 1 then [c] else []).map fun (i : Nat) => D.int (i : Int))), some (.int ((c + 1 : Nat) : Int))] := by
  unfold bCards
  walk_at "dl"
  simp only [and1]
  walk_at "dl"
  by_cases hb : h % 2 = 1
  · rw [decide_eq_true (show ((h % 2 : Nat) : Int) = 1 by omega), if_pos hb]
    walk_at "dl"
    simp only [app1 hl]
    walk_at "dl"
    simp only [shr1]
    walk_at "dl"
    rfl
  · rw [decide_eq_false (show ¬ ((h % 2 : Nat) : Int) = 1 by omega), if_neg hb]
    walk_at "dl"
    simp only [shr1]
    walk_at "dl"
    rfl
theorem cards_loop : ∀ (n h c m : Nat) (xs : List D), h < 2 ^ n → n < m → xs.length + n < 1000000 →
    ∃ c' : Nat, oWhile tCards bCards m [some (.int (h : Int)), some (.lst xs), some (.int (c : Int))] = .nx [some (.int 0), some (.lst (xs ++ (bitsFrom n c h).map fun (i : Nat) => D.int (i : Int))), some (.int (c' : Int))]
  | n, h, c, 0, xs, _, h2, _ => absurd h2 (Nat.not_lt_zero _)
  | n, h, c, m + 1, xs, h1, h2, h3 => by
    have et : tCards [some (.int (h : Int)), some (.lst xs), some (.int (c : Int))] = .ok (decide (0 < (h : Int))) := by
      unfold tCards
      walk_at "dl"
    rw [oWhile_at, et]
    walk_at "dl"
    by_cases h0 : h = 0
    · subst h0
      refine ⟨c, ?_⟩
      rw [decide_eq_false (by omega), bitsFrom_zero]
      walk_at "dl"
      rfl
    · rw [decide_eq_true (by omega)]
      walk_at "dl"
      cases n with
      | zero => exact absurd h1 (by simp; omega)
      | succ n =>
        rw [cards_step h c xs (by omega)]
        walk_at "dl"
        have hx : (xs ++ (if h % 2 = 1 then [c] else []).map fun (i : Nat) => D.int (i : Int)).length + n < 1000000 := by
          rw [List.length_append]
          split <;> simp <;> omega
        obtain ⟨c', e⟩ := cards_loop n (h / 2) (c + 1) m _ (by rw [Nat.pow_succ] at h1; omega) (by omega) hx
        refine ⟨c', ?_⟩
        rw [e]
        show _ = Out.nx [_, some (D.lst (xs ++ ((if h % 2 = 1 then [c] else []) ++ bitsFrom n (c + 1) (h / 2)).map _)), _]
        rw [List.map_append, List.append_assoc]
theorem cards_in_eq (h : Nat) (hh : h < 2 ^ 32) : m_cards_in [.int (h : Int)] = .ok (.lst ((cardsOf h).map fun (i : Nat) => D.int (i : Int))) := by
  unfold m_cards_in b_cards_in
  walk_at "dl"
  obtain ⟨c', e⟩ := cards_loop 32 h 0 1000000 [] hh (by omega) (by simp)
  show Out.fin (Out.seq (oWhile tCards bCards 1000000 [some (.int (h : Int)), some (.lst []), some (.int ((0 : Nat) : Int))]) _) = _
  rw [e]
  walk_at "dl"
  have e2 : bitsFrom 32 0 h = cardsOf h := by
    rw [bitsFrom_eq]
    unfold cardsOf
    conv => rhs; rw [← List.map_id ((List.range 32).filter h.testBit)]
    exact List.map_congr_left fun i _ => by simp
  rw [e2]
theorem law_cards_eq (h : Nat) : m_law_cards [.int (h : Int)] = .ok (.lst ((cardsOf h).map fun (i : Nat) => D.int (i : Int))) := by
  unfold m_law_cards b_law_cards
  walk_at "dl"
  rw [eComp_at (ds := (List.range 32).map fun (i : Nat) => D.int (i : Int)) (by walk_at "dl"; exact rng1_n (k := 32) (by omega)) (by simp)]
  rw [compL_map (fun (i : Nat) => D.int (i : Int)) h.testBit (fun (i : Nat) => D.int (i : Int)) (List.range 32) fun a ha => ?_]
  · walk_at "dl"; rfl
  · have ha' : a < 32 := List.mem_range.mp ha
    refine ⟨[some (.int (h : Int)), some (.int (a : Int))], rfl, ?_, fun _ => rfl⟩
    walk_at "dl"
    rw [shl1 a (by omega)]
    walk_at "dl"
    have hp : (2 : Nat) ^ a < 2 ^ 9000 := Nat.pow_lt_pow_right (by omega) (by omega)
    rw [div_n h (2 ^ a) (Nat.two_pow_pos a) hp]
    walk_at "dl"
    have e2 : oMod (.int ((h / 2 ^ a : Nat) : Int)) (.int 2) = some (.int ((h / 2 ^ a % 2 : Nat) : Int)) := mod_n _ 2 (by omega)
    rw [e2]
    walk_at "dl"
    rw [Nat.testBit_eq_decide_div_mod_eq]
    exact congrArg _ (decide_eq_decide.mpr (by omega))
/-! ### a hand's text -/
def figs (h s : Nat) : List Nat := ((List.range 8).filter fun i => h.testBit (8 * s + i)).map (49 + ·)
def wdo (h s : Nat) : Option (List Nat) := if figs h s = [] then none else some ((97 + s) :: figs h s)
def wds (h : Nat) : List (List Nat) := (List.range 4).filterMap (wdo h)
def W (h : Nat) : List Nat := if wds h = [] then [45] else glue [32] (wds h)
theorem range_suit : ∀ s < 4, (List.range 32).filter (fun c => decide (c / 8 = s)) = (List.range 8).map (8 * s + ·) := by decide
theorem figs_of (h s : Nat) (hs : s < 4) : ((cardsOf h).filter fun c => decide (c / 8 = s)).map (fun c => 49 + c % 8) = figs h s := by
  unfold cardsOf figs
  rw [List.filter_filter]
  have e : (List.range 32).filter (fun a => decide (a / 8 = s) && h.testBit a) = ((List.range 32).filter fun c => decide (c / 8 = s)).filter h.testBit := by
    rw [List.filter_filter]
    exact List.filter_congr fun i _ => Bool.and_comm _ _
  rw [e, range_suit s hs, List.filter_map, List.map_map]
  refine List.map_congr_left fun i hi => ?_
  have : i < 8 := List.mem_range.mp (List.mem_filter.mp hi).1
  show 49 + (8 * s + i) % 8 = 49 + i
  omega
theorem figs_len (h s : Nat) : (figs h s).length ≤ 8 := by
  unfold figs
  rw [List.length_map]
  exact Nat.le_trans (List.length_filter_le _ _) (by simp)
theorem sum_le {l : List Nat} {k : Nat} (h : ∀ x ∈ l, x ≤ k) : l.sum ≤ l.length * k := by
  induction l with
  | nil => simp
  | cons a r ih =>
    have h1 := h a List.mem_cons_self
    have h2 := ih fun x hx => h x (List.mem_cons_of_mem _ hx)
    simp only [List.sum_cons, List.length_cons, Nat.add_mul]
    omega
theorem wdo_len {h s : Nat} {w : List Nat} (e : wdo h s = some w) : w.length ≤ 9 := by
  unfold wdo at e
  split at e
  · cases e
  · cases e
    have := figs_len h s
    rw [List.length_cons]; omega
theorem filterMap_len {α β : Type} (f : α → Option β) (l : List α) : (l.filterMap f).length ≤ l.length := List.length_filterMap_le f l
theorem wds_ok {h : Nat} (l : List Nat) (hl : l.length ≤ 4) : ((l.filterMap (wdo h)).map List.length).sum + (l.filterMap (wdo h)).length * 1 ≤ 1000000 := by
  have h1 := filterMap_len (wdo h) l
  have h2 : ((l.filterMap (wdo h)).map List.length).sum ≤ ((l.filterMap (wdo h)).map List.length).length * 9 := sum_le fun x hx => by
    obtain ⟨w, hw, rfl⟩ := List.mem_map.mp hx
    obtain ⟨s, _, e⟩ := List.mem_filterMap.mp hw
    exact wdo_len e
  rw [List.length_map] at h2
  omega
theorem glue_one (l : List Nat) : glue [] (l.map fun c => [c]) = l := by
  induction l with
  | nil => rfl
  | cons a r ih =>
    cases r with
    | nil => rfl
    | cons b r => 
      show [a] ++ ([] ++ glue [] ((b :: r).map fun c => [c])) = _
      rw [ih]; rfl
theorem fig_at : ∀ i < 8, [49, 50, 51, 52, 53, 54, 55, 56][i]? = some (49 + i) := by decide
theorem let_at : ∀ i < 4, [97, 98, 99, 100][i]? = some (97 + i) := by decide
theorem fig_ix (c : Nat) : oIx (.str [49, 50, 51, 52, 53, 54, 55, 56]) (.int ((c % 8 : Nat) : Int)) = some (.str [49 + c % 8]) := ix_s (Nat.le_of_ble_eq_true rfl) (fig_at _ (Nat.mod_lt _ (by omega)))
theorem let_ix (s : Nat) (h : s < 4) : oIx (.str [97, 98, 99, 100]) (.int (s : Int)) = some (.str [97 + s]) := ix_s (Nat.le_of_ble_eq_true rfl) (let_at s h)
theorem div8 (c : Nat) : oDiv (.int (c : Int)) (.int 8) = some (.int ((c / 8 : Nat) : Int)) := div_n c 8 (by omega) (Nat.lt_of_lt_of_le (show 8 < 2 ^ 4 by decide) (Nat.pow_le_pow_right (by omega) (by omega)))
theorem mod8 (c : Nat) : oMod (.int (c : Int)) (.int 8) = some (.int ((c % 8 : Nat) : Int)) := mod_n c 8 (by omega)
theorem ne_nil (p : List Nat) : (!decide (p = [])) = decide (p ≠ []) := by by_cases h : p = [] <;> simp [h]
/-- what one suit adds -/
theorem wdo_add (h : Nat) (dn : List Nat) (s : Nat) : ((dn ++ [s]).filterMap (wdo h)) = dn.filterMap (wdo h) ++ (if figs h s = [] then [] else [(97 + s) :: figs h s]) := by
  rw [List.filterMap_append]
  congr 1
  unfold wdo
  by_cases q : figs h s = [] <;> simp [q]
theorem words_app (h : Nat) (dn : List Nat) (hd : dn.length ≤ 4) : ((dn.filterMap (wdo h)).map D.str).length < 1000000 := by
  rw [List.length_map]
  have := filterMap_len (wdo h) dn
  omega
theorem dn_len {dn rest : List Nat} {a : Nat} (e : [] ++ List.range 4 = dn ++ a :: rest) : dn.length ≤ 4 ∧ a < 4 := by
  have h1 := congrArg List.length e
  have h2 : a ∈ List.range 4 := by
    rw [List.nil_append] at e
    rw [e]; simp
  simp at h1
  exact ⟨by omega, List.mem_range.mp h2⟩
def bText : Sv := (oSeq (sSet 3 (eMt "str" oJoin (eC (.str [])) (aC (eComp (ivD (eCall m_cards_in (aC (eV 0) aN))) [4] (tg1 4) (tB (eOp oEq (eOp oDiv (eV 4) (eC (.int 8))) (eV 2))) (eOp oIx (eC (.str [49, 50, 51, 52, 53, 54, 55, 56])) (eOp oMod (eV 4) (eC (.int 8))))) aN))) (sIf (tB (eOp oNe (eV 3) (eC (.str [])))) (sApp 1 (eOp oAdd (eOp oIx (eC (.str [97, 98, 99, 100])) (eV 2)) (eV 3))) oNx))
theorem suit_comp (h s : Nat) (hh : h < 2 ^ 32) (hs : s < 4) (ws x : Option D) : eComp (ivD (eCall m_cards_in (aC (eV 0) aN))) [4] (tg1 4) (tB (eOp oEq (eOp oDiv (eV 4) (eC (.int 8))) (eV 2))) (eOp oIx (eC (.str [49, 50, 51, 52, 53, 54, 55, 56])) (eOp oMod (eV 4) (eC (.int 8)))) [some (.int (h : Int)), ws, some (.int (s : Int)), x, none] =
    .ok (.lst (((figs h s).map fun c => [c]).map D.str)) := by
  rw [eComp_at (ds := (cardsOf h).map fun (i : Nat) => D.int (i : Int)) (by walk_at "dl"; rw [cards_in_eq h hh]; walk_at "dl") (by
    rw [List.length_map]
    exact Nat.le_trans (List.length_filter_le _ _) (by simp))]
  rw [compL_map (fun (i : Nat) => D.int (i : Int)) (fun c => decide (c / 8 = s)) (fun c => D.str [49 + c % 8]) (cardsOf h) fun a ha => ?_]
  · walk_at "dl"
    rw [← figs_of h s hs]
    simp only [List.map_map]
    rfl
  · refine ⟨[some (.int (h : Int)), ws, some (.int (s : Int)), x, some (.int (a : Int))], rfl, ?_, fun _ => ?_⟩
    · walk_at "dl"
      rw [div8]
      walk_at "dl"
      exact congrArg _ (decide_eq_decide.mpr (by omega))
    · walk_at "dl"
      rw [mod8]
      walk_at "dl"
      rw [fig_ix]
      walk_at "dl"
theorem text_step (h s : Nat) (hh : h < 2 ^ 32) (hs : s < 4) (dn : List Nat) (hd : dn.length ≤ 4) (x : Option D) :
    bText [some (.int (h : Int)), some (.lst ((dn.filterMap (wdo h)).map D.str)), some (.int (s : Int)), x, none] =
      .nx [some (.int (h : Int)), some (.lst (((dn ++ [s]).filterMap (wdo h)).map D.str)), some (.int (s : Int)), some (.str (figs h s)), none] := by
  unfold bText
  walk_at "dl"
  rw [suit_comp h s hh hs]
  walk_at "dl"
  have hj : oJoin (.str []) [.lst (((figs h s).map fun c => [c]).map D.str)] = some (.str (figs h s)) := by
    rw [join_s, glue_one]
    have := figs_len h s
    have e : (((figs h s).map fun c => [c]).map List.length).sum ≤ (((figs h s).map fun c => [c]).map List.length).length * 1 := sum_le fun x hx => by
      simp only [List.map_map, List.mem_map] at hx
      obtain ⟨c, _, rfl⟩ := hx
      exact Nat.le_refl 1
    simp only [List.length_map, List.length_nil, Nat.mul_zero, Nat.add_zero] at e ⊢
    omega
  rw [hj]
  walk_at "dl"
  rw [wdo_add]
  by_cases q : figs h s = []
  · rw [q]
    walk_at "dl"
  · rw [decide_eq_false q, if_neg q]
    walk_at "dl"
    rw [app1 (words_app h dn hd)]
    walk_at "dl"
    rw [let_ix s hs]
    walk_at "dl"
    have ha : oAdd (.str [97 + s]) (.str (figs h s)) = some (.str ((97 + s) :: figs h s)) := add_ss (by have := figs_len h s; simp; omega)
    rw [ha]
    walk_at "dl"
    rw [List.map_append]
    rfl
theorem wds_zero : wds 0 = [] := by
  unfold wds
  rw [List.filterMap_eq_nil_iff]
  intro s _
  unfold wdo figs
  have : (List.range 8).filter (fun i => (0 : Nat).testBit (8 * s + i)) = [] := by simp
  rw [this]
  rfl
theorem wds_ne {h : Nat} (hh : h < 2 ^ 32) (h0 : h ≠ 0) : wds h ≠ [] := by
  obtain ⟨i, hi⟩ := Nat.exists_testBit_of_ne_zero h0
  have hl : i < 32 := by
    refine Nat.lt_of_not_le fun q => ?_
    rw [Nat.testBit_lt_two_pow (Nat.lt_of_lt_of_le hh (Nat.pow_le_pow_right (by omega) q))] at hi
    cases hi
  intro e
  unfold wds at e
  rw [List.filterMap_eq_nil_iff] at e
  have e1 := e (i / 8) (List.mem_range.mpr (by omega))
  unfold wdo at e1
  by_cases q : figs h (i / 8) = []
  · unfold figs at q
    have q2 := List.map_eq_nil_iff.mp q
    have q3 := List.filter_eq_nil_iff.mp q2 (i % 8) (List.mem_range.mpr (Nat.mod_lt _ (by omega)))
    exact q3 (by
      show h.testBit (8 * (i / 8) + i % 8) = true
      rw [Nat.div_add_mod]; exact hi)
  · rw [if_neg q] at e1; cases e1
theorem W_ne {h : Nat} (e : wds h ≠ []) : W h = glue [32] (wds h) := if_neg e
theorem W_zero : W 0 = [45] := if_pos wds_zero
theorem join_W {h : Nat} : oJoin (.str [32]) [.lst ((wds h).map D.str)] = some (.str (glue [32] (wds h))) := join_s (wds_ok (List.range 4) (by decide))
theorem rng4 : rng1 [.int 4] = .ok ((List.range 4).map fun (i : Nat) => D.int (i : Int)) := rng1_n (k := 4) (by omega)
theorem hand_text_eq (h : Nat) (hh : h < 2 ^ 32) : m_hand_text [.int (h : Int)] = .ok (.str (W h)) := by
  unfold m_hand_text b_hand_text
  walk_at "dl"
  by_cases h0 : h = 0
  · subst h0
    rw [decide_eq_true (show ((0 : Nat) : Int) = 0 from rfl)]
    walk_at "dl"
    rw [W_zero]
  · rw [decide_eq_false (show ¬ (h : Int) = 0 by omega)]
    walk_at "dl"
    rw [rng4]
    walk_at "dl"
    obtain ⟨ρ', e, a, b, rfl⟩ := oFor_inv (u := bText) (tg := tg1 2) (fun (i : Nat) => D.int (i : Int)) (fun dn ρ => ∃ a b, ρ = [some (.int (h : Int)), some (.lst ((dn.filterMap (wdo h)).map D.str)), a, b, none]) (List.range 4) [] [some (.int (h : Int)), some (.lst []), none, none, none] ⟨none, none, rfl⟩
      fun dn a rest ρ eq ⟨x, y, q⟩ => by
        subst q
        obtain ⟨d1, d2⟩ := dn_len eq
        exact ⟨_, _, rfl, .inl (text_step h a hh d2 dn d1 y), _, _, rfl⟩
    show Out.fin (Out.seq (oFor (tg1 2) bText _ _) _) = _
    rw [e]
    walk_at "dl"
    have ej : oJoin (.str [32]) [.lst ((([] ++ List.range 4).filterMap (wdo h)).map D.str)] = some (.str (glue [32] (wds h))) := join_W
    rw [List.nil_append] at ej
    rw [ej, W_ne (wds_ne hh h0)]
    walk_at "dl"
/-! the law's own writing -/
def bSign : Sv := (sIf (tB (eOp oEq (eOp oDiv (eV 4) (eC (.int 8))) (eV 2))) (sSet 3 (eOp oAdd (eV 3) (eOp oIx (eC (.str [49, 50, 51, 52, 53, 54, 55, 56])) (eOp oMod (eV 4) (eC (.int 8)))))) oNx)
theorem sign_step (h s c : Nat) (ws x : Option D) (p : List Nat) (hp : p.length ≤ 100) : bSign [some (.int (h : Int)), ws, some (.int (s : Int)), some (.str p), some (.int (c : Int))] =
    .nx [some (.int (h : Int)), ws, some (.int (s : Int)), some (.str (p ++ if c / 8 = s then [49 + c % 8] else [])), some (.int (c : Int))] := by
  unfold bSign
  walk_at "dl"
  rw [div8]
  walk_at "dl"
  by_cases q : c / 8 = s
  · rw [decide_eq_true (show ((c / 8 : Nat) : Int) = (s : Int) by omega), if_pos q]
    walk_at "dl"
    rw [mod8]
    walk_at "dl"
    rw [fig_ix]
    walk_at "dl"
    rw [add_ss (by simp; omega)]
    walk_at "dl"
  · rw [decide_eq_false (show ¬ ((c / 8 : Nat) : Int) = (s : Int) by omega), if_neg q]
    walk_at "dl"
theorem sign_loop (h s : Nat) (ws : Option D) : ∀ (cs : List Nat) (p : List Nat) (x : Option D), p.length + cs.length ≤ 100 →
    ∃ y, oFor (tg1 4) bSign (cs.map fun (i : Nat) => D.int (i : Int)) [some (.int (h : Int)), ws, some (.int (s : Int)), some (.str p), x] =
      .nx [some (.int (h : Int)), ws, some (.int (s : Int)), some (.str (p ++ (cs.filter fun c => decide (c / 8 = s)).map fun c => 49 + c % 8)), y]
  | [], p, x, _ => ⟨x, by simp [oFor_nil]⟩
  | c :: r, p, x, hl => by
    rw [List.length_cons] at hl
    obtain ⟨y, e⟩ := sign_loop h s ws r (p ++ if c / 8 = s then [49 + c % 8] else []) (some (.int (c : Int))) (by rw [List.length_append]; split <;> simp <;> omega)
    refine ⟨y, ?_⟩
    rw [List.map_cons, oFor_cons (ρ1 := [some (.int (h : Int)), ws, some (.int (s : Int)), some (.str p), some (.int (c : Int))]) rfl, sign_step h s c ws x p (by omega)]
    walk_at "dl"
    rw [e]
    by_cases q : c / 8 = s
    · rw [if_pos q, List.filter_cons_of_pos (by simpa using q)]
      simp
    · rw [if_neg q, List.filter_cons_of_neg (by simpa using q)]
      simp
def bWrit : Sv := (oSeq (sSet 3 (eC (.str []))) (oSeq (sFor (ivD (eCall m_law_cards (aC (eV 0) aN))) (tg1 4) bSign) (sIf (tB (eOp oNe (eV 3) (eC (.str [])))) (sApp 1 (eOp oAdd (eOp oIx (eC (.str [97, 98, 99, 100])) (eV 2)) (eV 3))) oNx)))
theorem writ_step (h s : Nat) (hs : s < 4) (dn : List Nat) (hd : dn.length ≤ 4) (x z : Option D) :
    ∃ y, bWrit [some (.int (h : Int)), some (.lst ((dn.filterMap (wdo h)).map D.str)), some (.int (s : Int)), x, z] =
      .nx [some (.int (h : Int)), some (.lst (((dn ++ [s]).filterMap (wdo h)).map D.str)), some (.int (s : Int)), some (.str (figs h s)), y] := by
  have hc : (cardsOf h).length ≤ 32 := Nat.le_trans (List.length_filter_le _ _) (by simp)
  obtain ⟨y, e⟩ := sign_loop h s (some (.lst ((dn.filterMap (wdo h)).map D.str))) (cardsOf h) [] z (by simp; omega)
  refine ⟨y, ?_⟩
  unfold bWrit
  walk_at "dl"
  rw [law_cards_eq h]
  walk_at "dl"
  rw [e, figs_of h s hs]
  walk_at "dl"
  rw [wdo_add]
  by_cases q : figs h s = []
  · rw [q]
    walk_at "dl"
  · rw [decide_eq_false q, if_neg q]
    walk_at "dl"
    rw [app1 (words_app h dn hd)]
    walk_at "dl"
    rw [let_ix s hs]
    walk_at "dl"
    have ha : oAdd (.str [97 + s]) (.str (figs h s)) = some (.str ((97 + s) :: figs h s)) := add_ss (by have := figs_len h s; simp; omega)
    rw [ha]
    walk_at "dl"
    rw [List.map_append]
    rfl
theorem W_ascii {h : Nat} {w : List Nat} (hw : w ∈ wds h) : ∀ c ∈ w, c < 128 := by
  obtain ⟨s, hs, e⟩ := List.mem_filterMap.mp hw
  have hs4 := List.mem_range.mp hs
  unfold wdo at e
  split at e
  · cases e
  · cases e
    intro c hc
    rcases List.mem_cons.mp hc with rfl | hc
    · omega
    · unfold figs at hc
      obtain ⟨i, hi, rfl⟩ := List.mem_map.mp hc
      have := List.mem_range.mp (List.mem_filter.mp hi).1
      omega
theorem eq_words {h : Nat} : oEq (.lst ((wds h).map D.str)) (.lst []) = some (.bl (decide (wds h = []))) := by
  show (if (okD 8 (.lst ((wds h).map D.str)) && okD 8 (.lst [])) = true then some (D.eqv (.lst ((wds h).map D.str)) (.lst [])) else none).map D.bl = _
  have e : okD 8 (.lst ((wds h).map D.str)) = true := by
    show ((wds h).map D.str).all (okD 7) = true
    rw [List.all_map]
    refine List.all_eq_true.mpr fun w hw => ?_
    show w.all (· < 128) = true
    exact List.all_eq_true.mpr fun c hc => decide_eq_true (W_ascii hw c hc)
  rw [e, if_pos (show (true && okD 8 (.lst [])) = true from rfl)]
  show some (D.bl (eqvs ((wds h).map D.str) [])) = _
  cases wds h with
  | nil => rfl
  | cons a r => rfl
theorem law_written_eq (h : Nat) : m_law_written [.int (h : Int)] = .ok (.str (W h)) := by
  unfold m_law_written b_law_written
  walk_at "dl"
  rw [rng4]
  walk_at "dl"
  obtain ⟨ρ', e, a, b, c, rfl⟩ := oFor_inv (u := bWrit) (tg := tg1 2) (fun (i : Nat) => D.int (i : Int)) (fun dn ρ => ∃ a b c, ρ = [some (.int (h : Int)), some (.lst ((dn.filterMap (wdo h)).map D.str)), a, b, c]) (List.range 4) [] [some (.int (h : Int)), some (.lst []), none, none, none] ⟨none, none, none, rfl⟩
    fun dn a rest ρ eq ⟨x, y, z, q⟩ => by
      subst q
      obtain ⟨d1, d2⟩ := dn_len eq
      obtain ⟨z', e⟩ := writ_step h a d2 dn d1 y z
      exact ⟨_, _, rfl, .inl e, _, _, _, rfl⟩
  show Out.fin (Out.seq (oFor (tg1 2) bWrit _ _) _) = _
  rw [e, List.nil_append]
  walk_at "dl"
  have e2 : oEq (.lst (((List.range 4).filterMap (wdo h)).map D.str)) (.lst []) = some (.bl (decide (wds h = []))) := eq_words
  rw [e2]
  walk_at "dl"
  by_cases q : wds h = []
  · rw [decide_eq_true q]
    walk_at "dl"
    exact congrArg (fun z => Res.ok (D.str z)) (if_pos q).symm
  · rw [decide_eq_false q]
    walk_at "dl"
    have ej : oJoin (.str [32]) [.lst (((List.range 4).filterMap (wdo h)).map D.str)] = some (.str (glue [32] (wds h))) := join_W
    rw [ej, W_ne q]
    walk_at "dl"
/-! ### reading a hand -/
def wordsGo : List (List Nat) → Nat → Option Nat
  | [], a => some a
  | w :: r, a => match wordHand w with
    | some h => wordsGo r (a ||| h)
    | none => none
def parse (t : List Nat) : Option Nat := if t = [45] then some 0 else wordsGo (TL.spl [32] 0 [] t) 0
theorem wordsGo_lt : ∀ {ws : List (List Nat)} {a h : Nat}, wordsGo ws a = some h → a < 2 ^ 32 → h < 2 ^ 32
  | [], a, h, e, l => by cases e; exact l
  | w :: r, a, h, e, l => by
    unfold wordsGo at e
    cases q : wordHand w with
    | none => rw [q] at e; cases e
    | some k =>
      rw [q] at e
      exact wordsGo_lt e (Nat.or_lt_two_pow l (wordHand_lt q))
theorem parse_lt {t : List Nat} {h : Nat} (e : parse t = some h) : h < 2 ^ 32 := by
  unfold parse at e
  split at e
  · cases e; decide
  · exact wordsGo_lt e (by decide)
theorem spl_len (S : List Nat) : ∀ (l : List Nat) (k : Nat) (acc : List Nat), ∀ p ∈ TL.spl S k acc l, p.length ≤ acc.length + l.length
  | [], k, acc, p, hp => by
    rw [TL.spl_nil] at hp
    simp at hp; subst hp; simp
  | c :: r, 0, acc, p, hp => by
    have hp2 : p ∈ (if TL.pre S (c :: r) = true then acc :: TL.spl S (S.length - 1) [] r else TL.spl S 0 (acc ++ [c]) r) := hp
    split at hp2
    · rcases List.mem_cons.mp hp2 with rfl | h
      · omega
      · have := spl_len S r _ [] p h
        simp at this ⊢; omega
    · have := spl_len S r _ _ p hp2
      simp at this ⊢; omega
  | c :: r, k + 1, acc, p, hp => by
    have hp2 : p ∈ TL.spl S k acc r := hp
    have := spl_len S r _ _ p hp2
    simp at this ⊢; omega
def bRead : Sv := sTry (sSet 1 (eOp oOr (eV 1) (eCall m_word_hand (aC (eV 2) aN)))) [(tC' hs "NoCard", .raise "NoHand")]
theorem tc_nocard : tC' hs "NoCard" "NoCard" = some true := by decide +kernel
theorem read_step (w : List Nat) (a : Nat) (t : Option D) (hw : w.length ≤ 1000000) : bRead [t, some (.int (a : Int)), some (.str w)] =
    match wordHand w with | some h => .nx [t, some (.int ((a ||| h : Nat) : Int)), some (.str w)] | none => .ex noHand [t, some (.int (a : Int)), some (.str w)] := by
  unfold bRead
  walk_at "dl"
  rw [word_hand_eq w hw]
  cases q : wordHand w with
  | none =>
    walk_at "dl"
    simp only [hdl, tc_nocard]
  | some h =>
    walk_at "dl"
    rw [or_n]
    walk_at "dl"
theorem read_loop (t : Option D) : ∀ (ws : List (List Nat)) (a : Nat) (x : Option D), (∀ w ∈ ws, w.length ≤ 1000000) →
    (∃ h y, wordsGo ws a = some h ∧ oFor (tg1 2) bRead (ws.map D.str) [t, some (.int (a : Int)), x] = .nx [t, some (.int (h : Int)), y]) ∨
    (wordsGo ws a = none ∧ ∃ ρ, oFor (tg1 2) bRead (ws.map D.str) [t, some (.int (a : Int)), x] = .ex noHand ρ)
  | [], a, x, _ => .inl ⟨a, x, rfl, rfl⟩
  | w :: r, a, x, hw => by
    rw [List.map_cons, oFor_cons (ρ1 := [t, some (.int (a : Int)), some (.str w)]) rfl, read_step w a t (hw w List.mem_cons_self)]
    unfold wordsGo
    cases q : wordHand w with
    | none => exact .inr ⟨rfl, _, rfl⟩
    | some k => exact read_loop t r (a ||| k) _ fun v hv => hw v (List.mem_cons_of_mem _ hv)
def readHand (t : List Nat) : Option Nat := match parse t with
  | some h => if W h = t then some h else none
  | none => none
theorem read_hand_eq (t : List Nat) (hl : t.length ≤ 1000000) : m_read_hand [.str t] = match readHand t with | some h => .ok (.int (h : Int)) | none => .exn noHand := by
  have e4 : isT hs "str" (.str t) = some true := rfl
  -- behind the words
  have fin : ∀ (h : Nat) (y : Option D), h < 2 ^ 32 → Out.fin (Out.seq (Out.nx [some (.str t), some (.int (h : Int)), y]) (oSeq (sIf (tB (eOp oNe (eCall m_hand_text (aC (eV 1) aN)) (eV 0))) (sRaise "NoHand") oNx) (sRet (eV 1)))) = match (if W h = t then some h else none) with | some h => Res.ok (.int (h : Int)) | none => .exn noHand := fun h y hh => by
    walk_at "dl"
    rw [hand_text_eq h hh]
    walk_at "dl"
    by_cases q : W h = t
    · rw [decide_eq_true q, if_pos q]
      walk_at "dl"
    · rw [decide_eq_false q, if_neg q]
      walk_at "dl"
  unfold m_read_hand b_read_hand readHand
  walk_at "dl"
  rw [e4]
  walk_at "dl"
  by_cases h0 : t = [45]
  · subst h0
    rw [decide_eq_true rfl]
    walk_at "dl"
    have e5 : parse [45] = some 0 := rfl
    rw [e5]
    have := fin 0 none (by decide)
    simp only [seq_nx] at this
    walk_at "dl"
    refine Eq.trans ?_ this
    walk_at "dl"
    rfl
  · rw [decide_eq_false h0]
    walk_at "dl"
    rw [split_b hl rfl rfl]
    walk_at "dl"
    have e5 : parse t = wordsGo (TL.spl [32] 0 [] t) 0 := if_neg h0
    rw [e5]
    have z := read_loop (some (.str t)) (TL.spl [32] 0 [] t) 0 none fun w hw => by
      have := spl_len [32] t 0 [] w hw
      simp at this; omega
    simp only [Int.natCast_zero, Int.cast_ofNat_Int] at z
    show Out.fin (Out.seq (oFor (tg1 2) bRead ((TL.spl [32] 0 [] t).map D.str) [some (.str t), some (.int 0), none]) _) = _
    rcases z with ⟨h, y, z1, z2⟩ | ⟨z1, ρ, z2⟩
    · rw [z1, z2]
      exact fin h y (wordsGo_lt z1 (by decide))
    · rw [z1, z2]
      walk_at "dl"
/-! ### what is written is read -/
def orAll : List Nat → Nat → Nat
  | [], a => a
  | k :: r, a => orAll r (a ||| 2 ^ k)
theorem orAll_bit (c : Nat) : ∀ (l : List Nat) (a : Nat), (orAll l a).testBit c = true ↔ a.testBit c = true ∨ c ∈ l
  | [], a => by simp [orAll]
  | k :: r, a => by
    show (orAll r (a ||| 2 ^ k)).testBit c = true ↔ _
    rw [orAll_bit c r, Nat.testBit_or, Nat.testBit_two_pow, List.mem_cons, Bool.or_eq_true, decide_eq_true_iff, or_assoc]
    exact or_congr_right (or_congr_left eq_comm)
theorem rc_ok {s i : Nat} (hs : s < 4) (hi : i < 8) : rc (97 + s) (49 + i) = some (8 * s + i) := by
  unfold rc
  rw [if_pos ⟨by simp; omega, by simp; omega⟩]
  congr 1; omega
theorem wordGo_figs {s : Nat} (hs : s < 4) : ∀ (l : List Nat) (a : Nat), (∀ i ∈ l, i < 8) → wordGo (97 + s) (l.map (49 + ·)) a = some (orAll (l.map (8 * s + ·)) a)
  | [], a, _ => rfl
  | i :: r, a, h => by
    show (match rc (97 + s) (49 + i) with | some k => wordGo (97 + s) (r.map (49 + ·)) (a ||| 2 ^ k) | none => none) = _
    rw [rc_ok hs (h i List.mem_cons_self)]
    exact wordGo_figs hs r _ fun j hj => h j (List.mem_cons_of_mem _ hj)
def places (h s : Nat) : List Nat := (List.range 8).filter fun i => h.testBit (8 * s + i)
theorem figs_places (h s : Nat) : figs h s = (places h s).map (49 + ·) := rfl
theorem places_lt {h s i : Nat} (hi : i ∈ places h s) : i < 8 := List.mem_range.mp (List.mem_filter.mp hi).1
theorem mem_places (h s c : Nat) : c ∈ (places h s).map (8 * s + ·) ↔ c / 8 = s ∧ h.testBit c = true := by
  constructor
  · intro m
    obtain ⟨i, hi, rfl⟩ := List.mem_map.mp m
    have h8 := places_lt hi
    exact ⟨by omega, (List.mem_filter.mp hi).2⟩
  · rintro ⟨rfl, hb⟩
    refine List.mem_map.mpr ⟨c % 8, List.mem_filter.mpr ⟨List.mem_range.mpr (Nat.mod_lt _ (by omega)), ?_⟩, Nat.div_add_mod c 8⟩
    show h.testBit (8 * (c / 8) + c % 8) = true
    rw [Nat.div_add_mod]; exact hb
theorem words_bits (h : Nat) : ∀ (ss : List Nat) (a : Nat), (∀ s ∈ ss, s < 4) → ∃ b, wordsGo (ss.filterMap (wdo h)) a = some b ∧ ∀ c, b.testBit c = true ↔ a.testBit c = true ∨ (c / 8 ∈ ss ∧ h.testBit c = true)
  | [], a, _ => ⟨a, rfl, fun c => by simp⟩
  | s :: r, a, hs => by
    have hr : ∀ s ∈ r, s < 4 := fun x hx => hs x (List.mem_cons_of_mem _ hx)
    by_cases q : figs h s = []
    · have e : (s :: r).filterMap (wdo h) = r.filterMap (wdo h) := by rw [List.filterMap_cons]; unfold wdo; rw [if_pos q]
      rw [e]
      obtain ⟨b, h1, h2⟩ := words_bits h r a hr
      refine ⟨b, h1, fun c => ?_⟩
      rw [h2 c, List.mem_cons]
      have np : ¬ (c / 8 = s ∧ h.testBit c = true) := fun z => by
        have m := (mem_places h s c).mpr z
        rw [figs_places, List.map_eq_nil_iff] at q
        rw [q] at m
        simp at m
      exact or_congr_right ⟨fun z => ⟨.inr z.1, z.2⟩, fun z => ⟨z.1.resolve_left fun e => np ⟨e, z.2⟩, z.2⟩⟩
    · have e : (s :: r).filterMap (wdo h) = ((97 + s) :: figs h s) :: r.filterMap (wdo h) := by rw [List.filterMap_cons]; unfold wdo; rw [if_neg q]
      rw [e]
      have e2 : wordHand ((97 + s) :: figs h s) = some (orAll ((places h s).map (8 * s + ·)) 0) := wordGo_figs (hs s List.mem_cons_self) (places h s) 0 fun i hi => places_lt hi
      obtain ⟨b, h1, h2⟩ := words_bits h r (a ||| orAll ((places h s).map (8 * s + ·)) 0) hr
      refine ⟨b, ?_, fun c => ?_⟩
      · show (match wordHand ((97 + s) :: figs h s) with | some k => wordsGo (r.filterMap (wdo h)) (a ||| k) | none => none) = _
        rw [e2]; exact h1
      · rw [h2 c, Nat.testBit_or, Bool.or_eq_true, orAll_bit, List.mem_cons, mem_places]
        simp only [Nat.zero_testBit, Bool.false_eq_true, false_or]
        constructor
        · rintro ((z | z) | z)
          · exact .inl z
          · exact .inr ⟨.inl z.1, z.2⟩
          · exact .inr ⟨.inr z.1, z.2⟩
        · rintro (z | ⟨z | z, w⟩)
          · exact .inl (.inl z)
          · exact .inl (.inr ⟨z, w⟩)
          · exact .inr ⟨z, w⟩
theorem bits_eq {b h : Nat} (hh : h < 2 ^ 32) (e : ∀ c, b.testBit c = true ↔ (0 : Nat).testBit c = true ∨ (c / 8 ∈ List.range 4 ∧ h.testBit c = true)) : b = h := by
  refine Nat.eq_of_testBit_eq fun c => ?_
  rw [Bool.eq_iff_iff, e c]
  simp only [Nat.zero_testBit, Bool.false_eq_true, false_or, List.mem_range]
  refine ⟨And.right, fun z => ⟨?_, z⟩⟩
  refine Nat.lt_of_not_le fun q => ?_
  rw [Nat.testBit_lt_two_pow (Nat.lt_of_lt_of_le hh (Nat.pow_le_pow_right (by omega) (by omega)))] at z
  cases z
theorem no_blank {h : Nat} {w : List Nat} (hw : w ∈ wds h) : 32 ∉ w ∧ ∃ s r, w = (97 + s) :: r ∧ s < 4 := by
  obtain ⟨s, hs, e⟩ := List.mem_filterMap.mp hw
  have hs4 := List.mem_range.mp hs
  unfold wdo at e
  split at e
  · cases e
  · cases e
    refine ⟨fun hc => ?_, s, _, rfl, hs4⟩
    rcases List.mem_cons.mp hc with q | hc
    · omega
    · unfold figs at hc
      obtain ⟨i, hi, q⟩ := List.mem_map.mp hc
      omega
theorem glue_head {s : List Nat} : ∀ {ws : List (List Nat)} {c : Nat} {r : List Nat} {t : List (List Nat)}, ws = (c :: r) :: t → ∃ q, glue s ws = c :: q
  | _, c, r, [], rfl => ⟨r, rfl⟩
  | _, c, r, x :: t, rfl => ⟨_, rfl⟩
theorem parse_W {h : Nat} (hh : h < 2 ^ 32) : parse (W h) = some h := by
  by_cases h0 : h = 0
  · subst h0; rw [W_zero]; rfl
  · have hn := wds_ne hh h0
    rw [W_ne hn]
    obtain ⟨w, t, e⟩ := List.exists_cons_of_ne_nil hn
    have hw : w ∈ wds h := by rw [e]; exact List.mem_cons_self
    obtain ⟨_, s, r, rfl, hs⟩ := no_blank hw
    obtain ⟨q, eq⟩ := glue_head (s := [32]) e
    have n45 : glue [32] (wds h) ≠ [45] := by rw [eq]; intro z; have := (List.cons.inj z).1; omega
    have e5 : parse (glue [32] (wds h)) = wordsGo (TL.spl [32] 0 [] (glue [32] (wds h))) 0 := if_neg n45
    rw [e5, glue_eq, TL.spl_join hn fun p hp => (no_blank hp).1]
    obtain ⟨b, h1, h2⟩ := words_bits h (List.range 4) 0 fun s hs => List.mem_range.mp hs
    have : b = h := bits_eq hh h2
    subst this
    exact h1
theorem read_W {h : Nat} (hh : h < 2 ^ 32) : readHand (W h) = some h := by
  unfold readHand
  rw [parse_W hh]
  exact if_pos rfl
/-! ### going through the signs -/
def scan : List Nat → Nat → Option Nat → Nat
  | [], a, _ => a
  | c :: r, a, s => if c ∈ [97, 98, 99, 100] then scan r a (some (c - 97)) else match s with
    | some k => if c ∈ [49, 50, 51, 52, 53, 54, 55, 56] then scan r (a ||| 2 ^ (8 * k + (c - 49))) (some k) else scan r a (some k)
    | none => scan r a none
theorem scan_lt : ∀ {t : List Nat} {a : Nat} {s : Option Nat}, a < 2 ^ 32 → (∀ k, s = some k → k < 4) → scan t a s < 2 ^ 32
  | [], a, s, h, _ => h
  | c :: r, a, s, h, hs => by
    unfold scan
    split
    · rename_i q
      refine scan_lt h fun k e => ?_
      cases e
      simp at q; omega
    · cases s with
      | none => exact scan_lt h hs
      | some k =>
        have h4 := hs k rfl
        show (if c ∈ [49, 50, 51, 52, 53, 54, 55, 56] then _ else _) < _
        split
        · rename_i q
          simp at q
          exact scan_lt (Nat.or_lt_two_pow h (Nat.pow_lt_pow_right (by omega) (by omega))) hs
        · exact scan_lt h hs
theorem scan_figs (s : Nat) (x : List Nat) : ∀ (l : List Nat) (a : Nat), (∀ i ∈ l, i < 8) → scan (l.map (49 + ·) ++ x) a (some s) = scan x (orAll (l.map (8 * s + ·)) a) (some s)
  | [], a, _ => rfl
  | i :: r, a, h => by
    have hi := h i List.mem_cons_self
    have h1 : ¬ (49 + i) ∈ [97, 98, 99, 100] := by simp; omega
    have h2 : (49 + i) ∈ [49, 50, 51, 52, 53, 54, 55, 56] := by simp; omega
    show (if (49 + i) ∈ [97, 98, 99, 100] then _ else if (49 + i) ∈ [49, 50, 51, 52, 53, 54, 55, 56] then scan (r.map (49 + ·) ++ x) (a ||| 2 ^ (8 * s + (49 + i - 49))) (some s) else _) = _
    rw [if_neg h1, if_pos h2, Nat.add_sub_cancel_left]
    exact scan_figs s x r _ fun j hj => h j (List.mem_cons_of_mem _ hj)
theorem scan_word {s : Nat} (hs : s < 4) (h : Nat) (x : List Nat) (a : Nat) (so : Option Nat) : scan (((97 + s) :: figs h s) ++ x) a so = scan x (orAll ((places h s).map (8 * s + ·)) a) (some s) := by
  have h1 : (97 + s) ∈ [97, 98, 99, 100] := by simp; omega
  show (if (97 + s) ∈ [97, 98, 99, 100] then scan (figs h s ++ x) a (some (97 + s - 97)) else _) = _
  rw [if_pos h1, Nat.add_sub_cancel_left, figs_places]
  exact scan_figs s x (places h s) a fun i hi => places_lt hi
theorem scan_bits (h : Nat) : ∀ (ss : List Nat) (a : Nat) (so : Option Nat), (∀ s ∈ ss, s < 4) → ∀ c, (scan (glue [32] (ss.filterMap (wdo h))) a so).testBit c = true ↔ a.testBit c = true ∨ (c / 8 ∈ ss ∧ h.testBit c = true)
  | [], a, so, _, c => by simp [glue, scan]
  | s :: r, a, so, hs, c => by
    have hr : ∀ s ∈ r, s < 4 := fun x hx => hs x (List.mem_cons_of_mem _ hx)
    by_cases q : figs h s = []
    · have e : (s :: r).filterMap (wdo h) = r.filterMap (wdo h) := by rw [List.filterMap_cons]; unfold wdo; rw [if_pos q]
      rw [e, scan_bits h r a so hr c, List.mem_cons]
      have np : ¬ (c / 8 = s ∧ h.testBit c = true) := fun z => by
        have m := (mem_places h s c).mpr z
        rw [figs_places, List.map_eq_nil_iff] at q
        rw [q] at m
        simp at m
      exact or_congr_right ⟨fun z => ⟨.inr z.1, z.2⟩, fun z => ⟨z.1.resolve_left fun e => np ⟨e, z.2⟩, z.2⟩⟩
    · have e : (s :: r).filterMap (wdo h) = ((97 + s) :: figs h s) :: r.filterMap (wdo h) := by rw [List.filterMap_cons]; unfold wdo; rw [if_neg q]
      rw [e]
      have ih := scan_bits h r (orAll ((places h s).map (8 * s + ·)) a) (some s) hr c
      have key : scan (glue [32] (((97 + s) :: figs h s) :: r.filterMap (wdo h))) a so = scan (glue [32] (r.filterMap (wdo h))) (orAll ((places h s).map (8 * s + ·)) a) (some s) := by
        cases er : r.filterMap (wdo h) with
        | nil =>
          show scan ((97 + s) :: figs h s) a so = _
          have := scan_word (hs s List.mem_cons_self) h [] a so
          rw [List.append_nil] at this
          exact this
        | cons y z =>
          show scan (((97 + s) :: figs h s) ++ (32 :: glue [32] (y :: z))) a so = _
          rw [scan_word (hs s List.mem_cons_self) h]
          rfl
      rw [key, ih, orAll_bit, mem_places, List.mem_cons]
      constructor
      · rintro ((z | z) | z)
        · exact .inl z
        · exact .inr ⟨.inl z.1, z.2⟩
        · exact .inr ⟨.inr z.1, z.2⟩
      · rintro (z | ⟨z | z, w⟩)
        · exact .inl (.inl z)
        · exact .inl (.inr ⟨z, w⟩)
        · exact .inr ⟨z, w⟩
theorem scan_W {h : Nat} (hh : h < 2 ^ 32) : scan (W h) 0 none = h := by
  by_cases h0 : h = 0
  · subst h0; rw [W_zero]; rfl
  · rw [W_ne (wds_ne hh h0)]
    exact bits_eq hh (scan_bits h (List.range 4) 0 none fun s hs => List.mem_range.mp hs)
def bDue : Sv := (oSeq (sSet 4 (eMt "str" oFind (eC (.str [97, 98, 99, 100])) (aC (eV 3) aN))) (sIf (tB (eOp oGe (eV 4) (eC (.int 0)))) (sSet 2 (eV 4)) (sIf (tAnd (tB (eOp oGe (eV 2) (eC (.int 0)))) (tB (eOp oGe (eMt "str" oFind (eC (.str [49, 50, 51, 52, 53, 54, 55, 56])) (aC (eV 3) aN)) (eC (.int 0))))) (sSet 1 (eOp oOr (eV 1) (eOp oShl (eC (.int 1)) (eOp oAdd (eOp oMulI (eC (.int 8)) (eV 2)) (eMt "str" oFind (eC (.str [49, 50, 51, 52, 53, 54, 55, 56])) (aC (eV 3) aN)))))) oNx)))
def suitI : Option Nat → Int
  | some k => (k : Int)
  | none => -1
/-- one sign -/
def scan1 (c a : Nat) (s : Option Nat) : Nat × Option Nat := if c ∈ [97, 98, 99, 100] then (a, some (c - 97)) else match s with
  | some k => if c ∈ [49, 50, 51, 52, 53, 54, 55, 56] then (a ||| 2 ^ (8 * k + (c - 49)), some k) else (a, some k)
  | none => (a, none)
theorem scan_cons (c : Nat) (r : List Nat) (a : Nat) (s : Option Nat) : scan (c :: r) a s = scan r (scan1 c a s).1 (scan1 c a s).2 := by
  show (if c ∈ [97, 98, 99, 100] then _ else _) = _
  unfold scan1
  by_cases q : c ∈ [97, 98, 99, 100]
  · rw [if_pos q, if_pos q]
  · rw [if_neg q, if_neg q]
    cases s with
    | none => rfl
    | some k =>
      show (if c ∈ [49, 50, 51, 52, 53, 54, 55, 56] then _ else _) = scan r (if c ∈ [49, 50, 51, 52, 53, 54, 55, 56] then _ else _ : Nat × Option Nat).1 (if c ∈ [49, 50, 51, 52, 53, 54, 55, 56] then _ else _ : Nat × Option Nat).2
      split <;> rfl
theorem due_step (t x : Option D) (c a : Nat) (s : Option Nat) (hs : ∀ k, s = some k → k < 4) : ∃ y, bDue [t, some (.int (a : Int)), some (.int (suitI s)), some (.str [c]), x] =
    .nx [t, some (.int ((scan1 c a s).1 : Int)), some (.int (suitI (scan1 c a s).2)), some (.str [c]), y] := by
  unfold bDue
  walk_at "dl"
  by_cases q : c ∈ [97, 98, 99, 100]
  · refine ⟨some (.int ((c - 97 : Nat) : Int)), ?_⟩
    rw [if_pos q, idx_c q, decide_eq_true (Int.natCast_nonneg (c - 97))]
    walk_at "dl"
    unfold scan1
    rw [if_pos q]
    rfl
  · refine ⟨some (.int (-1)), ?_⟩
    rw [if_neg q, decide_eq_false (show ¬ (0 : Int) ≤ -1 by decide)]
    walk_at "dl"
    unfold scan1
    rw [if_neg q]
    cases s with
    | none =>
      have e0 : decide ((0 : Int) ≤ suitI none) = false := rfl
      rw [e0]
      walk_at "dl"
    | some k =>
      have e0 : decide ((0 : Int) ≤ suitI (some k)) = true := decide_eq_true (Int.natCast_nonneg k)
      rw [e0]
      walk_at "dl"
      by_cases q2 : c ∈ [49, 50, 51, 52, 53, 54, 55, 56]
      · simp only [if_pos q2, idx_f q2]
        rw [decide_eq_true (Int.natCast_nonneg (c - 49))]
        walk_at "dl"
        have e1 : oMulI (.int 8) (.int (suitI (some k))) = some (D.int ((8 * k : Nat) : Int)) := mul_n 8 k (by decide)
        rw [e1]
        walk_at "dl"
        have h4 := hs k rfl
        have e2 : oShl (.int 1) (.int (((8 * k : Nat) : Int) + ((c - 49 : Nat) : Int))) = some (.int ((2 ^ (8 * k + (c - 49)) : Nat) : Int)) := by
          rw [← Int.natCast_add]
          refine shl1 _ ?_
          simp at q2; omega
        rw [e2]
        walk_at "dl"
        rw [or_n]
        walk_at "dl"
      · simp only [if_neg q2]
        rw [decide_eq_false (show ¬ (0 : Int) ≤ -1 by decide)]
        walk_at "dl"
theorem scan1_lt {c a : Nat} {s : Option Nat} (hs : ∀ k, s = some k → k < 4) : ∀ k, (scan1 c a s).2 = some k → k < 4 := by
  intro k e
  unfold scan1 at e
  split at e
  · rename_i q
    cases e
    simp at q; omega
  · cases s with
    | none => cases e
    | some j =>
      have e2 : (if c ∈ [49, 50, 51, 52, 53, 54, 55, 56] then (a ||| 2 ^ (8 * j + (c - 49)), some j) else (a, some j) : Nat × Option Nat).2 = some k := e
      split at e2 <;> exact hs k e2
theorem due_loop (t : Option D) : ∀ (l : List Nat) (a : Nat) (s : Option Nat) (x y : Option D), (∀ k, s = some k → k < 4) → ∃ s' x' y', oFor (tg1 3) bDue (l.map fun c => .str [c]) [t, some (.int (a : Int)), some (.int (suitI s)), x, y] =
    .nx [t, some (.int (scan l a s : Int)), s', x', y']
  | [], a, s, x, y, _ => ⟨_, _, _, rfl⟩
  | c :: r, a, s, x, y, hs => by
    obtain ⟨y1, e⟩ := due_step t y c a s hs
    obtain ⟨s', x', y', e2⟩ := due_loop t r (scan1 c a s).1 (scan1 c a s).2 (some (.str [c])) y1 (scan1_lt hs)
    refine ⟨s', x', y', ?_⟩
    rw [List.map_cons, oFor_cons (ρ1 := [t, some (.int (a : Int)), some (.int (suitI s)), some (.str [c]), y]) rfl, e]
    walk_at "dl"
    rw [e2, scan_cons]
/-- what is due of a text -/
def dueOf (t : List Nat) : Int := if W (scan t 0 none) = t then ((scan t 0 none : Nat) : Int) else -1
theorem due_eq (t : List Nat) : m_law_due [.str t] = .ok (.int (dueOf t)) := by
  unfold m_law_due b_law_due
  walk_at "dl"
  obtain ⟨s', x', y', e⟩ := due_loop (some (.str t)) t 0 none none none (fun k e => nomatch e)
  show Out.fin (Out.seq (oFor (tg1 3) bDue (t.map fun c => .str [c]) [some (.str t), some (.int ((0 : Nat) : Int)), some (.int (suitI none)), none, none]) _) = _
  rw [e]
  walk_at "dl"
  rw [law_written_eq]
  walk_at "dl"
  unfold dueOf
  by_cases q : W (scan t 0 none) = t
  · rw [decide_eq_true q, if_pos q]
    walk_at "dl"
  · rw [decide_eq_false q, if_neg q]
    walk_at "dl"
/-- the heart: what is read is what is due -/
theorem read_due (t : List Nat) : match readHand t with | some h => dueOf t = (h : Int) | none => dueOf t = -1 := by
  cases e : readHand t with
  | some h =>
    show dueOf t = (h : Int)
    unfold readHand at e
    cases p : parse t with
    | none => rw [p] at e; cases e
    | some k =>
      rw [p] at e
      have e2 : (if W k = t then some k else none) = some h := e
      split at e2
      · rename_i q
        cases e2
        have hk := parse_lt p
        subst q
        unfold dueOf
        rw [scan_W hk, if_pos rfl]
      · cases e2
  | none =>
    show dueOf t = -1
    unfold dueOf
    split
    · rename_i q
      exfalso
      have hk : scan t 0 none < 2 ^ 32 := scan_lt (by decide) (fun k e => nomatch e)
      have := read_W hk
      rw [q, e] at this
      cases this
    · rfl
/-! ### the law's own drawing -/
theorem pow64 : oPow (.int 10) (.int 64) = some (.int (10 ^ 64)) := by
  show (if shC 10 64 = true then some (D.int ((10 : Int) ^ (64 : Int).toNat)) else none) = _
  rw [if_pos (by decide)]
  rfl
theorem mul_big {m n : Int} (h : m.natAbs < 2 ^ 2000) (h2 : n.natAbs < 2 ^ 2000) : oMulI (.int m) (.int n) = some (.int (m * n)) := by
  have l : (2 : Nat) ^ 2000 ≤ 2 ^ 400000 := Nat.pow_le_pow_right (by decide) (Nat.le_of_ble_eq_true rfl)
  show (if mulC m n = true then some (D.int (m * n)) else none) = _
  rw [if_pos (mulC_b (Nat.lt_of_lt_of_le h l) (Nat.lt_of_lt_of_le h2 l))]
theorem div_i (m n : Int) (h : 0 < n) (h2 : n.natAbs < 2 ^ 2000) : oDiv (.int m) (.int n) = some (.int (m / n)) := by
  have l : (2 : Nat) ^ 2000 ≤ 2 ^ 9000 := Nat.pow_le_pow_right (by decide) (Nat.le_of_ble_eq_true rfl)
  show (if divC m n = true then some (D.int (m / n)) else none) = _
  have e : divC m n = true := by unfold divC; rw [decide_eq_true h, decide_eq_true (Nat.lt_of_lt_of_le h2 l)]; rfl
  rw [if_pos e]
theorem mod_i (m n : Int) (h : 0 < n) : oMod (.int m) (.int n) = some (.int (m % n)) := by
  show (if modC m n = true then some (D.int (m % n)) else none) = _
  have e : modC m n = true := by unfold modC; rw [decide_eq_true h]
  rw [if_pos e]
theorem abs_mul {m n : Int} {a b : Nat} (h : m.natAbs < 2 ^ a) (h2 : n.natAbs < 2 ^ b) : (m * n).natAbs < 2 ^ (a + b) := by
  rw [Int.natAbs_mul, Nat.pow_add]
  exact Nat.mul_lt_mul'' h h2
theorem p_le {a b : Nat} (h : a ≤ b) {m : Nat} (l : m < 2 ^ a) : m < 2 ^ b := Nat.lt_of_lt_of_le l (Nat.pow_le_pow_right (by decide) h)
theorem mixed_tail (d0 d1 : Option D) (x : Option D) (N : Int) (h : N.natAbs < 2 ^ 300) : ∃ z : Int, (oSeq (sSet 3 (eOp oMulI (eV 2) (eC (.int 6364136223846793005)))) (sRet (eOp oDiv (eOp oMulI (eOp oMulI (eV 3) (eV 3)) (eV 3)) (eC (.int 1000003)))) [d0, d1, some (.int N), x]).fin = .ok (.int z) := by
  have hr : (N * 6364136223846793005).natAbs < 2 ^ 364 := abs_mul (b := 64) h (by decide)
  have hr2 := abs_mul hr hr
  refine ⟨N * 6364136223846793005 * (N * 6364136223846793005) * (N * 6364136223846793005) / 1000003, ?_⟩
  walk_at "dl"
  rw [mul_big (p_le (by decide) h) (p_le (a := 64) (by decide) (by decide))]
  walk_at "dl"
  rw [mul_big (p_le (by decide) hr) (p_le (by decide) hr)]
  walk_at "dl"
  rw [mul_big (p_le (by decide) hr2) (p_le (by decide) hr)]
  walk_at "dl"
  rw [div_i _ _ (by decide) (p_le (a := 64) (by decide) (by decide))]
  walk_at "dl"
theorem mixed_ok (ns : List Int) (hn : ns.length ≤ 63) (k : Int) (h0 : 0 ≤ k) (h1 : k ≤ 1000) : ∃ z : Int, m_law_mixed [.scr ns, .int k] = .ok (.int z) := by
  obtain ⟨k, rfl⟩ := Int.eq_ofNat_of_zero_le h0
  have hk : k ≤ 1000 := by omega
  unfold m_law_mixed b_law_mixed
  walk_at "dl"
  by_cases q : ns.length = 0
  · rw [decide_eq_false (show ¬ (0 : Int) < (ns.length : Int) by omega)]
    walk_at "dl"
    obtain ⟨z, e⟩ := mixed_tail (some (.scr ns)) (some (.int (k : Int))) none ((k : Int) + 3) (by
      have : ((k : Int) + 3).natAbs < 2 ^ 11 := by omega
      exact p_le (by decide) this)
    refine ⟨z, ?_⟩
    rw [← e]
    walk_at "dl"
  · rw [decide_eq_true (show (0 : Int) < (ns.length : Int) by omega)]
    walk_at "dl"
    have hl : 0 < ns.length := by omega
    rw [mod_n k ns.length hl]
    walk_at "dl"
    rw [ix_scr (List.getElem?_eq_getElem (Nat.mod_lt k hl)), pow64]
    walk_at "dl"
    rw [mod_i _ _ (by decide)]
    walk_at "dl"
    have hd : oDiv (.int (k : Int)) (.int (ns.length : Int)) = some (.int ((k / ns.length : Nat) : Int)) := div_n k ns.length hl (p_le (a := 6) (by decide) (by omega))
    rw [hd]
    walk_at "dl"
    generalize hx : ns[k % ns.length]'(Nat.mod_lt k hl) % (10 : Int) ^ 64 = X
    have x0 : 0 ≤ X := by rw [← hx]; exact Int.emod_nonneg _ (by decide)
    have x1 : X < 10 ^ 64 := by rw [← hx]; exact Int.emod_lt_of_pos _ (by decide)
    have hX : X.natAbs < 2 ^ 220 := by
      have : (10 : Int) ^ 64 < 2 ^ 220 := by decide
      omega
    have hK : (((k / ns.length : Nat) : Int) + 1).natAbs < 2 ^ 11 := by
      have hq : k / ns.length ≤ 1000 := Nat.le_trans (Nat.div_le_self k ns.length) hk
      generalize k / ns.length = Q at hq
      omega
    rw [mul_big (p_le (by decide) hX) (p_le (by decide) hK)]
    walk_at "dl"
    have hP := abs_mul hX hK
    obtain ⟨z, e⟩ := mixed_tail (some (.scr ns)) (some (.int (k : Int))) none ((k : Int) + 3 + X * (((k / ns.length : Nat) : Int) + 1)) (by
      have h3 : ((k : Int) + 3).natAbs < 2 ^ 231 := p_le (a := 11) (by decide) (by omega)
      have h4 := Int.natAbs_add_le ((k : Int) + 3) (X * (((k / ns.length : Nat) : Int) + 1))
      have h5 : (2 : Nat) ^ 231 + 2 ^ 231 ≤ 2 ^ 300 := by decide
      have h6 : (2 : Nat) ^ (220 + 11) = 2 ^ 231 := by decide
      omega)
    refine ⟨z, ?_⟩
    rw [← e]
    walk_at "dl"
theorem and_n (a b : Nat) : oAnd (.int (a : Int)) (.int (b : Int)) = some (.int ((a &&& b : Nat) : Int)) := by
  show some (D.int (Builtin.bitAnd (a : Int) (b : Int))) = _
  unfold Builtin.bitAnd
  rw [decide_eq_true (Int.natCast_nonneg a), decide_eq_true (Int.natCast_nonneg b)]
  show some (D.int (((a : Int).toNat &&& (b : Int).toNat : Nat) : Int)) = _
  rw [Int.toNat_natCast, Int.toNat_natCast]
theorem to_nat {m n : Int} (h : 0 < n) (k : Nat) (hk : n = (k : Int)) : ∃ j : Nat, m % n = (j : Int) ∧ j < k := by
  obtain ⟨j, e⟩ := Int.eq_ofNat_of_zero_le (Int.emod_nonneg m (Int.ne_of_gt h))
  exact ⟨j, e, by have := Int.emod_lt_of_pos m h; omega⟩
theorem hand_ok (ns : List Int) (hn : ns.length ≤ 63) : ∃ h : Nat, h < 2 ^ 32 ∧ m_law_hand [.scr ns, .int 0] = .ok (.int (h : Int)) := by
  obtain ⟨z0, e0⟩ := mixed_ok ns hn 0 (by decide) (by decide)
  obtain ⟨z1, e1⟩ := mixed_ok ns hn (0 + 1) (by decide) (by decide)
  obtain ⟨z2, e2⟩ := mixed_ok ns hn (0 + 2) (by decide) (by decide)
  obtain ⟨z3, e3⟩ := mixed_ok ns hn (0 + 3) (by decide) (by decide)
  obtain ⟨z4, e4⟩ := mixed_ok ns hn (0 + 4) (by decide) (by decide)
  obtain ⟨w, hw, _⟩ := to_nat (m := z0) (n := 6) (by decide) 6 rfl
  obtain ⟨h, hh, hl⟩ := to_nat (m := z1 / 7) (n := 4294967296) (by decide) 4294967296 rfl
  obtain ⟨j, hj, jl⟩ := to_nat (m := z2) (n := 32) (by decide) 32 rfl
  obtain ⟨b, hb, bl⟩ := to_nat (m := z3 / 11) (n := 4294967296) (by decide) 4294967296 rfl
  obtain ⟨c, hc, cl⟩ := to_nat (m := z4 / 13) (n := 4294967296) (by decide) 4294967296 rfl
  have hp : 2 ^ j < 2 ^ 32 := Nat.pow_lt_pow_right (by decide) jl
  have key : ∃ r : Nat, r < 2 ^ 32 ∧ m_law_hand [.scr ns, .int 0] = .ok (.int (r : Int)) := by
    unfold m_law_hand b_law_hand
    walk_at "dl"
    rw [e0]
    walk_at "dl"
    rw [mod_i _ _ (by decide), hw]
    walk_at "dl"
    rw [e1]
    walk_at "dl"
    rw [div_i _ _ (by decide) (p_le (a := 64) (by decide) (by decide))]
    walk_at "dl"
    rw [mod_i _ _ (by decide), hh]
    walk_at "dl"
    by_cases w0 : (w : Int) = 0
    · refine ⟨0, by decide, ?_⟩
      rw [decide_eq_true w0]
      walk_at "dl"
      rfl
    rw [decide_eq_false w0]
    walk_at "dl"
    by_cases w1 : (w : Int) = 1
    · refine ⟨2 ^ j, hp, ?_⟩
      rw [decide_eq_true w1]
      walk_at "dl"
      rw [e2]
      walk_at "dl"
      rw [mod_i _ _ (by decide), hj]
      walk_at "dl"
      rw [shl1 j (by omega)]
      walk_at "dl"
    rw [decide_eq_false w1]
    walk_at "dl"
    by_cases w2 : (w : Int) = 2
    · refine ⟨4294967295 - 2 ^ j, Nat.lt_of_le_of_lt (Nat.sub_le _ _) (by decide), ?_⟩
      rw [decide_eq_true w2]
      walk_at "dl"
      rw [e2]
      walk_at "dl"
      rw [mod_i _ _ (by decide), hj]
      walk_at "dl"
      rw [shl1 j (by omega)]
      walk_at "dl"
      rw [Int.natCast_sub (by omega)]
      rfl
    rw [decide_eq_false w2]
    walk_at "dl"
    by_cases w3 : (w : Int) = 3
    · refine ⟨h &&& b &&& c, Nat.lt_of_le_of_lt Nat.and_le_left (Nat.lt_of_le_of_lt Nat.and_le_left hl), ?_⟩
      rw [decide_eq_true w3]
      walk_at "dl"
      rw [e3]
      walk_at "dl"
      rw [div_i _ _ (by decide) (p_le (a := 64) (by decide) (by decide))]
      walk_at "dl"
      rw [mod_i _ _ (by decide), hb]
      walk_at "dl"
      rw [and_n]
      walk_at "dl"
      rw [e4]
      walk_at "dl"
      rw [div_i _ _ (by decide) (p_le (a := 64) (by decide) (by decide))]
      walk_at "dl"
      rw [mod_i _ _ (by decide), hc]
      walk_at "dl"
      rw [and_n]
      walk_at "dl"
    · refine ⟨h, hl, ?_⟩
      rw [decide_eq_false w3]
      walk_at "dl"
  exact key
/-! small defs -/
theorem whole_ok (h : Nat) : m_law_whole [.int (h : Int)] = .ok (.bl true) := rfl
abbrev eNoHand : D := .exc "NoHand" [] []
theorem is1 : isC hs "NoCard" eNoHand = some false := by decide +kernel
theorem is2 : isC hs "NoDeal" eNoHand = some false := by decide +kernel
theorem is3 : isC hs "NoHand" eNoHand = some true := by decide +kernel
theorem is4 : isT hs "ValueError" eNoHand = some true := by decide +kernel
theorem tc_trick : tC' hs "TrickError" "NoHand" = some true := by decide +kernel
theorem other_ok : m_law_other [eNoHand] = .ok (.bl false) := by
  unfold m_law_other b_law_other
  walk_at "dl"
  rw [is1]
  walk_at "dl"
  rw [is2]
  walk_at "dl"
theorem refusal_ok : m_law_refusal [eNoHand] = .ok (.bl true) := by
  unfold m_law_refusal b_law_refusal
  walk_at "dl"
  rw [is3]
  have e : isNonD eNoHand = false := rfl
  rw [e]
  walk_at "dl"
  rw [is4]
  walk_at "dl"
  rw [other_ok]
  walk_at "dl"
theorem law_read_ok {d v : D} (h : m_read_hand [d] = .ok v) : m_law_read [d] = .ok (.tup [v, .non]) := by
  unfold m_law_read b_law_read
  walk_at "dl"
  rw [h]
  walk_at "dl"
theorem law_read_exn {d : D} (h : m_read_hand [d] = .exn noHand) : m_law_read [d] = .ok (.tup [.non, eNoHand]) := by
  unfold m_law_read b_law_read
  walk_at "dl"
  rw [h]
  walk_at "dl"
  simp only [hdl, tc_trick]
  walk_at "dl"
  simp only [unsetO]
  walk_at "dl"
/-- what is no text -/
theorem read_other {d : D} (h : isT hs "str" d = some false) : m_read_hand [d] = .exn noHand := by
  unfold m_read_hand b_read_hand
  walk_at "dl"
  rw [h]
  walk_at "dl"
/-! ### a text spoilt -/
theorem glue_len (s : List Nat) : ∀ ls : List (List Nat), (glue s ls).length ≤ (ls.map List.length).sum + ls.length * s.length
  | [] => by simp [glue]
  | [p] => by simp [glue]
  | p :: q :: r => by
    have ih := glue_len s (q :: r)
    show (p ++ (s ++ glue s (q :: r))).length ≤ _
    simp only [List.length_append, List.map_cons, List.sum_cons, List.length_cons, Nat.add_mul] at ih ⊢
    omega
theorem W_len (h : Nat) : 1 ≤ (W h).length ∧ (W h).length ≤ 100 := by
  unfold W
  split
  · simp
  · rename_i q
    constructor
    · obtain ⟨w, t, e⟩ := List.exists_cons_of_ne_nil q
      have hw : w ∈ wds h := by rw [e]; exact List.mem_cons_self
      obtain ⟨_, s, r, rfl, _⟩ := no_blank hw
      obtain ⟨z, e2⟩ := glue_head (s := [32]) e
      rw [e2]; simp
    · have h1 := glue_len [32] (wds h)
      have h2 : (wds h).length ≤ 4 := Nat.le_trans (filterMap_len _ _) (by simp)
      have h3 : ((wds h).map List.length).sum ≤ ((wds h).map List.length).length * 9 := sum_le fun x hx => by
        obtain ⟨w, hw, rfl⟩ := List.mem_map.mp hx
        obtain ⟨s, _, e⟩ := List.mem_filterMap.mp hw
        exact wdo_len e
      rw [List.length_map] at h3
      simp at h1
      omega
theorem spl_count (S : List Nat) : ∀ (l : List Nat) (k : Nat) (acc : List Nat), (TL.spl S k acc l).length ≤ l.length + 1
  | [], k, acc => by rw [TL.spl_nil]; simp
  | c :: r, 0, acc => by
    show (if TL.pre S (c :: r) = true then acc :: TL.spl S (S.length - 1) [] r else TL.spl S 0 (acc ++ [c]) r).length ≤ _
    split
    · have := spl_count S r (S.length - 1) []
      simp; omega
    · have := spl_count S r 0 (acc ++ [c])
      simp; omega
  | c :: r, k + 1, acc => by
    have := spl_count S r k acc
    show (TL.spl S k acc r).length ≤ _
    simp; omega
theorem spl_ne (S : List Nat) : ∀ (l : List Nat) (k : Nat) (acc : List Nat), TL.spl S k acc l ≠ []
  | [], k, acc => by rw [TL.spl_nil]; simp
  | c :: r, 0, acc => by
    show (if TL.pre S (c :: r) = true then acc :: TL.spl S (S.length - 1) [] r else TL.spl S 0 (acc ++ [c]) r) ≠ []
    split
    · simp
    · exact spl_ne S r 0 _
  | c :: r, k + 1, acc => spl_ne S r k acc
theorem cut_ok (p : List Nat) (hp : p.length ≤ 100) (lo hi : Option Int) : ∃ q, oCut (.str p) lo hi = some (.str q) ∧ q.length ≤ 100 := by
  refine ⟨cutD p lo hi, if_pos (by omega), ?_⟩
  unfold cutD
  rw [List.length_take, List.length_drop]
  omega
theorem sum_bound {ls : List (List Nat)} (hl : ls.length ≤ 200) (hw : ∀ w ∈ ls, w.length ≤ 100) : (ls.map List.length).sum ≤ 20000 := by
  have h3 : (ls.map List.length).sum ≤ (ls.map List.length).length * 100 := sum_le fun x hx => by
    obtain ⟨w, hw', rfl⟩ := List.mem_map.mp hx
    exact hw w hw'
  rw [List.length_map] at h3
  omega
theorem join_ok {ls : List (List Nat)} (hl : ls.length ≤ 200) (hw : ∀ w ∈ ls, w.length ≤ 100) {s : List Nat} (hs : s.length ≤ 2) : ∃ q, oJoin (.str s) [.lst (ls.map D.str)] = some (.str q) ∧ q.length ≤ 100000 := by
  have h3 := sum_bound hl hw
  have h4 := glue_len s ls
  have h5 : ls.length * s.length ≤ 200 * 2 := Nat.mul_le_mul hl hs
  exact ⟨glue s ls, join_s (by omega), by omega⟩
theorem sign_at : ∀ i < 19, ∃ c, [97, 98, 99, 100, 49, 50, 51, 52, 53, 54, 55, 56, 32, 45, 47, 101, 65, 57, 48][i]? = some c := fun i hi => ⟨_, List.getElem?_eq_getElem hi⟩
theorem spoilt_ok (ns : List Int) (hn : ns.length ≤ 63) (p : List Nat) (h1 : 1 ≤ p.length) (h2 : p.length ≤ 100) : ∃ t, m_law_spoilt [.scr ns, .str p] = .ok (.str t) ∧ t.length ≤ 1000000 := by
  obtain ⟨z0, e0⟩ := mixed_ok ns hn 10 (by decide) (by decide)
  obtain ⟨z1, e1⟩ := mixed_ok ns hn 11 (by decide) (by decide)
  obtain ⟨z2, e2⟩ := mixed_ok ns hn 12 (by decide) (by decide)
  obtain ⟨w, hw, wl⟩ := to_nat (m := z0) (n := 12) (by decide) 12 rfl
  obtain ⟨a, ha, al⟩ := to_nat (m := z1) (n := (p.length : Int)) (by omega) p.length rfl
  obtain ⟨j, hj, jl⟩ := to_nat (m := z2) (n := 19) (by decide) 19 rfl
  obtain ⟨c, hc⟩ := sign_at j jl
  obtain ⟨c1, k1, l1⟩ := cut_ok p h2 none (some (a : Int))
  obtain ⟨c2, k2, l2⟩ := cut_ok p h2 (some ((a : Int) + 1)) none
  obtain ⟨c3, k3, l3⟩ := cut_ok p h2 (some (a : Int)) none
  have hls : (TL.spl [32] 0 [] p).length ≤ 101 := Nat.le_trans (spl_count [32] p 0 []) (by omega)
  have hws : ∀ v ∈ TL.spl [32] 0 [] p, v.length ≤ 100 := fun v hv => by
    have := spl_len [32] p 0 [] v hv
    simp at this; omega
  obtain ⟨v0, vr, ev⟩ := List.exists_cons_of_ne_nil (spl_ne [32] p 0 [])
  have hs : oSplit (.str p) [.str [32]] = some (.lst ((TL.spl [32] 0 [] p).map D.str)) := split_b (by omega) rfl rfl
  generalize TL.spl [32] 0 [] p = ls at hls hws ev hs
  obtain ⟨j1, m1, n1⟩ := join_ok (ls := ls.reverse) (by rw [List.length_reverse]; omega) (fun v hv => hws v (List.mem_reverse.mp hv)) (s := [32]) (by decide)
  obtain ⟨j2, m2, n2⟩ := join_ok (ls := ls ++ [v0]) (by rw [List.length_append, List.length_singleton]; omega) (fun v hv => (List.mem_append.mp hv).elim (hws v) fun z => by
    rw [List.mem_singleton.mp z]; exact hws v0 (by rw [ev]; exact List.mem_cons_self)) (s := [32]) (by decide)
  obtain ⟨j3, m3, n3⟩ := join_ok (ls := ls) (by omega) hws (s := [32, 32]) (by decide)
  have ei : imms (ls.map D.str) = true := imms_strs ls
  have ts := [p, p, p, c1 ++ c2, c1 ++ [c] ++ c3, c1 ++ [c] ++ c2, j1, j2, p ++ [32], j3, [], [c]]
  have key : m_law_spoilt [.scr ns, .str p] = (Res.of (oIx (.lst ([p, p, p, c1 ++ c2, c1 ++ [c] ++ c3, c1 ++ [c] ++ c2, j1, j2, p ++ [32], j3, [], [c]].map D.str)) (.int (w : Int)))) := by
    unfold m_law_spoilt b_law_spoilt
    walk_at "dl"
    rw [e0]
    walk_at "dl"
    rw [mod_i _ _ (by decide), hw]
    walk_at "dl"
    rw [e1]
    walk_at "dl"
    rw [len_s (by omega)]
    walk_at "dl"
    rw [mod_i _ _ (by omega), ha]
    walk_at "dl"
    rw [e2]
    walk_at "dl"
    rw [mod_i _ _ (by decide), hj]
    walk_at "dl"
    rw [ix_s (Nat.le_of_ble_eq_true rfl) hc]
    walk_at "dl"
    rw [hs]
    walk_at "dl"
    rw [k1]
    walk_at "dl"
    rw [k2]
    walk_at "dl"
    rw [add_ss (by omega)]
    walk_at "dl"
    rw [add_ss (p := c1) (q := [c]) (by simp; omega)]
    walk_at "dl"
    rw [k3]
    walk_at "dl"
    rw [add_ss (p := c1 ++ [c]) (q := c3) (by simp; omega)]
    walk_at "dl"
    rw [add_ss (p := c1 ++ [c]) (q := c2) (by simp; omega)]
    walk_at "dl"
    rw [ei]
    walk_at "dl"
    rw [← List.map_reverse, m1]
    walk_at "dl"
    rw [show oIx (.lst (ls.map D.str)) (.int 0) = some (.str v0) from ix_l (k := 0) (by rw [ev]; rfl)]
    walk_at "dl"
    rw [add_ll ei rfl (by simp; omega)]
    walk_at "dl"
    rw [show ls.map D.str ++ [D.str v0] = (ls ++ [v0]).map D.str by rw [List.map_append]; rfl, m2]
    walk_at "dl"
    rw [add_ss (p := p) (q := [32]) (by simp; omega)]
    walk_at "dl"
    rw [m3]
    walk_at "dl"
    rw [add_ll rfl rfl (Nat.le_of_ble_eq_true rfl)]
    walk_at "dl"
    cases oIx (.lst [.str p, .str p, .str p, .str (c1 ++ c2), .str (c1 ++ [c] ++ c3), .str (c1 ++ [c] ++ c2), .str j1, .str j2, .str (p ++ [32]), .str j3, .str [], .str [c]]) (.int (w : Int)) <;> rfl
  have hlen : ∀ t ∈ [p, p, p, c1 ++ c2, c1 ++ [c] ++ c3, c1 ++ [c] ++ c2, j1, j2, p ++ [32], j3, [], [c]], t.length ≤ 1000000 := by
    simp only [List.mem_cons, List.not_mem_nil, or_false]
    rintro t (rfl | rfl | rfl | rfl | rfl | rfl | rfl | rfl | rfl | rfl | rfl | rfl) <;> (try simp only [List.length_append, List.length_cons, List.length_nil]) <;> omega
  rw [key]
  generalize hts : [p, p, p, c1 ++ c2, c1 ++ [c] ++ c3, c1 ++ [c] ++ c2, j1, j2, p ++ [32], j3, [], [c]] = ts at hlen
  have hl12 : w < ts.length := by rw [← hts]; exact wl
  refine ⟨ts[w], ?_, hlen _ (List.getElem_mem _)⟩
  rw [ix_l (k := w) (d := .str ts[w]) (by rw [List.getElem?_map, List.getElem?_eq_getElem hl12]; rfl)]
  rfl
/-! ### the law -/
theorem read_own (h : Nat) (hh : h < 2 ^ 32) : m_read_hand [.str (W h)] = .ok (.int (h : Int)) := by
  rw [read_hand_eq (W h) (by have := (W_len h).2; omega), read_W hh]
def things (h : Nat) (p : List Nat) : List D := [.int (h : Int), .non, .bl false, .lst [.str p], .tup [.str [45]], .int 0, .lst [.str [97, 49]], .dct [] []]
theorem things_no {h : Nat} {p : List Nat} : ∀ d ∈ things h p, isT hs "str" d = some false := by
  unfold things
  simp only [List.mem_cons, List.not_mem_nil, or_false]
  rintro d (rfl | rfl | rfl | rfl | rfl | rfl | rfl | rfl) <;> rfl
theorem asg2 {a b : D} {i j : Nat} {ρ : Sl} : tgT [tg1 i, tg1 j] (.tup [a, b]) ρ = some ((ρ.set i (some a)).set j (some b)) := rfl
theorem law_true (ns : List Int) (hn : ns.length ≤ 63) (_ : ∀ z ∈ ns, Builtin.Int.intBits z ≤ 1048576) : m_law [.scr ns] = .ok (.bl true) := by
  obtain ⟨h, hh, e0⟩ := hand_ok ns hn
  obtain ⟨z, e1⟩ := mixed_ok ns hn 13 (by decide) (by decide)
  obtain ⟨w, hw, wl⟩ := to_nat (m := z) (n := 8) (by decide) 8 rfl
  obtain ⟨t, e2, tl⟩ := spoilt_ok ns hn (W h) (W_len h).1 (W_len h).2
  have hwt : w < (things h (W h)).length := wl
  have ex : oIx (.lst (things h (W h))) (.int (w : Int)) = some ((things h (W h))[w]) := ix_l (List.getElem?_eq_getElem hwt)
  have rx : m_law_read [(things h (W h))[w]] = .ok (.tup [.non, eNoHand]) := law_read_exn (read_other (things_no _ (List.getElem_mem _)))
  generalize (things h (W h))[w] = X at ex rx
  have rd := read_due t
  unfold m_law b_law
  walk_at "dl"
  rw [e0]
  walk_at "dl"
  rw [law_written_eq h]
  walk_at "dl"
  rw [hand_text_eq h hh]
  walk_at "dl"
  rw [show isT hs "str" (.str (W h)) = some true from rfl]
  walk_at "dl"
  rw [law_read_ok (read_own h hh)]
  walk_at "dl"
  rw [asg2]
  walk_at "dl"
  rw [show isNonD D.non = true from rfl]
  walk_at "dl"
  rw [whole_ok h]
  walk_at "dl"
  rw [e1]
  walk_at "dl"
  rw [mod_i _ _ (by decide), hw]
  walk_at "dl"
  rw [show oIx (.lst [.int (h : Int), .non, .bl false, .lst [.str (W h)], .tup [.str [45]], .int 0, .lst [.str [97, 49]], .dct [] []]) (.int (w : Int)) = some X from ex]
  walk_at "dl"
  rw [rx]
  walk_at "dl"
  rw [asg2]
  walk_at "dl"
  rw [refusal_ok]
  walk_at "dl"
  rw [e2]
  walk_at "dl"
  rw [due_eq]
  walk_at "dl"
  have er := read_hand_eq t tl
  cases eh : readHand t with
  | some k =>
    rw [eh] at rd er
    rw [law_read_ok er]
    walk_at "dl"
    rw [asg2]
    walk_at "dl"
    rw [show dueOf t = (k : Int) from rd, decide_eq_false (show ¬ (k : Int) < 0 by omega)]
    walk_at "dl"
    rw [show isNonD D.non = true from rfl]
    walk_at "dl"
    rw [read_own h hh]
    walk_at "dl"
  | none =>
    rw [eh] at rd er
    rw [law_read_exn er]
    walk_at "dl"
    rw [asg2]
    walk_at "dl"
    rw [show dueOf t = -1 from rd, decide_eq_true (show (-1 : Int) < 0 by decide)]
    walk_at "dl"
    rw [refusal_ok]
    walk_at "dl"
    rw [read_own h hh]
    walk_at "dl"

end Lk04
end
section
open PySem PySem.W PySem.Calls PyProof.Rows
set_option maxHeartbeats 0 in
theorem PySem.Challenge.cw_trickproof_k04_a_hand_written_holds : PySem.Challenge.rw_trickproof_k04_a_hand_written.Holds := by
  w_on; o_law
  refine HandSHeadRun.head_any (r := OpenLaw.row PySem.Challenge.rw_trickproof_k04_a_hand_written) (q := view (OpenLaw.row PySem.Challenge.rw_trickproof_k04_a_hand_written).prog [25]) (H := Lk04.hk) (ob := Lk04.ob) (M := 6000) (loose := Lk04.loose) (d := HandSHeadRun.topDef (OpenLaw.row PySem.Challenge.rw_trickproof_k04_a_hand_written).prog 25) (kwd := []) Lk04.ob_eq
    (by kernel_rfl) (fun s => by kernel_rfl) Lk04.run (by kernel_rfl) (by kernel_rfl) (by kernel_rfl) (by rfl) (by first | assumption | decide +kernel) (by decide +kernel) ⟨rfl, rfl, rfl, rfl, rfl, by decide +kernel⟩ ?hw ?hc
  case hw => w_witness2
  case hc =>
    refine DL.law_by (l := PySem.Challenge.rw_trickproof_k04_a_hand_written) (n := 63) (k := 5) (x := "_law_script") (kr := .O) (m := Lk04.m_law) rfl (by decide) (by kernel_rfl) ⟨rfl, by decide, by decide⟩ Lk04.law_true ?F
    intro w mg fa h Y G hmg0
    obtain ⟨K, KX, c⟩ := Y
    obtain ⟨T⟩ := Lk04.tp_of KX G c.t.d c.more
    have hmg : mg ("law" : PySem.Str) = some (.ref fa) := by
      have e : (HandSHeadRun.topDef (OpenLaw.row PySem.Challenge.rw_trickproof_k04_a_hand_written).prog 25).name = ("law" : PySem.Str) := by kernel_rfl
      rw [← e]
      exact hmg0
    have ef := hmg.symm.trans T.d_law.g
    cases ef
    exact ⟨K, T.d_law.fd, KX, fun s u => T.d_law.a s [u] rfl, fun base _ _ => Lk04.ok_law T⟩

end
