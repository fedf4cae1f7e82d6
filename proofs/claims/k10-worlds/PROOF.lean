import PyProof.Rows.All
import Wide.All
import OpenK.AllK
import Wide.FinOn
import HandS.ForMost
import HandS.SlotsVar
import HandS.DictComp
import HandS.IsInst
import HandS.Conv
import HandS.Walk
import HandS.Zip
import HandS.Exc
import HandS.TupAny
import HandS.TupMul
import HandS.Style
import HandS.NoneIn
import HandS.Flow
import HandS.Deep
import HandS.Strs
import HandS.SetFor
import KE.SortData
import HandS.RaiseMore
import PySem.Challenge.RW_probed_k10_worlds_or_none
set_option Elab.async false
set_option linter.all false
set_option maxRecDepth 100000
set_option maxHeartbeats 2000000
/-! E1: the engine's states: data (PyData), values S, live cells O, how the abstract heap bears them, and the readings by functions. -/
namespace EV
open PySem PySem.Spec PyProof.Rows L2

/-- a value: frozen data, a live cell, a frozen instance, a frozen dict -/
inductive S where
  | d (x : PyData)
  | ref (n : Nat)
  | ins (C : Nat) (fs : List S)
  | dct (kvs : List (Key × S))
  | scr (ns : List Int)
/-- a live cell -/
inductive O where
  | lst (xs : List S)
  | dct (kvs : List (Key × S))
  | ins (C : Nat) (fs : List (Str × S))
  | slt (C : Nat) (fs : List (Option S))
abbrev Hd := List O
abbrev Sd := List (Option S)

def core : HO → HO
  | .frz _ u => u
  | o => o

def isDk : HO → Bool
  | .dK _ => true
  | .dT _ => true
  | _ => false
/-- the same, or a dict that is locked or unlocked -/
def Lk (o o' : HO) : Prop := o' = o ∨ (core o' = core o ∧ isDk (core o) = true)
theorem Lk.core {o o' : HO} (h : Lk o o') : core o' = core o := by
  rcases h with h | h
  · rw [h]
  · exact h.1
theorem Lk.trans {a b d : HO} (h : Lk a b) (k : Lk b d) : Lk a d := by
  rcases h with rfl | h
  · exact k
  · rcases k with rfl | k
    · exact .inr h
    · exact .inr ⟨k.1.trans h.1, h.2⟩
theorem Lk.eq {o o' : HO} (h : Lk o o') (n : isDk (EV.core o) = false) : o' = o := by
  rcases h with h | h
  · exact h
  · rw [n] at h; cases h.2
/-- the live cells' addresses, and those of objects that are being made -/
structure Lv where
  cs : List Addr
  bz : List Addr
def Lv.all (L : Lv) : List Addr := L.cs ++ L.bz
theorem Lv.nall {L : Lv} {p : Addr} : p ∉ L.all ↔ p ∉ L.cs ∧ p ∉ L.bz := by unfold Lv.all; rw [List.mem_append, not_or]
variable (K : PySem.W.Frag) (c : Nat → Addr) (L : Lv) (H : Hp)
/-- a list, a tuple, a dict that stands, locked or not -/
def Std (p : Addr) (u : HO) : Prop := ∃ o, H p = some o ∧ core o = u
mutual
inductive PR : PyData → V → Prop
  | non : PR .none .non
  | bl (b : Bool) : PR (.bool b) (.bl b)
  | int (i : Int) : PR (.int i) (.int i)
  | str (x : Str) : PR (.str x) (.str x)
  | tup {p : Addr} {vs : List V} {ds : List PyData} : H p = some (.tup vs) → p ∉ L.all → PRs ds vs → PR (.tuple ds) (.ref p)
  | tupK {p : Addr} {vs : List V} {ds : List PyData} : (∃ (o : Obj) (its : Array Value) (n : Nat), K.lookup p = some o ∧ o.cls = .type "tuple" ∧ o.data = .seq its n ∧ its.size ≤ sizeLine ∧ Vals vs its.toList) → PRs ds vs → PR (.tuple ds) (.ref p)
  | lst {p : Addr} {vs : List V} {ds : List PyData} : H p = some (.lst vs) → p ∉ L.all → PRs ds vs → PR (.list ds) (.ref p)
inductive PRs : List PyData → List V → Prop
  | nil : PRs [] []
  | cons {x : PyData} {v : V} {xs : List PyData} {vs : List V} : PR x v → PRs xs vs → PRs (x :: xs) (v :: vs)
end
mutual
inductive SR : S → V → Prop
  | d {x : PyData} {v : V} : PR K L H x v → SR (.d x) v
  | ref {n : Nat} {p : Addr} : L.cs[n]? = some p → SR (.ref n) (.ref p)
  | ins {C : Nat} {fs : List S} {p dx : Addr} {vs : List V} : p ∉ L.all → dx ∉ L.all → SlAt H p (c C) dx (vs.map some) → SRs fs vs → SR (.ins C fs) (.ref p)
  | dct {kvs : List (Key × S)} {kws : List (Key × V)} {p : Addr} : p ∉ L.all → Std H p (.dK kws) → KRs kvs kws → SR (.dct kvs) (.ref p)
  | scr {ns : List Int} {p : Addr} : ((Std H p (.lst (ns.map V.int)) ∧ p ∉ L.all) ∨ ∃ (o : Obj) (its : Array Value) (n : Nat), K.lookup p = some o ∧ o.cls = .type "list" ∧ o.dict = none ∧ o.data = .seq its n ∧ its.size ≤ sizeLine ∧ Vals (ns.map V.int) its.toList) → SR (.scr ns) (.ref p)
inductive SRs : List S → List V → Prop
  | nil : SRs [] []
  | cons {x : S} {v : V} {xs : List S} {vs : List V} : SR x v → SRs xs vs → SRs (x :: xs) (v :: vs)
inductive KRs : List (Key × S) → List (Key × V) → Prop
  | nil : KRs [] []
  | cons {k : Key} {x : S} {v : V} {xs : List (Key × S)} {vs : List (Key × V)} : SR x v → KRs xs vs → KRs ((k, x) :: xs) ((k, v) :: vs)
end
inductive FRs : List (Str × S) → List (Str × V) → Prop
  | nil : FRs [] []
  | cons {k : Str} {x : S} {v : V} {xs : List (Str × S)} {vs : List (Str × V)} : SR K c L H x v → FRs xs vs → FRs ((k, x) :: xs) ((k, v) :: vs)
inductive ORs : List (Option S) → List (Option V) → Prop
  | nil : ORs [] []
  | non {xs vs} {o} : ORs xs vs → ORs (none :: xs) (o :: vs)
  | cons {x v xs vs} : SR K c L H x v → ORs xs vs → ORs (some x :: xs) (some v :: vs)
/-- what stands at a live cell -/
inductive CR : O → Addr → Prop
  | lst {xs vs p} : H p = some (.lst vs) → SRs K c L H xs vs → CR (.lst xs) p
  | dct {kvs kws p} : H p = some (.dK kws) → KRs K c L H kvs kws → CR (.dct kvs) p
  | ins {C fs gs p dx} : H p = some (.ins (c C) dx gs) → FRs K c L H fs gs → CR (.ins C fs) p
  | slt {C fs vs p dx} : dx ∉ L.all → SlAt H p (c C) dx vs → ORs K c L H fs vs → CR (.slt C fs) p
structure RP (hd : Hd) : Prop where
  nd : L.cs.Nodup
  len : L.cs.length = hd.length
  bt : ∀ b ∈ L.bz, ∃ o, H b = some o
  nbz : ∀ p ∈ L.cs, p ∉ L.bz
  at_ : ∀ (n : Nat) (p : Addr) (o : O), L.cs[n]? = some p → hd[n]? = some o → CR K c L H o p
/-- what the bearing of values leans on is kept -/
structure Ext0 (L' : Lv) (H' : Hp) : Prop where
  pre : ∀ (n : Nat) (p : Addr), L.cs[n]? = some p → L'.cs[n]? = some p
  out : ∀ (p : Addr) (o : HO), H p = some o → p ∉ L.all → (∃ o', H' p = some o' ∧ Lk o o') ∧ p ∉ L'.all
structure Ext (L' : Lv) (H' : Hp) : Prop where
  pre : ∀ (n : Nat) (p : Addr), L.cs[n]? = some p → L'.cs[n]? = some p
  keep : ∀ (p : Addr) (o : HO), H p = some o → p ∉ L.cs → (∃ o', H' p = some o' ∧ Lk o o') ∧ p ∉ L'.cs
  tr : ∀ (p : Addr) (o : HO), H p = some o → ∃ o', H' p = some o'
  bz : ∀ b ∈ L.bz, b ∈ L'.bz
  nb : ∀ b ∈ L'.bz, b ∈ L.bz ∨ H b = none
/-- the slots -/
structure GR (ss : Sd) (σ : L2.St) : Prop where
  len : ss.length = σ.length
  at_ : ∀ (i : Nat) (x : S), ss[i]? = some (some x) → ∃ v, σ[i]? = some (some v) ∧ SR K c L H x v
end EV

namespace EV
open PySem PySem.Spec PyProof.Rows L2
variable {K : PySem.W.Frag} {c : Nat → Addr} {L L' M2 : Lv} {H H' H2 : Hp}
theorem Ext.refl : Ext L H L H := ⟨fun _ _ h => h, fun p o h hn => ⟨⟨o, h, .inl rfl⟩, hn⟩, fun p o h => ⟨o, h⟩, fun _ h => h, fun _ h => .inl h⟩
theorem Ext.trans (a : Ext L H L' H') (b : Ext L' H' M2 H2) : Ext L H M2 H2 :=
  ⟨fun n p h => b.pre n p (a.pre n p h), fun p o h hn => by
    obtain ⟨⟨o1, h1, e1⟩, n1⟩ := a.keep p o h hn
    obtain ⟨⟨o2, h2, e2⟩, n2⟩ := b.keep p o1 h1 n1
    exact ⟨⟨o2, h2, e1.trans e2⟩, n2⟩, fun p o h => let ⟨o1, h1⟩ := a.tr p o h; b.tr p o1 h1, fun q h => b.bz q (a.bz q h), fun q h => by
    rcases b.nb q h with h | h
    · exact a.nb q h
    · refine .inr ?_
      cases e : H q with
      | none => rfl
      | some o =>
        obtain ⟨o1, h1⟩ := a.tr q o e
        rw [h] at h1; cases h1⟩
theorem Ext.out (e : Ext L H L' H') {p : Addr} {o : HO} (h : H p = some o) (hn : p ∉ L.all) : (∃ o', H' p = some o' ∧ Lk o o') ∧ p ∉ L'.all := by
  obtain ⟨n1, n2⟩ := Lv.nall.mp hn
  obtain ⟨a, b⟩ := e.keep p o h n1
  refine ⟨a, Lv.nall.mpr ⟨b, fun m => ?_⟩⟩
  rcases e.nb p m with m | m
  · exact n2 m
  · rw [h] at m; cases m
theorem Ext.e0 (e : Ext L H L' H') : Ext0 L H L' H' := ⟨e.pre, fun p o h n => e.out h n⟩
theorem Std.ext {p : Addr} {u : HO} (s : Std H p u) (hn : p ∉ L.all) (e : Ext0 L H L' H') : Std H' p u ∧ p ∉ L'.all := by
  obtain ⟨o, h, eo⟩ := s
  obtain ⟨⟨o', h', e'⟩, n'⟩ := e.out p o h hn
  exact ⟨⟨o', h', e'.core.trans eo⟩, n'⟩
theorem Std.rd {p : Addr} {u : HO} (s : Std H p u) : Rd H p u := by
  obtain ⟨o, h, e⟩ := s
  cases o with
  | frz o' x => exact .inr ⟨o', by rw [h]; exact congrArg some (congrArg (HO.frz o') e)⟩
  | _ => exact .inl (by rw [h]; exact congrArg some e)
theorem Std.of {p : Addr} {u : HO} (h : H p = some u) (hu : core u = u) : Std H p u := ⟨u, h, hu⟩
theorem Ext0.same (e : Ext0 L H L' H') {p : Addr} {o : HO} (h : H p = some o) (hn : p ∉ L.all) (d : isDk (EV.core o) = false) : H' p = some o ∧ p ∉ L'.all := by
  obtain ⟨⟨o', h', l⟩, n'⟩ := e.out p o h hn
  rw [l.eq d] at h'
  exact ⟨h', n'⟩
mutual
theorem PR.ext0 (e : Ext0 L H L' H') : ∀ {x : PyData} {v : V}, PR K L H x v → PR K L' H' x v
  | _, _, .non => .non
  | _, _, .bl b => .bl b
  | _, _, .int i => .int i
  | _, _, .str x => .str x
  | _, _, .tup s n r => let q := e.same s n rfl; .tup q.1 q.2 (PRs.ext0 e r)
  | _, _, .tupK k r => .tupK k (PRs.ext0 e r)
  | _, _, .lst s n r => let q := e.same s n rfl; .lst q.1 q.2 (PRs.ext0 e r)
theorem PRs.ext0 (e : Ext0 L H L' H') : ∀ {xs : List PyData} {vs : List V}, PRs K L H xs vs → PRs K L' H' xs vs
  | _, _, .nil => .nil
  | _, _, .cons a b => .cons (PR.ext0 e a) (PRs.ext0 e b)
end
theorem SlAt.ext0 {p C dx : Addr} {vs : List (Option V)} (e : Ext0 L H L' H') (s : SlAt H p C dx vs) (h1 : p ∉ L.all) (h2 : dx ∉ L.all) : SlAt H' p C dx vs ∧ p ∉ L'.all ∧ dx ∉ L'.all := by
  obtain ⟨a, b, q⟩ := s
  have ea := e.same a h2 rfl
  rcases q with q | ⟨q1, q2⟩
  · have eb := e.same q h1 rfl
    exact ⟨⟨ea.1, b, .inl eb.1⟩, eb.2, ea.2⟩
  · have eb := e.same q2 h1 rfl
    exact ⟨⟨ea.1, b, .inr ⟨q1, eb.1⟩⟩, eb.2, ea.2⟩
mutual
theorem SR.ext0 (e : Ext0 L H L' H') : ∀ {x : S} {v : V}, SR K c L H x v → SR K c L' H' x v
  | _, _, .d r => .d (PR.ext0 e r)
  | _, _, .ref h => .ref (e.pre _ _ h)
  | _, _, .ins n1 n2 s r => let q := SlAt.ext0 e s n1 n2; .ins q.2.1 q.2.2 q.1 (SRs.ext0 e r)
  | _, _, .dct n s r => let q := s.ext n e; .dct q.2 q.1 (KRs.ext0 e r)
  | _, _, .scr (.inl ⟨s, n⟩) => let q := s.ext n e; .scr (.inl ⟨q.1, q.2⟩)
  | _, _, .scr (.inr h) => .scr (.inr h)
theorem SRs.ext0 (e : Ext0 L H L' H') : ∀ {xs : List S} {vs : List V}, SRs K c L H xs vs → SRs K c L' H' xs vs
  | _, _, .nil => .nil
  | _, _, .cons a b => .cons (SR.ext0 e a) (SRs.ext0 e b)
theorem KRs.ext0 (e : Ext0 L H L' H') : ∀ {xs : List (Key × S)} {vs : List (Key × V)}, KRs K c L H xs vs → KRs K c L' H' xs vs
  | _, _, .nil => .nil
  | _, _, .cons a b => .cons (SR.ext0 e a) (KRs.ext0 e b)
end
theorem GR.ext0 (e : Ext0 L H L' H') {ss : Sd} {σ : L2.St} (g : GR K c L H ss σ) : GR K c L' H' ss σ :=
  ⟨g.len, fun i x h => let ⟨v, a, r⟩ := g.at_ i x h; ⟨v, a, r.ext0 e⟩⟩
theorem FRs.ext0 (e : Ext0 L H L' H') : ∀ {xs : List (Str × S)} {vs : List (Str × V)}, FRs K c L H xs vs → FRs K c L' H' xs vs
  | _, _, .nil => .nil
  | _, _, .cons a b => .cons (SR.ext0 e a) (FRs.ext0 e b)
theorem ORs.ext0 (e : Ext0 L H L' H') : ∀ {xs : List (Option S)} {vs : List (Option V)}, ORs K c L H xs vs → ORs K c L' H' xs vs
  | _, _, .nil => .nil
  | _, _, .non r => .non (ORs.ext0 e r)
  | _, _, .cons a b => .cons (SR.ext0 e a) (ORs.ext0 e b)

theorem Ext.same (e : Ext L H L' H') {p : Addr} {o : HO} (h : H p = some o) (hn : p ∉ L.all) (d : isDk (EV.core o) = false) : H' p = some o ∧ p ∉ L'.all := e.e0.same h hn d
theorem PR.ext (e : Ext L H L' H') {x : PyData} {v : V} (r : PR K L H x v) : PR K L' H' x v := r.ext0 e.e0
theorem PRs.ext (e : Ext L H L' H') {x : List PyData} {v : List V} (r : PRs K L H x v) : PRs K L' H' x v := r.ext0 e.e0
theorem SR.ext (e : Ext L H L' H') {x : S} {v : V} (r : SR K c L H x v) : SR K c L' H' x v := r.ext0 e.e0
theorem SRs.ext (e : Ext L H L' H') {x : List S} {v : List V} (r : SRs K c L H x v) : SRs K c L' H' x v := r.ext0 e.e0
theorem KRs.ext (e : Ext L H L' H') {x : List (Key × S)} {v : List (Key × V)} (r : KRs K c L H x v) : KRs K c L' H' x v := r.ext0 e.e0
theorem GR.ext (e : Ext L H L' H') {ss : Sd} {σ : L2.St} (r : GR K c L H ss σ) : GR K c L' H' ss σ := r.ext0 e.e0
theorem FRs.ext (e : Ext L H L' H') {x : List (Str × S)} {v : List (Str × V)} (r : FRs K c L H x v) : FRs K c L' H' x v := r.ext0 e.e0
theorem ORs.ext (e : Ext L H L' H') {x : List (Option S)} {v : List (Option V)} (r : ORs K c L H x v) : ORs K c L' H' x v := r.ext0 e.e0

/-! ### results -/
/-- an exception: its class, its fields -/
abbrev Exn := Nat × List (Str × S)
inductive Rs (β : Type) where
  | ok (r : β) (hd : Hd)
  | ex (e : Exn) (hd : Hd)
abbrev R (β : Type) := Option (Rs β)
def bnd {α β : Type} (m : R α) (k : α → Hd → R β) : R β :=
  match m with
  | some (.ok a h) => k a h
  | some (.ex e h) => some (.ex e h)
  | none => none
@[simp] theorem bnd_ok {α β : Type} (a : α) (h : Hd) (k : α → Hd → R β) : bnd (some (.ok a h)) k = k a h := rfl
@[simp] theorem bnd_ex {α β : Type} (e : Exn) (h : Hd) (k : α → Hd → R β) : bnd (some (.ex e h)) k = some (.ex e h) := rfl
@[simp] theorem bnd_none {α β : Type} (k : α → Hd → R β) : bnd none k = none := rfl
variable (K c)
/-- what is wanted of an exception -/
def WX (E : XK) (e : Exn) (hd : Hd) (L : Lv) (H : Hp) : Prop :=
  ∀ (d : Addr) (fs : List (Str × V)), H d = none → FRs K c L H e.2 fs → E (.ref (c e.1)) (some d) (upd H d (.xd fs))
def OutP {β : Type} (E : XK) (L : Lv) (H : Hp) (P : β → Hd → Lv → Hp → Prop) (r : R β) : Prop :=
  match r with
  | some (.ok a hd) => ∀ L' H', Ext L H L' H' → RP K c L' H' hd → P a hd L' H'
  | some (.ex e hd) => ∀ L' H', Ext L H L' H' → RP K c L' H' hd → WX K c E e hd L' H'
  | none => False
abbrev FE := Sd → Hd → R S
def TEof (E : XK) (f : FE) : TE := fun σ H Q => ∃ L hd ss, RP K c L H hd ∧ GR K c L H ss σ ∧ OutP K c E L H (fun r _ L' H' => ∀ v, SR K c L' H' r v → Q v H') (f ss hd)
def TTof (E : XK) (f : Sd → Hd → R Bool) : TT := fun σ H Q => ∃ L hd ss, RP K c L H hd ∧ GR K c L H ss σ ∧ OutP K c E L H (fun r _ _ H' => Q r H') (f ss hd)
def TAof (E : XK) (f : Sd → Hd → R (List S)) : TA := fun σ H Q => ∃ L hd ss, RP K c L H hd ∧ GR K c L H ss σ ∧ OutP K c E L H (fun r _ L' H' => ∀ vs, SRs K c L' H' r vs → Q vs H') (f ss hd)
inductive Fl where
  | nx (ss : Sd)
  | rt (x : S)
  | bk (ss : Sd)
  | ct (ss : Sd)
abbrev FS := Sd → Hd → R Fl
def FlP (D : Ends) (r : Fl) (L : Lv) (H : Hp) : Prop :=
  match r with
  | .nx ss => ∀ σ, GR K c L H ss σ → D.nx σ H
  | .rt x => ∀ v, SR K c L H x v → D.rt v H
  | .bk ss => ∀ σ, GR K c L H ss σ → D.bk σ H
  | .ct ss => ∀ σ, GR K c L H ss σ → D.ct σ H
def TSof (E : XK) (f : FS) : TS := fun D σ H => ∃ L hd ss, RP K c L H hd ∧ GR K c L H ss σ ∧ OutP K c E L H (fun r _ L' H' => FlP K c D r L' H') (f ss hd)
variable {K c}
theorem OutP.bnd {α β : Type} {E : XK} {P : β → Hd → Lv → Hp → Prop} {m : R α} {k : α → Hd → R β}
    (h : OutP K c E L H P (bnd m k)) : OutP K c E L H (fun a hd L' H' => OutP K c E L' H' P (k a hd)) m := by
  cases m with
  | none => exact h
  | some r =>
    cases r with
    | ex e hd => exact h
    | ok a hd =>
      intro L' H' x rp
      have h : OutP K c E L H P (k a hd) := h
      cases hk : k a hd with
      | none => rw [hk] at h; exact h
      | some r =>
        rw [hk] at h
        cases r with
        | ok b hd2 => exact fun M2 H2 y rp2 => h M2 H2 (x.trans y) rp2
        | ex e hd2 => exact fun M2 H2 y rp2 => h M2 H2 (x.trans y) rp2
theorem OutP.imp {α : Type} {E : XK} {P P' : α → Hd → Lv → Hp → Prop} {m : R α}
    (h : OutP K c E L H P m) (i : ∀ a hd L' H', m = some (.ok a hd) → Ext L H L' H' → RP K c L' H' hd → P a hd L' H' → P' a hd L' H') : OutP K c E L H P' m := by
  cases m with
  | none => exact h
  | some r =>
    cases r with
    | ex e hd => exact h
    | ok a hd => exact fun L' H' x rp => i a hd L' H' rfl x rp (h L' H' x rp)
/-- a pure end -/
theorem OutP.here {α : Type} {E : XK} {P : α → Hd → Lv → Hp → Prop} {a : α} {hd : Hd} (h : OutP K c E L H P (some (.ok a hd))) (rp : RP K c L H hd) : P a hd L H := h L H .refl rp
end EV

set_option Elab.async false
set_option linter.all false
set_option maxRecDepth 100000
set_option maxHeartbeats 2000000
/-! E2: new objects, writes; sequences read; the values' inversions. -/
namespace EV
open PySem PySem.Spec PyProof.Rows L2
variable {K : PySem.W.Frag} {c : Nat → Addr} {L L' M2 : Lv} {H H' H2 : Hp} {hd hd' : Hd}

theorem CR.some {o : O} {p : Addr} (h : CR K c L H o p) : ∃ u, H p = some u := by
  cases h with
  | lst e _ => exact ⟨_, e⟩
  | dct e _ => exact ⟨_, e⟩
  | ins e _ => exact ⟨_, e⟩
  | slt _ s _ =>
    obtain ⟨_, _, q | ⟨_, q⟩⟩ := s
    · exact ⟨_, q⟩
    · exact ⟨_, q⟩
theorem RP.get (rp : RP K c L H hd) {n : Nat} {p : Addr} (h : L.cs[n]? = some p) : ∃ o, hd[n]? = some o ∧ CR K c L H o p := by
  have hl : n < hd.length := by rw [← rp.len]; exact (List.getElem?_eq_some_iff.mp h).1
  exact ⟨hd[n], List.getElem?_eq_getElem hl, rp.at_ n p _ h (List.getElem?_eq_getElem hl)⟩
theorem RP.addr (rp : RP K c L H hd) {n : Nat} {o : O} (h : hd[n]? = some o) : ∃ p, L.cs[n]? = some p ∧ CR K c L H o p := by
  have hl : n < L.cs.length := by rw [rp.len]; exact (List.getElem?_eq_some_iff.mp h).1
  exact ⟨L.cs[n], List.getElem?_eq_getElem hl, rp.at_ n _ o (List.getElem?_eq_getElem hl) h⟩
theorem RP.tracked (rp : RP K c L H hd) {p : Addr} (h : p ∈ L.all) : ∃ u, H p = some u := by
  rcases List.mem_append.mp h with h | h
  · obtain ⟨n, hn⟩ := List.getElem?_of_mem h
    obtain ⟨o, _, q⟩ := rp.get hn
    exact q.some
  · exact rp.bt p h
theorem Lv.mem_cs {L : Lv} {n : Nat} {p : Addr} (h : L.cs[n]? = some p) : p ∈ L.all := List.mem_append_left _ (List.mem_of_getElem? h)
theorem RP.free (rp : RP K c L H hd) {p : Addr} (h : H p = none) : p ∉ L.all := fun m => by
  obtain ⟨u, e⟩ := rp.tracked m
  rw [h] at e; cases e
theorem CR.ext0 {o : O} {p : Addr} (h : CR K c L H o p) (e : Ext0 L H L' H') (k : H' p = H p) : CR K c L' H' o p := by
  cases h with
  | lst a r => exact .lst (k.trans a) (r.ext0 e)
  | dct a r => exact .dct (k.trans a) (r.ext0 e)
  | ins a r => exact .ins (k.trans a) (r.ext0 e)
  | slt n s r =>
    obtain ⟨a, b, q⟩ := s
    have ea := e.same a n rfl
    refine .slt ea.2 ⟨ea.1, b, ?_⟩ (r.ext0 e)
    rw [k]; exact q
theorem CR.ext {o : O} {p : Addr} (h : CR K c L H o p) (e : Ext L H L' H') (k : H' p = H p) : CR K c L' H' o p := h.ext0 e.e0 k
/-- a new object outside of the live ones -/
theorem ext_new (rp : RP K c L H hd) {p : Addr} (hp : H p = none) (o : HO) : Ext L H L (upd H p o) :=
  ⟨fun _ _ h => h, fun q u h n => ⟨⟨u, by rw [upd_ne (ne_of_none h hp)]; exact h, .inl rfl⟩, n⟩, fun q u h => ⟨u, by rw [upd_ne (ne_of_none h hp)]; exact h⟩, fun _ h => h, fun _ h => .inl h⟩
theorem rp_new (rp : RP K c L H hd) {p : Addr} (hp : H p = none) (o : HO) : RP K c L (upd H p o) hd :=
  ⟨rp.nd, rp.len, fun b hb => by
    obtain ⟨w, e⟩ := rp.bt b hb
    exact ⟨w, by rw [upd_ne (ne_of_none e hp)]; exact e⟩, rp.nbz, fun n q u h1 h2 => (rp.at_ n q u h1 h2).ext (ext_new rp hp o) (by
    obtain ⟨w, e⟩ := rp.tracked (Lv.mem_cs h1)
    rw [upd_ne (ne_of_none e hp)])⟩
/-- one more live cell -/
def Lv.snoc (L : Lv) (p : Addr) : Lv := ⟨L.cs ++ [p], L.bz⟩
theorem ext_live (rp : RP K c L H hd) {p : Addr} (hp : H p = none) (o : HO) : Ext L H (L.snoc p) (upd H p o) :=
  ⟨fun n q h => by
    show (L.cs ++ [p])[n]? = _
    rw [List.getElem?_append_left (List.getElem?_eq_some_iff.mp h).1]; exact h,
   fun q u h n => ⟨⟨u, by rw [upd_ne (ne_of_none h hp)]; exact h, .inl rfl⟩, by
    show q ∉ L.cs ++ [p]
    rw [List.mem_append, List.mem_singleton, not_or]; exact ⟨n, ne_of_none h hp⟩⟩, fun q u h => ⟨u, by rw [upd_ne (ne_of_none h hp)]; exact h⟩, fun _ h => h, fun _ h => .inl h⟩
theorem rp_live (rp : RP K c L H hd) {p : Addr} (hp : H p = none) {o : HO} {u : O} (cr : CR K c (L.snoc p) (upd H p o) u p) : RP K c (L.snoc p) (upd H p o) (hd ++ [u]) := by
  have hn := (Lv.nall.mp (rp.free hp)).1
  refine ⟨?_, by show (L.cs ++ [p]).length = _; rw [List.length_append, List.length_append, rp.len]; rfl, fun b hb => ?_, fun q hq => ?_, fun n q v h1 h2 => ?_⟩
  · show (L.cs ++ [p]).Nodup
    rw [List.nodup_append]
    refine ⟨rp.nd, by simp, fun a ha b hb => ?_⟩
    rw [List.mem_singleton] at hb
    rw [hb]; exact fun z => hn (z ▸ ha)
  · obtain ⟨w, e⟩ := rp.bt b hb
    exact ⟨w, by rw [upd_ne (ne_of_none e hp)]; exact e⟩
  · rcases List.mem_append.mp (show q ∈ L.cs ++ [p] from hq) with hq | hq
    · exact rp.nbz q hq
    · rw [List.mem_singleton] at hq
      rw [hq]; exact (Lv.nall.mp (rp.free hp)).2
  · have h1 : (L.cs ++ [p])[n]? = some q := h1
    by_cases hlt : n < L.cs.length
    · rw [List.getElem?_append_left hlt] at h1
      rw [List.getElem?_append_left (by rw [← rp.len]; exact hlt)] at h2
      refine (rp.at_ n q v h1 h2).ext (ext_live rp hp o) ?_
      obtain ⟨w, e⟩ := rp.tracked (Lv.mem_cs h1)
      rw [upd_ne (ne_of_none e hp)]
    · rw [List.getElem?_append_right (by omega)] at h1
      rw [List.getElem?_append_right (by rw [← rp.len]; omega)] at h2
      have e0 : n - L.cs.length = 0 := by
        have := (List.getElem?_eq_some_iff.mp h1).1
        simp at this; omega
      rw [e0] at h1
      rw [← rp.len, e0] at h2
      simp at h1 h2
      subst h1 h2
      exact cr
theorem snoc_at (L : Lv) (p : Addr) : (L.snoc p).cs[L.cs.length]? = some p := by show (L.cs ++ [p])[L.cs.length]? = _; simp
/-- a live cell is written -/
theorem ext_set (rp : RP K c L H hd) {n : Nat} {p : Addr} (h : L.cs[n]? = some p) (o : HO) : Ext L H L (upd H p o) :=
  ⟨fun _ _ h => h, fun q u hq nq => ⟨⟨u, by
    have ne : q ≠ p := by
      rintro rfl
      exact nq (List.mem_of_getElem? h)
    rw [upd_ne ne]; exact hq, .inl rfl⟩, nq⟩, fun q u h => by
    by_cases e : q = p
    · exact ⟨o, by rw [e]; exact upd_same⟩
    · exact ⟨u, by rw [upd_ne e]; exact h⟩, fun _ h => h, fun _ h => .inl h⟩
theorem nodup_getElem? {α : Type} {L : List α} (nd : L.Nodup) {i j : Nat} {x : α} (h1 : L[i]? = some x) (h2 : L[j]? = some x) : i = j := by
  obtain ⟨a, e1⟩ := List.getElem?_eq_some_iff.mp h1
  obtain ⟨b, e2⟩ := List.getElem?_eq_some_iff.mp h2
  exact (List.getElem_inj nd).mp (e1.trans e2.symm)
theorem rp_set (rp : RP K c L H hd) {n : Nat} {p : Addr} (h : L.cs[n]? = some p) {o : HO} {u : O} (cr : CR K c L (upd H p o) u p) : RP K c L (upd H p o) (hd.set n u) := by
  refine ⟨rp.nd, by rw [List.length_set]; exact rp.len, fun b hb => ?_, rp.nbz, fun m q v h1 h2 => ?_⟩
  · by_cases hbp : b = p
    · exact ⟨o, by rw [hbp]; exact upd_same⟩
    · obtain ⟨w, e⟩ := rp.bt b hb
      exact ⟨w, by rw [upd_ne hbp]; exact e⟩
  by_cases hm : m = n
  · subst hm
    rw [h] at h1; cases h1
    have hlt : m < hd.length := by rw [← rp.len]; exact (List.getElem?_eq_some_iff.mp h).1
    rw [List.getElem?_set_self hlt] at h2
    cases h2
    exact cr
  · rw [List.getElem?_set_ne (Ne.symm hm)] at h2
    refine (rp.at_ m q v h1 h2).ext (ext_set rp h o) ?_
    rw [upd_ne]
    rintro rfl
    exact hm (nodup_getElem? rp.nd h1 h)

/-! ### an object that is being made: busy -/
def Lv.busy (L : Lv) (p : Addr) : Lv := ⟨L.cs, p :: L.bz⟩
theorem busy_all {L : Lv} {p q : Addr} (h : q ∉ L.all) (n : q ≠ p) : q ∉ (L.busy p).all := by
  obtain ⟨a, b⟩ := Lv.nall.mp h
  exact Lv.nall.mpr ⟨a, by show q ∉ p :: L.bz; rw [List.mem_cons, not_or]; exact ⟨n, b⟩⟩
theorem busy_less {L : Lv} {p q : Addr} (h : q ∉ (L.busy p).all) : q ∉ L.all ∧ q ≠ p := by
  obtain ⟨a, b⟩ := Lv.nall.mp h
  have b : q ∉ p :: L.bz := b
  rw [List.mem_cons, not_or] at b
  exact ⟨Lv.nall.mpr ⟨a, b.2⟩, b.1⟩
theorem ext_busy (rp : RP K c L H hd) {p : Addr} (hp : H p = none) (o : HO) : Ext L H (L.busy p) (upd H p o) :=
  ⟨fun _ _ h => h, fun q u h n => ⟨⟨u, by rw [upd_ne (ne_of_none h hp)]; exact h, .inl rfl⟩, n⟩, fun q u h => ⟨u, by rw [upd_ne (ne_of_none h hp)]; exact h⟩, fun q h => List.mem_cons_of_mem _ h, fun q h => by
    rcases List.mem_cons.mp h with rfl | h
    · exact .inr hp
    · exact .inl h⟩
theorem rp_busy (rp : RP K c L H hd) {p : Addr} (hp : H p = none) (o : HO) : RP K c (L.busy p) (upd H p o) hd :=
  ⟨rp.nd, rp.len, fun b hb => by
    rcases List.mem_cons.mp hb with rfl | hb
    · exact ⟨o, upd_same⟩
    · obtain ⟨w, e⟩ := rp.bt b hb
      exact ⟨w, by rw [upd_ne (ne_of_none e hp)]; exact e⟩, fun q hq m => by
    rcases List.mem_cons.mp m with rfl | m
    · exact (Lv.nall.mp (rp.free hp)).1 hq
    · exact rp.nbz q hq m, fun n q u h1 h2 => (rp.at_ n q u h1 h2).ext (ext_busy rp hp o) (by
    obtain ⟨w, e⟩ := rp.tracked (Lv.mem_cs h1)
    rw [upd_ne (ne_of_none e hp)])⟩
/-- fewer addresses are shut out, or the same -/
structure Less (L L' : Lv) : Prop where
  cs : ∀ (n : Nat) (p : Addr), L.cs[n]? = some p → L'.cs[n]? = some p
  all : ∀ {p : Addr}, p ∉ L.all → p ∉ L'.all
theorem Less.of {cs bz bz' : List Addr} (h : ∀ b ∈ bz', b ∈ bz) : Less ⟨cs, bz⟩ ⟨cs, bz'⟩ := ⟨fun _ _ h => h, fun {p} n => by
  obtain ⟨a, b⟩ := Lv.nall.mp n
  exact Lv.nall.mpr ⟨a, fun m => b (h p m)⟩⟩
mutual
theorem PR.less (l : Less L L') : ∀ {x : PyData} {v : V}, PR K L H x v → PR K L' H x v
  | _, _, .non => .non
  | _, _, .bl b => .bl b
  | _, _, .int i => .int i
  | _, _, .str x => .str x
  | _, _, .tup s n r => .tup s (l.all n) (PRs.less l r)
  | _, _, .tupK k r => .tupK k (PRs.less l r)
  | _, _, .lst s n r => .lst s (l.all n) (PRs.less l r)
theorem PRs.less (l : Less L L') : ∀ {xs : List PyData} {vs : List V}, PRs K L H xs vs → PRs K L' H xs vs
  | _, _, .nil => .nil
  | _, _, .cons a b => .cons (PR.less l a) (PRs.less l b)
end
mutual
theorem SR.less (l : Less L L') : ∀ {x : S} {v : V}, SR K c L H x v → SR K c L' H x v
  | _, _, .d r => .d (PR.less l r)
  | _, _, .ref h => .ref (l.cs _ _ h)
  | _, _, .ins n1 n2 s r => .ins (l.all n1) (l.all n2) s (SRs.less l r)
  | _, _, .dct n s r => .dct (l.all n) s (KRs.less l r)
  | _, _, .scr (.inl ⟨s, n⟩) => .scr (.inl ⟨s, l.all n⟩)
  | _, _, .scr (.inr h) => .scr (.inr h)
theorem SRs.less (l : Less L L') : ∀ {xs : List S} {vs : List V}, SRs K c L H xs vs → SRs K c L' H xs vs
  | _, _, .nil => .nil
  | _, _, .cons a b => .cons (SR.less l a) (SRs.less l b)
theorem KRs.less (l : Less L L') : ∀ {xs : List (Key × S)} {vs : List (Key × V)}, KRs K c L H xs vs → KRs K c L' H xs vs
  | _, _, .nil => .nil
  | _, _, .cons a b => .cons (SR.less l a) (KRs.less l b)
end
theorem FRs.less (l : Less L L') : ∀ {xs : List (Str × S)} {vs : List (Str × V)}, FRs K c L H xs vs → FRs K c L' H xs vs
  | _, _, .nil => .nil
  | _, _, .cons a b => .cons (SR.less l a) (FRs.less l b)
theorem ORs.less (l : Less L L') : ∀ {xs : List (Option S)} {vs : List (Option V)}, ORs K c L H xs vs → ORs K c L' H xs vs
  | _, _, .nil => .nil
  | _, _, .non r => .non (ORs.less l r)
  | _, _, .cons a b => .cons (SR.less l a) (ORs.less l b)
theorem CR.less (l : Less L L') {o : O} {p : Addr} (h : CR K c L H o p) : CR K c L' H o p := by
  cases h with
  | lst a r => exact .lst a (r.less l)
  | dct a r => exact .dct a (r.less l)
  | ins a r => exact .ins a (r.less l)
  | slt n s r => exact .slt (l.all n) s (r.less l)
theorem RP.less {cs bz bz' : List Addr} (h : ∀ b ∈ bz', b ∈ bz) (rp : RP K c ⟨cs, bz⟩ H hd) : RP K c ⟨cs, bz'⟩ H hd :=
  ⟨rp.nd, rp.len, fun b hb => rp.bt b (h b hb), fun p hp m => rp.nbz p hp (h p m), fun n p o h1 h2 => (rp.at_ n p o h1 h2).less (.of h)⟩
/-- what was made becomes a live cell -/
theorem less_snoc {cs bz : List Addr} {D : Addr} : Less ⟨cs, D :: bz⟩ ⟨cs ++ [D], bz⟩ := ⟨fun n p h => by
    show (cs ++ [D])[n]? = _
    rw [List.getElem?_append_left (List.getElem?_eq_some_iff.mp h).1]; exact h, fun {p} n => by
  obtain ⟨a, b⟩ := Lv.nall.mp n
  have b : p ∉ D :: bz := b
  rw [List.mem_cons, not_or] at b
  exact Lv.nall.mpr ⟨by show p ∉ cs ++ [D]; rw [List.mem_append, List.mem_singleton, not_or]; exact ⟨a, b.1⟩, b.2⟩⟩
theorem rp_snoc {cs bz : List Addr} {D : Addr} {u : O} (rp : RP K c ⟨cs, D :: bz⟩ H hd) (hn : D ∉ cs) (hb : D ∉ bz) (cr : CR K c ⟨cs ++ [D], bz⟩ H u D) : RP K c ⟨cs ++ [D], bz⟩ H (hd ++ [u]) := by
  have hl : cs.length = hd.length := rp.len
  refine ⟨?_, by show (cs ++ [D]).length = _; rw [List.length_append, List.length_append, hl]; rfl, fun b hb => rp.bt b (List.mem_cons_of_mem _ hb), fun q hq m => ?_, fun n q v h1 h2 => ?_⟩
  · show (cs ++ [D]).Nodup
    rw [List.nodup_append]
    refine ⟨rp.nd, by simp, fun a ha b hb => ?_⟩
    rw [List.mem_singleton] at hb
    rw [hb]; exact fun z => hn (z ▸ ha)
  · rcases List.mem_append.mp (show q ∈ cs ++ [D] from hq) with hq | hq
    · exact rp.nbz q hq (List.mem_cons_of_mem _ m)
    · rw [List.mem_singleton] at hq
      rw [hq] at m; exact hb m
  · have h1 : (cs ++ [D])[n]? = some q := h1
    by_cases hlt : n < cs.length
    · rw [List.getElem?_append_left hlt] at h1
      rw [List.getElem?_append_left (by rw [← hl]; exact hlt)] at h2
      exact (rp.at_ n q v h1 h2).less less_snoc
    · rw [List.getElem?_append_right (by omega)] at h1
      rw [List.getElem?_append_right (by rw [← hl]; omega)] at h2
      have e0 : n - cs.length = 0 := by
        have := (List.getElem?_eq_some_iff.mp h1).1
        simp at this; omega
      rw [e0] at h1
      rw [← hl, e0] at h2
      simp at h1 h2
      subst h1 h2
      exact cr
theorem Ext.reset {L1 : Lv} {cs bz : List Addr} (x : Ext L1 H ⟨cs, bz⟩ H') : Ext L1 H ⟨cs, L1.bz⟩ H' := ⟨x.pre, x.keep, x.tr, fun _ h => h, fun _ h => .inl h⟩
theorem Ext.addb {L1 : Lv} {cs : List Addr} {D : Addr} (x : Ext L1 H ⟨cs, L1.bz⟩ H') (h : H D = none) : Ext L1 H ⟨cs, D :: L1.bz⟩ H' := ⟨x.pre, x.keep, x.tr, fun _ h => List.mem_cons_of_mem _ h, fun b hb => by
  rcases List.mem_cons.mp hb with rfl | hb
  · exact .inr h
  · exact .inl hb⟩
theorem Ext.snoc {L1 : Lv} {cs : List Addr} {D : Addr} (x : Ext L1 H ⟨cs, L1.bz⟩ H') (h : H D = none) : Ext L1 H ⟨cs ++ [D], L1.bz⟩ H' := ⟨fun n p q => by
    show (cs ++ [D])[n]? = _
    have q2 : cs[n]? = some p := x.pre n p q
    rw [List.getElem?_append_left (List.getElem?_eq_some_iff.mp q2).1]; exact q2, fun p o hp hn => by
  obtain ⟨a, b⟩ := x.keep p o hp hn
  exact ⟨a, by show p ∉ cs ++ [D]; rw [List.mem_append, List.mem_singleton, not_or]; exact ⟨b, ne_of_none hp h⟩⟩, x.tr, fun _ h => h, fun _ h => .inl h⟩
theorem Ext.updD {L1 L2 : Lv} {D : Addr} (x : Ext L1 H L2 H') (h : H D = none) (o : HO) : Ext L1 H L2 (upd H' D o) := ⟨x.pre, fun p u hp hn => by
  rw [upd_ne (ne_of_none hp h)]; exact x.keep p u hp hn, fun p u hp => by rw [upd_ne (ne_of_none hp h)]; exact x.tr p u hp, x.bz, x.nb⟩
/-- a busy object is written -/
theorem ext_wr {p : Addr} (hb : p ∈ L.bz) (o : HO) : Ext0 L H L (upd H p o) :=
  ⟨fun _ _ h => h, fun q u h n => ⟨⟨u, by
    have ne : q ≠ p := by
      rintro rfl
      exact n (List.mem_append_right _ hb)
    rw [upd_ne ne]; exact h, .inl rfl⟩, n⟩⟩
theorem rp_wr (rp : RP K c L H hd) {p : Addr} (hb : p ∈ L.bz) (hn : p ∉ L.cs) (o : HO) : RP K c L (upd H p o) hd :=
  ⟨rp.nd, rp.len, fun b h => by
    by_cases e : b = p
    · exact ⟨o, by rw [e]; exact upd_same⟩
    · obtain ⟨w, q⟩ := rp.bt b h
      exact ⟨w, by rw [upd_ne e]; exact q⟩, rp.nbz, fun n q u h1 h2 => (rp.at_ n q u h1 h2).ext0 (ext_wr hb o) (by
    rw [upd_ne]
    rintro rfl
    exact hn (List.mem_of_getElem? h1))⟩

/-! ### inversions -/
theorem SR.int {i : Int} {v : V} (h : SR K c L H (.d (.int i)) v) : v = .int i := by cases h with | d h => cases h; rfl
theorem SR.str {x : Str} {v : V} (h : SR K c L H (.d (.str x)) v) : v = .str x := by cases h with | d h => cases h; rfl
theorem SR.bl {b : Bool} {v : V} (h : SR K c L H (.d (.bool b)) v) : v = .bl b := by cases h with | d h => cases h; rfl
theorem SR.non {v : V} (h : SR K c L H (.d .none) v) : v = .non := by cases h with | d h => cases h; rfl
theorem SR.lst {ds : List PyData} {v : V} (h : SR K c L H (.d (.list ds)) v) : ∃ p vs, v = .ref p ∧ H p = some (.lst vs) ∧ p ∉ L.all ∧ PRs K L H ds vs := by
  cases h with | d h => cases h with | lst a b r => exact ⟨_, _, rfl, a, b, r⟩
theorem SR.tup {ds : List PyData} {v : V} (h : SR K c L H (.d (.tuple ds)) v) : ∃ p vs, v = .ref p ∧ SqT K H p vs ∧ PRs K L H ds vs := by
  cases h with
  | d h =>
    cases h with
    | tup a b r => exact ⟨_, _, rfl, .inl (.inl a), r⟩
    | tupK k r =>
      obtain ⟨o, its, n, e⟩ := k
      exact ⟨_, _, rfl, .inr ⟨o, its, n, e⟩, r⟩
theorem SR.ref_ {n : Nat} {v : V} (h : SR K c L H (.ref n) v) : ∃ p, v = .ref p ∧ L.cs[n]? = some p := by cases h with | ref h => exact ⟨_, rfl, h⟩
theorem SR.scr_ {ns : List Int} {v : V} (h : SR K c L H (.scr ns) v) : ∃ p, v = .ref p ∧ SqL K H p (ns.map V.int) := by
  cases h with
  | scr h =>
    rcases h with ⟨s, _⟩ | ⟨o, its, n, a⟩
    · exact ⟨_, rfl, .inl s.rd⟩
    · exact ⟨_, rfl, .inr ⟨o, its, n, a⟩⟩
theorem PRs.srs : ∀ {ds : List PyData} {vs : List V}, PRs K L H ds vs → SRs K c L H (ds.map .d) vs
  | _, _, .nil => .nil
  | _, _, .cons a b => .cons (.d a) (PRs.srs b)
theorem PRs.length : ∀ {ds : List PyData} {vs : List V}, PRs K L H ds vs → ds.length = vs.length
  | _, _, .nil => rfl
  | _, _, .cons _ b => by simp [PRs.length b]
theorem SRs.length : ∀ {ds : List S} {vs : List V}, SRs K c L H ds vs → ds.length = vs.length
  | _, _, .nil => rfl
  | _, _, .cons _ b => by simp [SRs.length b]
theorem SRs.get : ∀ {ds : List S} {vs : List V} {i : Nat} {x : S}, SRs K c L H ds vs → ds[i]? = some x → ∃ v, vs[i]? = some v ∧ SR K c L H x v
  | _, _, _, _, .nil, e => by simp at e
  | _, _, 0, _, .cons a _, e => by simp at e; subst e; exact ⟨_, rfl, a⟩
  | _, _, i + 1, _, .cons _ b, e => by
    obtain ⟨v, h1, h2⟩ := SRs.get (i := i) b (by simpa using e)
    exact ⟨v, by simpa using h1, h2⟩
theorem SRs.get' : ∀ {ds : List S} {vs : List V} {i : Nat} {v : V}, SRs K c L H ds vs → vs[i]? = some v → ∃ x, ds[i]? = some x ∧ SR K c L H x v
  | _, _, _, _, .nil, e => by simp at e
  | _, _, 0, _, .cons a _, e => by simp at e; subst e; exact ⟨_, rfl, a⟩
  | _, _, i + 1, _, .cons _ b, e => by
    obtain ⟨v, h1, h2⟩ := SRs.get' (i := i) b (by simpa using e)
    exact ⟨v, by simpa using h1, h2⟩
theorem SRs.append : ∀ {xs ys : List S} {vs ws : List V}, SRs K c L H xs vs → SRs K c L H ys ws → SRs K c L H (xs ++ ys) (vs ++ ws)
  | _, _, _, _, .nil, s => s
  | _, _, _, _, .cons a b, s => .cons a (SRs.append b s)
theorem PRs.append : ∀ {xs ys : List PyData} {vs ws : List V}, PRs K L H xs vs → PRs K L H ys ws → PRs K L H (xs ++ ys) (vs ++ ws)
  | _, _, _, _, .nil, s => s
  | _, _, _, _, .cons a b, s => .cons a (PRs.append b s)
theorem PRs.drop : ∀ {xs : List PyData} {vs : List V} (n : Nat), PRs K L H xs vs → PRs K L H (xs.drop n) (vs.drop n)
  | _, _, 0, s => s
  | _, _, _ + 1, .nil => .nil
  | _, _, n + 1, .cons _ b => PRs.drop n b
theorem PRs.take : ∀ {xs : List PyData} {vs : List V} (n : Nat), PRs K L H xs vs → PRs K L H (xs.take n) (vs.take n)
  | _, _, 0, _ => .nil
  | _, _, _ + 1, .nil => .nil
  | _, _, n + 1, .cons a b => .cons a (PRs.take n b)
theorem PRs.reverse {xs : List PyData} {vs : List V} (h : PRs K L H xs vs) : PRs K L H xs.reverse vs.reverse := by
  induction xs generalizing vs with
  | nil => cases h; exact .nil
  | cons x xs ih =>
    cases h with
    | cons a b =>
      rw [List.reverse_cons, List.reverse_cons]
      exact (ih b).append (.cons a .nil)
theorem SRs.set {x : S} {v : V} (a : SR K c L H x v) : ∀ {xs : List S} {vs : List V} (i : Nat), SRs K c L H xs vs → SRs K c L H (xs.set i x) (vs.set i v)
  | _, _, _, .nil => .nil
  | _, _, 0, .cons _ b => .cons a b
  | _, _, i + 1, .cons q b => .cons q (SRs.set a i b)
theorem SRs.erase : ∀ {xs : List S} {vs : List V} (i : Nat), SRs K c L H xs vs → SRs K c L H (xs.eraseIdx i) (vs.eraseIdx i)
  | _, _, _, .nil => .nil
  | _, _, 0, .cons _ b => b
  | _, _, i + 1, .cons q b => .cons q (SRs.erase i b)
/-- all pure -/
def pures : List S → Option (List PyData)
  | [] => some []
  | .d x :: r => (pures r).map (x :: ·)
  | _ :: _ => none
theorem pures_d : ∀ ds : List PyData, pures (ds.map .d) = some ds
  | [] => rfl
  | x :: r => by simp [pures, pures_d r]
theorem SRs.pure : ∀ {xs : List S} {vs : List V} {ds : List PyData}, SRs K c L H xs vs → pures xs = some ds → PRs K L H ds vs
  | _, _, _, .nil, e => by simp [pures] at e; subst e; exact .nil
  | .d x :: r, _, _, .cons (.d a) b, e => by
    simp only [pures, Option.map_eq_some_iff] at e
    obtain ⟨ds, e1, rfl⟩ := e
    exact .cons a (SRs.pure b e1)
  | .ref _ :: r, _, _, .cons _ _, e => by simp [pures] at e
  | .ins _ _ :: r, _, _, .cons _ _, e => by simp [pures] at e
  | .dct _ :: r, _, _, .cons _ _, e => by simp [pures] at e
  | .scr _ :: r, _, _, .cons _ _, e => by simp [pures] at e
mutual
theorem PR.dp : ∀ {x : PyData} {v : V}, PR K L H x v → Dp K H v x
  | _, _, .non => .non
  | _, _, .bl b => .bl b
  | _, _, .int i => .int i
  | _, _, .str x => .str x
  | _, _, .tup s _ r => .tup (.inl (.inl s)) (PRs.dp r)
  | _, _, .tupK ⟨o, its, n, e⟩ r => .tup (.inr ⟨o, its, n, e⟩) (PRs.dp r)
  | _, _, .lst s _ r => .lst (.inl (.inl s)) (PRs.dp r)
theorem PRs.dp : ∀ {xs : List PyData} {vs : List V}, PRs K L H xs vs → DpAll K H vs xs
  | _, _, .nil => .nil
  | _, _, .cons a b => .cons (PR.dp a) (PRs.dp b)
end
/-- a frozen or live list, a tuple, the script: its items -/
def seqOf (hd : Hd) : S → Option (List S)
  | .d (.list xs) => some (xs.map .d)
  | .d (.tuple xs) => some (xs.map .d)
  | .ref n => match hd[n]? with
    | some (.lst xs) => some xs
    | _ => none
  | .scr ns => some (ns.map fun i => .d (.int i))
  | _ => none
/-- lists alone -/
def lstOf (hd : Hd) : S → Option (List S)
  | .d (.list xs) => some (xs.map .d)
  | .ref n => match hd[n]? with
    | some (.lst xs) => some xs
    | _ => none
  | .scr ns => some (ns.map fun i => .d (.int i))
  | _ => none
theorem srs_ints : ∀ ns : List Int, SRs K c L H (ns.map fun i => .d (.int i)) (ns.map V.int)
  | [] => .nil
  | _ :: r => .cons (.d (.int _)) (srs_ints r)
theorem seq_of (rp : RP K c L H hd) {x : S} {v : V} {xs : List S} (r : SR K c L H x v) (e : seqOf hd x = some xs) :
    ∃ p vs, v = .ref p ∧ (SqL K H p vs ∨ SqT K H p vs) ∧ SRs K c L H xs vs := by
  cases x with
  | d x =>
    cases x with
    | list ds =>
      obtain ⟨p, vs, rfl, a, _, q⟩ := r.lst
      simp only [seqOf, Option.some.injEq] at e
      subst e
      exact ⟨p, vs, rfl, .inl (SqL.of a), q.srs⟩
    | tuple ds =>
      obtain ⟨p, vs, rfl, a, q⟩ := r.tup
      simp only [seqOf, Option.some.injEq] at e
      subst e
      exact ⟨p, vs, rfl, .inr a, q.srs⟩
    | _ => simp [seqOf] at e
  | ref n =>
    obtain ⟨p, rfl, hp⟩ := r.ref_
    obtain ⟨o, ho, cr⟩ := rp.get hp
    simp only [seqOf, ho] at e
    cases cr with
    | lst a q =>
      simp only [Option.some.injEq] at e
      subst e
      exact ⟨p, _, rfl, .inl (SqL.of a), q⟩
    | dct _ _ => simp at e
    | ins _ _ => simp at e
    | slt _ _ _ => simp at e
  | scr ns =>
    obtain ⟨p, rfl, a⟩ := r.scr_
    simp only [seqOf, Option.some.injEq] at e
    subst e
    exact ⟨p, _, rfl, .inl a, srs_ints ns⟩
  | ins C fs => simp [seqOf] at e
  | dct kvs => simp [seqOf] at e
theorem lst_of (rp : RP K c L H hd) {x : S} {v : V} {xs : List S} (r : SR K c L H x v) (e : lstOf hd x = some xs) :
    ∃ p vs, v = .ref p ∧ SqL K H p vs ∧ SRs K c L H xs vs := by
  cases x with
  | d x =>
    cases x with
    | list ds =>
      obtain ⟨p, vs, rfl, a, _, q⟩ := r.lst
      simp only [lstOf, Option.some.injEq] at e
      subst e
      exact ⟨p, vs, rfl, SqL.of a, q.srs⟩
    | _ => simp [lstOf] at e
  | ref n =>
    obtain ⟨p, rfl, hp⟩ := r.ref_
    obtain ⟨o, ho, cr⟩ := rp.get hp
    simp only [lstOf, ho] at e
    cases cr with
    | lst a q =>
      simp only [Option.some.injEq] at e
      subst e
      exact ⟨p, _, rfl, SqL.of a, q⟩
    | dct _ _ => simp at e
    | ins _ _ => simp at e
    | slt _ _ _ => simp at e
  | scr ns =>
    obtain ⟨p, rfl, a⟩ := r.scr_
    simp only [lstOf, Option.some.injEq] at e
    subst e
    exact ⟨p, _, rfl, a, srs_ints ns⟩
  | ins C fs => simp [lstOf] at e
  | dct kvs => simp [lstOf] at e
end EV

set_option Elab.async false
set_option linter.all false
set_option maxRecDepth 100000
set_option maxHeartbeats 2000000
/-! E3: expressions. -/
namespace L2
open PySem PySem.Spec PyProof.Rows
variable {X : Cx}
theorem PE.weak {e : Expr} {t t' : TE} (h : PE X e t) (w : ∀ σ H Q, t' σ H Q → t σ H Q) : PE X e t' := ⟨fun pins s σ H Q I q => h.run pins s σ H Q I (w σ H Q q)⟩
theorem PT.weak {e : Expr} {t t' : TT} (h : PT X e t) (w : ∀ σ H Q, t' σ H Q → t σ H Q) : PT X e t' := ⟨fun pins s σ H Q I q => h.run pins s σ H Q I (w σ H Q q)⟩
theorem PW.weak {e : Expr} {t t' : TT} (h : PW X e t) (w : ∀ σ H Q, t' σ H Q → t σ H Q) : PW X e t' := ⟨fun wh pins s σ H Q I q => h.run wh pins s σ H Q I (w σ H Q q)⟩
theorem PA.weak {e : List Expr} {t t' : TA} (h : PA X e t) (w : ∀ σ H Q, t' σ H Q → t σ H Q) : PA X e t' := ⟨fun p pins s σ H Q I q => h.run p pins s σ H Q I (w σ H Q q)⟩
theorem PS.weak {e : Stmt} {t t' : TS} (h : PS X e t) (w : ∀ D σ H, t' D σ H → t D σ H) : PS X e t' := ⟨fun pins s σ H D I q => h.run pins s σ H D I (w D σ H q)⟩
theorem PSs.weak {e : List Stmt} {t t' : TS} (h : PSs X e t) (w : ∀ D σ H, t' D σ H → t D σ H) : PSs X e t' := ⟨fun pins s σ H D I q => h.run pins s σ H D I (w D σ H q)⟩
end L2
namespace EV
open PySem PySem.Spec PyProof.Rows L2
variable {X : Cx} {K : PySem.W.Frag} {c : Nat → Addr} {E : XK} {L L' M2 : Lv} {H H' H2 : Hp} {hd hd' : Hd}
abbrev EvE (X : Cx) (c : Nat → Addr) (E : XK) (e : Expr) (f : FE) : Prop := PE X e (TEof X.K c E f)
abbrev EvT (X : Cx) (c : Nat → Addr) (E : XK) (e : Expr) (f : Sd → Hd → R Bool) : Prop := PT X e (TTof X.K c E f)
abbrev EvA (X : Cx) (c : Nat → Addr) (E : XK) (es : List Expr) (f : Sd → Hd → R (List S)) : Prop := PA X es (TAof X.K c E f)

/-- what a value's reading wants -/
abbrev VP (K : PySem.W.Frag) (c : Nat → Addr) (Q : VK) : S → Hd → Lv → Hp → Prop := fun r _ L' H' => ∀ v, SR K c L' H' r v → Q v H'

/-! ### names, constants -/
def fV (i : Nat) : FE := fun ss hd => match ss[i]? with
  | some (some x) => some (.ok x hd)
  | _ => none
def fC (x : PyData) : FE := fun _ hd => some (.ok (.d x) hd)
theorem eV {e : Expr} {i : Nat} (h : PE X e (tVar i)) : EvE X c E e (fV i) := h.weak fun σ H Q ⟨L, hd, ss, rp, gr, o⟩ => by
  unfold fV at o
  split at o
  · rename_i x hx
    obtain ⟨v, hv, sr⟩ := gr.at_ i x hx
    exact ⟨v, hv, o.here rp v sr⟩
  · exact o.elim
theorem eC {e : Expr} {v : V} {x : PyData} (h : PE X e (tC v)) (r : ∀ K L H, PR K L H x v) : EvE X c E e (fC x) := h.weak fun σ H Q ⟨L, hd, ss, rp, gr, o⟩ =>
  o.here rp v (.d (r _ _ _))
theorem eI {i j pos} : EvE X c E (.Constant (.int i) j pos) (fC (.int i)) := eC pe_int fun _ _ _ => .int i
theorem eS {x j pos} : EvE X c E (.Constant (.str x) j pos) (fC (.str x)) := eC pe_str fun _ _ _ => .str x
theorem eB {b j pos} : EvE X c E (.Constant (.bool b) j pos) (fC (.bool b)) := eC pe_bl fun _ _ _ => .bl b
theorem eN {j pos} : EvE X c E (.Constant .none j pos) (fC .none) := eC pe_non fun _ _ _ => .non

/-! ### two operands -/
def Ok2 (K : PySem.W.Frag) (c : Nat → Addr) (E : XK) (g : S → S → Hd → R S) (r : R2) : Prop :=
  ∀ L H hd x y v u Q, RP K c L H hd → SR K c L H x v → SR K c L H y u → OutP K c E L H (VP K c Q) (g x y hd) → r v u H Q
def f2 (g : S → S → Hd → R S) (fa fb : FE) : FE := fun ss hd => bnd (fa ss hd) fun x h1 => bnd (fb ss h1) fun y h2 => g x y h2
theorem te2 {g : S → S → Hd → R S} {r : R2} {fa fb : FE} (hr : Ok2 K c E g r) {σ : L2.St} {Q : VK} (h : TEof K c E (f2 g fa fb) σ H Q) : tOp r (TEof K c E fa) (TEof K c E fb) σ H Q := by
  obtain ⟨L, hd, ss, rp, gr, o⟩ := h
  refine ⟨L, hd, ss, rp, gr, o.bnd.imp fun x hd1 L1 H1 _ x1 rp1 o1 v sv => ⟨L1, hd1, ss, rp1, gr.ext x1, o1.bnd.imp fun y hd2 L2 H2 _ x2 rp2 o2 u su => ?_⟩⟩
  exact hr L2 H2 hd2 x y v u Q rp2 (sv.ext x2) su o2
theorem e2 {e : Expr} {g : S → S → Hd → R S} {r : R2} {fa fb : FE} (hr : Ok2 X.K c E g r) (h : PE X e (tOp r (TEof X.K c E fa) (TEof X.K c E fb))) : EvE X c E e (f2 g fa fb) :=
  h.weak fun _ _ _ q => te2 hr q
def Ok1 (K : PySem.W.Frag) (c : Nat → Addr) (E : XK) (g : S → Hd → R S) (r : V → Hp → VK → Prop) : Prop :=
  ∀ L H hd x v Q, RP K c L H hd → SR K c L H x v → OutP K c E L H (VP K c Q) (g x hd) → r v H Q
def f1 (g : S → Hd → R S) (fa : FE) : FE := fun ss hd => bnd (fa ss hd) fun x h1 => g x h1
theorem e1 {e : Expr} {g : S → Hd → R S} {r : V → Hp → VK → Prop} {fa : FE} (hr : Ok1 X.K c E g r) (h : PE X e (tUn r (TEof X.K c E fa))) : EvE X c E e (f1 g fa) :=
  h.weak fun σ H Q ⟨L, hd, ss, rp, gr, o⟩ => ⟨L, hd, ss, rp, gr, o.bnd.imp fun x hd1 L1 H1 _ x1 rp1 o1 v sv => hr L1 H1 hd1 x v Q rp1 sv o1⟩
theorem Ok2.or_l {g : S → S → Hd → R S} {r r' : R2} (h : Ok2 K c E g r) : Ok2 K c E g fun x y H Q => r x y H Q ∨ r' x y H Q := fun L H hd x y v u Q a b d o => .inl (h L H hd x y v u Q a b d o)

/-- a new frozen list, tuple as an end -/
theorem new_lst {ds : List PyData} {vs : List V} {P : S → Hd → Lv → Hp → Prop} {hd : Hd} (rp : RP K c L H hd) (r : PRs K L H ds vs) {Q : VK} (o : OutP K c E L H (VP K c Q) (some (.ok (.d (.list ds)) hd))) {p : Addr} (hp : H p = none) : Q (.ref p) (upd H p (.lst vs)) :=
  o L _ (ext_new rp hp _) (rp_new rp hp _) _ (.d (.lst upd_same (rp.free hp) (r.ext (ext_new rp hp _))))
theorem new_tup {ds : List PyData} {vs : List V} {hd : Hd} (rp : RP K c L H hd) (r : PRs K L H ds vs) {Q : VK} (o : OutP K c E L H (VP K c Q) (some (.ok (.d (.tuple ds)) hd))) {p : Addr} (hp : H p = none) : Q (.ref p) (upd H p (.tup vs)) :=
  o L _ (ext_new rp hp _) (rp_new rp hp _) _ (.d (.tup upd_same (rp.free hp) (r.ext (ext_new rp hp _))))
theorem new_live {xs : List S} {vs : List V} {hd : Hd} (rp : RP K c L H hd) (r : SRs K c L H xs vs) {Q : VK} (o : OutP K c E L H (VP K c Q) (some (.ok (.ref hd.length) (hd ++ [.lst xs])))) {p : Addr} (hp : H p = none) : Q (.ref p) (upd H p (.lst vs)) :=
  o (L.snoc p) _ (ext_live rp hp _) (rp_live rp hp (.lst upd_same (r.ext (ext_live rp hp _)))) _ (.ref (by rw [← rp.len]; exact snoc_at L p))

/-! ### + -/
def rAddA (K : PySem.W.Frag) : R2 := fun x y H Q => (rI0 (fun i j => .int (i + j)) x y H Q ∨ (∃ i j, x = .str i ∧ y = .str j ∧ i.length + j.length ≤ sizeLine ∧ Q (.str (i ++ j)) H)) ∨ (rCat x y H Q ∨ rCatA K x y H Q)
theorem op_addA : OpR X (binaryOp .Add) (rAddA X.K) := (op_add.or op_add_str).or (op_cat.or op_catA)
def gAdd (x y : S) (hd : Hd) : R S :=
  match x, y with
  | .d (.int i), .d (.int j) => some (.ok (.d (.int (i + j))) hd)
  | .d (.str a), .d (.str b) => if a.length + b.length ≤ 16777216 then some (.ok (.d (.str (a ++ b))) hd) else none
  | .d (.list a), .d (.list b) => if a.length + b.length ≤ 16777216 then some (.ok (.d (.list (a ++ b))) hd) else none
  | .d (.tuple a), .d (.tuple b) => if a.length + b.length ≤ 16777216 then some (.ok (.d (.tuple (a ++ b))) hd) else none
  | _, _ => none
theorem ok_add : Ok2 K c E gAdd (rAddA K) := by
  intro L H hd x y v u Q rp rx ry o
  unfold gAdd at o
  split at o
  · exact .inl (.inl ⟨_, _, rx.int, ry.int, o.here rp _ (.d (.int _))⟩)
  · split at o
    · rename_i h
      exact .inl (.inr ⟨_, _, rx.str, ry.str, by rw [sizeLine_eq]; exact h, o.here rp _ (.d (.str _))⟩)
    · exact o.elim
  · split at o
    · rename_i h
      obtain ⟨p, vs, rfl, a, _, ra⟩ := rx.lst
      obtain ⟨q, ws, rfl, b, _, rb⟩ := ry.lst
      exact .inr (.inl ⟨p, q, vs, ws, rfl, rfl, a, b, by rw [sizeLine_eq, ← ra.length, ← rb.length]; exact h, fun l hl => new_lst (P := fun _ _ _ _ => True) rp (ra.append rb) o hl⟩)
    · exact o.elim
  · split at o
    · rename_i h
      have hx := rx
      have hy := ry
      obtain ⟨p, vs, rfl, a, ra⟩ := rx.tup
      obtain ⟨q, ws, rfl, b, rb⟩ := ry.tup
      refine .inr (.inr ⟨p, q, vs, ws, rfl, rfl, a, b, by rw [sizeLine_eq, ← ra.length, ← rb.length]; exact h, fun z => ?_, fun z1 z2 => ?_, fun _ _ l hl => new_tup rp (ra.append rb) o hl⟩)
      · subst z
        cases ra
        exact o.here rp _ hy
      · subst z2
        cases rb
        rw [List.append_nil] at o
        exact o.here rp _ hx
    · exact o.elim
  · exact o.elim
theorem eAdd {a b : Expr} {fa fb : FE} {pos : Pos} (ha : EvE X c E a fa) (hb : EvE X c E b fb) : EvE X c E (.BinOp a .Add b pos) (f2 gAdd fa fb) := e2 ok_add (pe_op op_addA ha hb)

/-! ### ints -/
def gI2 (h : Int → Int → Option PyData) (x y : S) (hd : Hd) : R S :=
  match x, y with
  | .d (.int i), .d (.int j) => match h i j with
    | some z => some (.ok (.d z) hd)
    | none => none
  | _, _ => none
theorem ok_i2 {h : Int → Int → Option PyData} {C : Int → Int → Prop} {g : Int → Int → V} (hc : ∀ i j z, h i j = some z → C i j ∧ ∀ K L H, PR K L H z (g i j)) : Ok2 K c E (gI2 h) (rI C g) := by
  intro L H hd x y v u Q rp rx ry o
  unfold gI2 at o
  split at o
  · split at o
    · rename_i z hz
      obtain ⟨h1, h2⟩ := hc _ _ _ hz
      exact ⟨_, _, rx.int, ry.int, h1, o.here rp _ (.d (h2 _ _ _))⟩
    · exact o.elim
  · exact o.elim
theorem ok_i20 {h : Int → Int → Option PyData} {g : Int → Int → V} (hc : ∀ i j z, h i j = some z → ∀ K L H, PR K L H z (g i j)) : Ok2 K c E (gI2 h) (rI0 g) := by
  intro L H hd x y v u Q rp rx ry o
  unfold gI2 at o
  split at o
  · split at o
    · rename_i z hz
      exact ⟨_, _, rx.int, ry.int, o.here rp _ (.d (hc _ _ _ hz _ _ _))⟩
    · exact o.elim
  · exact o.elim
def hSub (i j : Int) : Option PyData := some (.int (i - j))
theorem eSub {a b : Expr} {fa fb : FE} {pos : Pos} (ha : EvE X c E a fa) (hb : EvE X c E b fb) : EvE X c E (.BinOp a .Sub b pos) (f2 (gI2 hSub) fa fb) :=
  e2 (ok_i20 (g := fun i j => .int (i - j)) fun i j z h K L H => by cases h; exact .int _) (pe_op op_sub ha hb)
def hMod (i j : Int) : Option PyData := if 0 < j then some (.int (i % j)) else none
theorem eMod {a b : Expr} {fa fb : FE} {pos : Pos} (ha : EvE X c E a fa) (hb : EvE X c E b fb) : EvE X c E (.BinOp a .Mod b pos) (f2 (gI2 hMod) fa fb) :=
  e2 (ok_i2 (C := fun _ j => 0 < j) (g := fun i j => .int (i % j)) fun i j z h => by
    unfold hMod at h
    split at h
    · cases h; exact ⟨by assumption, fun _ _ _ => .int _⟩
    · cases h) (pe_op op_mod ha hb)
def hDiv (i j : Int) : Option PyData := if 0 < j ∧ j < 1073741824 then some (.int (i / j)) else none
theorem eDiv {a b : Expr} {fa fb : FE} {pos : Pos} (ha : EvE X c E a fa) (hb : EvE X c E b fb) : EvE X c E (.BinOp a .FloorDiv b pos) (f2 (gI2 hDiv) fa fb) :=
  e2 (ok_i2 (C := CDiv) (g := fun i j => .int (i / j)) fun i j z h => by
    unfold hDiv at h
    split at h
    · cases h; exact ⟨by assumption, fun _ _ _ => .int _⟩
    · cases h) (pe_op op_fdiv ha hb)
def hPow (i j : Int) : Option PyData := if 0 ≤ j ∧ j ≤ 1000000 ∧ i.natAbs < 2 ^ 64 then some (.int (i ^ j.toNat)) else none
theorem ePow {a b : Expr} {fa fb : FE} {pos : Pos} (ha : EvE X c E a fa) (hb : EvE X c E b fb) : EvE X c E (.BinOp a .Pow b pos) (f2 (gI2 hPow) fa fb) :=
  e2 (ok_i2 (C := CPow) (g := fun i j => .int (i ^ j.toNat)) fun i j z h => by
    unfold hPow at h
    split at h
    · cases h; exact ⟨by assumption, fun _ _ _ => .int _⟩
    · cases h) (pe_op op_pow ha hb)
/-- * : ints of which one is small; a list, a tuple times an int is elsewhere -/
def hMul (i j : Int) : Option PyData := if (-18446744073709551616 < i ∧ i < 18446744073709551616) ∨ (-18446744073709551616 < j ∧ j < 18446744073709551616) then some (.int (i * j)) else none
theorem eMul {a b : Expr} {fa fb : FE} {pos : Pos} (ha : EvE X c E a fa) (hb : EvE X c E b fb) : EvE X c E (.BinOp a .Mult b pos) (f2 (gI2 hMul) fa fb) :=
  e2 (ok_i2 (C := CMul) (g := fun i j => .int (i * j)) fun i j z h => by
    unfold hMul at h
    split at h
    · cases h; exact ⟨by assumption, fun _ _ _ => .int _⟩
    · cases h) (pe_op op_mul ha hb)
/-- [..] * n -/
def gRep (x y : S) (hd : Hd) : R S :=
  match x, y with
  | .d (.list a), .d (.int k) => if -9223372036854775808 ≤ k ∧ k < 9223372036854775808 ∧ a.length * k.toNat ≤ 16777216 then some (.ok (.d (.list (List.replicate k.toNat a).flatten)) hd) else none
  | _, _ => none
theorem PRs.flat {ds : List PyData} {vs : List V} (r : PRs K L H ds vs) : ∀ n : Nat, PRs K L H (List.replicate n ds).flatten (List.replicate n vs).flatten
  | 0 => .nil
  | n + 1 => by
    rw [List.replicate_succ, List.replicate_succ, List.flatten_cons, List.flatten_cons]
    exact r.append (PRs.flat r n)
theorem ok_rep : Ok2 K c E gRep rRep := by
  intro L H hd x y v u Q rp rx ry o
  unfold gRep at o
  split at o
  · split at o
    · rename_i h
      obtain ⟨p, vs, rfl, a, _, ra⟩ := rx.lst
      obtain rfl := ry.int
      exact ⟨p, _, vs, rfl, rfl, a, h.1, h.2.1, by rw [sizeLine_eq, ← ra.length]; exact h.2.2, fun l hl => new_lst (P := fun _ _ _ _ => True) rp (ra.flat _) o hl⟩
    · exact o.elim
  · exact o.elim
theorem eRep {a b : Expr} {fa fb : FE} {pos : Pos} (ha : EvE X c E a fa) (hb : EvE X c E b fb) : EvE X c E (.BinOp a .Mult b pos) (f2 gRep fa fb) := e2 ok_rep (pe_op op_rep ha hb)
def gNeg (x : S) (hd : Hd) : R S :=
  match x with
  | .d (.int i) => some (.ok (.d (.int (-i))) hd)
  | _ => none
theorem eNeg {a : Expr} {fa : FE} {pos : Pos} (ha : EvE X c E a fa) : EvE X c E (.UnaryOp .USub a pos) (f1 gNeg fa) :=
  e1 (r := rU fun i => .int (-i)) (fun L H hd x v Q rp rx o => by
    unfold gNeg at o
    split at o
    · exact ⟨_, rx.int, o.here rp _ (.d (.int _))⟩
    · exact o.elim) (pe_un un_neg ha)

/-! ### comparisons -/
def scalD : PyData → PyData → Bool
  | .none, .none => true | .none, .int _ => true | .int _, .none => true | .none, .bool _ => true | .bool _, .none => true | .none, .str _ => true | .str _, .none => true
  | .int _, .int _ => true | .bool _, .bool _ => true | .str _, .str _ => true
  | .int _, .str _ => true | .str _, .int _ => true | .bool _, .str _ => true | .str _, .bool _ => true
  | _, _ => false
theorem scal_ok {x y : PyData} {v u : V} (h : scalD x y = true) (rx : PR K L H x v) (ry : PR K L H y u) : scal v u = true ∧ decide (v = u) = PyData.eqv x y := by
  cases rx <;> cases ry <;> simp [scalD, scal, PyData.eqv, Bool.beq_eq_decide_eq] at h ⊢
def gEq (x y : S) (hd : Hd) : R S :=
  match x, y with
  | .d a, .d b => if scalD a b = true ∨ (SeqAt.shaped a = true ∧ SeqAt.shaped b = true) then some (.ok (.d (.bool (PyData.eqv a b))) hd) else none
  | _, _ => none
def gNe (x y : S) (hd : Hd) : R S :=
  match x, y with
  | .d a, .d b => if scalD a b = true ∨ (SeqAt.shaped a = true ∧ SeqAt.shaped b = true) then some (.ok (.d (.bool (!PyData.eqv a b))) hd) else none
  | _, _ => none
theorem SR.pr {x : PyData} {v : V} (h : SR K c L H (.d x) v) : PR K L H x v := by cases h with | d h => exact h
theorem ok_eq : Ok2 K c E gEq fun x y H Q => rEq x y H Q ∨ rEqD K x y H Q := by
  intro L H hd x y v u Q rp rx ry o
  unfold gEq at o
  split at o
  · split at o
    · rename_i h
      rcases h with h | h
      · obtain ⟨h1, h2⟩ := scal_ok h rx.pr ry.pr
        exact .inl ⟨h1, by rw [h2]; exact o.here rp _ (.d (.bl _))⟩
      · exact .inr ⟨_, _, rx.pr.dp, ry.pr.dp, h.1, h.2, o.here rp _ (.d (.bl _))⟩
    · exact o.elim
  · exact o.elim
theorem ok_ne : Ok2 K c E gNe fun x y H Q => rNe x y H Q ∨ rNeD K x y H Q := by
  intro L H hd x y v u Q rp rx ry o
  unfold gNe at o
  split at o
  · split at o
    · rename_i h
      rcases h with h | h
      · obtain ⟨h1, h2⟩ := scal_ok h rx.pr ry.pr
        exact .inl ⟨h1, by rw [h2]; exact o.here rp _ (.d (.bl _))⟩
      · exact .inr ⟨_, _, rx.pr.dp, ry.pr.dp, h.1, h.2, o.here rp _ (.d (.bl _))⟩
    · exact o.elim
  · exact o.elim
theorem op_eqA (hu : X.A.units + 64 < cLine) : OpR X (compareOp .Eq) (fun x y H Q => rEq x y H Q ∨ rEqD X.K x y H Q) := op_eq.or (op_eqD hu)
theorem op_neA (hu : X.A.units + 64 < cLine) : OpR X (compareOp .NotEq) (fun x y H Q => rNe x y H Q ∨ rNeD X.K x y H Q) := op_ne.or (op_neD hu)
/-- order: ints, texts -/
def gOrd (hi : Int → Int → Bool) (hs : List Nat → List Nat → Bool) (x y : S) (hd : Hd) : R S :=
  match x, y with
  | .d (.int i), .d (.int j) => some (.ok (.d (.bool (hi i j))) hd)
  | .d (.str a), .d (.str b) => some (.ok (.d (.bool (hs a.cps.toList b.cps.toList))) hd)
  | _, _ => none
def rOrd (hi : Int → Int → Bool) (hs : List Nat → List Nat → Bool) : R2 := fun x y H Q => rI0 (fun i j => .bl (hi i j)) x y H Q ∨ ∃ i j, x = .str i ∧ y = .str j ∧ Q (.bl (hs i.cps.toList j.cps.toList)) H
theorem ok_ord {hi : Int → Int → Bool} {hs : List Nat → List Nat → Bool} : Ok2 K c E (gOrd hi hs) (rOrd hi hs) := by
  intro L H hd x y v u Q rp rx ry o
  unfold gOrd at o
  split at o
  · exact .inl ⟨_, _, rx.int, ry.int, o.here rp _ (.d (.bl _))⟩
  · exact .inr ⟨_, _, rx.str, ry.str, o.here rp _ (.d (.bl _))⟩
  · exact o.elim
abbrev gLt := gOrd (fun i j => decide (i < j)) (fun a b => decide (a < b))
abbrev gLe := gOrd (fun i j => decide (i ≤ j)) (fun a b => !decide (b < a))
abbrev gGt := gOrd (fun i j => decide (j < i)) (fun a b => decide (b < a))
abbrev gGe := gOrd (fun i j => decide (j ≤ i)) (fun a b => !decide (a < b))
end EV

set_option Elab.async false
set_option linter.all false
set_option maxRecDepth 100000
set_option maxHeartbeats 2000000
/-! E4: tests, and, or, in, subscripts, slices. -/
namespace EV
open PySem PySem.Spec PyProof.Rows L2
variable {X : Cx} {K : PySem.W.Frag} {c : Nat → Addr} {E : XK} {L L' M2 : Lv} {H H' H2 : Hp} {hd hd' : Hd}

abbrev FT := Sd → Hd → R Bool
def boolOf (x : S) (h : Hd) : R Bool := match x with
  | .d (.bool b) => some (.ok b h)
  | _ => none
def tb (f : FE) : FT := fun ss hd => bnd (f ss hd) boolOf
theorem tb_ok {f : FE} {ss : Sd} {P : Bool → Hp → Prop} (rp : RP K c L H hd) (o : OutP K c E L H (fun r _ _ H' => P r H') (tb f ss hd)) :
    OutP K c E L H (VP K c fun x H' => ∃ k, x = .bl k ∧ P k H') (f ss hd) := by
  refine (OutP.bnd o).imp fun x hd1 L1 H1 _ x1 rp1 o1 v sv => ?_
  unfold boolOf at o1
  split at o1
  · exact ⟨_, sv.bl, o1.here rp1⟩
  · exact o1.elim
/-- a comparison as a test -/
theorem tCmp2 {e : Expr} {g : S → S → Hd → R S} {r : R2} {fa fb : FE} (hr : Ok2 X.K c E g r) (h : PT X e (tTest (tOp r (TEof X.K c E fa) (TEof X.K c E fb)))) : EvT X c E e (tb (f2 g fa fb)) :=
  h.weak fun σ H Q ⟨L, hd, ss, rp, gr, o⟩ => te2 hr ⟨L, hd, ss, rp, gr, tb_ok rp o⟩
/-- any value's truth -/
def truS (hd : Hd) : S → Option Bool
  | .d .none => some false
  | .d (.bool b) => some b
  | .d (.int i) => some (i != 0)
  | .d (.str y) => if y.length ≤ 16777216 then some ((y.length : Int) != 0) else none
  | .d (.list xs) => some (!xs.isEmpty)
  | .d (.tuple xs) => some (!xs.isEmpty)
  | .ref n => match hd[n]? with
    | some (.lst xs) => some (!xs.isEmpty)
    | _ => none
  | _ => none
theorem PRs.emp {ds : List PyData} {vs : List V} (r : PRs K L H ds vs) : vs.isEmpty = ds.isEmpty := by cases r <;> rfl
theorem SRs.emp {ds : List S} {vs : List V} (r : SRs K c L H ds vs) : vs.isEmpty = ds.isEmpty := by cases r <;> rfl
theorem tru_ok {x : S} {v : V} {b : Bool} (rp : RP K c L H hd) (r : SR K c L H x v) (e : truS hd x = some b) : TruV K v H b := by
  unfold truS at e
  split at e
  · cases e; rw [r.non]; rfl
  · cases e; rw [r.bl]; rfl
  · cases e; rw [r.int]; rfl
  · split at e
    · rename_i h
      cases e; rw [r.str]; exact ⟨by rw [sizeLine_eq]; exact h, rfl⟩
    · cases e
  · cases e
    obtain ⟨p, vs, rfl, a, _, q⟩ := r.lst
    exact .inl ⟨vs, SqL.of a, by rw [q.emp]⟩
  · cases e
    obtain ⟨p, vs, rfl, a, q⟩ := r.tup
    exact .inr (.inl ⟨vs, a, by rw [q.emp]⟩)
  · rename_i n
    obtain ⟨p, rfl, hp⟩ := r.ref_
    obtain ⟨o, ho, cr⟩ := rp.get hp
    rw [ho] at e
    cases cr with
    | lst a q =>
      simp only [Option.some.injEq] at e
      subst e
      exact .inl ⟨_, SqL.of a, by rw [q.emp]⟩
    | dct _ _ => simp at e
    | ins _ _ => simp at e
    | slt _ _ _ => simp at e
  · cases e
def truOf (x : S) (h : Hd) : R Bool := match truS h x with
  | some b => some (.ok b h)
  | none => none
def tv (f : FE) : FT := fun ss hd => bnd (f ss hd) truOf
theorem tTru {e : Expr} {f : FE} (he : EvE X c E e f) (hp : ∀ whole, isTrue e X.env whole = (do let v ← whole; standAt e.pos; holding [v] (truthy v)) := by intro _; rfl) : EvT X c E e (tv f) :=
  (pt_truth he hp).weak fun σ H Q ⟨L, hd, ss, rp, gr, o⟩ => ⟨L, hd, ss, rp, gr, (OutP.bnd o).imp fun x hd1 L1 H1 _ x1 rp1 o1 v sv => by
    unfold truOf at o1
    split at o1
    · rename_i b hb
      exact ⟨b, tru_ok rp1 sv hb, o1.here rp1⟩
    · exact o1.elim⟩
def tNo (f : FT) : FT := fun ss hd => bnd (f ss hd) fun b h => some (.ok (!b) h)
theorem tNot_ {a : Expr} {f : FT} {pos : Pos} (ha : EvT X c E a f) : EvT X c E (.UnaryOp .Not a pos) (tNo f) :=
  (pt_not ha).weak fun σ H Q ⟨L, hd, ss, rp, gr, o⟩ => ⟨L, hd, ss, rp, gr, (OutP.bnd o).imp fun b hd1 L1 H1 _ x1 rp1 o1 => o1.here rp1⟩
abbrev EvW (X : Cx) (c : Nat → Addr) (E : XK) (e : Expr) (f : FT) : Prop := PW X e (TTof X.K c E f)
def tAn (f g : FT) : FT := fun ss hd => bnd (f ss hd) fun b h => if b then g ss h else some (.ok false h)
def tOr_ (f g : FT) : FT := fun ss hd => bnd (f ss hd) fun b h => if b then some (.ok true h) else g ss h
variable {a b : Expr} {rest : List Expr} {pos : Pos} {fa fb : FE} {ta tb' : FT}
theorem wAnd (ha : EvT X c E a ta) (hb : EvW X c E (.BoolOp .And (b :: rest) pos) tb') : EvW X c E (.BoolOp .And (a :: b :: rest) pos) (tAn ta tb') :=
  (pw_and ha hb).weak fun σ H Q ⟨L, hd, ss, rp, gr, o⟩ => ⟨L, hd, ss, rp, gr, (OutP.bnd o).imp fun k hd1 L1 H1 _ x1 rp1 o1 => by
    cases k with
    | true => exact iteT ⟨L1, hd1, ss, rp1, gr.ext x1, o1⟩
    | false => exact iteF (o1.here rp1)⟩
theorem wOr (ha : EvT X c E a ta) (hb : EvW X c E (.BoolOp .Or (b :: rest) pos) tb') : EvW X c E (.BoolOp .Or (a :: b :: rest) pos) (tOr_ ta tb') :=
  (pw_or ha hb).weak fun σ H Q ⟨L, hd, ss, rp, gr, o⟩ => ⟨L, hd, ss, rp, gr, (OutP.bnd o).imp fun k hd1 L1 H1 _ x1 rp1 o1 => by
    cases k with
    | true => exact iteT (o1.here rp1)
    | false => exact iteF ⟨L1, hd1, ss, rp1, gr.ext x1, o1⟩⟩
/-- as values -/
def fAn (f g : FE) : FE := fun ss hd => bnd (f ss hd) fun x h => match truS h x with
  | some true => g ss h
  | some false => some (.ok x h)
  | none => none
def fOr_ (f g : FE) : FE := fun ss hd => bnd (f ss hd) fun x h => match truS h x with
  | some true => some (.ok x h)
  | some false => g ss h
  | none => none
def fNo (f : FE) : FE := fun ss hd => bnd (f ss hd) fun x h => match truS h x with
  | some k => some (.ok (.d (.bool (!k))) h)
  | none => none
theorem eAnd (ha : EvE X c E a fa) (hb : EvE X c E (.BoolOp .And (b :: rest) pos) fb) : EvE X c E (.BoolOp .And (a :: b :: rest) pos) (fAn fa fb) :=
  (pe_andT ha hb).weak fun σ H Q ⟨L, hd, ss, rp, gr, o⟩ => ⟨L, hd, ss, rp, gr, (OutP.bnd o).imp fun x hd1 L1 H1 _ x1 rp1 o1 v sv => by
    split at o1
    · rename_i h; exact ⟨true, tru_ok rp1 sv h, iteT ⟨L1, hd1, ss, rp1, gr.ext x1, o1⟩⟩
    · rename_i h; exact ⟨false, tru_ok rp1 sv h, iteF (o1.here rp1 v sv)⟩
    · exact o1.elim⟩
theorem eOr (ha : EvE X c E a fa) (hb : EvE X c E (.BoolOp .Or (b :: rest) pos) fb) : EvE X c E (.BoolOp .Or (a :: b :: rest) pos) (fOr_ fa fb) :=
  (pe_orT ha hb).weak fun σ H Q ⟨L, hd, ss, rp, gr, o⟩ => ⟨L, hd, ss, rp, gr, (OutP.bnd o).imp fun x hd1 L1 H1 _ x1 rp1 o1 v sv => by
    split at o1
    · rename_i h; exact ⟨true, tru_ok rp1 sv h, iteT (o1.here rp1 v sv)⟩
    · rename_i h; exact ⟨false, tru_ok rp1 sv h, iteF ⟨L1, hd1, ss, rp1, gr.ext x1, o1⟩⟩
    · exact o1.elim⟩
theorem eNot (ha : EvE X c E a fa) : EvE X c E (.UnaryOp .Not a pos) (fNo fa) :=
  (pe_notT ha).weak fun σ H Q ⟨L, hd, ss, rp, gr, o⟩ => ⟨L, hd, ss, rp, gr, (OutP.bnd o).imp fun x hd1 L1 H1 _ x1 rp1 o1 v sv => by
    split at o1
    · rename_i k h; exact ⟨k, tru_ok rp1 sv h, o1.here rp1 _ (.d (.bl _))⟩
    · exact o1.elim⟩
def fIf (t : FT) (f g : FE) : FE := fun ss hd => bnd (t ss hd) fun b h => if b then f ss h else g ss h
theorem eIf {t : Expr} (ht : EvT X c E t ta) (ha : EvE X c E a fa) (hb : EvE X c E b fb) : EvE X c E (.IfExp t a b pos) (fIf ta fa fb) :=
  (pe_ifExp ht ha hb).weak fun σ H Q ⟨L, hd, ss, rp, gr, o⟩ => ⟨L, hd, ss, rp, gr, (OutP.bnd o).imp fun k hd1 L1 H1 _ x1 rp1 o1 => by
    cases k with
    | true => exact iteT ⟨L1, hd1, ss, rp1, gr.ext x1, o1⟩
    | false => exact iteF ⟨L1, hd1, ss, rp1, gr.ext x1, o1⟩⟩

/-! ### chains -/
def f3c (g g' : S → S → Hd → R S) (fa fb fc : FE) : FE := fun ss hd => bnd (fa ss hd) fun x h1 => bnd (fb ss h1) fun y h2 => bnd (g x y h2) fun z h3 => match z with
  | .d (.bool true) => bnd (fc ss h3) fun w h4 => g' y w h4
  | .d (.bool false) => some (.ok (.d (.bool false)) h3)
  | _ => none
theorem te3c {g g' : S → S → Hd → R S} {r r' : R2} {fa fb fc : FE} (hr : Ok2 K c E g r) (hr' : Ok2 K c E g' r') {σ : L2.St} {Q : VK} (h : TEof K c E (f3c g g' fa fb fc) σ H Q) : tChain r r' (TEof K c E fa) (TEof K c E fb) (TEof K c E fc) σ H Q := by
  obtain ⟨L, hd, ss, rp, gr, o⟩ := h
  refine ⟨L, hd, ss, rp, gr, o.bnd.imp fun x hd1 L1 H1 _ x1 rp1 o1 v sv => ⟨L1, hd1, ss, rp1, gr.ext x1, o1.bnd.imp fun y hd2 L2 H2 _ x2 rp2 o2 u su => ?_⟩⟩
  refine hr L2 H2 hd2 x y v u _ rp2 (sv.ext x2) su (o2.bnd.imp fun z hd3 L3 H3 _ x3 rp3 o3 w sw => ?_)
  split at o3
  · refine ⟨true, sw.bl, iteT ⟨L3, hd3, ss, rp3, (gr.ext x1).ext (x2.trans x3), o3.bnd.imp fun w' hd4 L4 H4 _ x4 rp4 o4 v4 s4 => ?_⟩⟩
    exact hr' L4 H4 hd4 y w' u v4 Q rp4 (su.ext (x3.trans x4)) s4 o4
  · exact ⟨false, sw.bl, iteF (o3.here rp3 _ (.d (.bl _)))⟩
  · exact o3.elim
theorem e3c {e : Expr} {g g' : S → S → Hd → R S} {r r' : R2} {fa fb fc : FE} (hr : Ok2 X.K c E g r) (hr' : Ok2 X.K c E g' r') (h : PE X e (tChain r r' (TEof X.K c E fa) (TEof X.K c E fb) (TEof X.K c E fc))) : EvE X c E e (f3c g g' fa fb fc) :=
  h.weak fun _ _ _ q => te3c hr hr' q
theorem t3c {e : Expr} {g g' : S → S → Hd → R S} {r r' : R2} {fa fb fc : FE} (hr : Ok2 X.K c E g r) (hr' : Ok2 X.K c E g' r') (h : PT X e (tTest (tChain r r' (TEof X.K c E fa) (TEof X.K c E fb) (TEof X.K c E fc)))) : EvT X c E e (tb (f3c g g' fa fb fc)) :=
  h.weak fun σ H Q ⟨L, hd, ss, rp, gr, o⟩ => te3c hr hr' ⟨L, hd, ss, rp, gr, tb_ok rp o⟩

/-! ### the orders' rules -/
theorem op_ltA : OpR X (compareOp .Lt) (rOrd (fun i j => decide (i < j)) (fun a b => decide (a < b))) := op_lt.or op_lt_str
theorem op_leA : OpR X (compareOp .LtE) (rOrd (fun i j => decide (i ≤ j)) (fun a b => !decide (b < a))) := op_le.or op_le_str
theorem op_gtA : OpR X (compareOp .Gt) (rOrd (fun i j => decide (j < i)) (fun a b => decide (b < a))) := op_gt.or op_gt_str
theorem op_geA : OpR X (compareOp .GtE) (rOrd (fun i j => decide (j ≤ i)) (fun a b => !decide (a < b))) := op_ge.or op_ge_str

/-! ### is None -/
def gIsN (n : Bool) (x y : S) (hd : Hd) : R S := match y with
  | .d .none => match x with
    | .d .none => some (.ok (.d (.bool (!n))) hd)
    | .d _ => some (.ok (.d (.bool n)) hd)
    | .ref _ => some (.ok (.d (.bool n)) hd)
    | .ins _ _ => some (.ok (.d (.bool n)) hd)
    | .dct _ => some (.ok (.d (.bool n)) hd)
    | .scr _ => some (.ok (.d (.bool n)) hd)
  | _ => none
theorem ok_isN : Ok2 K c E (gIsN false) fun x y H Q => y = .non ∧ Q (.bl (decide (x = .non))) H := by
  intro L H hd x y v u Q rp rx ry o
  unfold gIsN at o
  split at o
  · refine ⟨ry.non, ?_⟩
    cases rx with
    | d h => cases h <;> exact o.here rp _ (.d (.bl _))
    | ref _ => exact o.here rp _ (.d (.bl _))
    | ins _ _ _ _ => exact o.here rp _ (.d (.bl _))
    | dct _ _ _ => exact o.here rp _ (.d (.bl _))
    | scr _ => exact o.here rp _ (.d (.bl _))
  · exact o.elim
theorem ok_notN : Ok2 K c E (gIsN true) fun x y H Q => y = .non ∧ Q (.bl (!decide (x = .non))) H := by
  intro L H hd x y v u Q rp rx ry o
  unfold gIsN at o
  split at o
  · refine ⟨ry.non, ?_⟩
    cases rx with
    | d h => cases h <;> exact o.here rp _ (.d (.bl _))
    | ref _ => exact o.here rp _ (.d (.bl _))
    | ins _ _ _ _ => exact o.here rp _ (.d (.bl _))
    | dct _ _ _ => exact o.here rp _ (.d (.bl _))
    | scr _ => exact o.here rp _ (.d (.bl _))
  · exact o.elim

/-! ### in -/
def flatD : PyData → Bool
  | .none => true
  | .bool _ => true
  | .int _ => true
  | .str _ => true
  | _ => false
theorem flat_ok {x : PyData} {v : V} (h : flatD x = true) (r : PR K L H x v) : flatV v = true := by cases r <;> simp [flatD, flatV] at h ⊢
theorem flats_ok : ∀ {xs : List PyData} {vs : List V}, xs.all flatD = true → PRs K L H xs vs → vs.all flatV = true
  | _, _, _, .nil => rfl
  | x :: xs, v :: vs, h, .cons a b => by
    simp only [List.all_cons, Bool.and_eq_true] at h ⊢
    exact ⟨flat_ok h.1 a, flats_ok h.2 b⟩
theorem eqV_eqv {x y : PyData} {v u : V} (hx : flatD x = true) (hy : flatD y = true) (rx : PR K L H x v) (ry : PR K L H y u) : eqV v u = PyData.eqv x y := by
  cases rx <;> cases ry <;> simp [flatD, eqV, PyData.eqv] at hx hy ⊢
theorem inV_any {x : PyData} {v : V} (hx : flatD x = true) (rx : PR K L H x v) : ∀ {xs : List PyData} {vs : List V}, xs.all flatD = true → PRs K L H xs vs → inV v vs = xs.any fun z => PyData.eqv z x
  | _, _, _, .nil => rfl
  | y :: xs, u :: vs, h, .cons a b => by
    simp only [List.all_cons, Bool.and_eq_true] at h
    have ih := inV_any hx rx h.2 b
    unfold inV at ih ⊢
    simp only [List.any_cons]
    rw [ih, eqV_eqv h.1 hx a rx]
def inS (x y : S) (hd : Hd) : Option Bool :=
  match x with
  | .d x => match y with
    | .d (.str z) => match x with
      | .str w => some (!(Builtin.Str.occurrences z w 0 z.length 1).isEmpty)
      | _ => none
    | y => match seqOf hd y with
      | some xs => match pures xs with
        | some ds => if flatD x = true ∧ ds.all flatD = true then some (ds.any fun z => PyData.eqv z x)
          else match y with
            | .d (.list _) => if SeqAt.shaped x = true ∧ SeqAt.shaped (.list ds) = true then some (ds.any fun z => PyData.eqv z x) else none
            | _ => none
        | none => none
      | none => none
  | _ => none
def gIn (x y : S) (hd : Hd) : R S := match inS x y hd with
  | some b => some (.ok (.d (.bool b)) hd)
  | none => none
def gNin (x y : S) (hd : Hd) : R S := match inS x y hd with
  | some b => some (.ok (.d (.bool (!b))) hd)
  | none => none
def rInA (K : PySem.W.Frag) : R2 := fun x y H Q => (∃ i j, x = .str i ∧ y = .str j ∧ Q (.bl (!(Builtin.Str.occurrences j i 0 j.length 1).isEmpty)) H) ∨ (rIn K false x y H Q ∨ rInD K x y H Q)
def rNinA (K : PySem.W.Frag) : R2 := fun x y H Q => (∃ i j, x = .str i ∧ y = .str j ∧ Q (.bl (!(!(Builtin.Str.occurrences j i 0 j.length 1).isEmpty))) H) ∨ (rIn K true x y H Q ∨ rNotInD K x y H Q)
theorem op_inA (hu : X.A.units + 65 < cLine) : OpR X (compareOp .In) (rInA X.K) := op_in_str.or (op_in_seq.or (op_inD hu))
theorem op_ninA (hu : X.A.units + 65 < cLine) : OpR X (compareOp .NotIn) (rNinA X.K) := op_notin_str.or (op_notIn_seq.or (op_notInD hu))
theorem in_ok {x y : S} {v u : V} {b : Bool} (rp : RP K c L H hd) (rx : SR K c L H x v) (ry : SR K c L H y u) (e : inS x y hd = some b) :
    (∃ i j, v = .str i ∧ u = .str j ∧ b = (!(Builtin.Str.occurrences j i 0 j.length 1).isEmpty)) ∨
    (∃ p xs, u = .ref p ∧ (SqL K H p xs ∨ SqT K H p xs) ∧ flatV v = true ∧ xs.all flatV = true ∧ b = inV v xs) ∨
    (∃ d ds, Dp K H v d ∧ Dp K H u (.list ds) ∧ SeqAt.shaped d = true ∧ SeqAt.shaped (.list ds) = true ∧ b = ds.any fun z => PyData.eqv z d) := by
  unfold inS at e
  split at e
  · split at e
    · split at e
      · cases e; exact .inl ⟨_, _, rx.str, ry.str, rfl⟩
      · cases e
    · split at e
      · rename_i xs hxs
        split at e
        · rename_i ds hds
          obtain ⟨p, vs, rfl, hq, q⟩ := seq_of rp ry hxs
          have q' := q.pure hds
          split at e
          · rename_i h
            cases e
            exact .inr (.inl ⟨p, vs, rfl, hq, flat_ok h.1 rx.pr, flats_ok h.2 q', (inV_any h.1 rx.pr h.2 q').symm⟩)
          · split at e
            · split at e
              · rename_i h
                cases e
                simp only [seqOf, Option.some.injEq] at hxs
                rw [← hxs, pures_d] at hds
                cases hds
                exact .inr (.inr ⟨_, _, rx.pr.dp, ry.pr.dp, h.1, h.2, rfl⟩)
              · cases e
            · cases e
        · cases e
      · cases e
  · cases e
theorem ok_in : Ok2 K c E gIn (rInA K) := by
  intro L H hd x y v u Q rp rx ry o
  unfold gIn at o
  split at o
  · rename_i b hb
    have q := o.here rp (.bl b) (.d (.bl _))
    rcases in_ok rp rx ry hb with ⟨i, j, h1, h2, h3⟩ | ⟨p, xs, h1, h2, h3, h4, h5⟩ | ⟨d, ds, h1, h2, h3, h4, h5⟩
    · exact .inl ⟨i, j, h1, h2, h3 ▸ q⟩
    · exact .inr (.inl ⟨p, xs, h1, h2, h3, h4, by rw [if_neg Bool.false_ne_true, ← h5]; exact q⟩)
    · exact .inr (.inr ⟨d, ds, h1, h2, h3, h4, h5 ▸ q⟩)
  · exact o.elim
theorem ok_nin : Ok2 K c E gNin (rNinA K) := by
  intro L H hd x y v u Q rp rx ry o
  unfold gNin at o
  split at o
  · rename_i b hb
    have q := o.here rp (.bl (!b)) (.d (.bl _))
    rcases in_ok rp rx ry hb with ⟨i, j, h1, h2, h3⟩ | ⟨p, xs, h1, h2, h3, h4, h5⟩ | ⟨d, ds, h1, h2, h3, h4, h5⟩
    · exact .inl ⟨i, j, h1, h2, h3 ▸ q⟩
    · exact .inr (.inl ⟨p, xs, h1, h2, h3, h4, by rw [if_pos rfl, ← h5]; exact q⟩)
    · exact .inr (.inr ⟨d, ds, h1, h2, h3, h4, h5 ▸ q⟩)
  · exact o.elim

/-! ### subscripts -/
def gIx (x y : S) (hd : Hd) : R S :=
  match y with
  | .d (.int i) => match x with
    | .d (.str z) => if z.length ≤ 16777216 then match atI z.cps.toList i with
      | some k => some (.ok (.d (.str ⟨#[k]⟩)) hd)
      | none => none
      else none
    | x => match seqOf hd x with
      | some xs => match atI xs i with
        | some z => some (.ok z hd)
        | none => none
      | none => none
  | _ => none
def rIxA (K : PySem.W.Frag) : R2 := fun x y H Q => rIxS x y H Q ∨ (rIxL K x y H Q ∨ rIxT K x y H Q)
theorem ix_all : IxR X (rIxA X.K) := ix_str.or (ix_list.or ix_tup)
theorem SRs.at {xs : List S} {vs : List V} {i : Int} {x : S} (r : SRs K c L H xs vs) (e : atI xs i = some x) : ∃ v, atI vs i = some v ∧ SR K c L H x v := by
  unfold atI at e ⊢
  rw [← r.length]
  cases h : ixN xs.length i with
  | none => rw [h] at e; cases e
  | some j =>
    rw [h] at e
    exact r.get e
theorem ok_ix : Ok2 K c E gIx (rIxA K) := by
  intro L H hd x y v u Q rp rx ry o
  unfold gIx at o
  split at o
  · split at o
    · split at o
      · rename_i h
        split at o
        · rename_i k hk
          exact .inl ⟨_, _, k, rx.str, ry.int, by rw [sizeLine_eq]; exact h, hk, o.here rp _ (.d (.str _))⟩
        · exact o.elim
      · exact o.elim
    · split at o
      · rename_i xs hxs
        split at o
        · rename_i z hz
          obtain ⟨p, vs, rfl, hq, q⟩ := seq_of rp rx hxs
          obtain ⟨w, hw, sw⟩ := q.at hz
          rcases hq with hq | hq
          · exact .inr (.inl ⟨p, vs, _, w, rfl, ry.int, hq, hw, o.here rp _ sw⟩)
          · exact .inr (.inr ⟨p, vs, _, w, rfl, ry.int, hq, hw, o.here rp _ sw⟩)
        · exact o.elim
      · exact o.elim
  · exact o.elim
theorem eIx (ha : EvE X c E a fa) (hb : EvE X c E b fb) (hs : PlainIx b) : EvE X c E (.Subscript a b pos) (f2 gIx fa fb) := e2 ok_ix (pe_ix ix_all ha hb hs)

/-! ### slices -/
def cutL {α : Type} (xs : List α) (lo hi : Option Int) : List α := (xs.drop (HT.sIx xs.length 0 lo)).take (HT.sIx xs.length xs.length hi - HT.sIx xs.length 0 lo)
theorem PRs.cut {ds : List PyData} {vs : List V} (r : PRs K L H ds vs) (lo hi : Option Int) : PRs K L H (cutL ds lo hi) (cutV vs lo hi) := by
  unfold cutL cutV
  rw [← r.length]
  exact (r.drop _).take _
def gSl (x : S) (lo hi : Option Int) (hd : Hd) : R S :=
  match x with
  | .d (.str z) => if z.length ≤ 16777216 then some (.ok (.d (.str (cutS z lo hi))) hd) else none
  | .d (.tuple ds) => some (.ok (.d (.tuple (cutL ds lo hi))) hd)
  | x => match lstOf hd x with
    | some xs => match pures xs with
      | some ds => some (.ok (.d (.list (cutL ds lo hi))) hd)
      | none => none
    | none => none
def rSlAll (K : PySem.W.Frag) : V → Option Int → Option Int → Hp → VK → Prop := fun x lo hi H Q => rSlS x lo hi H Q ∨ (rSlA K x lo hi H Q ∨ rSlL K x lo hi H Q)
theorem sl_all : SlR X (rSlAll X.K) := sl_str.or (sl_tupA.or sl_list)
theorem sIx_le {n : Nat} (d : Nat) (hd : d ≤ n) (o : Option Int) : HT.sIx n d o ≤ n := HT.sIx_le _ _ hd _
theorem cutL_whole {α : Type} {xs : List α} {lo hi : Option Int} (h : HT.sIx xs.length 0 lo = 0 ∧ HT.sIx xs.length xs.length hi = xs.length) : cutL xs lo hi = xs := by
  unfold cutL
  rw [h.1, h.2]
  simp
theorem ok_sl {x : S} {lo hi : Option Int} {v : V} {Q : VK} (rp : RP K c L H hd) (rx : SR K c L H x v) (o : OutP K c E L H (VP K c Q) (gSl x lo hi hd)) : rSlAll K v lo hi H Q := by
  unfold gSl at o
  split at o
  · split at o
    · rename_i h
      exact .inl ⟨_, rx.str, by rw [sizeLine_eq]; exact h, o.here rp _ (.d (.str _))⟩
    · exact o.elim
  · have hx := rx
    obtain ⟨p, vs, rfl, a, ra⟩ := rx.tup
    refine .inr (.inl ⟨p, vs, rfl, a, fun h => ?_, fun _ l hl => new_tup rp (ra.cut _ _) o hl⟩)
    rw [← ra.length] at h
    rw [cutL_whole h] at o
    exact o.here rp _ hx
  · split at o
    · rename_i xs hxs
      split at o
      · rename_i ds hds
        obtain ⟨p, vs, rfl, hq, q⟩ := lst_of rp rx hxs
        have q' := q.pure hds
        exact .inr (.inr ⟨p, vs, rfl, hq, fun l hl => new_lst (P := fun _ _ _ _ => True) rp (q'.cut _ _) o hl⟩)
      · exact o.elim
    · exact o.elim
end EV

set_option Elab.async false
set_option linter.all false
set_option maxRecDepth 100000
set_option maxHeartbeats 2000000
/-! E5: parts of slices, argument lists, displays, built-ins, calls of defs. -/
namespace EV
open PySem PySem.Spec PyProof.Rows L2
variable {X : Cx} {K : PySem.W.Frag} {c : Nat → Addr} {E : XK} {L L' M2 : Lv} {H H' H2 : Hp} {hd hd' : Hd}
variable {a b e : Expr} {es : List Expr} {rest : List Expr} {pos : Pos} {fa fb f : FE}

def TOof (K : PySem.W.Frag) (c : Nat → Addr) (E : XK) (f : Sd → Hd → R (Option Int)) : TO := fun σ H Q => ∃ L hd ss, RP K c L H hd ∧ GR K c L H ss σ ∧ OutP K c E L H (fun r _ _ H' => Q r H') (f ss hd)
def oN : Sd → Hd → R (Option Int) := fun _ hd => some (.ok none hd)
def oS (f : FE) : Sd → Hd → R (Option Int) := fun ss hd => bnd (f ss hd) fun x h => match x with
  | .d (.int i) => some (.ok (some i) h)
  | _ => none
theorem PO.weak {e : Option Expr} {t t' : TO} (h : PO X e t) (w : ∀ σ H Q, t' σ H Q → t σ H Q) : PO X e t' := ⟨fun pins s σ H Q I q => h.run pins s σ H Q I (w σ H Q q)⟩
theorem pN : PO X none (TOof X.K c E oN) := PO.weak po_none fun σ H Q ⟨L, hd, ss, rp, gr, o⟩ => o.here rp
theorem pS (h : EvE X c E e f) : PO X (some e) (TOof X.K c E (oS f)) := PO.weak (po_some h) fun σ H Q ⟨L, hd, ss, rp, gr, o⟩ => ⟨L, hd, ss, rp, gr, (OutP.bnd o).imp fun x hd1 L1 H1 _ x1 rp1 o1 v sv => by
  split at o1
  · exact ⟨_, sv.int, o1.here rp1⟩
  · exact o1.elim⟩
def fSl (f : FE) (lo hi : Sd → Hd → R (Option Int)) : FE := fun ss hd => bnd (f ss hd) fun x h1 => bnd (lo ss h1) fun l h2 => bnd (hi ss h2) fun u h3 => gSl x l u h3
theorem eSl {lo hi : Option Expr} {p2 : Pos} {fl fh : Sd → Hd → R (Option Int)} (he : EvE X c E e f) (hl : PO X lo (TOof X.K c E fl)) (hu : PO X hi (TOof X.K c E fh)) : EvE X c E (.Subscript e (.Slice lo hi none p2) pos) (fSl f fl fh) :=
  (pe_slice sl_all he hl hu).weak fun σ H Q ⟨L, hd, ss, rp, gr, o⟩ => ⟨L, hd, ss, rp, gr, (OutP.bnd o).imp fun x hd1 L1 H1 _ x1 rp1 o1 v sv =>
    ⟨L1, hd1, ss, rp1, gr.ext x1, (OutP.bnd o1).imp fun l hd2 L2 H2 _ x2 rp2 o2 =>
      ⟨L2, hd2, ss, rp2, (gr.ext x1).ext x2, (OutP.bnd o2).imp fun u hd3 L3 H3 _ x3 rp3 o3 => ok_sl rp3 (sv.ext (x2.trans x3)) o3⟩⟩⟩

/-! ### argument lists -/
def aN : Sd → Hd → R (List S) := fun _ hd => some (.ok [] hd)
def aC (f : FE) (g : Sd → Hd → R (List S)) : Sd → Hd → R (List S) := fun ss hd => bnd (f ss hd) fun x h1 => bnd (g ss h1) fun xs h2 => some (.ok (x :: xs) h2)
theorem eaN : EvA X c E [] aN := PA.weak pa_nil fun σ H Q ⟨L, hd, ss, rp, gr, o⟩ => o.here rp _ .nil
theorem eaC {g : Sd → Hd → R (List S)} (ha : EvE X c E e f) (hr : EvA X c E es g) (hs : starEach (e :: es) X.env = (false, eval e X.env) :: starEach es X.env := by rfl) : EvA X c E (e :: es) (aC f g) :=
  PA.weak (pa_cons ha hr hs) fun σ H Q ⟨L, hd, ss, rp, gr, o⟩ => ⟨L, hd, ss, rp, gr, (OutP.bnd o).imp fun x hd1 L1 H1 _ x1 rp1 o1 v sv =>
    ⟨L1, hd1, ss, rp1, gr.ext x1, (OutP.bnd o1).imp fun xs hd2 L2 H2 _ x2 rp2 o2 vs svs => o2.here rp2 _ (.cons (sv.ext x2) svs)⟩⟩
/-- a display: frozen -/
def gTupD (xs : List S) (hd : Hd) : R S := match pures xs with
  | some ds => if ds.length ≤ 16777216 then some (.ok (.d (.tuple ds)) hd) else none
  | none => none
def gLstD (xs : List S) (hd : Hd) : R S := match pures xs with
  | some ds => if ds.length ≤ 16777216 then some (.ok (.d (.list ds)) hd) else none
  | none => none
/-- a list display, live -/
def gLstL (xs : List S) (hd : Hd) : R S := if xs.length ≤ 16777216 then some (.ok (.ref hd.length) (hd ++ [.lst xs])) else none
def fN (g : List S → Hd → R S) (fs : Sd → Hd → R (List S)) : FE := fun ss hd => bnd (fs ss hd) g
variable {fs : Sd → Hd → R (List S)}
theorem eTup {x1} (h : EvA X c E es fs) : EvE X c E (.Tuple es x1 pos) (fN gTupD fs) := (pe_tup h).weak fun σ H Q ⟨L, hd, ss, rp, gr, o⟩ => ⟨L, hd, ss, rp, gr, (OutP.bnd o).imp fun xs hd1 L1 H1 _ x1 rp1 o1 vs svs => by
  unfold gTupD at o1
  split at o1
  · rename_i ds hds
    split at o1
    · rename_i hz
      have q := svs.pure hds
      exact ⟨by rw [sizeLine_eq, ← q.length]; exact hz, fun p hp => new_tup rp1 q o1 hp⟩
    · exact o1.elim
  · exact o1.elim⟩
theorem eLst (h : EvA X c E es fs) : EvE X c E (.List es pos) (fN gLstD fs) := (pe_lst h).weak fun σ H Q ⟨L, hd, ss, rp, gr, o⟩ => ⟨L, hd, ss, rp, gr, (OutP.bnd o).imp fun xs hd1 L1 H1 _ x1 rp1 o1 vs svs => by
  unfold gLstD at o1
  split at o1
  · rename_i ds hds
    split at o1
    · rename_i hz
      have q := svs.pure hds
      exact ⟨by rw [sizeLine_eq, ← q.length]; exact hz, fun p hp => new_lst (P := fun _ _ _ _ => True) rp1 q o1 hp⟩
    · exact o1.elim
  · exact o1.elim⟩
theorem eLstL (h : EvA X c E es fs) : EvE X c E (.List es pos) (fN gLstL fs) := (pe_lst h).weak fun σ H Q ⟨L, hd, ss, rp, gr, o⟩ => ⟨L, hd, ss, rp, gr, (OutP.bnd o).imp fun xs hd1 L1 H1 _ x1 rp1 o1 vs svs => by
  unfold gLstL at o1
  split at o1
  · rename_i hz
    exact ⟨by rw [sizeLine_eq, ← svs.length]; exact hz, fun p hp => new_live rp1 svs o1 hp⟩
  · exact o1.elim⟩

/-! ### built-ins by their rules -/
def OkN (K : PySem.W.Frag) (c : Nat → Addr) (E : XK) (g : List S → Hd → R S) (r : List V → Hp → VK → Prop) : Prop :=
  ∀ L H hd xs vs Q, RP K c L H hd → SRs K c L H xs vs → OutP K c E L H (VP K c Q) (g xs hd) → r vs H Q
theorem eN_ {g : List S → Hd → R S} {r : List V → Hp → VK → Prop} (hr : OkN X.K c E g r) (h : PE X e (tCB r (TAof X.K c E fs))) : EvE X c E e (fN g fs) := h.weak fun σ H Q ⟨L, hd, ss, rp, gr, o⟩ =>
  ⟨L, hd, ss, rp, gr, (OutP.bnd o).imp fun xs hd1 L1 H1 _ x1 rp1 o1 vs svs => hr L1 H1 hd1 xs vs Q rp1 svs o1⟩
def g1 (g : S → Hd → R S) : List S → Hd → R S := fun xs hd => match xs with
  | [x] => g x hd
  | _ => none
theorem ok1 {g : S → Hd → R S} {r : List V → Hp → VK → Prop} (h : ∀ L H hd x v Q, RP K c L H hd → SR K c L H x v → OutP K c E L H (VP K c Q) (g x hd) → r [v] H Q) : OkN K c E (g1 g) r := by
  intro L H hd xs vs Q rp svs o
  unfold g1 at o
  split at o
  · cases svs with
    | cons a b => cases b; exact h L H hd _ _ Q rp a o
  · exact o.elim
def gLen (x : S) (hd : Hd) : R S := match x with
  | .d (.str z) => if z.length ≤ 16777216 then some (.ok (.d (.int z.length)) hd) else none
  | x => match seqOf hd x with
    | some xs => some (.ok (.d (.int xs.length)) hd)
    | none => none
theorem ok_len : OkN K c E (g1 gLen) (fun xs H Q => (∃ x n, xs = [x] ∧ LenV K x H n ∧ Q (.int n) H) ∨ ∃ p ys, xs = [.ref p] ∧ (SqL K H p ys ∨ SqT K H p ys) ∧ Q (.int ys.length) H) := ok1 fun L H hd x v Q rp rx o => by
  unfold gLen at o
  split at o
  · split at o
    · rename_i h
      rw [rx.str]
      exact .inl ⟨_, _, rfl, ⟨by rw [sizeLine_eq]; exact h, rfl⟩, o.here rp _ (.d (.int _))⟩
    · exact o.elim
  · split at o
    · rename_i xs hxs
      obtain ⟨p, vs, rfl, hq, q⟩ := seq_of rp rx hxs
      exact .inr ⟨p, vs, rfl, hq, by rw [← q.length]; exact o.here rp _ (.d (.int _))⟩
    · exact o.elim
theorem call_lenA : CallR X (.builtin "len") (fun xs H Q => (∃ x n, xs = [x] ∧ LenV X.K x H n ∧ Q (.int n) H) ∨ ∃ p ys, xs = [.ref p] ∧ (SqL X.K H p ys ∨ SqT X.K H p ys) ∧ Q (.int ys.length) H) := call_len.or call_len_seq
/-- list(..): frozen, live -/
def gList (x : S) (hd : Hd) : R S := match seqOf hd x with
  | some xs => match pures xs with
    | some ds => some (.ok (.d (.list ds)) hd)
    | none => none
  | none => none
def gListL (x : S) (hd : Hd) : R S := match seqOf hd x with
  | some xs => some (.ok (.ref hd.length) (hd ++ [.lst xs]))
  | none => none
abbrev rListOf (K : PySem.W.Frag) : List V → Hp → VK → Prop := fun xs H Q => ∃ p ys, xs = [.ref p] ∧ (SqL K H p ys ∨ SqT K H p ys) ∧ ∀ l, H l = none → Q (.ref l) (upd H l (.lst ys))
theorem ok_list : OkN K c E (g1 gList) (rListOf K) := ok1 fun L H hd x v Q rp rx o => by
  unfold gList at o
  split at o
  · rename_i xs hxs
    split at o
    · rename_i ds hds
      obtain ⟨p, vs, rfl, hq, q⟩ := seq_of rp rx hxs
      exact ⟨p, vs, rfl, hq, fun l hl => new_lst (P := fun _ _ _ _ => True) rp (q.pure hds) o hl⟩
    · exact o.elim
  · exact o.elim
theorem ok_listL : OkN K c E (g1 gListL) (rListOf K) := ok1 fun L H hd x v Q rp rx o => by
  unfold gListL at o
  split at o
  · rename_i xs hxs
    obtain ⟨p, vs, rfl, hq, q⟩ := seq_of rp rx hxs
    exact ⟨p, vs, rfl, hq, fun l hl => new_live rp q o hl⟩
  · exact o.elim
def gTuple (x : S) (hd : Hd) : R S := match x with
  | .d (.tuple ds) => some (.ok (.d (.tuple ds)) hd)
  | x => match lstOf hd x with
    | some xs => match pures xs with
      | some ds => some (.ok (.d (.tuple ds)) hd)
      | none => none
    | none => none
theorem ok_tuple : OkN K c E (g1 gTuple) (fun xs H Q => ∃ p ys, xs = [.ref p] ∧ ((SqL K H p ys ∧ ∀ l, H l = none → Q (.ref l) (upd H l (.tup ys))) ∨ (SqT K H p ys ∧ Q (.ref p) H))) := ok1 fun L H hd x v Q rp rx o => by
  unfold gTuple at o
  split at o
  · have hx := rx
    obtain ⟨p, vs, rfl, a, _⟩ := rx.tup
    exact ⟨p, vs, rfl, .inr ⟨a, o.here rp _ hx⟩⟩
  · split at o
    · rename_i xs hxs
      split at o
      · rename_i ds hds
        obtain ⟨p, vs, rfl, hq, q⟩ := lst_of rp rx hxs
        exact ⟨p, vs, rfl, .inl ⟨hq, fun l hl => new_tup rp (q.pure hds) o hl⟩⟩
      · exact o.elim
    · exact o.elim
/-- all, any of a list of bools -/
def bools : List PyData → Option (List Bool)
  | [] => some []
  | .bool b :: r => (bools r).map (b :: ·)
  | _ :: _ => none
theorem PRs.bools : ∀ {ds : List PyData} {vs : List V} {bs : List Bool}, PRs K L H ds vs → EV.bools ds = some bs → vs = bs.map V.bl
  | _, _, _, .nil, e => by simp [EV.bools] at e; subst e; rfl
  | x :: ds, v :: vs, bs, .cons a b, e => by
    cases a with
    | bl k =>
      simp only [EV.bools, Option.map_eq_some_iff] at e
      obtain ⟨r, e1, rfl⟩ := e
      rw [List.map_cons, PRs.bools b e1]
    | _ => simp [EV.bools] at e
def gAA (h : List Bool → Bool) (x : S) (hd : Hd) : R S := match x with
  | .d (.list ds) => match bools ds with
    | some bs => some (.ok (.d (.bool (h bs))) hd)
    | none => none
  | _ => none
theorem ok_all : OkN K c E (g1 (gAA fun bs => bs.all id)) (rAll K) := ok1 fun L H hd x v Q rp rx o => by
  unfold gAA at o
  split at o
  · split at o
    · rename_i bs hb
      obtain ⟨p, vs, rfl, a, _, q⟩ := rx.lst
      have ev := q.bools hb
      subst ev
      exact ⟨p, bs, rfl, SqL.of a, o.here rp _ (.d (.bl _))⟩
    · exact o.elim
  · exact o.elim
theorem ok_any : OkN K c E (g1 (gAA fun bs => bs.any id)) (rAny K) := ok1 fun L H hd x v Q rp rx o => by
  unfold gAA at o
  split at o
  · split at o
    · rename_i bs hb
      obtain ⟨p, vs, rfl, a, _, q⟩ := rx.lst
      have ev := q.bools hb
      subst ev
      exact ⟨p, bs, rfl, SqL.of a, o.here rp _ (.d (.bl _))⟩
    · exact o.elim
  · exact o.elim
def gAbs (x : S) (hd : Hd) : R S := match x with
  | .d (.int i) => some (.ok (.d (.int (if i < 0 then -i else i))) hd)
  | _ => none
theorem ok_abs : OkN K c E (g1 gAbs) (fun xs H Q => ∃ i, xs = [.int i] ∧ Q (.int (if i < 0 then -i else i)) H) := ok1 fun L H hd x v Q rp rx o => by
  unfold gAbs at o
  split at o
  · rw [rx.int]; exact ⟨_, rfl, o.here rp _ (.d (.int _))⟩
  · exact o.elim
def gInt (x : S) (hd : Hd) : R S := match x with
  | .d (.int i) => some (.ok (.d (.int i)) hd)
  | .d (.bool k) => some (.ok (.d (.int (if k then 1 else 0))) hd)
  | _ => none
theorem ok_int : OkN K c E (g1 gInt) (fun xs H Q => (∃ i, xs = [.int i] ∧ Q (.int i) H) ∨ ∃ k, xs = [.bl k] ∧ Q (.int (if k then 1 else 0)) H) := ok1 fun L H hd x v Q rp rx o => by
  unfold gInt at o
  split at o
  · rw [rx.int]; exact .inl ⟨_, rfl, o.here rp _ (.d (.int _))⟩
  · rw [rx.bl]; exact .inr ⟨_, rfl, o.here rp _ (.d (.int _))⟩
  · exact o.elim
def g2 (g : S → S → Hd → R S) : List S → Hd → R S := fun xs hd => match xs with
  | [x, y] => g x y hd
  | _ => none
theorem ok2 {g : S → S → Hd → R S} {r : List V → Hp → VK → Prop} (h : ∀ L H hd x y v u Q, RP K c L H hd → SR K c L H x v → SR K c L H y u → OutP K c E L H (VP K c Q) (g x y hd) → r [v, u] H Q) : OkN K c E (g2 g) r := by
  intro L H hd xs vs Q rp svs o
  unfold g2 at o
  split at o
  · cases svs with
    | cons a b => cases b with | cons b1 b2 => cases b2; exact h L H hd _ _ _ _ Q rp a b1 o
  · exact o.elim
def gMM (h : Int → Int → Int) (x y : S) (hd : Hd) : R S := match x, y with
  | .d (.int i), .d (.int j) => some (.ok (.d (.int (h i j))) hd)
  | _, _ => none
theorem ok_min2 : OkN K c E (g2 (gMM fun i j => if j < i then j else i)) (fun xs H Q => ∃ i j, xs = [.int i, .int j] ∧ Q (.int (if j < i then j else i)) H) := ok2 fun L H hd x y v u Q rp rx ry o => by
  unfold gMM at o
  split at o
  · rw [rx.int, ry.int]; exact ⟨_, _, rfl, o.here rp _ (.d (.int _))⟩
  · exact o.elim
theorem ok_max2 : OkN K c E (g2 (gMM fun i j => if j > i then j else i)) (fun xs H Q => ∃ i j, xs = [.int i, .int j] ∧ Q (.int (if j > i then j else i)) H) := ok2 fun L H hd x y v u Q rp rx ry o => by
  unfold gMM at o
  split at o
  · rw [rx.int, ry.int]; exact ⟨_, _, rfl, o.here rp _ (.d (.int _))⟩
  · exact o.elim

/-! ### calls of defs -/
/-- a def's promise by its function -/
def spF (K : PySem.W.Frag) (c : Nat → Addr) (n : Nat) (m : List S → Hd → R S) : Sp := fun vs H Q E => vs.length = n ∧ ∃ L hd xs, RP K c L H hd ∧ SRs K c L H xs vs ∧ OutP K c E L H (VP K c Q) (m xs hd)
abbrev FnE (P : Program) (w : World) (K : PySem.W.Frag) (mg : Str → Option Value) (base : Heap) (CX : CXT) (c : Nat → Addr) (k : Nat) (f : Addr) (fd : FuncData) (ps : List Str) (m : List S → Hd → R S) : Prop :=
  FnOk P w K mg base CX k f fd ps (spF K c ps.length m)
/-- the arguments' number is right -/
def ar (n : Nat) (m : List S → Hd → R S) : List S → Hd → R S := fun xs hd => if xs.length = n then m xs hd else none
theorem call_sp {ps : List Str} {m : List S → Hd → R S} {σ : L2.St} {Q : VK} {ss : Sd} (rp : RP K c L H hd) (gr : GR K c L H ss σ) (o : OutP K c E L H (VP K c Q) (fN (ar ps.length m) fs ss hd)) :
    TAof K c E fs σ H fun vs H1 => spF K c ps.length m (vs ++ []) H1 Q E :=
  ⟨L, hd, ss, rp, gr, (OutP.bnd o).imp fun xs hd1 L1 H1 _ x1 rp1 o1 vs svs => by
    unfold ar at o1
    split at o1
    · rename_i hn
      rw [List.append_nil]
      exact ⟨by rw [← svs.length]; exact hn, L1, hd1, xs, rp1, svs, o1⟩
    · exact o1.elim⟩
section
variable {CX : CXT} {k : Nat} {fa' : Addr} {fd : FuncData} {ps : List Str} {m : List S → Hd → R S} {x : Str} {p : Pos}
theorem eCall (F : FnE X.prog X.w X.K X.mg X.base CX c k fa' fd ps m) (hr : Room k X.A) (hg : Gl X x) (hm : X.mg x = some (.ref fa')) (hk : PySem.W.keepIn X.K (.ref fa') = true) (hb : Binds X.K fd ps []) (hx : Passes CX X E)
    (ha : EvA X c E (e :: es) fs) (hdb : (x == ("__debug__" : Str)) = false := by decide) (he : starEach (e :: es) X.env = (false, eval e X.env) :: starEach es X.env := by rfl) (hpl : (backTo pos (starEach es X.env)).any (·.1) = false := by rfl) :
    EvE X c E (.Call (.Name x p) (e :: es) [] pos) (fN (ar ps.length m) fs) :=
  (pe_call F hr hg hm hk hb .nil hx ha hdb he hpl).weak fun σ H Q ⟨L, hd, ss, rp, gr, o⟩ => call_sp rp gr o
theorem eCall0 (F : FnE X.prog X.w X.K X.mg X.base CX c k fa' fd [] m) (hr : Room k X.A) (hg : Gl X x) (hm : X.mg x = some (.ref fa')) (hk : PySem.W.keepIn X.K (.ref fa') = true) (hb : Binds X.K fd [] []) (hx : Passes CX X E)
    (hdb : (x == ("__debug__" : Str)) = false := by decide) : EvE X c E (.Call (.Name x p) [] [] pos) (fun _ hd => m [] hd) :=
  (pe_call0 F hr hg hm hk hb .nil hx hdb).weak fun σ H Q ⟨L, hd, ss, rp, gr, o⟩ => ⟨rfl, L, hd, [], rp, .nil, o⟩
end
end EV

set_option Elab.async false
set_option linter.all false
set_option maxRecDepth 100000
set_option maxHeartbeats 2000000
/-! E6: statements, targets, loops, comprehensions. -/
namespace EV
open PySem PySem.Spec PyProof.Rows L2
variable {X : Cx} {K : PySem.W.Frag} {c : Nat → Addr} {E : XK} {L L' M2 : Lv} {H H' H2 : Hp} {hd hd' : Hd}
variable {a b e : Expr} {es : List Expr} {rest : List Expr} {pos : Pos} {fa fb f : FE} {D : Ends}

abbrev EvS (X : Cx) (c : Nat → Addr) (E : XK) (st : Stmt) (f : FS) : Prop := PS X st (TSof X.K c E f)
abbrev EvSs (X : Cx) (c : Nat → Addr) (E : XK) (st : List Stmt) (f : FS) : Prop := PSs X st (TSof X.K c E f)

theorem GR.set {ss : Sd} {σ : L2.St} (gr : GR K c L H ss σ) (i : Nat) {x : S} {v : V} (r : SR K c L H x v) : GR K c L H (ss.set i (some x)) (σ.set i (some v)) := by
  refine ⟨by rw [List.length_set, List.length_set]; exact gr.len, fun j y h => ?_⟩
  by_cases hj : i = j
  · subst hj
    have hl : i < ss.length := by
      have := (List.getElem?_eq_some_iff.mp h).1
      rwa [List.length_set] at this
    rw [List.getElem?_set_self hl] at h
    cases h
    exact ⟨v, by rw [List.getElem?_set_self (by rw [← gr.len]; exact hl)], r⟩
  · rw [List.getElem?_set_ne hj] at h
    obtain ⟨w, h1, h2⟩ := gr.at_ j y h
    exact ⟨w, by rw [List.getElem?_set_ne hj]; exact h1, h2⟩

/-! ### blocks -/
def sNil : FS := fun ss hd => some (.ok (.nx ss) hd)
def sSeq (f g : FS) : FS := fun ss hd => bnd (f ss hd) fun r h => match r with
  | .nx ss' => g ss' h
  | r => some (.ok r h)
theorem bNil : EvSs X c E [] sNil := PSs.weak pss_nil fun D σ H ⟨L, hd, ss, rp, gr, o⟩ => o.here rp σ gr
theorem bCons {st : Stmt} {r : List Stmt} {f g : FS} (h1 : EvS X c E st f) (h2 : EvSs X c E r g) : EvSs X c E (st :: r) (sSeq f g) :=
  PSs.weak (pss_cons h1 h2) fun D σ H ⟨L, hd, ss, rp, gr, o⟩ => ⟨L, hd, ss, rp, gr, (OutP.bnd o).imp fun r hd1 L1 H1 _ x1 rp1 o1 => by
    cases r with
    | nx ss' => exact fun σ' g' => ⟨L1, hd1, ss', rp1, g', o1⟩
    | rt x => exact o1.here rp1
    | bk ss' => exact o1.here rp1
    | ct ss' => exact o1.here rp1⟩
theorem bOne {st : Stmt} {f : FS} (h1 : EvS X c E st f) : EvSs X c E [st] f := PSs.weak (pss_one h1) fun D σ H h => h
theorem iPass {p : Pos} : EvS X c E (.Pass p) sNil := PS.weak ps_pass fun D σ H ⟨L, hd, ss, rp, gr, o⟩ => o.here rp σ gr
def sBrk : FS := fun ss hd => some (.ok (.bk ss) hd)
def sCnt : FS := fun ss hd => some (.ok (.ct ss) hd)
theorem iBrk {p : Pos} : EvS X c E (.Break p) sBrk := PS.weak ps_break fun D σ H ⟨L, hd, ss, rp, gr, o⟩ => o.here rp σ gr
theorem iCnt {p : Pos} : EvS X c E (.Continue p) sCnt := PS.weak ps_continue fun D σ H ⟨L, hd, ss, rp, gr, o⟩ => o.here rp σ gr
/-- a statement that the runs never reach -/
def sNo : FS := fun _ _ => none
theorem iNo {st : Stmt} : EvS X c E st sNo := PS.weak ps_never fun D σ H ⟨L, hd, ss, rp, gr, o⟩ => o.elim
theorem bNo {st : List Stmt} : EvSs X c E st sNo := PSs.weak pss_never fun D σ H ⟨L, hd, ss, rp, gr, o⟩ => o.elim
def sSet (i : Nat) (f : FE) : FS := fun ss hd => bnd (f ss hd) fun x h => some (.ok (.nx (ss.set i (some x))) h)
theorem set_of {i : Nat} {t : TE} {st : Stmt} (h : PS X st (tAsg t (gName i))) (w : ∀ σ H Q, TEof X.K c E f σ H Q → t σ H Q) : EvS X c E st (sSet i f) :=
  h.weak fun D σ H ⟨L, hd, ss, rp, gr, o⟩ => w _ _ _ ⟨L, hd, ss, rp, gr, (OutP.bnd o).imp fun x hd1 L1 H1 _ x1 rp1 o1 v sv => o1.here rp1 _ ((gr.ext x1).set i sv)⟩
theorem iSet {i : Nat} {x : Str} {pos' : Pos} (hN : X.N.Nodup) (hi : X.N[i]? = some x) (hx : Loc X.env.scope x) (he : EvE X c E e f) (hs : swapsWith e (some (.Name x pos')) pos.line X.env = pure false := by rfl) (hf : X.fn x = true ∨ X.env.scope.names.lookup x = some .local := by first | exact .inl rfl | exact .inr rfl | assumption) :
    EvS X c E (.Assign [.Name x pos'] e pos) (sSet i f) := set_of (ps_set hN hi hx he hs hf) fun _ _ _ h => h
def sDrop (f : FE) : FS := fun ss hd => bnd (f ss hd) fun _ h => some (.ok (.nx ss) h)
theorem some_v {x : S} {K : PySem.W.Frag} {c : Nat → Addr} {L : Lv} {H : Hp} {P : Prop} (h : ∀ v, SR K c L H x v → P) (v : V) (r : SR K c L H x v) : P := h v r
theorem iExpr (he : EvE X c E e f) (hs : swapsWith e none pos.line X.env = pure false := by rfl) : EvS X c E (.Expr e pos) (sDrop f) :=
  (ps_expr he hs).weak fun D σ H ⟨L, hd, ss, rp, gr, o⟩ => ⟨L, hd, ss, rp, gr, (OutP.bnd o).imp fun x hd1 L1 H1 _ x1 rp1 o1 v sv => o1.here rp1 _ (gr.ext x1)⟩
theorem iDoc {x j pos pos'} : EvS X c E (.Expr (.Constant (.str x) j pos) pos') sNil := ps_doc.weak fun D σ H ⟨L, hd, ss, rp, gr, o⟩ => o.here rp σ gr
def sRet (f : FE) : FS := fun ss hd => bnd (f ss hd) fun x h => some (.ok (.rt x) h)
theorem iRet (he : EvE X c E e f) : EvS X c E (.Return (some e) pos) (sRet f) :=
  (ps_ret he).weak fun D σ H ⟨L, hd, ss, rp, gr, o⟩ => ⟨L, hd, ss, rp, gr, (OutP.bnd o).imp fun x hd1 L1 H1 _ x1 rp1 o1 => o1.here rp1⟩
def sRetN : FS := fun ss hd => some (.ok (.rt (.d .none)) hd)
theorem iRetN : EvS X c E (.Return none pos) sRetN := ps_retN.weak fun D σ H ⟨L, hd, ss, rp, gr, o⟩ => o.here rp _ (.d .non)
def sIf (t : FT) (f g : FS) : FS := fun ss hd => bnd (t ss hd) fun k h => if k then f ss h else g ss h
theorem iIf {t : Expr} {p q : List Stmt} {ft : FT} {f g : FS} (ht : EvT X c E t ft) (hp : EvSs X c E p f) (hq : EvSs X c E q g) : EvS X c E (.If t p q pos) (sIf ft f g) :=
  (ps_if ht hp hq).weak fun D σ H ⟨L, hd, ss, rp, gr, o⟩ => ⟨L, hd, ss, rp, gr, (OutP.bnd o).imp fun k hd1 L1 H1 _ x1 rp1 o1 => by
    cases k with
    | true => exact iteT ⟨L1, hd1, ss, rp1, gr.ext x1, o1⟩
    | false => exact iteF ⟨L1, hd1, ss, rp1, gr.ext x1, o1⟩⟩
/-- a, b = x, y of plain local names -/
def sPar (i j : Nat) (fs : Sd → Hd → R (List S)) : FS := fun ss hd => bnd (fs ss hd) fun xs h => match xs with
  | [x, y] => some (.ok (.nx ((ss.set i (some x)).set j (some y))) h)
  | _ => none
theorem iPar {i j : Nat} {x y : Str} {ea eb : Expr} {fs : Sd → Hd → R (List S)} {px py pt : Pos} {kt k2 pt2} (hc : X.calm = true) (hN : X.N.Nodup) (hi : X.N[i]? = some x) (hj : X.N[j]? = some y) (hij : i ≠ j)
    (hx : X.env.scope.names.lookup x = some .local) (hy : X.env.scope.names.lookup y = some .local) (ha : EvA X c E [ea, eb] fs)
    (hw : swappedStores [.Tuple [.Name x px, .Name y py] kt pt] (.Tuple [ea, eb] k2 pt2) X.env = pure (some [x, y]))
    (hs : swapsWithSole [.Tuple [.Name x px, .Name y py] kt pt] (.Tuple [ea, eb] k2 pt2) pos.line X.env = pure false := by rfl) :
    EvS X c E (.Assign [.Tuple [.Name x px, .Name y py] kt pt] (.Tuple [ea, eb] k2 pt2) pos) (sPar i j fs) :=
  (ps_par hc hN hi hj hij hx hy ha hw hs).weak fun D σ H ⟨L, hd, ss, rp, gr, o⟩ => ⟨L, hd, ss, rp, gr, (OutP.bnd o).imp fun xs hd1 L1 H1 _ x1 rp1 o1 vs svs => by
    split at o1
    · cases svs with
      | cons p q => cases q with | cons q1 q2 => cases q2; exact ⟨_, _, rfl, o1.here rp1 _ (((gr.ext x1).set i p).set j q1)⟩
    · exact o1.elim⟩

/-! ### while -/
def sWh (t : FT) (b : FS) : Nat → FS
  | 0 => fun _ _ => none
  | n + 1 => fun ss hd => bnd (t ss hd) fun k h => if k then bnd (b ss h) fun r h' => match r with
      | .nx ss' => sWh t b n ss' h'
      | .ct ss' => sWh t b n ss' h'
      | .bk ss' => some (.ok (.nx ss') h')
      | .rt x => some (.ok (.rt x) h')
    else some (.ok (.nx ss) h)
theorem iWh {t : Expr} {body : List Stmt} {ft : FT} {fb : FS} (n : Nat) (hp : PassesOwn (model X.prog X.w) X.A X.env X.xe) (ht : EvT X c E t ft) (hb : EvSs X c E body fb) : EvS X c E (.While t body [] pos) (sWh ft fb n) :=
  (ps_while hp ht hb).weak fun D σ H h => by
    refine ⟨fun m σ H => TSof X.K c E (sWh ft fb m) D σ H, ⟨n, h⟩, fun m σ H ⟨L, hd, ss, rp, gr, o⟩ => ?_⟩
    cases m with
    | zero => exact o.elim
    | succ m =>
      refine ⟨L, hd, ss, rp, gr, (OutP.bnd o).imp fun k hd1 L1 H1 _ x1 rp1 o1 => ?_⟩
      cases k with
      | false => exact iteF (o1.here rp1 _ (gr.ext x1))
      | true =>
        refine iteT ⟨fun σ' H' => TSof X.K c E (sWh ft fb m) D σ' H', fun σ' H' w => ⟨m, Nat.lt_succ_self m, w⟩, L1, hd1, ss, rp1, gr.ext x1, (OutP.bnd o1).imp fun r hd2 L2 H2 _ x2 rp2 o2 => ?_⟩
        cases r with
        | nx ss' => exact fun σ' g' => ⟨L2, hd2, ss', rp2, g', o2⟩
        | ct ss' => exact fun σ' g' => ⟨L2, hd2, ss', rp2, g', o2⟩
        | bk ss' => exact o2.here rp2
        | rt x => exact o2.here rp2

/-! ### targets -/
abbrev Tg := S → Sd → Option Sd
abbrev Tgs := List S → Sd → Option Sd
def Agree (wr : List Nat) (σ σ' : L2.St) : Prop := σ'.length = σ.length ∧ ∀ i, i ∉ wr → σ'[i]? = σ[i]?
def TGof (K : PySem.W.Frag) (c : Nat → Addr) (t : Tg) (wr : List Nat) : TG := fun v σ H Q => ∃ L hd ss x ss', RP K c L H hd ∧ GR K c L H ss σ ∧ SR K c L H x v ∧ t x ss = some ss' ∧ ∀ σ', GR K c L H ss' σ' → Agree wr σ σ' → Q σ' H
def TGsof (K : PySem.W.Frag) (c : Nat → Addr) (t : Tgs) (wr : List Nat) : TGs := fun vs σ H Q => ∃ L hd ss xs ss', RP K c L H hd ∧ GR K c L H ss σ ∧ SRs K c L H xs vs ∧ t xs ss = some ss' ∧ ∀ σ', GR K c L H ss' σ' → Agree wr σ σ' → Q σ' H
abbrev EvG (X : Cx) (c : Nat → Addr) (tg : Expr) (t : Tg) (wr : List Nat) : Prop := PG X tg (TGof X.K c t wr)
abbrev EvGs (X : Cx) (c : Nat → Addr) (tgs : List Expr) (t : Tgs) (wr : List Nat) : Prop := PGs X tgs (TGsof X.K c t wr)
theorem PG.weak {e : Expr} {t t' : TG} (h : PG X e t) (w : ∀ v σ H Q, t' v σ H Q → t v σ H Q) : PG X e t' := ⟨fun pins s σ H v u Q I r q => h.run pins s σ H v u Q I r (w v σ H Q q)⟩
theorem PGs.weak {e : List Expr} {t t' : TGs} (h : PGs X e t) (w : ∀ v σ H Q, t' v σ H Q → t v σ H Q) : PGs X e t' := ⟨fun pins s σ H v u Q I r q => h.run pins s σ H v u Q I r (w v σ H Q q)⟩
def tgN (i : Nat) : Tg := fun x ss => some (ss.set i (some x))
theorem agree_set (i : Nat) (v : Option V) (σ : L2.St) : Agree [i] σ (σ.set i v) := ⟨List.length_set, fun j hj => by
  rw [List.getElem?_set_ne]
  intro z
  exact hj (by rw [z]; exact List.mem_singleton.mpr rfl)⟩
theorem eG {i : Nat} {x : Str} {pos : Pos} (hN : X.N.Nodup) (hi : X.N[i]? = some x) (hx : Loc X.env.scope x) (hf : X.fn x = true ∨ X.env.scope.names.lookup x = some .local := by first | exact .inl rfl | exact .inr rfl | assumption) : EvG X c (.Name x pos) (tgN i) [i] :=
  PG.weak (pg_name hN hi hx hf) fun v σ H Q ⟨L, hd, ss, x, ss', rp, gr, sr, e, q⟩ => by
    cases e
    exact q _ (gr.set i sr) (agree_set i _ σ)
def tgsN : Tgs := fun xs ss => match xs with
  | [] => some ss
  | _ => none
def tgsC (t : Tg) (u : Tgs) : Tgs := fun xs ss => match xs with
  | x :: r => match t x ss with
    | some ss' => u r ss'
    | none => none
  | [] => none
theorem eGsN : EvGs X c [] tgsN [] := PGs.weak pgs_nil fun v σ H Q ⟨L, hd, ss, xs, ss', rp, gr, sr, e, q⟩ => by
  unfold tgsN at e
  split at e
  · cases e; cases sr; exact ⟨rfl, q σ gr ⟨rfl, fun _ _ => rfl⟩⟩
  · cases e
theorem eGsC {g : Expr} {gs : List Expr} {t : Tg} {u : Tgs} {w1 w2 : List Nat} (h1 : EvG X c g t w1) (h2 : EvGs X c gs u w2)
    (hs : (assignEach (g :: gs) X.env).map (·.2) = assign g X.env :: (assignEach gs X.env).map (·.2) := by rfl) : EvGs X c (g :: gs) (tgsC t u) (w1 ++ w2) :=
  PGs.weak (pgs_cons h1 h2 hs) fun v σ H Q ⟨L, hd, ss, xs, ss', rp, gr, sr, e, q⟩ => by
    unfold tgsC at e
    split at e
    · split at e
      · rename_i x r _ s1 h1
        cases sr with
        | cons a b =>
          refine ⟨_, _, rfl, L, hd, ss, x, s1, rp, gr, a, h1, fun σ1 g1 a1 => ⟨L, hd, s1, r, ss', rp, g1, b, e, fun σ2 g2 a2 => q σ2 g2 ⟨a2.1.trans a1.1, fun i hi => ?_⟩⟩⟩
          rw [List.mem_append, not_or] at hi
          exact (a2.2 i hi.2).trans (a1.2 i hi.1)
      · cases e
    · cases e
/-- (a, b, ..) from a tuple; from a frozen list -/
def tgT (n : Nat) (u : Tgs) : Tg := fun x ss => match x with
  | .d (.tuple ds) => if ds.length = n then u (ds.map .d) ss else none
  | _ => none
def tgL (n : Nat) (u : Tgs) : Tg := fun x ss => match x with
  | .d (.list ds) => if ds.length = n then u (ds.map .d) ss else none
  | _ => none
theorem eGT {gs : List Expr} {k : Nat} {u : Tgs} {wr : List Nat} {n : Nat} (hc : X.calm = true) (h : EvGs X c gs u wr)
    (hn : (assignEach gs X.env).length = n := by rfl) (hst : (assignEach gs X.env).findIdx? (·.1) = none := by rfl) : EvG X c (.Tuple gs k pos) (tgT n u) wr :=
  PG.weak (pg_tup hc h hn hst) fun v σ H Q ⟨L, hd, ss, x, ss', rp, gr, sr, e, q⟩ => by
    unfold tgT at e
    split at e
    · split at e
      · rename_i hl
        obtain ⟨p, vs, rfl, a, r⟩ := sr.tup
        exact ⟨p, vs, rfl, a, by rw [← r.length]; exact hl, L, hd, ss, _, ss', rp, gr, r.srs, e, q⟩
      · cases e
    · cases e
theorem eGL {gs : List Expr} {k : Nat} {u : Tgs} {wr : List Nat} {n : Nat} (hc : X.calm = true) (h : EvGs X c gs u wr)
    (hn : (assignEach gs X.env).length = n := by rfl) (hst : (assignEach gs X.env).findIdx? (·.1) = none := by rfl) : EvG X c (.Tuple gs k pos) (tgL n u) wr :=
  PG.weak (pg_unl hc h hn hst) fun v σ H Q ⟨L, hd, ss, x, ss', rp, gr, sr, e, q⟩ => by
    unfold tgL at e
    split at e
    · split at e
      · rename_i hl
        obtain ⟨p, vs, rfl, a, _, r⟩ := sr.lst
        exact ⟨p, vs, rfl, SqL.of a, by rw [← r.length]; exact hl, L, hd, ss, _, ss', rp, gr, r.srs, e, q⟩
      · cases e
    · cases e
/-- target = value, any target of names -/
def sAsg (t : Tg) (f : FE) : FS := fun ss hd => bnd (f ss hd) fun x h => match t x ss with
  | some ss' => some (.ok (.nx ss') h)
  | none => none
theorem iAsg {tg : Expr} {t : Tg} {wr : List Nat} (he : EvE X c E e f) (hg : EvG X c tg t wr) (hs : swapsWithSole [tg] e pos.line X.env = pure false := by rfl) (hw : swappedStores [tg] e X.env = pure none := by rfl)
    (h1 : (assignEach [tg] X.env).map (·.2) = [assign tg X.env] := by rfl) : EvS X c E (.Assign [tg] e pos) (sAsg t f) :=
  (ps_asg he hg hs hw h1).weak fun D σ H ⟨L, hd, ss, rp, gr, o⟩ => ⟨L, hd, ss, rp, gr, (OutP.bnd o).imp fun x hd1 L1 H1 _ x1 rp1 o1 v sv => by
    split at o1
    · rename_i ss' e
      exact ⟨L1, hd1, ss, x, ss', rp1, gr.ext x1, sv, e, fun σ' g' _ => o1.here rp1 σ' g'⟩
    · exact o1.elim⟩
/-- box[i] = e -/
def sIxL (fo fi f : FE) : FS := fun ss hd => bnd (f ss hd) fun x h1 => bnd (fo ss h1) fun o h2 => bnd (fi ss h2) fun y h3 => match o, y with
  | .ref n, .d (.int k) => match h3[n]? with
    | some (.lst xs) => match ixN xs.length k with
      | some j => some (.ok (.nx ss) (h3.set n (.lst (xs.set j x))))
      | none => none
    | _ => none
  | _, _ => none
theorem iIxL {o i : Expr} {fo fi : FE} {p2 : Pos} (he : EvE X c E e f) (ho : EvE X c E o fo) (hi : EvE X c E i fi)
    (ha : ∀ v, assign (.Subscript o i p2) X.env v = (do
      let ov ← holding [v] (eval o X.env)
      let iv ← holding [v, ov] (eval i X.env)
      standAt p2
      holding [v, ov, iv] (setItem ov iv v)
      release [v, ov, iv] []) := by intro _; rfl) (hs : swapsWithSole [.Subscript o i p2] e pos.line X.env = pure false := by rfl) (hw : swappedStores [.Subscript o i p2] e X.env = pure none := by rfl)
    (h1 : (assignEach [.Subscript o i p2] X.env).map (·.2) = [assign (.Subscript o i p2) X.env] := by rfl) : EvS X c E (.Assign [.Subscript o i p2] e pos) (sIxL fo fi f) :=
  (ps_asg he (pg_sub ho hi set_list ha) hs hw h1).weak fun D σ H ⟨L, hd, ss, rp, gr, o⟩ => ⟨L, hd, ss, rp, gr, (OutP.bnd o).imp fun x hd1 L1 H1 _ x1 rp1 o1 v sv =>
    ⟨L1, hd1, ss, rp1, gr.ext x1, (OutP.bnd o1).imp fun ov hd2 L2 H2 _ x2 rp2 o2 vo so =>
      ⟨L2, hd2, ss, rp2, (gr.ext x1).ext x2, (OutP.bnd o2).imp fun iv hd3 L3 H3 _ x3 rp3 o3 vi si => by
        split at o3
        · split at o3
          · rename_i n k xs hx
            split at o3
            · rename_i j hj
              obtain ⟨p, rfl, hp⟩ := (so.ext x3).ref_
              obtain ⟨p', hp', cr⟩ := rp3.addr hx
              rw [hp] at hp'
              cases hp'
              cases cr with
              | @lst _ vs _ ea ra =>
                have sv3 := sv.ext (x2.trans x3)
                refine ⟨p, _, _, j, rfl, si.int, ea, by rw [← ra.length]; exact hj, ?_⟩
                have xs' := ext_set rp3 hp (.lst (vs.set j v))
                exact o3 L3 _ xs' (rp_set rp3 hp (.lst upd_same ((ra.ext xs').set (sv3.ext xs') j))) _ (((((gr.ext x1).ext x2).ext x3)).ext xs')
            · exact o3.elim
          · exact o3.elim
        · exact o3.elim⟩⟩⟩

/-! ### what is walked -/
inductive Src where
  | it (xs : List S)
  | live (n : Nat)
def SrcOk (K : PySem.W.Frag) (c : Nat → Addr) (L : Lv) (H : Hp) : Src → It → Prop
  | .it xs, J => xs.length ≤ 16777216 ∧ ∃ G Y, Walk J xs.length G Y ∧ (∀ L' H', Ext L H L' H' → G H') ∧
      ∀ i x L' H' hd' v H2, xs[i]? = some x → Ext L H L' H' → RP K c L' H' hd' → Y i H' v H2 → Ext L' H' L' H2 ∧ RP K c L' H2 hd' ∧ SR K c L' H2 x v
  | .live n, J => ∃ p, L.cs[n]? = some p ∧ J = Itl K p
def TIof (K : PySem.W.Frag) (c : Nat → Addr) (E : XK) (s : Sd → Hd → R Src) : TI := fun σ H R => ∃ L hd ss, RP K c L H hd ∧ GR K c L H ss σ ∧ OutP K c E L H (fun r _ L' H' => ∀ J, SrcOk K c L' H' r J → R J H') (s ss hd)
abbrev EvI (X : Cx) (c : Nat → Addr) (E : XK) (tg iter : Expr) (s : Sd → Hd → R Src) : Prop := PI X tg iter (TIof X.K c E s)
theorem PI.weak {tg e : Expr} {t t' : TI} (h : PI X tg e t) (w : ∀ σ H Q, t' σ H Q → t σ H Q) : PI X tg e t' := ⟨fun pins s σ H Q I q => h.run pins s σ H Q I (w σ H Q q)⟩
/-- the sizes are in bounds -/
def Sz (H : Hp) : Prop := ∀ p vs, (H p = some (.lst vs) ∨ H p = some (.tup vs)) → vs.length ≤ 16777216
theorem sz_of {pins : List (Addr × Obj)} {σ : L2.St} {s : Shared} (I : Inv X pins σ H s) : Sz H := fun p vs h => by
  rw [← sizeLine_eq]
  rcases h with h | h
  · exact (I.hok p _ h).1
  · exact (I.hok p _ h).1
theorem PI.szd {tg e : Expr} {t : TI} (h : PI X tg e t) : PI X tg e (fun σ H R => t σ H fun J H1 => Sz H1 → R J H1) := ⟨fun pins s σ H R I q =>
  wpAny_mono (h.run pins s σ H _ I q) (fun v s1 h1 => wpAny_mono h1 (fun itv s2 ⟨it, fp, tn, J, H', e, I2, T, a, b, r⟩ => ⟨it, fp, tn, J, H', e, I2, T, a, b, r (sz_of I2)⟩) fun _ _ x => x) fun _ _ x => x⟩
/-- a list or tuple; a live list -/
def srcOf (x : S) (hd : Hd) : R Src := match x with
  | .d (.list ds) => some (.ok (.it (ds.map .d)) hd)
  | .ref n => match hd[n]? with
    | some (.lst _) => some (.ok (.live n) hd)
    | _ => none
  | _ => none
def srcOfT (x : S) (hd : Hd) : R Src := match x with
  | .d (.tuple ds) => some (.ok (.it (ds.map .d)) hd)
  | _ => none
def srcE (g : S → Hd → R Src) (f : FE) : Sd → Hd → R Src := fun ss hd => bnd (f ss hd) g
theorem srcOk_lst {p : Addr} {xs : List S} {vs : List V} (ea : H p = some (.lst vs)) (hn : p ∉ L.all) (r : SRs K c L H xs vs) (hz : xs.length ≤ 16777216) : SrcOk K c L H (.it xs) (Itl K p) := by
  refine ⟨hz, _, _, by rw [r.length]; exact walk_list (xs := vs), fun L' H' x => SqL.of (x.same ea hn rfl).1, fun i x L' H' hd' v H2 hx xt rp y => ?_⟩
  obtain ⟨rfl, hv⟩ := y
  obtain ⟨w, hw, sw⟩ := r.get hx
  rw [hv] at hw
  cases hw
  exact ⟨.refl, rp, sw.ext xt⟩
theorem eiL {tg : Expr} (he : EvE X c E e f) : EvI X c E tg e (srcE srcOf f) := PI.weak (PI.szd (pi_list he)) fun σ H R ⟨L, hd, ss, rp, gr, o⟩ => ⟨L, hd, ss, rp, gr, (OutP.bnd o).imp fun x hd1 L1 H1 _ x1 rp1 o1 v sv => by
  unfold srcOf at o1
  split at o1
  · obtain ⟨p, vs, rfl, a, n, r⟩ := sv.lst
    exact ⟨p, rfl, ⟨vs, SqL.of a⟩, fun sz => o1.here rp1 _ (srcOk_lst a n r.srs (by rw [PRs.srs (c := c) r |>.length]; exact sz p vs (.inl a)))⟩
  · split at o1
    · rename_i n xs hx
      obtain ⟨p, rfl, hp⟩ := sv.ref_
      obtain ⟨p', hp', cr⟩ := rp1.addr hx
      rw [hp] at hp'
      cases hp'
      cases cr with
      | lst a r => exact ⟨p, rfl, ⟨_, SqL.of a⟩, fun _ => o1.here rp1 _ ⟨p, hp, rfl⟩⟩
    · exact o1.elim
  · exact o1.elim⟩
theorem tup_std {ds : List PyData} {v : V} (sv : SR K c L H (.d (.tuple ds)) v) : ∃ p vs, v = .ref p ∧ PRs K L H ds vs ∧ (Sz H → ds.length ≤ 16777216) ∧ ∀ L' H', Ext L H L' H' → SqT K H' p vs := by
  cases sv with
  | d h =>
    cases h with
    | tup a b r => exact ⟨_, _, rfl, r, fun sz => by rw [r.length]; exact sz _ _ (.inr a), fun L' H' x => .inl (.inl (x.same a b rfl).1)⟩
    | tupK k r =>
      obtain ⟨o, its, n, e⟩ := k
      exact ⟨_, _, rfl, r, fun _ => by
        have q := e.2.2.2.2.length
        have z := e.2.2.2.1
        rw [sizeLine_eq] at z
        simp only [Array.length_toList] at q
        rw [r.length, q]; exact z, fun L' H' x => .inr ⟨o, its, n, e⟩⟩
theorem srcOk_tup {p : Addr} {xs : List S} {vs : List V} (g : ∀ L' H', Ext L H L' H' → SqT K H' p vs) (r : SRs K c L H xs vs) (hz : xs.length ≤ 16777216) : SrcOk K c L H (.it xs) (Itt K p) := by
  refine ⟨hz, _, _, by rw [r.length]; exact walk_tup (xs := vs), g, fun i x L' H' hd' v H2 hx xt rp y => ?_⟩
  obtain ⟨rfl, hv⟩ := y
  obtain ⟨w, hw, sw⟩ := r.get hx
  rw [hv] at hw
  cases hw
  exact ⟨.refl, rp, sw.ext xt⟩
theorem eiT {tg : Expr} (he : EvE X c E e f) : EvI X c E tg e (srcE srcOfT f) := PI.weak (PI.szd (pi_tup he)) fun σ H R ⟨L, hd, ss, rp, gr, o⟩ => ⟨L, hd, ss, rp, gr, (OutP.bnd o).imp fun x hd1 L1 H1 _ x1 rp1 o1 v sv => by
  unfold srcOfT at o1
  split at o1
  · obtain ⟨p, vs, rfl, r, z, g⟩ := tup_std sv
    exact ⟨p, rfl, ⟨vs, g _ _ .refl⟩, fun sz => o1.here rp1 _ (srcOk_tup g r.srs (by rw [List.length_map]; exact z sz))⟩
  · exact o1.elim⟩
theorem PI.or {tg e : Expr} {t t' u : TI} (h : PI X tg e t) (h' : PI X tg e t') (w : ∀ σ H Q, u σ H Q → t σ H Q ∨ t' σ H Q) : PI X tg e u := ⟨fun pins s σ H Q I q => by
  rcases w σ H Q q with q | q
  · exact h.run pins s σ H Q I q
  · exact h'.run pins s σ H Q I q⟩
/-- range(n) -/
def srcR1 (f : FE) : Sd → Hd → R Src := fun ss hd => bnd (f ss hd) fun x h => match x with
  | .d (.int j) => if -4611686018427387904 ≤ j ∧ j ≤ 16777216 then some (.ok (.it ((List.range j.toNat).map fun (i : Nat) => S.d (.int (i : Int)))) h) else none
  | _ => none
theorem srcOk_range {lo : Int} {n : Nat} (hz : n ≤ 16777216) : SrcOk K c L H (.it ((List.range n).map fun (i : Nat) => S.d (.int (lo + i)))) (Itr lo n) := by
  refine ⟨by rw [List.length_map, List.length_range]; exact hz, fun _ => True, _, by rw [List.length_map, List.length_range]; exact walk_range, fun _ _ _ => trivial, fun i x L' H' hd' v H2 hx xt rp y => ?_⟩
  obtain ⟨rfl, hv⟩ := y
  rw [List.getElem?_map, Option.map_eq_some_iff] at hx
  obtain ⟨j, hj, rfl⟩ := hx
  obtain ⟨hl, hj⟩ := List.getElem?_eq_some_iff.mp hj
  rw [List.getElem_range] at hj
  subst hj hv
  exact ⟨.refl, rp, .d (.int _)⟩
theorem eiR1 {tg : Expr} {p : Pos} (hg : Gl X "range") (hm : X.mg "range" = none) (he : EvE X c E e f) (hs : starEach [e] X.env = (false, eval e X.env) :: starEach [] X.env := by rfl) : EvI X c E tg (.Call (.Name "range" p) [e] [] pos) (srcR1 f) :=
  PI.weak (pi_range1 hg hm (pa_cons he pa_nil hs) (hs.trans rfl)) fun σ H R ⟨L, hd, ss, rp, gr, o⟩ => ⟨L, hd, ss, rp, gr, (OutP.bnd o).imp fun x hd1 L1 H1 _ x1 rp1 o1 v sv => by
    split at o1
    · split at o1
      · rename_i j _ h
        refine ⟨j, by rw [sv.int], by omega, by omega, o1.here rp1 _ ?_⟩
        have q := srcOk_range (K := X.K) (c := c) (L := L1) (H := H1) (lo := 0) (n := j.toNat) (by omega)
        simp only [Int.zero_add] at q
        exact q
      · exact o1.elim
    · exact o1.elim⟩
/-- range(a, b) -/
def srcR2 (f g : FE) : Sd → Hd → R Src := fun ss hd => bnd (f ss hd) fun x h => bnd (g ss h) fun y h => match x, y with
  | .d (.int i), .d (.int j) => if -4611686018427387904 ≤ i ∧ i < 4611686018427387904 ∧ -4611686018427387904 ≤ j ∧ j < 4611686018427387904 ∧ j - i ≤ 16777216 then some (.ok (.it ((List.range (j - i).toNat).map fun (k : Nat) => S.d (.int (i + (k : Int))))) h) else none
  | _, _ => none
theorem eiR2 {tg : Expr} {p : Pos} {g : FE} (hg : Gl X "range") (hm : X.mg "range" = none) (he : EvE X c E a f) (he2 : EvE X c E b g) (hs : starEach [a, b] X.env = (false, eval a X.env) :: starEach [b] X.env := by rfl) (hs2 : starEach [b] X.env = (false, eval b X.env) :: starEach [] X.env := by rfl) :
    EvI X c E tg (.Call (.Name "range" p) [a, b] [] pos) (srcR2 f g) :=
  PI.weak (pi_range2 hg hm (pa_cons he (pa_cons he2 pa_nil hs2) hs) (by rw [hs, hs2]; rfl) (hs2.trans rfl)) fun σ H R ⟨L, hd, ss, rp, gr, o⟩ => ⟨L, hd, ss, rp, gr, (OutP.bnd o).imp fun x hd1 L1 H1 _ x1 rp1 o1 v sv =>
    ⟨L1, hd1, ss, rp1, gr.ext x1, (OutP.bnd o1).imp fun y hd2 L2 H2 _ x2 rp2 o2 u su => by
    split at o2
    · split at o2
      · rename_i h
        exact ⟨_, _, by rw [sv.int, su.int], ⟨h.1, h.2.1, h.2.2.1, h.2.2.2.1⟩, o2.here rp2 _ (srcOk_range (by omega))⟩
      · exact o2.elim
    · exact o2.elim⟩⟩
/-- pairs -/
theorem srcOk_pair {J : It} {n : Nat} {G : Hp → Prop} {xs ys : Nat → Option V} {ds es : List PyData} (w : Walk J n G (YPair xs ys)) (hl : n = min ds.length es.length) (hz : n ≤ 16777216) (hG : ∀ L' H', Ext L H L' H' → G H')
    (h1 : ∀ i v, i < n → xs i = some v → ∃ d, ds[i]? = some d ∧ PR K L H d v) (h2 : ∀ i v, i < n → ys i = some v → ∃ d, es[i]? = some d ∧ PR K L H d v) :
    SrcOk K c L H (.it ((List.zip ds es).map fun p => .d (.tuple [p.1, p.2]))) J := by
  refine ⟨by rw [List.length_map, List.length_zip, ← hl]; exact hz, G, _, by rw [List.length_map, List.length_zip, ← hl]; exact w, hG, fun i x L' H' hd' v H2 hx xt rp y => ?_⟩
  obtain ⟨T, x1, y1, rfl, hT, rfl, e1, e2⟩ := y
  rw [List.getElem?_map, Option.map_eq_some_iff] at hx
  obtain ⟨⟨d, e⟩, hz, rfl⟩ := hx
  have hlt : i < n := by
    have q := (List.getElem?_eq_some_iff.mp hz).1
    rw [List.length_zip] at q
    omega
  obtain ⟨d1, hd1, p1⟩ := h1 i x1 hlt e1
  obtain ⟨d2, hd2, p2⟩ := h2 i y1 hlt e2
  rw [List.getElem?_zip_eq_some] at hz
  rw [hz.1] at hd1
  rw [hz.2] at hd2
  cases hd1
  cases hd2
  have xn := ext_new (c := c) rp hT (.tup [x1, y1])
  exact ⟨xn, rp_new rp hT _, .d (.tup upd_same (rp.free hT) (.cons ((p1.ext xt).ext xn) (.cons ((p2.ext xt).ext xn) .nil)))⟩
theorem PRs.get : ∀ {ds : List PyData} {vs : List V} {i : Nat} {v : V}, PRs K L H ds vs → vs[i]? = some v → ∃ x, ds[i]? = some x ∧ PR K L H x v
  | _, _, _, _, .nil, e => by simp at e
  | _, _, 0, _, .cons a _, e => by simp at e; subst e; exact ⟨_, rfl, a⟩
  | _, _, i + 1, _, .cons _ b, e => by
    obtain ⟨v, h1, h2⟩ := PRs.get (i := i) b (by simpa using e)
    exact ⟨v, by simpa using h1, h2⟩
/-- enumerate(list) -/
def srcEn (f : FE) : Sd → Hd → R Src := fun ss hd => bnd (f ss hd) fun x h => match x with
  | .d (.list ds) => some (.ok (.it ((List.zip ((List.range ds.length).map fun (i : Nat) => PyData.int i) ds).map fun p => .d (.tuple [p.1, p.2]))) h)
  | _ => none
theorem eiEn {elts : List Expr} {kk : Nat} {tpos p : Pos} (hg : Gl X "enumerate") (hm : X.mg "enumerate" = none) (he : EvE X c E e f) (hs : starEach [e] X.env = (false, eval e X.env) :: starEach [] X.env := by rfl) : EvI X c E (.Tuple elts kk tpos) (.Call (.Name "enumerate" p) [e] [] pos) (srcEn f) :=
  PI.weak (PI.szd (pi_enum hg hm (pa_cons he pa_nil hs) (hs.trans rfl))) fun σ H R ⟨L, hd, ss, rp, gr, o⟩ => ⟨L, hd, ss, rp, gr, (OutP.bnd o).imp fun x hd1 L1 H1 _ x1 rp1 o1 v sv => by
    split at o1
    · obtain ⟨q, vs, rfl, a, n, r⟩ := sv.lst
      refine ⟨q, vs, rfl, SqL.of a, fun sz => o1.here rp1 _ (srcOk_pair (walk_enum (xs := vs)) (by simp [r.length]) (sz q vs (.inl a)) (fun L' H' xt => SqL.of (xt.same a n rfl).1) (fun i v hi e => ?_) (fun i v hi e => r.get e))⟩
      cases e
      refine ⟨.int (i : Nat), ?_, .int _⟩
      rw [List.getElem?_map, List.getElem?_range (by rw [r.length]; exact hi)]
      rfl
    · exact o1.elim⟩
/-- zip of two lists, of two tuples -/
def srcZip (f g : FE) : Sd → Hd → R Src := fun ss hd => bnd (f ss hd) fun x h => bnd (g ss h) fun y h => match x, y with
  | .d (.list ds), .d (.list es) => some (.ok (.it ((List.zip ds es).map fun p => .d (.tuple [p.1, p.2]))) h)
  | .d (.tuple ds), .d (.tuple es) => some (.ok (.it ((List.zip ds es).map fun p => .d (.tuple [p.1, p.2]))) h)
  | _, _ => none
theorem walk_zipT {K : PySem.W.Frag} {a b : Addr} {xs ys : List V} {n : Nat} (hn : n = min xs.length ys.length) : Walk (RZ.ItzT K a b) n (fun H => SqT K H a xs ∧ SqT K H b ys) (YPair (fun i => xs[i]?) (fun i => ys[i]?)) := by
  subst hn
  refine ⟨fun i _ hi q => ?_, fun _ q => ⟨xs, ys, q.1, q.2, by omega⟩, fun i H v H' _ q y => ?_⟩
  · have h1 : i < xs.length := by omega
    have h2 : i < ys.length := by omega
    exact ⟨xs, ys, xs[i], ys[i], q.1, q.2, by simp [h1], by simp [h2]⟩
  · obtain ⟨T, x, z, h1, h2, h3, h4, h5⟩ := y
    exact ⟨T, x, z, h1, h2, h3, h4 xs q.1, h5 ys q.2⟩
theorem eiZip {elts : List Expr} {kk : Nat} {tpos p : Pos} {g : FE} (hg : Gl X "zip") (hm : X.mg "zip" = none) (he : EvE X c E a f) (he2 : EvE X c E b g) (hs : starEach [a, b] X.env = (false, eval a X.env) :: starEach [b] X.env := by rfl) (hs2 : starEach [b] X.env = (false, eval b X.env) :: starEach [] X.env := by rfl)
    (hpl : (backTo pos (starEach [b] X.env)).any (·.1) = false := by rfl) : EvI X c E (.Tuple elts kk tpos) (.Call (.Name "zip" p) [a, b] [] pos) (srcZip f g) :=
  PI.weak (PI.szd (RZ.pi_zipA hg hm (pa_cons he (pa_cons he2 pa_nil hs2) hs) hs hpl)) fun σ H R ⟨L, hd, ss, rp, gr, o⟩ => ⟨L, hd, ss, rp, gr, (OutP.bnd o).imp fun x hd1 L1 H1 _ x1 rp1 o1 v sv =>
    ⟨L1, hd1, ss, rp1, gr.ext x1, (OutP.bnd o1).imp fun y hd2 L2 H2 _ x2 rp2 o2 u su => by
    have sv := sv.ext x2
    split at o2
    · obtain ⟨q1, vs, rfl, a1, n1, r1⟩ := sv.lst
      obtain ⟨q2, ws, rfl, a2, n2, r2⟩ := su.lst
      exact ⟨q1, q2, vs, ws, rfl, .inl ⟨SqL.of a1, SqL.of a2, fun sz => o2.here rp2 _ (srcOk_pair (walk_zip (xs := vs) (ys := ws) rfl) (by rw [r1.length, r2.length]) (Nat.le_trans (Nat.min_le_left _ _) (sz q1 vs (.inl a1))) (fun L' H' xt => ⟨SqL.of (xt.same a1 n1 rfl).1, SqL.of (xt.same a2 n2 rfl).1⟩) (fun i v hi e => r1.get e) (fun i v hi e => r2.get e))⟩⟩
    · obtain ⟨q1, vs, rfl, r1, z1, k1⟩ := tup_std sv
      obtain ⟨q2, ws, rfl, r2, z2, k2⟩ := tup_std su
      exact ⟨q1, q2, vs, ws, rfl, .inr ⟨k1 _ _ .refl, k2 _ _ .refl, fun sz => o2.here rp2 _ (srcOk_pair (walk_zipT (xs := vs) (ys := ws) rfl) (by rw [r1.length, r2.length]) (Nat.le_trans (Nat.min_le_left _ _) (by rw [← r1.length]; exact z1 sz)) (fun L' H' xt => ⟨k1 _ _ xt, k2 _ _ xt⟩) (fun i v hi e => r1.get e) (fun i v hi e => r2.get e))⟩⟩
    · exact o2.elim⟩⟩
end EV

set_option Elab.async false
set_option linter.all false
set_option maxRecDepth 100000
set_option maxHeartbeats 2000000
/-! E7: for, comprehensions. -/
namespace EV
open PySem PySem.Spec PyProof.Rows L2
variable {X : Cx} {K : PySem.W.Frag} {c : Nat → Addr} {E : XK} {L L' M2 : Lv} {H H' H2 : Hp} {hd hd' : Hd}
variable {a b e : Expr} {es : List Expr} {rest : List Expr} {pos : Pos} {fa fb f : FE} {D : Ends}

/-! ### for -/
def forIt (t : Tg) (b : FS) : List S → FS
  | [] => fun ss hd => some (.ok (.nx ss) hd)
  | x :: xs => fun ss hd => match t x ss with
    | some ss1 => bnd (b ss1 hd) fun r h => match r with
      | .nx ss2 => forIt t b xs ss2 h
      | .ct ss2 => forIt t b xs ss2 h
      | .bk ss2 => some (.ok (.nx ss2) h)
      | .rt v => some (.ok (.rt v) h)
    | none => none
def forLv (n : Nat) (t : Tg) (b : FS) : Nat → Nat → FS
  | 0, _ => fun _ _ => none
  | k + 1, i => fun ss hd => match hd[n]? with
    | some (.lst xs) => match xs[i]? with
      | some x => match t x ss with
        | some ss1 => bnd (b ss1 hd) fun r h => match r with
          | .nx ss2 => forLv n t b k (i + 1) ss2 h
          | .ct ss2 => forLv n t b k (i + 1) ss2 h
          | .bk ss2 => some (.ok (.nx ss2) h)
          | .rt v => some (.ok (.rt v) h)
        | none => none
      | none => some (.ok (.nx ss) hd)
    | _ => none
def lenAt (hd : Hd) (n : Nat) : Nat := match hd[n]? with
  | some (.lst xs) => xs.length
  | _ => 0
def sFor (s : Sd → Hd → R Src) (t : Tg) (b : FS) : FS := fun ss hd => bnd (s ss hd) fun r h => match r with
  | .it xs => forIt t b xs ss h
  | .live n => forLv n t b (lenAt h n + 1) 0 ss h
theorem iFor {tg iter : Expr} {body : List Stmt} {s : Sd → Hd → R Src} {t : Tg} {wr : List Nat} {fb : FS} (hp : PassesOwn (model X.prog X.w) X.A X.env X.xe) (hc : X.calm = true) (hi : EvI X c E tg iter s) (hg : EvG X c tg t wr) (hb : EvSs X c E body fb)
    (hs : ∀ x, foldedSetIterable iter X.env x = pure x := by intro _; rfl) : EvS X c E (.For tg iter body [] pos) (sFor s t fb) :=
  (ps_for hp hc hi hg hb hs).weak fun D σ H ⟨L, hd, ss, rp, gr, o⟩ => ⟨L, hd, ss, rp, gr, (OutP.bnd o).imp fun r hd1 L1 H1 _ x1 rp1 o1 J sok => by
    cases r with
    | it xs =>
      obtain ⟨_, G, Y, w, hG, hY⟩ := sok
      refine for_it w (fun i σ H => ∃ L2 hd2 ss2, Ext L1 H1 L2 H ∧ RP X.K c L2 H hd2 ∧ GR X.K c L2 H ss2 σ ∧ OutP X.K c E L2 H (fun r _ L' H' => FlP X.K c D r L' H') (forIt t fb (xs.drop i) ss2 hd2))
        ⟨L1, hd1, ss, .refl, rp1, gr.ext x1, o1⟩ (fun i σ H _ ⟨L2, _, _, x2, _⟩ => hG L2 H x2) (fun i x σ H H' hlt ⟨L2, hd2, ss2, x2, rp2, gr2, o2⟩ y => ?_) (fun σ H ⟨L2, hd2, ss2, x2, rp2, gr2, o2⟩ => ?_)
      · have hx : xs[i]? = some xs[i] := List.getElem?_eq_getElem hlt
        obtain ⟨x3, rp3, sx⟩ := hY i _ L2 H hd2 x H' hx x2 rp2 y
        rw [List.drop_eq_getElem_cons hlt] at o2
        simp only [forIt] at o2
        split at o2
        · rename_i ss3 e3
          refine ⟨L2, hd2, ss2, _, ss3, rp3, gr2.ext x3, sx, e3, fun σ' g' _ => ⟨L2, hd2, ss3, rp3, g', ?_⟩⟩
          have o3 : OutP X.K c E L2 H' (fun r _ L' H' => FlP X.K c D r L' H') (bnd (fb ss3 hd2) fun r h => match r with
            | .nx ss2 => forIt t fb (xs.drop (i + 1)) ss2 h
            | .ct ss2 => forIt t fb (xs.drop (i + 1)) ss2 h
            | .bk ss2 => some (.ok (.nx ss2) h)
            | .rt v => some (.ok (.rt v) h)) := by
            revert o2
            generalize (bnd (fb ss3 hd2) fun r h => match r with
              | .nx ss2 => forIt t fb (xs.drop (i + 1)) ss2 h
              | .ct ss2 => forIt t fb (xs.drop (i + 1)) ss2 h
              | .bk ss2 => some (.ok (.nx ss2) h)
              | .rt v => some (.ok (.rt v) h)) = m
            intro o2
            cases m with
            | none => exact o2
            | some r =>
              cases r with
              | ok a h => exact fun L' H'' x rp => o2 L' H'' (x3.trans x) rp
              | ex a h => exact fun L' H'' x rp => o2 L' H'' (x3.trans x) rp
          refine (OutP.bnd o3).imp fun r hd4 L4 H4 _ x4 rp4 o4 => ?_
          cases r with
          | nx ss4 => exact fun σ4 g4 => ⟨L4, hd4, ss4, x2.trans (x3.trans x4), rp4, g4, o4⟩
          | ct ss4 => exact fun σ4 g4 => ⟨L4, hd4, ss4, x2.trans (x3.trans x4), rp4, g4, o4⟩
          | bk ss4 => exact o4.here rp4
          | rt v => exact o4.here rp4
        · exact o2.elim
      · rw [List.drop_length] at o2
        exact o2.here rp2 σ gr2
    | live n =>
      obtain ⟨p, hp', rfl⟩ := sok
      refine ⟨fun i m σ H => ∃ L2 hd2 ss2, Ext L1 H1 L2 H ∧ RP X.K c L2 H hd2 ∧ GR X.K c L2 H ss2 σ ∧ OutP X.K c E L2 H (fun r _ L' H' => FlP X.K c D r L' H') (forLv n t fb m i ss2 hd2), ⟨_, L1, hd1, ss, .refl, rp1, gr.ext x1, o1⟩, fun i m σ H ⟨L2, hd2, ss2, x2, rp2, gr2, o2⟩ => ?_⟩
      cases m with
      | zero => exact o2.elim
      | succ m =>
        have hp2 := x2.pre n p hp'
        simp only [forLv] at o2
        split at o2
        · rename_i xs hxs
          obtain ⟨p', hq, cr⟩ := rp2.addr hxs
          rw [hp2] at hq
          cases hq
          cases cr with
          | @lst _ vs _ ea ra =>
            split at o2
            · rename_i x hx
              obtain ⟨v, hv, sv⟩ := ra.get hx
              refine .inr ⟨⟨vs, v, SqL.of ea, hv⟩, fun σ' H' => ∃ L2 hd2 ss2, Ext L1 H1 L2 H' ∧ RP X.K c L2 H' hd2 ∧ GR X.K c L2 H' ss2 σ' ∧ OutP X.K c E L2 H' (fun r _ L' H' => FlP X.K c D r L' H') (forLv n t fb m (i + 1) ss2 hd2), fun σ' H' h => ⟨m, Nat.lt_succ_self m, h⟩, fun x' H' y => ?_⟩
              obtain ⟨rfl, y⟩ := y
              have e1 := y vs (SqL.of ea)
              rw [hv] at e1
              cases e1
              split at o2
              · rename_i ss3 e3
                refine ⟨L2, hd2, ss2, x, ss3, rp2, gr2, sv, e3, fun σ' g' _ => ⟨L2, hd2, ss3, rp2, g', (OutP.bnd o2).imp fun r hd4 L4 H4 _ x4 rp4 o4 => ?_⟩⟩
                cases r with
                | nx ss4 => exact fun σ4 g4 => ⟨L4, hd4, ss4, x2.trans x4, rp4, g4, o4⟩
                | ct ss4 => exact fun σ4 g4 => ⟨L4, hd4, ss4, x2.trans x4, rp4, g4, o4⟩
                | bk ss4 => exact o4.here rp4
                | rt v => exact o4.here rp4
              · exact o2.elim
            · rename_i hx
              refine .inl ⟨⟨vs, SqL.of ea, ?_⟩, o2.here rp2 σ gr2⟩
              rw [← ra.length]
              exact List.getElem?_eq_none_iff.mp hx
        · exact o2.elim⟩

/-! ### comprehensions -/
/-- a result that raises nothing -/
def bnd0 {α β : Type} (m : R α) (k : α → Hd → R β) : R β :=
  match m with
  | some (.ok a h) => k a h
  | _ => none
@[simp] theorem bnd0_ok {α β : Type} (a : α) (h : Hd) (k : α → Hd → R β) : bnd0 (some (.ok a h)) k = k a h := rfl
@[simp] theorem bnd0_ex {α β : Type} (e : Exn) (h : Hd) (k : α → Hd → R β) : bnd0 (some (.ex e h)) k = none := rfl
@[simp] theorem bnd0_none {α β : Type} (k : α → Hd → R β) : bnd0 none k = none := rfl
theorem OutP.bnd0 {α β : Type} {P : β → Hd → Lv → Hp → Prop} {m : R α} {k : α → Hd → R β} (h : OutP K c E L H P (bnd0 m k)) : ∃ a h', m = some (.ok a h') ∧ OutP K c E L H P (k a h') := by
  cases m with
  | none => exact h.elim
  | some r =>
    cases r with
    | ex e hd => exact h.elim
    | ok a hd => exact ⟨a, hd, rfl, h⟩
def wip {α : Type} (xs : List (Option α)) : List Nat → List (Option α)
  | [] => xs
  | v :: vs => (wip xs vs).set v none
theorem wip_wipe (σ : L2.St) : ∀ vs, wip σ vs = wipe σ vs
  | [] => rfl
  | v :: vs => by
    show (wip σ vs).set v none = (wipe σ vs).set v none
    rw [wip_wipe σ vs]
theorem GR.wip {ss : Sd} {σ : L2.St} (gr : GR K c L H ss σ) : ∀ vs, GR K c L H (wip ss vs) (wipe σ vs)
  | [] => gr
  | v :: vs => by
    have ih := GR.wip gr vs
    refine ⟨by show ((EV.wip ss vs).set v none).length = ((wipe σ vs).set v none).length; rw [List.length_set, List.length_set]; exact ih.len, fun i x h => ?_⟩
    have h : ((EV.wip ss vs).set v none)[i]? = some (some x) := h
    by_cases hv : v = i
    · subst hv
      by_cases hl : v < (EV.wip ss vs).length
      · rw [List.getElem?_set_self hl] at h; cases h
      · rw [List.getElem?_eq_none (by simpa using hl)] at h; cases h
    · rw [List.getElem?_set_ne hv] at h
      obtain ⟨w, h1, h2⟩ := ih.at_ i x h
      exact ⟨w, by show ((wipe σ vs).set v none)[i]? = _; rw [List.getElem?_set_ne hv]; exact h1, h2⟩
theorem wipe_get (σ : L2.St) (i : Nat) : ∀ vs, (wipe σ vs)[i]? = if i ∈ vs ∧ i < σ.length then some none else σ[i]?
  | [] => by simp [wipe]
  | v :: vs => by
    show ((wipe σ vs).set v none)[i]? = _
    by_cases hv : v = i
    · subst hv
      by_cases hl : v < σ.length
      · rw [List.getElem?_set_self (by rw [wipe_length]; exact hl), if_pos ⟨List.mem_cons_self, hl⟩]
      · rw [if_neg (fun h => hl h.2), List.getElem?_eq_none (by rw [List.length_set, wipe_length]; omega), List.getElem?_eq_none (by omega)]
    · rw [List.getElem?_set_ne hv, wipe_get σ i vs]
      have e : i ∈ v :: vs ↔ i ∈ vs := by rw [List.mem_cons]; exact ⟨fun h => h.resolve_left (Ne.symm hv), .inr⟩
      simp only [e]
theorem wipe_agree {wr vs : List Nat} {σ σ' : L2.St} (h : Agree wr (wipe σ vs) σ') (sub : ∀ i ∈ wr, i ∈ vs) : wipe σ' vs = wipe σ vs := by
  have hl : σ'.length = σ.length := by rw [h.1, wipe_length]
  apply List.ext_getElem?
  intro i
  rw [wipe_get, wipe_get, hl]
  by_cases hi : i ∈ vs ∧ i < σ.length
  · rw [if_pos hi, if_pos hi]
  · rw [if_neg hi, if_neg hi]
    by_cases hv : i ∈ vs
    · have : σ.length ≤ i := Nat.le_of_not_lt fun q => hi ⟨hv, q⟩
      rw [List.getElem?_eq_none (by omega), List.getElem?_eq_none (by omega)]
    · rw [h.2 i (fun z => hv (sub i z)), wipe_get, if_neg hi]
def cmpIt (vs : List Nat) (t : Tg) (tt : FT) (te : FE) : List S → List S → Sd → Hd → R (List S)
  | [], acc => fun _ hd => some (.ok acc hd)
  | x :: xs, acc => fun ss hd => match t x (wip ss vs) with
    | some ss1 => bnd0 (tt ss1 hd) fun k h => if k then bnd0 (te ss1 h) fun y h2 => cmpIt vs t tt te xs (acc ++ [y]) ss h2 else cmpIt vs t tt te xs acc ss h
    | none => none
def cmpLv (n : Nat) (vs : List Nat) (t : Tg) (tt : FT) (te : FE) : Nat → Nat → List S → Sd → Hd → R (List S)
  | 0, _, _ => fun _ _ => none
  | k + 1, i, acc => fun ss hd => match hd[n]? with
    | some (.lst xs) => match xs[i]? with
      | some x => match t x (wip ss vs) with
        | some ss1 => if acc.length < 16777216 then bnd0 (tt ss1 hd) fun b h => if b then bnd0 (te ss1 h) fun y h2 => cmpLv n vs t tt te k (i + 1) (acc ++ [y]) ss h2 else cmpLv n vs t tt te k (i + 1) acc ss h else none
        | none => none
      | none => some (.ok acc hd)
    | _ => none
def fComp (vs : List Nat) (s : Sd → Hd → R Src) (t : Tg) (tt : FT) (te : FE) (fin : List S → Hd → R S) : FE := fun ss hd => bnd (s ss hd) fun r h => match r with
  | .it xs => bnd0 (cmpIt vs t tt te xs [] ss h) fin
  | .live n => bnd0 (cmpLv n vs t tt te (lenAt h n + 1) 0 [] ss h) fin
def finF (xs : List S) (hd : Hd) : R S := match pures xs with
  | some ds => some (.ok (.d (.list ds)) hd)
  | none => none
def finL (xs : List S) (hd : Hd) : R S := some (.ok (.ref hd.length) (hd ++ [.lst xs]))
/-- what the end of a comprehension needs -/
def FinOk (K : PySem.W.Frag) (c : Nat → Addr) (E : XK) (fin : List S → Hd → R S) : Prop :=
  ∀ (L1 : Lv) H1 cs H hd D xs vs Q, Ext L1 H1 ⟨cs, L1.bz⟩ H → RP K c ⟨cs, D :: L1.bz⟩ H hd → H1 D = none → D ∉ cs → D ∉ L1.bz → H D = some (.lst vs) → SRs K c ⟨cs, D :: L1.bz⟩ H xs vs → OutP K c E L1 H1 (VP K c Q) (fin xs hd) → Q (.ref D) H
theorem fin_f : FinOk K c E finF := by
  intro L1 H1 cs H hd D xs vs Q x rp h1 hn hb hD r o
  unfold finF at o
  split at o
  · rename_i ds hds
    exact o ⟨cs, L1.bz⟩ H x (rp.less fun b h => List.mem_cons_of_mem _ h) _ (.d (.lst hD (Lv.nall.mpr ⟨hn, hb⟩) ((r.pure hds).less (.of fun b h => List.mem_cons_of_mem _ h))))
  · exact o.elim
theorem fin_l : FinOk K c E finL := by
  intro L1 H1 cs H hd D xs vs Q x rp h1 hn hb hD r o
  exact o ⟨cs ++ [D], L1.bz⟩ H (x.snoc h1) (rp_snoc rp hn hb (.lst hD (r.less less_snoc))) _ (.ref (by
    have hl : cs.length = hd.length := rp.len
    show (cs ++ [D])[hd.length]? = _
    rw [← hl]; simp))
abbrev E00 : XK := fun _ _ _ => False
theorem comp_of {s : Sd → Hd → R Src} {t : Tg} {tt : FT} {te : FE} {wr vs : List Nat} {fin : List S → Hd → R S} (hfin : FinOk K c E fin) (sub : ∀ i ∈ wr, i ∈ vs) {σ : L2.St} {Q : VK} (h : TEof K c E (fComp vs s t tt te fin) σ H Q) :
    tLc (TIof K c E s) (TGof K c t wr) (TTof K c E00 tt) (TEof K c E00 te) vs σ H Q := by
  obtain ⟨L, hd, ss, rp, gr, o⟩ := h
  refine ⟨L, hd, ss, rp, gr, (OutP.bnd o).imp fun r hd1 L1 H1 _ x1 rp1 o1 J sok D hD => ?_⟩
  have gr1 := gr.ext x1
  have hDb : D ∉ L1.bz := (Lv.nall.mp (rp1.free hD)).2
  have hDc : D ∉ L1.cs := (Lv.nall.mp (rp1.free hD)).1
  -- one turn, from the state of the block to the next
  have turn : ∀ (N : List S → Hd → R (List S)) (acc : List S) (x : S) (v : V) (cs : List Addr) (hd2 : Hd) (H' : Hp) (accV : List V) (rest : Hd → List S → R (List S)) (Nx : Hp → Prop),
      acc.length < 16777216 →
      Ext L1 H1 ⟨cs, L1.bz⟩ H' → RP K c ⟨cs, D :: L1.bz⟩ H' hd2 → D ∉ cs → H' D = some (.lst accV) → SRs K c ⟨cs, D :: L1.bz⟩ H' acc accV → SR K c ⟨cs, D :: L1.bz⟩ H' x v →
      OutP K c E L1 H1 (VP K c Q) (bnd0 (match t x (EV.wip ss vs) with
        | some ss1 => bnd0 (tt ss1 hd2) fun k h => if k then bnd0 (te ss1 h) fun y h2 => rest h2 (acc ++ [y]) else rest h acc
        | none => none) fin) →
      (∀ cs hd3 H3 acc3 accV3, Ext L1 H1 ⟨cs, L1.bz⟩ H3 → RP K c ⟨cs, D :: L1.bz⟩ H3 hd3 → D ∉ cs → H3 D = some (.lst accV3) → SRs K c ⟨cs, D :: L1.bz⟩ H3 acc3 accV3 → acc3.length ≤ acc.length + 1 → OutP K c E L1 H1 (VP K c Q) (bnd0 (rest hd3 acc3) fin) → Nx H3) →
      TGof K c t wr v (wipe σ vs) H' fun σ2 H2 => wipe σ2 vs = wipe σ vs ∧ TTof K c E00 tt σ2 H2 fun b H3 => if b = true then TEof K c E00 te σ2 H3 fun y H4 => ∃ acc, H4 D = some (.lst acc) ∧ acc.length < sizeLine ∧ Nx (upd H4 D (.lst (acc ++ [y]))) else Nx H3 := by
    intro N acc x v cs hd2 H' accV rest Nx hz x2 rp2 hn eD rA sx o2 next
    have x2b : Ext L1 H1 ⟨cs, D :: L1.bz⟩ H' := x2.addb hD
    split at o2
    · rename_i ss1 e1
      refine ⟨_, hd2, EV.wip ss vs, x, ss1, rp2, (gr1.ext x2b).wip vs, sx, e1, fun σ' g' ag => ⟨wipe_agree ag sub, _, hd2, ss1, rp2, g', ?_⟩⟩
      have fin3 : ∀ {L3 : Lv} {H3 : Hp}, Ext ⟨cs, D :: L1.bz⟩ H' L3 H3 → Ext L1 H1 ⟨L3.cs, L1.bz⟩ H3 ∧ D ∉ L3.cs ∧ H3 D = some (.lst accV) ∧ Less L3 ⟨L3.cs, D :: L1.bz⟩ := fun {L3 H3} x3 => by
        obtain ⟨⟨o', h', l⟩, n'⟩ := x3.keep D _ eD hn
        rw [l.eq rfl] at h'
        exact ⟨(x2b.trans (show Ext ⟨cs, D :: L1.bz⟩ H' ⟨L3.cs, L3.bz⟩ H3 from x3)).reset, n', h', Less.of fun b hb => x3.bz b hb⟩
      have rpl : ∀ {L3 : Lv} {H3 : Hp} {hd3 : Hd}, Ext ⟨cs, D :: L1.bz⟩ H' L3 H3 → RP K c L3 H3 hd3 → RP K c ⟨L3.cs, D :: L1.bz⟩ H3 hd3 := fun {L3 H3 hd3} x3 rp3 => RP.less (cs := L3.cs) (bz := L3.bz) (fun b hb => x3.bz b hb) rp3
      cases hk : tt ss1 hd2 with
      | none => rw [hk] at o2; exact o2.elim
      | some r =>
        cases r with
        | ex a b => rw [hk] at o2; exact o2.elim
        | ok k hd3 =>
          rw [hk] at o2
          intro L3 H3 x3 rp3
          obtain ⟨y1, y2, y3, y4⟩ := fin3 x3
          cases k with
          | false =>
            refine iteF (next L3.cs hd3 H3 acc accV y1 (rpl x3 rp3) y2 y3 ((rA.ext x3).less y4) (Nat.le_succ _) ?_)
            simpa using o2
          | true =>
            refine iteT ⟨L3, hd3, ss1, rp3, g'.ext x3, ?_⟩
            have o3 : OutP K c E L1 H1 (VP K c Q) (bnd0 (bnd0 (te ss1 hd3) fun y h2 => rest h2 (acc ++ [y])) fin) := by simpa using o2
            cases hy : te ss1 hd3 with
            | none => rw [hy] at o3; exact o3.elim
            | some r =>
              cases r with
              | ex a b => rw [hy] at o3; exact o3.elim
              | ok y hd4 =>
                rw [hy] at o3
                intro L4 H4 x4 rp4 w sw
                have x34 := x3.trans x4
                obtain ⟨z1, z2, z3, z4⟩ := fin3 x34
                have rb := rpl x34 rp4
                have wr4 : Ext0 ⟨L4.cs, D :: L1.bz⟩ H4 ⟨L4.cs, D :: L1.bz⟩ (upd H4 D (.lst (accV ++ [w]))) := ext_wr (by exact List.mem_cons_self) _
                have ra4 : SRs K c ⟨L4.cs, D :: L1.bz⟩ H4 (acc ++ [y]) (accV ++ [w]) := ((rA.ext x34).less z4).append (.cons (sw.less z4) .nil)
                refine ⟨accV, z3, by rw [sizeLine_eq, ← rA.length]; exact hz, next L4.cs hd4 _ (acc ++ [y]) (accV ++ [w]) (z1.updD hD _) (rp_wr rb (by exact List.mem_cons_self) z2 _) z2 upd_same (ra4.ext0 wr4) (by simp) o3⟩
    · exact o2.elim
  have start : Ext L1 H1 ⟨L1.cs, L1.bz⟩ (upd H1 D (.lst [])) ∧ RP K c ⟨L1.cs, D :: L1.bz⟩ (upd H1 D (.lst [])) hd1 :=
    ⟨(Ext.refl (L := L1) (H := H1)).updD hD _, rp_busy rp1 hD _⟩
  cases r with
  | it xs =>
    obtain ⟨hlen, G, Y, w, hG, hY⟩ := sok
    refine lc_it w (fun i H => ∃ cs hd2 acc accV, Ext L1 H1 ⟨cs, L1.bz⟩ H ∧ RP K c ⟨cs, D :: L1.bz⟩ H hd2 ∧ D ∉ cs ∧ H D = some (.lst accV) ∧ SRs K c ⟨cs, D :: L1.bz⟩ H acc accV ∧ acc.length ≤ i ∧ OutP K c E L1 H1 (VP K c Q) (bnd0 (cmpIt vs t tt te (xs.drop i) acc ss hd2) fin))
      ⟨L1.cs, hd1, [], [], start.1, start.2, hDc, upd_same, .nil, Nat.le_refl _, o1⟩ (fun i H _ ⟨_, _, _, _, x2, _⟩ => hG _ H x2) (fun i x H H' hlt ⟨cs, hd2, acc, accV, x2, rp2, hn, eD, rA, hl, o2⟩ y => ?_) (fun H ⟨cs, hd2, acc, accV, x2, rp2, hn, eD, rA, hl, o2⟩ => ?_)
    · have hx : xs[i]? = some xs[i] := List.getElem?_eq_getElem hlt
      obtain ⟨x3, rp3, sx⟩ := hY i _ ⟨cs, D :: L1.bz⟩ H hd2 x H' hx (x2.addb hD) rp2 y
      rw [List.drop_eq_getElem_cons hlt] at o2
      simp only [cmpIt] at o2
      have eD' : H' D = some (.lst accV) := by
        obtain ⟨⟨o', h', l⟩, _⟩ := x3.keep D _ eD hn
        rw [l.eq rfl] at h'
        exact h'
      exact turn (fun _ _ => none) acc xs[i] x cs hd2 H' accV (fun h acc => cmpIt vs t tt te (xs.drop (i + 1)) acc ss h) _ (by omega) ((x2.addb hD).trans x3).reset rp3 hn eD' (rA.ext x3) sx o2
        fun cs3 hd3 H3 acc3 accV3 a1 a2 a3 a4 a5 a6 a7 => ⟨cs3, hd3, acc3, accV3, a1, a2, a3, a4, a5, by omega, a7⟩
    · rw [List.drop_length] at o2
      exact hfin L1 H1 cs H hd2 D acc accV Q x2 rp2 hD hn hDb eD rA (by simpa [cmpIt] using o2)
  | live n =>
    obtain ⟨p, hp', rfl⟩ := sok
    refine ⟨fun i m H => ∃ cs hd2 acc accV, Ext L1 H1 ⟨cs, L1.bz⟩ H ∧ RP K c ⟨cs, D :: L1.bz⟩ H hd2 ∧ D ∉ cs ∧ H D = some (.lst accV) ∧ SRs K c ⟨cs, D :: L1.bz⟩ H acc accV ∧ OutP K c E L1 H1 (VP K c Q) (bnd0 (cmpLv n vs t tt te m i acc ss hd2) fin),
      ⟨_, L1.cs, hd1, [], [], start.1, start.2, hDc, upd_same, .nil, o1⟩, fun i m H ⟨cs, hd2, acc, accV, x2, rp2, hn, eD, rA, o2⟩ => ?_⟩
    cases m with
    | zero => exact o2.elim
    | succ m =>
      have hp2 : (⟨cs, D :: L1.bz⟩ : Lv).cs[n]? = some p := x2.pre n p hp'
      simp only [cmpLv] at o2
      split at o2
      · rename_i xs hxs
        obtain ⟨p', hq, cr⟩ := rp2.addr hxs
        rw [hp2] at hq
        cases hq
        cases cr with
        | @lst _ ws _ ea ra =>
          split at o2
          · rename_i x hx
            obtain ⟨v, hv, sv⟩ := ra.get hx
            refine .inr ⟨⟨ws, v, SqL.of ea, hv⟩, fun H' => ∃ cs hd2 acc accV, Ext L1 H1 ⟨cs, L1.bz⟩ H' ∧ RP K c ⟨cs, D :: L1.bz⟩ H' hd2 ∧ D ∉ cs ∧ H' D = some (.lst accV) ∧ SRs K c ⟨cs, D :: L1.bz⟩ H' acc accV ∧ OutP K c E L1 H1 (VP K c Q) (bnd0 (cmpLv n vs t tt te m (i + 1) acc ss hd2) fin), fun H' h => ⟨m, Nat.lt_succ_self m, h⟩, fun x' H' y => ?_⟩
            obtain ⟨rfl, y⟩ := y
            have e1 := y ws (SqL.of ea)
            rw [hv] at e1
            cases e1
            by_cases hz : acc.length < 16777216
            · simp only [hz, if_true] at o2
              exact turn (fun _ _ => none) acc x v cs hd2 H' accV (fun h acc => cmpLv n vs t tt te m (i + 1) acc ss h) _ hz x2 rp2 hn eD rA sv o2
                fun cs3 hd3 H3 acc3 accV3 a1 a2 a3 a4 a5 a6 a7 => ⟨cs3, hd3, acc3, accV3, a1, a2, a3, a4, a5, a7⟩
            · simp only [hz, if_false] at o2
              split at o2
              · exact o2.elim
              · exact o2.elim
          · rename_i hx
            refine .inl ⟨⟨ws, SqL.of ea, ?_⟩, hfin L1 H1 cs H hd2 D acc accV Q x2 rp2 hD hn hDb eD rA (by simpa using o2)⟩
            rw [← ra.length]
            exact List.getElem?_eq_none_iff.mp hx
      · exact o2.elim
end EV

set_option Elab.async false
set_option linter.all false
set_option maxRecDepth 100000
set_option maxHeartbeats 2000000
/-! E8: list comprehensions as expressions; list methods; defs by their bodies; the exit of a def. -/
namespace EV
open PySem PySem.Spec PyProof.Rows L2
variable {X : Cx} {K : PySem.W.Frag} {c : Nat → Addr} {E : XK} {L L' M2 : Lv} {H H' H2 : Hp} {hd hd' : Hd}
variable {a b e : Expr} {es : List Expr} {rest : List Expr} {pos : Pos} {fa fb f : FE} {D : Ends}

def tYesF : FT := fun _ hd => some (.ok true hd)
theorem tsN : PTs X [] (TTof X.K c E tYesF) := ⟨fun pins s σ H Q I ⟨L, hd, ss, rp, gr, o⟩ => pts_nil.run pins s σ H Q I (o.here rp)⟩
theorem ts1 {t : Expr} {ft : FT} (h : EvT X c E t ft) : PTs X [t] (TTof X.K c E ft) := pts_one h
section
variable {elt tg iter : Expr} {ifs : List Expr} {scope : Scope} {own : List (Str × Nat)} {s : Sd → Hd → R Src} {t : Tg} {tt : FT} {te : FE} {wr : List Nat} {fin : List S → Hd → R S}
theorem eLc (hfin : FinOk X.K c E fin) (hc : X.calm = true) (hN : X.N.Nodup) (hi : EvI X c E tg iter s) (ok : BlkOk X.N X.env.scope scope own)
    (hg : ∀ (s : Shared) (H : Hp) (C : Addr) (cl : List (Str × Addr)) (fp : List Addr), EvG (X.blk s H scope (compEnvC scope cl C X.env) fp) c tg t wr)
    (ht : ∀ (s : Shared) (H : Hp) (C : Addr) (cl : List (Str × Addr)) (fp : List Addr), PTs (X.blk s H scope (compEnvC scope cl C X.env) fp) ifs (TTof X.K c E00 tt))
    (he : ∀ (s : Shared) (H : Hp) (C : Addr) (cl : List (Str × Addr)) (fp : List Addr), EvE (X.blk s H scope (compEnvC scope cl C X.env) fp) c E00 elt te)
    (sub : ∀ i ∈ wr, i ∈ own.map (·.2) := by decide) (hs : ∀ x, foldedSetIterable iter X.env x = pure x := by intro _; rfl) :
    EvE X c E (.ListComp elt [⟨tg, iter, ifs, 0⟩] scope pos) (fComp (own.map (·.2)) s t tt te fin) :=
  (pe_lc hc hN hi ok hg ht he hs).weak fun σ H Q h => comp_of hfin sub h
/-- y = [..] -/
theorem iLc {i : Nat} {y : Str} {py spos : Pos} (hfin : FinOk X.K c E fin) (hc : X.calm = true) (hN : X.N.Nodup) (hy : X.N[i]? = some y) (hyl : X.env.scope.names.lookup y = some .local) (hi : EvI X c E tg iter s) (ok : BlkOk X.N X.env.scope scope own)
    (hsw : swapsWith (.ListComp elt [⟨tg, iter, ifs, 0⟩] scope pos) (some (.Name y py)) spos.line X.env = pure true)
    (hg : ∀ (s : Shared) (H : Hp) (C : Addr) (cl : List (Str × Addr)) (fp : List Addr), EvG (X.blk s H scope (compEnvC scope cl C X.env) fp) c tg t wr)
    (ht : ∀ (s : Shared) (H : Hp) (C : Addr) (cl : List (Str × Addr)) (fp : List Addr), PTs (X.blk s H scope (compEnvC scope cl C X.env) fp) ifs (TTof X.K c E00 tt))
    (he : ∀ (s : Shared) (H : Hp) (C : Addr) (cl : List (Str × Addr)) (fp : List Addr), EvE (X.blk s H scope (compEnvC scope cl C X.env) fp) c E00 elt te)
    (sub : ∀ i ∈ wr, i ∈ own.map (·.2) := by decide) (hs : ∀ x, foldedSetIterable iter X.env x = pure x := by intro _; rfl) :
    EvS X c E (.Assign [.Name y py] (.ListComp elt [⟨tg, iter, ifs, 0⟩] scope pos) spos) (sSet i (fComp (own.map (·.2)) s t tt te fin)) :=
  set_of (ps_setLc hc hN hy hyl hsw hi ok hg ht he hs) fun _ _ _ h => comp_of hfin sub h
end

/-! ### methods of live lists -/
def isL (h : Hd) : S → Bool
  | .ref n => match h[n]? with
    | some (.lst _) => true
    | _ => false
  | _ => false
def fM (g : S → List S → Hd → R S) (fo : FE) (fs : Sd → Hd → R (List S)) : FE := fun ss hd => bnd (fo ss hd) fun x h1 => if isL h1 x then bnd (fs ss h1) fun xs h2 => g x xs h2 else none
def fM0 (g : S → List S → Hd → R S) (fo : FE) : FE := fun ss hd => bnd (fo ss hd) fun x h1 => if isL h1 x then g x [] h1 else none
def OkM (K : PySem.W.Frag) (c : Nat → Addr) (E : XK) (g : S → List S → Hd → R S) (r : V → List V → Hp → VK → Prop) : Prop :=
  ∀ L H hd x xs v vs Q, RP K c L H hd → SR K c L H x v → SRs K c L H xs vs → OutP K c E L H (VP K c Q) (g x xs hd) → r v vs H Q
theorem isL_ty {x : S} {v : V} (rp : RP K c L H hd) (r : SR K c L H x v) (h : isL hd x = true) : tyV K "list" v H := by
  cases x with
  | ref n =>
    obtain ⟨p, rfl, hp⟩ := r.ref_
    obtain ⟨o, ho, cr⟩ := rp.get hp
    simp only [isL, ho] at h
    cases cr with
    | lst ea _ => exact .inl ⟨rfl, _, SqL.of ea⟩
    | dct _ _ => cases h
    | ins _ _ => cases h
    | slt _ _ _ => cases h
  | d _ => cases h
  | ins _ _ => cases h
  | dct _ => cases h
  | scr _ => cases h
theorem eM {g : S → List S → Hd → R S} {r : V → List V → Hp → VK → Prop} {fo : FE} {fs : Sd → Hd → R (List S)} (hr : OkM X.K c E g r) (h : PE X e (tBM X.K "list" r (TEof X.K c E fo) (TAof X.K c E fs))) : EvE X c E e (fM g fo fs) :=
  h.weak fun σ H Q ⟨L, hd, ss, rp, gr, o⟩ => ⟨L, hd, ss, rp, gr, (OutP.bnd o).imp fun x hd1 L1 H1 _ x1 rp1 o1 v sv => by
    split at o1
    · rename_i hl
      exact ⟨isL_ty rp1 sv hl, L1, hd1, ss, rp1, gr.ext x1, (OutP.bnd o1).imp fun xs hd2 L2 H2 _ x2 rp2 o2 vs svs => hr L2 H2 hd2 x xs v vs Q rp2 (sv.ext x2) svs o2⟩
    · exact o1.elim⟩
theorem eM0 {g : S → List S → Hd → R S} {r : V → List V → Hp → VK → Prop} {fo : FE} (hr : OkM X.K c E g r) (h : PE X e (tBM0 X.K "list" r (TEof X.K c E fo))) : EvE X c E e (fM0 g fo) :=
  h.weak fun σ H Q ⟨L, hd, ss, rp, gr, o⟩ => ⟨L, hd, ss, rp, gr, (OutP.bnd o).imp fun x hd1 L1 H1 _ x1 rp1 o1 v sv => by
    split at o1
    · rename_i hl
      exact ⟨isL_ty rp1 sv hl, hr L1 H1 hd1 x [] v [] Q rp1 sv .nil o1⟩
    · exact o1.elim⟩
def gApp (x : S) (xs : List S) (hd : Hd) : R S := match x, xs with
  | .ref n, [y] => match hd[n]? with
    | some (.lst ws) => if ws.length < 16777216 then some (.ok (.d .none) (hd.set n (.lst (ws ++ [y])))) else none
    | _ => none
  | _, _ => none
theorem lst_at {n : Nat} {ws : List S} {v : V} (rp : RP K c L H hd) (r : SR K c L H (.ref n) v) (h : hd[n]? = some (.lst ws)) : ∃ p vs, v = .ref p ∧ L.cs[n]? = some p ∧ H p = some (.lst vs) ∧ SRs K c L H ws vs := by
  obtain ⟨p, rfl, hp⟩ := r.ref_
  obtain ⟨p', hp', cr⟩ := rp.addr h
  rw [hp] at hp'
  cases hp'
  cases cr with
  | lst ea ra => exact ⟨p, _, rfl, hp, ea, ra⟩
/-- a live list gets new items -/
theorem set_lst {n : Nat} {p : Addr} {ws : List S} {vs : List V} {r : S} {v : V} {Q : VK} (rp : RP K c L H hd) (hp : L.cs[n]? = some p) (sw : SRs K c L H ws vs) (sr : SR K c L H r v) (o : OutP K c E L H (VP K c Q) (some (.ok r (hd.set n (.lst ws))))) : Q v (upd H p (.lst vs)) := by
  have x := ext_set rp hp (.lst vs)
  exact o L _ x (rp_set rp hp (.lst upd_same (sw.ext x))) v (sr.ext x)
theorem ok_app : OkM K c E gApp rAppend := by
  intro L H hd x xs v vs Q rp rx rs o
  unfold gApp at o
  split at o
  · split at o
    · rename_i n y _ ws hw
      split at o
      · rename_i hz
        obtain ⟨p, us, rfl, hp, ea, ra⟩ := lst_at rp rx hw
        cases rs with
        | cons ry r0 =>
          cases r0
          exact ⟨p, us, _, rfl, rfl, ea, by rw [sizeLine_eq, ← ra.length]; exact hz, set_lst rp hp (ra.append (.cons ry .nil)) (.d .non) o⟩
      · exact o.elim
    · exact o.elim
  · exact o.elim
def gPopAt (x : S) (xs : List S) (hd : Hd) : R S := match x, xs with
  | .ref n, [.d (.int i)] => match hd[n]? with
    | some (.lst ws) => if -9223372036854775808 ≤ i ∧ i < 9223372036854775808 then match seqIndex? i ws.length with
      | some k => match ws[k]? with
        | some y => some (.ok y (hd.set n (.lst (ws.eraseIdx k))))
        | none => none
      | none => none
      else none
    | _ => none
  | _, _ => none
theorem ok_popAt : OkM K c E gPopAt rPopAt := by
  intro L H hd x xs v vs Q rp rx rs o
  unfold gPopAt at o
  split at o
  · split at o
    · rename_i n i _ ws hw
      split at o
      · rename_i hz
        split at o
        · rename_i k hk
          split at o
          · rename_i y hy
            obtain ⟨p, us, rfl, hp, ea, ra⟩ := lst_at rp rx hw
            obtain ⟨u, hu, su⟩ := ra.get hy
            cases rs with
            | cons ry r0 =>
              cases r0
              obtain rfl := ry.int
              exact ⟨p, us, i, k, u, rfl, rfl, ea, hz.1, hz.2, by rw [← ra.length]; exact hk, hu, set_lst rp hp (ra.erase k) su o⟩
          · exact o.elim
        · exact o.elim
      · exact o.elim
    · exact o.elim
  · exact o.elim
def gExt (x : S) (xs : List S) (hd : Hd) : R S := match x, xs with
  | .ref n, [y] => match hd[n]? with
    | some (.lst ws) => match y with
      | .d (.list ds) => if ws.length + ds.length ≤ 16777216 then some (.ok (.d .none) (hd.set n (.lst (ws ++ ds.map .d)))) else none
      | .ref m => match hd[m]? with
        | some (.lst zs) => if ws.length + zs.length ≤ 16777216 then some (.ok (.d .none) (hd.set n (.lst (ws ++ zs)))) else none
        | _ => none
      | _ => none
    | _ => none
  | _, _ => none
theorem ok_ext : OkM K c E gExt rExtend := by
  intro L H hd x xs v vs Q rp rx rs o
  unfold gExt at o
  split at o
  · split at o
    · rename_i n y _ ws hw
      obtain ⟨p, us, rfl, hp, ea, ra⟩ := lst_at rp rx hw
      cases rs with
      | cons ry r0 =>
        cases r0
        split at o
        · split at o
          · rename_i hz
            obtain ⟨q, zs, rfl, eb, _, rb⟩ := ry.lst
            exact ⟨p, q, us, zs, rfl, rfl, ea, eb, by rw [sizeLine_eq, ← ra.length, ← rb.length]; exact hz, set_lst rp hp (ra.append rb.srs) (.d .non) o⟩
          · exact o.elim
        · split at o
          · rename_i m _ zs hm
            split at o
            · rename_i hz
              obtain ⟨q, us2, rfl, hq, eb, rb⟩ := lst_at rp ry hm
              exact ⟨p, q, us, us2, rfl, rfl, ea, eb, by rw [sizeLine_eq, ← ra.length, ← rb.length]; exact hz, set_lst rp hp (ra.append rb) (.d .non) o⟩
            · exact o.elim
          · exact o.elim
        · exact o.elim
    · exact o.elim
  · exact o.elim

/-! ### a def by its body -/
def stS (n : Nat) (xs : List S) : Sd := xs.map some ++ List.replicate (n - xs.length) none
/-- what the body hands back; nothing is raised -/
def mB (n : Nat) (fb : FS) : List S → Hd → R S := fun xs hd => bnd0 (fb (stS n xs) hd) fun r h => match r with
  | .nx _ => some (.ok (.d .none) h)
  | .rt x => some (.ok x h)
  | _ => none
theorem gr_start {N : List Str} {xs : List S} {vs : List V} (r : SRs K c L H xs vs) : GR K c L H (stS N.length xs) (L2.start N vs) := by
  have hl := r.length
  refine ⟨by unfold stS L2.start; rw [List.length_append, List.length_append, List.length_map, List.length_map, List.length_replicate, List.length_replicate, hl], fun i x h => ?_⟩
  unfold stS at h
  by_cases hi : i < xs.length
  · rw [List.getElem?_append_left (by simpa using hi), List.getElem?_map] at h
    cases e : xs[i]? with
    | none => rw [e] at h; cases h
    | some y =>
      rw [e] at h
      cases h
      obtain ⟨v, hv, sv⟩ := r.get e
      refine ⟨v, ?_, sv⟩
      unfold L2.start
      rw [List.getElem?_append_left (by rw [List.length_map, ← hl]; exact hi), List.getElem?_map, hv]
      rfl
  · rw [List.getElem?_append_right (by simpa using hi), List.getElem?_replicate] at h
    split at h <;> cases h
section
variable {P : Program} {w : World} {mg : Str → Option Value} {base : Heap}
theorem fn_ev {x qual : Str} {st : Stmt} {fA : Addr} {fd : FuncData} {N ps : List Str} {k : Nat} {fb : FS} (F : Fun K x qual st fA fd) (S : FnScope N ps (defScope st))
    (hbody : ∀ (cdv : Value) (A : Around) (outer : List Env) (s : Shared) (H : Hp) (E : XK), Room k (A.deeper (envOfC qual (defScope st) s.heap.objs.size fA cdv)) →
      EvSs (cxOf CX0 P w K mg base N qual (defScope st) fA cdv A outer s H E).nox c E0 (defBody st) fb) : FnE P w K mg base CX0 c (k + 1) fA fd ps (mB N.length fb) := by
  refine F.ok S (fun vs H Q E h => h.1) (fun cdv A outer s H vs Q E hr h => ?_)
  obtain ⟨hl, L, hd, xs, rp, svs, o⟩ := h
  refine ⟨_, hbody cdv A outer s H E hr, L, hd, stS N.length xs, rp, gr_start svs, ?_⟩
  obtain ⟨r, h', e, o'⟩ := OutP.bnd0 o
  rw [e]
  intro L1 H1 x1 rp1
  cases r with
  | nx ss => exact fun σ _ => o' L1 H1 x1 rp1 _ (.d .non)
  | rt x => exact fun v sv => o' L1 H1 x1 rp1 v sv
  | bk ss => exact o'.elim
  | ct ss => exact o'.elim

/-! ### the exit: cells made within are dropped, the result is frozen -/
mutual
def clS (n : Nat) : S → Bool
  | .d _ => true
  | .ref m => decide (m < n)
  | .ins _ fs => clSs n fs
  | .dct kvs => clKs n kvs
  | .scr _ => true
def clSs (n : Nat) : List S → Bool
  | [] => true
  | x :: r => clS n x && clSs n r
def clKs (n : Nat) : List (Key × S) → Bool
  | [] => true
  | (_, x) :: r => clS n x && clKs n r
end
def clFs (n : Nat) : List (Str × S) → Bool
  | [] => true
  | (_, x) :: r => clS n x && clFs n r
def clOs (n : Nat) : List (Option S) → Bool
  | [] => true
  | none :: r => clOs n r
  | some x :: r => clS n x && clOs n r
def clO (n : Nat) : O → Bool
  | .lst xs => clSs n xs
  | .dct kvs => clKs n kvs
  | .ins _ fs => clFs n fs
  | .slt _ fs => clOs n fs
def clH (n : Nat) (hd : Hd) : Bool := hd.all (clO n)
/-- the first n cells alone -/
def Lv.cut (L : Lv) (n : Nat) : Lv := ⟨L.cs.take n, L.bz⟩
theorem cut_all {n : Nat} {p : Addr} (h : p ∉ L.all) : p ∉ (L.cut n).all := by
  obtain ⟨a, b⟩ := Lv.nall.mp h
  exact Lv.nall.mpr ⟨fun m => a (List.mem_of_mem_take m), b⟩
mutual
theorem PR.cut (n : Nat) : ∀ {x : PyData} {v : V}, PR K L H x v → PR K (L.cut n) H x v
  | _, _, .non => .non
  | _, _, .bl b => .bl b
  | _, _, .int i => .int i
  | _, _, .str x => .str x
  | _, _, .tup s m r => .tup s (cut_all m) (PRs.cut' n r)
  | _, _, .tupK k r => .tupK k (PRs.cut' n r)
  | _, _, .lst s m r => .lst s (cut_all m) (PRs.cut' n r)
theorem PRs.cut' (n : Nat) : ∀ {xs : List PyData} {vs : List V}, PRs K L H xs vs → PRs K (L.cut n) H xs vs
  | _, _, .nil => .nil
  | _, _, .cons a b => .cons (PR.cut n a) (PRs.cut' n b)
end
mutual
theorem SR.cut (n : Nat) : ∀ {x : S} {v : V}, clS n x = true → SR K c L H x v → SR K c (L.cut n) H x v
  | _, _, _, .d r => .d (PR.cut n r)
  | .ref m, _, h, .ref e => .ref (by
      have hm : m < n := by simpa [clS] using h
      show (L.cs.take n)[m]? = _
      rw [List.getElem?_take_of_lt hm]; exact e)
  | .ins C fs, _, h, .ins n1 n2 s r => .ins (cut_all n1) (cut_all n2) s (SRs.cut n (by simpa [clS] using h) r)
  | .dct kvs, _, h, .dct m s r => .dct (cut_all m) s (KRs.cut n (by simpa [clS] using h) r)
  | _, _, _, .scr (.inl ⟨s, m⟩) => .scr (.inl ⟨s, cut_all m⟩)
  | _, _, _, .scr (.inr h) => .scr (.inr h)
theorem SRs.cut (n : Nat) : ∀ {xs : List S} {vs : List V}, clSs n xs = true → SRs K c L H xs vs → SRs K c (L.cut n) H xs vs
  | _, _, _, .nil => .nil
  | x :: r, _, h, .cons a b => by
    simp only [clSs, Bool.and_eq_true] at h
    exact .cons (SR.cut n h.1 a) (SRs.cut n h.2 b)
theorem KRs.cut (n : Nat) : ∀ {xs : List (Key × S)} {vs : List (Key × V)}, clKs n xs = true → KRs K c L H xs vs → KRs K c (L.cut n) H xs vs
  | _, _, _, .nil => .nil
  | (k, x) :: r, _, h, .cons a b => by
    simp only [clKs, Bool.and_eq_true] at h
    exact .cons (SR.cut n h.1 a) (KRs.cut n h.2 b)
end
theorem FRs.cut (n : Nat) : ∀ {xs : List (Str × S)} {vs : List (Str × V)}, clFs n xs = true → FRs K c L H xs vs → FRs K c (L.cut n) H xs vs
  | _, _, _, .nil => .nil
  | (k, x) :: r, _, h, .cons a b => by
    simp only [clFs, Bool.and_eq_true] at h
    exact .cons (SR.cut n h.1 a) (FRs.cut n h.2 b)
theorem ORs.cut (n : Nat) : ∀ {xs : List (Option S)} {vs : List (Option V)}, clOs n xs = true → ORs K c L H xs vs → ORs K c (L.cut n) H xs vs
  | _, _, _, .nil => .nil
  | none :: r, _, h, .non b => .non (ORs.cut n (by simpa [clOs] using h) b)
  | some x :: r, _, h, .cons a b => by
    simp only [clOs, Bool.and_eq_true] at h
    exact .cons (SR.cut n h.1 a) (ORs.cut n h.2 b)
theorem CR.cut (n : Nat) {o : O} {p : Addr} (h : clO n o = true) (r : CR K c L H o p) : CR K c (L.cut n) H o p := by
  cases r with
  | lst a r => exact .lst a (r.cut n h)
  | dct a r => exact .dct a (r.cut n h)
  | ins a r => exact .ins a (r.cut n h)
  | slt m s r => exact .slt (cut_all m) s (r.cut n h)
theorem RP.cut (n : Nat) (h : clH n (hd.take n) = true) (rp : RP K c L H hd) : RP K c (L.cut n) H (hd.take n) := by
  refine ⟨rp.nd.sublist (List.take_sublist _ _), by show (L.cs.take n).length = _; rw [List.length_take, List.length_take, rp.len], rp.bt, fun p hp => rp.nbz p (List.mem_of_mem_take hp), fun m p o h1 h2 => ?_⟩
  have hm : m < n := by
    have := (List.getElem?_eq_some_iff.mp h2).1
    rw [List.length_take] at this
    omega
  have h1 : (L.cs.take n)[m]? = some p := h1
  rw [List.getElem?_take_of_lt hm] at h1
  have ho : clO n o = true := List.all_eq_true.mp h o (List.mem_of_getElem? h2)
  rw [List.getElem?_take_of_lt hm] at h2
  exact (rp.at_ m p o h1 h2).cut n ho
theorem Ext.cut {n : Nat} (x : Ext L H L' H') (hn : L.cs.length = n) : Ext L H (L'.cut n) H' := ⟨fun m p h => by
    show (L'.cs.take n)[m]? = _
    rw [List.getElem?_take_of_lt (by rw [← hn]; exact (List.getElem?_eq_some_iff.mp h).1)]
    exact x.pre m p h, fun p o hp hm => let ⟨a, b⟩ := x.keep p o hp hm; ⟨a, fun m => b (List.mem_of_mem_take m)⟩, x.tr, x.bz, x.nb⟩
/-- a live list of pure items, made within, is frozen -/
def frz (n : Nat) (h : Hd) (x : S) : Option S := match x with
  | .ref m => if m < n then some x else match h[m]? with
    | some (.lst xs) => match pures xs with
      | some ds => some (.d (.list ds))
      | none => none
    | _ => none
  | x => if clS n x then some x else none
theorem frz_ok {n : Nat} {x y : S} {v : V} (rp : RP K c L H hd) (r : SR K c L H x v) (e : frz n hd x = some y) : SR K c (L.cut n) H y v := by
  unfold frz at e
  split at e
  · split at e
    · rename_i hm
      cases e
      exact r.cut n (by simpa [clS] using hm)
    · rename_i m hm
      split at e
      · rename_i xs hx
        split at e
        · rename_i ds hds
          cases e
          obtain ⟨p, vs, rfl, hp, ea, ra⟩ := lst_at rp r hx
          refine .d (.lst ea ?_ ((ra.pure hds).cut' n))
          refine Lv.nall.mpr ⟨fun q => ?_, fun q => ?_⟩
          · obtain ⟨j, hj⟩ := List.getElem?_of_mem (show p ∈ L.cs.take n from q)
            have hjn : j < n := by
              have := (List.getElem?_eq_some_iff.mp hj).1
              rw [List.length_take] at this
              omega
            rw [List.getElem?_take_of_lt hjn] at hj
            have := nodup_getElem? rp.nd hp hj
            omega
          · exact rp.nbz p (List.mem_of_getElem? hp) q
        · cases e
      · cases e
  · split at e
    · rename_i h
      cases e
      exact r.cut n h
    · cases e
end
end EV

set_option Elab.async false
set_option linter.all false
set_option maxRecDepth 100000
set_option maxHeartbeats 2000000
/-! E9: the exit of a def, recursion, tuple targets from displays, constants of modules, calls by name, isinstance, str, reversed slices, sorted. -/
namespace EV
open PySem PySem.Spec PyProof.Rows L2
variable {X : Cx} {K : PySem.W.Frag} {c : Nat → Addr} {E : XK} {L L' M2 : Lv} {H H' H2 : Hp} {hd hd' : Hd}
variable {a b e : Expr} {es : List Expr} {rest : List Expr} {pos : Pos} {fa fb f : FE} {D : Ends}

/-! ### the exit -/
def mCut (m : List S → Hd → R S) : List S → Hd → R S := fun xs hd => bnd0 (m xs hd) fun r h =>
  if clH hd.length (h.take hd.length) = true then match frz hd.length h r with
    | some y => some (.ok y (h.take hd.length))
    | none => none
  else none
theorem cut_out {xs : List S} {m : List S → Hd → R S} {Q : VK} (rp : RP K c L H hd) (o : OutP K c E L H (VP K c Q) (mCut m xs hd)) : OutP K c E L H (VP K c Q) (m xs hd) := by
  unfold mCut at o
  obtain ⟨r, h', e, o⟩ := OutP.bnd0 o
  rw [e]
  split at o
  · rename_i hcl
    split at o
    · rename_i y hy
      intro L1 H1 x1 rp1 v sv
      exact o (L1.cut hd.length) H1 (x1.cut rp.len) (rp1.cut hd.length hcl) v (frz_ok rp1 sv hy)
    · exact o.elim
  · exact o.elim
section
variable {P : Program} {w : World} {mg : Str → Option Value} {base : Heap} {CX : CXT} {k : Nat} {f' : Addr} {fd : FuncData} {ps : List Str} {m : List S → Hd → R S}
theorem FnE.cut (F : FnE P w K mg base CX c k f' fd ps m) : FnE P w K mg base CX c k f' fd ps (mCut m) :=
  FnOk.imp F fun vs H Q E ⟨hl, L, hd, xs, rp, svs, o⟩ => ⟨hl, L, hd, xs, rp, svs, cut_out rp o⟩
def mNone : List S → Hd → R S := fun _ _ => none
theorem FnE.none_ : FnE P w K mg base CX c 0 f' fd ps mNone :=
  ⟨fun vs H Q E h => h.1, fun A outer s H args us vs Q E _ _ _ _ ⟨_, _, _, _, _, _, o⟩ => o.elim⟩
/-- a def that calls itself: its function with n turns left -/
def mRec (step : (List S → Hd → R S) → List S → Hd → R S) : Nat → List S → Hd → R S
  | 0 => mNone
  | n + 1 => step (mRec step n)
theorem FnE.rec_ {step : (List S → Hd → R S) → List S → Hd → R S} (j : Nat) (h : ∀ k m, j ≤ k → FnE P w K mg base CX c k f' fd ps m → FnE P w K mg base CX c (k + 1) f' fd ps (step m)) : ∀ n, FnE P w K mg base CX c (n + j) f' fd ps (mRec step n)
  | 0 => FnOk.mono FnE.none_ (Nat.zero_le _)
  | n + 1 => by
    have q := h (n + j) _ (by omega) (FnE.rec_ j h n)
    rw [Nat.add_right_comm] at q
    exact q
end

/-! ### a, b, .. = x, y, .. : the general road -/
def sTT (n : Nat) (u : Tgs) (fs : Sd → Hd → R (List S)) : FS := fun ss hd => bnd (fs ss hd) fun xs h => if xs.length = n then match u xs ss with
    | some ss' => some (.ok (.nx ss') h)
    | none => none
  else none
theorem iTT {gs : List Expr} {k k2 : Nat} {u : Tgs} {wr : List Nat} {n : Nat} {p1 p2 : Pos} {fs : Sd → Hd → R (List S)} (hc : X.calm = true) (ha : EvA X c E es fs) (hg : EvGs X c gs u wr)
    (hn : (assignEach gs X.env).length = n := by rfl) (hst : (assignEach gs X.env).findIdx? (·.1) = none := by rfl)
    (hs : swapsWithSole [.Tuple gs k p1] (.Tuple es k2 p2) pos.line X.env = pure false := by rfl) (hw : swappedStores [.Tuple gs k p1] (.Tuple es k2 p2) X.env = pure none := by rfl)
    (h1 : (assignEach [.Tuple gs k p1] X.env).map (·.2) = [assign (.Tuple gs k p1) X.env] := by rfl) (hz : n ≤ 1000 := by decide) : EvS X c E (.Assign [.Tuple gs k p1] (.Tuple es k2 p2) pos) (sTT n u fs) :=
  (ps_asg (pe_tup ha) (pg_tup hc hg hn hst) hs hw h1).weak fun D σ H ⟨L, hd, ss, rp, gr, o⟩ => ⟨L, hd, ss, rp, gr, (OutP.bnd o).imp fun xs hd1 L1 H1 _ x1 rp1 o1 vs svs => by
    split at o1
    · rename_i hl
      split at o1
      · rename_i ss' e
        have hlv : vs.length = n := by rw [← svs.length]; exact hl
        refine ⟨by rw [hlv]; exact Nat.le_of_lt (small1000 hz), fun p hp => ?_⟩
        have x2 : Ext L1 H1 L1 (upd H1 p (.tup vs)) := ext_new rp1 hp _
        have rp2 := rp_new rp1 hp (.tup vs)
        refine ⟨p, vs, rfl, .inl (.inl upd_same), hlv, L1, hd1, ss, xs, ss', rp2, (gr.ext x1).ext x2, svs.ext x2, e, fun σ' g' _ => ?_⟩
        exact o1 L1 _ x2 rp2 σ' g'
      · exact o1.elim
    · exact o1.elim⟩

/-! ### constants of modules -/
theorem eK {x : Str} {p : Pos} {v : V} {u : Value} {d : PyData} (hg : Gl X x) (hm : X.mg x = some u) (r : RelV v u) (q : ∀ K L H, PR K L H d v) (hd : (x == ("__debug__" : Str)) = false := by decide) : EvE X c E (.Name x p) (fC d) :=
  eC (pe_glob hg hm r hd) q
theorem eKs {x y : Str} {p : Pos} {t : Tok} (hg : Gl X x) (hm : X.mg x = some (.str y t)) (hd : (x == ("__debug__" : Str)) = false := by decide) : EvE X c E (.Name x p) (fC (.str y)) :=
  eK hg hm (show RelV (.str y) (.str y t) from ⟨t, rfl⟩) (fun _ _ _ => .str y) hd
theorem eKi {x : Str} {y : Int} {p : Pos} {t : Tok} (hg : Gl X x) (hm : X.mg x = some (.int y t)) (hd : (x == ("__debug__" : Str)) = false := by decide) : EvE X c E (.Name x p) (fC (.int y)) :=
  eK hg hm (show RelV (.int y) (.int y t) from ⟨t, rfl⟩) (fun _ _ _ => .int y) hd

/-! ### isinstance -/
inductive Ty where
  | str | tup | lst | dict | bool | int
inductive Tag where
  | non | bl | int | str | tup | lst | dct
def tyn : Ty → String
  | .str => "str" | .tup => "tuple" | .lst => "list" | .dict => "dict" | .bool => "bool" | .int => "int"
def tagn : Tag → String
  | .non => "NoneType" | .bl => "bool" | .int => "int" | .str => "str" | .tup => "tuple" | .lst => "list" | .dct => "dict"
def isT : Ty → Tag → Bool
  | .str, .str => true | .tup, .tup => true | .lst, .lst => true | .dict, .dct => true | .bool, .bl => true | .int, .int => true | .int, .bl => true
  | _, _ => false
theorem kit_isT (T : Ty) (t : Tag) : kitB (tagn t) (tyn T) = some (isT T t) := by
  cases T <;> cases t <;> decide +kernel
def tagS (hd : Hd) : S → Option Tag
  | .d .none => some .non
  | .d (.bool _) => some .bl
  | .d (.int _) => some .int
  | .d (.str _) => some .str
  | .d (.tuple _) => some .tup
  | .d (.list _) => some .lst
  | .dct _ => some .dct
  | .ref n => match hd[n]? with
    | some (.lst _) => some .lst
    | some (.dct _) => some .dct
    | _ => none
  | _ => none
theorem Std.tyD {p : Addr} {kws : List (Key × V)} (s : Std H p (.dK kws)) : TyX K H (.ref p) (.type "dict") := by
  obtain ⟨o, h, e⟩ := s
  cases o with
  | dK kvs => exact .base (.dK h)
  | frz o' x =>
    have e' : x = .dK kws := e
    subst e'
    exact .fDict h
  | dT kvs => cases e
  | _ => cases e
theorem ty_of {x : S} {v : V} {t : Tag} (rp : RP K c L H hd) (r : SR K c L H x v) (e : tagS hd x = some t) : TyX K H v (.type (tagn t)) := by
  cases x with
  | d x =>
    cases x with
    | none => cases e; rw [r.non]; exact .base .non
    | bool b => cases e; rw [r.bl]; exact .base (.bl b)
    | int i => cases e; rw [r.int]; exact .base (.int i)
    | str y => cases e; rw [r.str]; exact .base (.str y)
    | tuple ds =>
      cases e
      cases r with
      | d h =>
        cases h with
        | tup h1 _ _ => exact .base (.tup h1)
        | tupK k _ =>
          obtain ⟨o, its, n, e1, e2, _⟩ := k
          exact .kTuple e1 e2
    | list ds =>
      cases e
      obtain ⟨p, vs, rfl, h1, _⟩ := r.lst
      exact .base (.lst h1)
    | _ => cases e
  | ref n =>
    obtain ⟨p, rfl, hp⟩ := r.ref_
    obtain ⟨o, ho, cr⟩ := rp.get hp
    simp only [tagS, ho] at e
    cases cr with
    | lst h1 _ => cases e; exact .base (.lst h1)
    | dct h1 _ => cases e; exact .base (.dK h1)
    | ins _ _ => cases e
    | slt _ _ _ => cases e
  | dct kvs =>
    cases e
    cases r with
    | dct n s _ => exact s.tyD
  | ins C fs => cases e
  | scr ns => cases e
def gIsI (T : Ty) (x : S) (hd : Hd) : R S := match tagS hd x with
  | some t => some (.ok (.d (.bool (isT T t))) hd)
  | none => none
def gIsI2 (T U : Ty) (x : S) (hd : Hd) : R S := match tagS hd x with
  | some t => some (.ok (.d (.bool (isT T t || isT U t))) hd)
  | none => none
theorem eIsI (T : Ty) {x : Str} {p p2 : Pos} (hg : Gl X "isinstance") (hm : X.mg "isinstance" = none) (hg2 : Gl X x) (hm2 : X.mg x = none) (hv2 : bootBuiltins x = some (.type (tyn T))) (he : EvE X c E e f)
    (hn : x ≠ "__name__" := by decide) (hd : (x == ("__debug__" : Str)) = false := by decide)
    (h1 : starEach [e, .Name x p2] X.env = (false, eval e X.env) :: starEach [.Name x p2] X.env := by rfl) (h2 : (backTo pos (starEach [.Name x p2] X.env)).any (·.1) = false := by rfl) :
    EvE X c E (.Call (.Name "isinstance" p) [e, .Name x p2] [] pos) (f1 (gIsI T) f) :=
  (pe_callB call_isi hg hm boot_isinstance (pa_cons he (pa_cons (pe_bltn (v := .ty (tyn T)) hg2 hm2 hv2 rfl hn hd) pa_nil) h1) (he := h1) (hpl := h2)).weak fun σ H Q ⟨L, hd, ss, rp, gr, o⟩ => ⟨L, hd, ss, rp, gr, (OutP.bnd o).imp fun y hd1 L1 H1 _ x1 rp1 o1 v sv => by
    unfold gIsI at o1
    split at o1
    · rename_i t ht
      exact ⟨v, .ty (tyn T), _, _, _, rfl, .ty _, ty_of rp1 sv ht, kit_ty (kit_isT T t), o1.here rp1 _ (.d (.bl _))⟩
    · exact o1.elim⟩
theorem eIsI2 (T U : Ty) {x y : Str} {k : Nat} {p p2 p3 p4 : Pos} (hg : Gl X "isinstance") (hm : X.mg "isinstance" = none) (hg2 : Gl X x) (hm2 : X.mg x = none) (hv2 : bootBuiltins x = some (.type (tyn T))) (hg3 : Gl X y) (hm3 : X.mg y = none) (hv3 : bootBuiltins y = some (.type (tyn U))) (he : EvE X c E e f)
    (hn : x ≠ "__name__" := by decide) (hd : (x == ("__debug__" : Str)) = false := by decide) (hn2 : y ≠ "__name__" := by decide) (hd2 : (y == ("__debug__" : Str)) = false := by decide)
    (h1 : starEach [e, .Tuple [.Name x p2, .Name y p3] k p4] X.env = (false, eval e X.env) :: starEach [.Tuple [.Name x p2, .Name y p3] k p4] X.env := by rfl) (h2 : (backTo pos (starEach [.Tuple [.Name x p2, .Name y p3] k p4] X.env)).any (·.1) = false := by rfl) :
    EvE X c E (.Call (.Name "isinstance" p) [e, .Tuple [.Name x p2, .Name y p3] k p4] [] pos) (f1 (gIsI2 T U) f) :=
  (pe_callB call_isiT hg hm boot_isinstance (pa_cons he (pa_cons (pe_tup (pa_cons (pe_bltn (v := .ty (tyn T)) hg2 hm2 hv2 rfl hn hd) (pa_cons (pe_bltn (v := .ty (tyn U)) hg3 hm3 hv3 rfl hn2 hd2) pa_nil))) pa_nil) h1) (he := h1) (hpl := h2)).weak fun σ H Q ⟨L, hd, ss, rp, gr, o⟩ => ⟨L, hd, ss, rp, gr, (OutP.bnd o).imp fun y hd1 L1 H1 _ x1 rp1 o1 v sv => by
    unfold gIsI2 at o1
    split at o1
    · rename_i t ht
      refine ⟨by show 2 ≤ sizeLine; decide, fun q hq => ?_⟩
      have x2 : Ext L1 H1 L1 (upd H1 q (.tup [.ty (tyn T), .ty (tyn U)])) := ext_new rp1 hq _
      have rp2 := rp_new rp1 hq (.tup [.ty (tyn T), .ty (tyn U)])
      refine ⟨v, q, _, _, [.type (tyn T), .type (tyn U)], isT T t || isT U t, rfl, upd_same, .cons (.ty _) (.cons (.ty _) .nil), ty_of rp2 (sv.ext x2) ht, ?_, o1 L1 _ x2 rp2 _ (.d (.bl _))⟩
      refine kitAny_cons (kit_ty (kit_isT T t)) (fun hf => kitAny_cons (kit_ty (kit_isT U t)) (fun h => ?_) (fun h => ?_)) (fun h => ?_)
      · rw [hf, h]; rfl
      · rw [hf, h]; rfl
      · rw [h]; rfl
    · exact o1.elim⟩
end EV

set_option Elab.async false
set_option linter.all false
set_option maxRecDepth 100000
set_option maxHeartbeats 3200000
/-! ES: sets of texts: made from a list, a tuple; their number; sorted. -/
namespace EV
open PySem PySem.Spec PyProof.Rows L2
open PySem.W
def keyOfS (e : Int × Value) : Str := match e.2 with | .str k _ => k | _ => Str.empty
def GoodS (w : World) (e : Int × Value) : Prop := ∃ k tk, e.2 = Value.str k tk ∧ e.1 = hashStr w k

/-- the set of ints at a: S its members, n their number; its table rises and can be walked -/
def SetRS (w : World) (h : Heap) (a : Addr) (S : Str → Bool) (n : Nat) : Prop :=
  ∃ o es ep t, h.get? a = some o ∧ o.ExactSet ∧ o.data = .set es ep t ∧ (∀ e ∈ es.toList, GoodS w e) ∧ (es.toList.map keyOfS).Nodup ∧ (∀ k, S k = true ↔ k ∈ es.toList.map keyOfS) ∧
    es.size < scanBound ∧ t.fits es.size = true ∧ es.size = n ∧ Ris t.place.toList ∧ (w.params.followText "set-order" = true ∨ t.led = true)

section
variable {P : Program} {w : World} {h h' : Heap} {a : Addr} {S : Str → Bool} {n : Nat}

theorem SetRS.at (R : SetRS w h a S n) (k : ∀ o, h.get? a = some o → h'.get? a = some o) : SetRS w h' a S n := by
  obtain ⟨o, es, ep, t, ho, r⟩ := R
  exact ⟨o, es, ep, t, k o ho, r⟩
theorem SetRS.lt (R : SetRS w h a S n) : a < h.objs.size := by
  obtain ⟨o, es, ep, t, ho, r⟩ := R
  exact Heap.lt_size ho
theorem SetRS.congr {S' : Str → Bool} (R : SetRS w h a S n) (e : ∀ k, S' k = S k) : SetRS w h a S' n := by
  have q : S' = S := funext e
  rw [q]; exact R
theorem goodS_elems {l : List (Int × Value)} (g : ∀ e ∈ l, GoodS w e) : ElemsOf (strKind P w) l := fun e he => by
  obtain ⟨k, tk, h1, h2⟩ := g e he
  exact ⟨⟨k, by rw [h1]; exact strKind_is P w k tk, h2⟩, by rw [h1] <;> rfl⟩
theorem goodS_is {e : Int × Value} (g : GoodS w e) (k : Str) : (strKind P w).is k e.2 = true ↔ keyOfS e = k := by
  obtain ⟨k0, tk, h1, _⟩ := g
  unfold keyOfS
  rw [h1]
  show ((k0 == k) = true) ↔ k0 = k
  exact beq_iff_eq
theorem goodS_mem {l : List (Int × Value)} (g : ∀ e ∈ l, GoodS w e) (k : Str) : k ∈ l.map keyOfS ↔ ∃ e ∈ l, (strKind P w).is k e.2 = true := by
  rw [List.mem_map]
  constructor
  · rintro ⟨e, he, q⟩
    exact ⟨e, he, (goodS_is (g e he) k).2 q⟩
  · rintro ⟨e, he, q⟩
    exact ⟨e, he, (goodS_is (g e he) k).1 q⟩
end
section
variable {P : Program} {w : World} {h h' : Heap} {a : Addr} {S : Str → Bool} {n : Nat}
theorem SetRS.setOf (R : SetRS w h a S n) : h.SetOf (strKind P w) a S n := by
  obtain ⟨o, es, ep, t, ho, hx, hd, g, nd, hm, hb, hf, hn, _⟩ := R
  exact ⟨o, es, ep, t, ho, hx, hd, goodS_elems g, fun k => (hm k).trans (goodS_mem g k), hb, hf, hn⟩
end
section
variable {P : Program} {w : World} {A : Around} {E : Value → Shared → Prop} {s : Shared} {a : Addr} {S : Str → Bool} {n : Nat}
theorem setRS_add_tail {g : Bool → Sem Unit} (hg : ∀ (b : Bool) (s₁ : Shared) (Q' : Unit → Shared → Prop), Q' () s₁ → wpAny (model P w) A (g b) Q' E s₁)
    {o : Obj} {es : Array (Int × Value)} {ep : Nat} {t : SetTable} (ho : s.heap.get? a = some o) (hex : o.ExactSet) (hd : o.data = .set es ep t)
    {es1 : Array (Int × Value)} {t2 : SetTable} {S' : Str → Bool} (g1 : ∀ e ∈ es1.toList, GoodS w e) (nd1 : (es1.toList.map keyOfS).Nodup) (m1 : ∀ k, S' k = true ↔ k ∈ es1.toList.map keyOfS)
    (hb1 : es1.size < scanBound) (hf2 : t2.fits es1.size = true) (hr : Ris t2.place.toList) (hl : w.params.followText "set-order" = true ∨ t2.led = true) {wasDummy : Bool} {R : Option Bool → Shared → Prop}
    (hR : ∀ h', Heap.SameBut a s.heap h' → SetRS w h' a S' es1.size → R (some true) { s with heap := h' }) :
    wpAny (model P w) A (do
        storeSet a es1 t2
        if (!wasDummy && t2.tooFull) = true then do
            g (relayAll t2 es1 (SetTable.grown es1.size)).2.2
            storeSet a (relayAll t2 es1 (SetTable.grown es1.size)).1 (relayAll t2 es1 (SetTable.grown es1.size)).2.1
            pure (some true)
          else pure (some true)) R E s := by
  refine wpAny_bind (wpAny_storeSet_of ho hd ?_ (fits_of_scanBound hb1))
  have ho1 := store_at (es' := es1) (t' := t2) ho hd
  have sb1 := Heap.SameBut.update s.heap a (Obj.putSet es1 t2)
  split
  · have pm := relayAll_perm t2 es1 (SetTable.grown es1.size)
    have hf3 := relayAll_fits t2 es1 (SetTable.grown es1.size)
    have hr3 := relayAll_ris t2 es1 (SetTable.grown es1.size)
    have hl3 := relayAll_led t2 es1 (SetTable.grown es1.size)
    generalize relayAll t2 es1 (SetTable.grown es1.size) = Z at pm hf3 hr3 hl3 ⊢
    obtain ⟨es2, t3, gave⟩ := Z
    dsimp only at pm hf3 hr3 hl3 ⊢
    have hsz : es2.size = es1.size := by rw [← Array.length_toList, pm.length_eq, Array.length_toList]
    have hb2 : es2.size < scanBound := by rw [hsz]; exact hb1
    refine wpAny_bind (hg _ _ _ ?_)
    refine wpAny_bind (wpAny_storeSet_of ho1 rfl ?_ (fits_of_scanBound hb2))
    have ho2 := store_at (es' := es2) (t' := t3) ho1 rfl
    refine wpAny_pure (hR _ (sb1.trans (Heap.SameBut.update _ a _)) ?_)
    exact ⟨_, es2, _, t3, ho2, hex, rfl, fun e he => g1 e (pm.mem_iff.mp he), (pm.map keyOfS).nodup_iff.mpr nd1, fun k => (m1 k).trans (pm.map keyOfS).mem_iff.symm, hb2, hf3, hsz, hr3,
      hl.imp id fun z => by rw [hl3]; exact z⟩
  · exact wpAny_pure (hR _ sb1 ⟨_, es1, _, t2, ho1, hex, rfl, g1, nd1, m1, hb1, hf2, rfl, hr, hl⟩)

theorem setRS_add_hashed {k : Str} {tk : Tok} {Q : Bool → Shared → Prop} (R : SetRS w s.heap a S n) (room : n + 1 < scanBound)
    (hQ : ∀ h', Heap.SameBut a s.heap h' → SetRS w h' a (fun j => S j || decide (j = k)) (if S k = true then n else n + 1) → Q (!S k) { s with heap := h' }) :
    wpAny (model P w) A (setAddHashed a (.str k tk) ((strKind P w).hash k)) Q E s := by
  obtain ⟨o, es, ep, t, ho, hex, hd, g, nd, hm, hb, hf, hn, hr, hl⟩ := R
  have hkey : (strKind P w).is k (.str k tk) = true := strKind_is P w k tk
  have hsc : (Value.str k tk).scannable = true := rfl
  have hel : ElemsOf (strKind P w) es.toList := goodS_elems g
  unfold setAddHashed setAddHashedIn
  refine wpAny_holding (wpAny_bind (wpAny_setState_of ho hd hf ?_))
  dsimp only
  rw [byScan_of hsc hb hel]
  simp only [↓reduceIte]
  unfold setAddByScan
  refine wpAny_bind ?_
  refine wpAny_bind (wpAny_rule ?_)
  refine wpAny_bind (wpAny_setScan_of hkey ho hd hf hel ?_)
  cases hfi : List.findIdx? (fun e => (strKind P w).is k e.2) es.toList with
  | some j =>
    dsimp only
    obtain ⟨hj, pj, _⟩ := List.findIdx?_eq_some_iff_getElem.mp hfi
    have hSk : S k = true := (hm k).2 ((goodS_mem (P := P) (w := w) g k).2 ⟨es.toList[j], List.getElem_mem hj, pj⟩)
    refine wpAny_pure (wpAny_pure ?_)
    have q := hQ s.heap (Heap.SameBut.refl a s.heap) ⟨o, es, ep, t, ho, hex, hd, g, nd, fun i => by
      rw [Bool.or_eq_true, decide_eq_true_eq, ← hm i]
      exact ⟨fun z => z.elim id (fun e => e ▸ hSk), .inl⟩, hb, hf, by rw [if_pos hSk]; exact hn, hr, hl⟩
    rw [hSk] at q
    exact q
  | none =>
    dsimp only
    have hnk : k ∉ es.toList.map keyOfS := fun z => by
      obtain ⟨e, he, q⟩ := (goodS_mem (P := P) (w := w) g k).1 z
      have c := List.findIdx?_eq_none_iff.mp hfi e he
      rw [q] at c
      cases c
    have hSk : S k = false := by
      cases q : S k with
      | false => rfl
      | true => exact absurd ((hm k).1 q) hnk
    have hgw : ∀ (b : Bool) {s₁ : Shared} {Q' : Unit → Shared → Prop}, Q' () s₁ → wpAny (model P w) A (match b with | true => rule "set.scan.the-table-gave-way" | false => pure ()) Q' E s₁ :=
      fun b s₁ Q' q => by cases b <;> first | exact wpAny_pure q | exact wpAny_rule q
    have pm := layNew_perm t es ((strKind P w).hash k) (.str k tk)
    have hf1 := layNew_fits t es ((strKind P w).hash k) (.str k tk)
    have hr1 := layNew_ris t es ((strKind P w).hash k) (.str k tk) hr
    have hl1 := layNew_led t es ((strKind P w).hash k) (.str k tk)
    generalize layNew t es ((strKind P w).hash k) (.str k tk) = Z at pm hf1 hr1 hl1 ⊢
    obtain ⟨es1, t1, wasDummy, gave⟩ := Z
    dsimp only at pm hf1 hr1 hl1 ⊢
    rw [Array.toList_push] at pm
    have pc : es1.toList.Perm (((strKind P w).hash k, Value.str k tk) :: es.toList) := pm.trans (List.perm_append_singleton _ _)
    have pk : (es1.toList.map keyOfS).Perm (k :: es.toList.map keyOfS) := pc.map keyOfS
    have g1 : ∀ e ∈ es1.toList, GoodS w e := fun e he => by
      rcases List.mem_cons.mp (pc.mem_iff.mp he) with z | z
      · rw [z]; exact ⟨k, tk, rfl, rfl⟩
      · exact g e z
    have nd1 : (es1.toList.map keyOfS).Nodup := pk.nodup_iff.mpr (List.nodup_cons.mpr ⟨hnk, nd⟩)
    have m1 : ∀ i, (S i || decide (i = k)) = true ↔ i ∈ es1.toList.map keyOfS := fun i => by
      rw [Bool.or_eq_true, decide_eq_true_eq, hm i, pk.mem_iff, List.mem_cons]
      exact Or.comm
    have hsz : es1.size = n + 1 := by rw [← Array.length_toList, pc.length_eq, List.length_cons, Array.length_toList, hn]
    have hb1 : es1.size < scanBound := by rw [hsz]; exact room
    have hled : w.params.followText "set-order" = true ∨ t1.led = true := hl.imp id fun z => by rw [hl1]; exact z
    have fin : ∀ h', Heap.SameBut a s.heap h' → SetRS w h' a (fun j => S j || decide (j = k)) es1.size → Q true { s with heap := h' } := fun h' sb r => by
      have q := hQ h' sb
      rw [hSk] at q
      rw [hsz] at r
      exact q r
    refine wpAny_bind (hgw _ ?_)
    split
    · refine wpAny_bind ?_
      rw [hashByValue_scannable 8 hsc]
      refine wpAny_pure ?_
      refine setRS_add_tail ?_ ho hex hd g1 nd1 m1 hb1 ?_ ?_ ?_ ?_
      · intro b s₁ Q' q; cases b <;> first | exact wpAny_pure q | exact wpAny_rule q
      · first | (split <;> first | exact hf1 | exact SetTable.fits_plain_off hf1) | exact hf1
      · first | (split <;> exact hr1) | exact hr1
      · first | (split <;> exact hled) | exact hled
      · intro h' sb r; dsimp only; exact wpAny_pure (fin h' sb r)
    · refine wpAny_bind (wpAny_pure ?_)
      simp only [↓reduceIte]
      refine setRS_add_tail ?_ ho hex hd g1 nd1 m1 hb1 hf1 hr1 hled ?_
      · intro b s₁ Q' q; cases b <;> first | exact wpAny_pure q | exact wpAny_rule q
      · intro h' sb r; dsimp only; exact wpAny_pure (fin h' sb r)

end
theorem setRS_new_at {w : World} {h : Heap} {a : Addr} {ns : List Str} (ho : h.get? a = some { cls := .type "set", dict := none, data := .set #[] 0 (.fresh 0 0 (!w.params.followText "set-order")) }) : SetRS w h a (fun j => decide (j ∈ ns.take 0)) 0 :=
  ⟨_, #[], 0, _, ho, ⟨rfl, rfl, rfl⟩, rfl, (fun e he => by simp at he), (by simp), (fun k => by simp), (by decide), (by rfl), rfl, List.Pairwise.nil, by
    show _ ∨ (!w.params.followText "set-order") = true
    cases w.params.followText "set-order"
    · exact .inr rfl
    · exact .inl rfl⟩
section
variable {P : Program} {w : World} {A : Around} {E : Value → Shared → Prop} {s : Shared}
theorem set_update_strs {I : Addr} {fp wr : List Addr} {G : Array GenState → Array GenState → Prop} {n : Nat} {Pv : Nat → Value → Prop} {St : Nat → Shared → Prop} {R : Result → Shared → Prop}
    (W : WalksS P w A.in1 I fp wr G n Pv St) (S : Addr) (hSf : S ∉ fp) (ns : List Str) (hn : n = ns.length) (hb : ns.length + 1 < scanBound) (hval : ∀ i v, Pv i v → ∃ k t, ns[i]? = some k ∧ v = .str k t) :
    ∀ (k i : Nat) (s : Shared), n - i = k → i ≤ n → St i s → (∃ c, c ≤ i ∧ SetRS w s.heap S (fun j => decide (j ∈ ns.take i)) c) →
      (∀ s' c, Moved (S :: wr) G s s' → c ≤ n → SetRS w s'.heap S (fun j => decide (j ∈ ns)) c → R (.ok (.ret .none)) s') →
      codeAny (model P w) A (.builtin "set.update.loop" ⟨[.ref S, .ref I], []⟩) R s := by
  have hSw : S ∉ wr := fun h => hSf (W.sub _ h)
  have hsub : ∀ b ∈ wr, b ∈ S :: wr := fun b hb => List.mem_cons_of_mem _ hb
  intro k
  induction k with
  | zero =>
    intro i s hk' hi hst ⟨c, hc, hS⟩ hR
    have hin : i = n := by omega
    subst hin
    refine codeAny_builtin F.entry_set_update_loop ?_
    rw [Around.under_plainId F.plain_set_update_loop _]
    show wpAny _ A.in1 (pyNext (.ref I) >>= _) _ _ s
    refine wpAny_bind (W.done s _ _ hst fun s' hm => ?_)
    show wpAny _ A.in1 (ret Value.none) _ _ s'
    have e : ns.take i = ns := List.take_of_length_le (by omega)
    rw [e] at hS
    exact wpAny_pure (hR s' c (hm.mono hsub) hc (hS.at fun o e => hm.heap S o hSw e))
  | succ k ih =>
    intro i s hk' hi hst ⟨c, hc, hS⟩ hR
    have hlt : i < n := by omega
    refine codeAny_builtin F.entry_set_update_loop ?_
    rw [Around.under_plainId F.plain_set_update_loop _]
    show wpAny _ A.in1 (pyNext (.ref I) >>= _) _ _ s
    refine wpAny_bind (W.item i s _ _ hlt hst fun v s' hP hst' hm => ?_)
    obtain ⟨z, t, hz, rfl⟩ := hval i v hP
    have hS' : SetRS w s'.heap S (fun j => decide (j ∈ ns.take i)) c := hS.at fun o e => hm.heap S o hSw e
    show wpAny _ A.in1 (holding [Value.str z t] (setAdd S (.str z t)) >>= _) _ _ s'
    refine wpAny_bind (wpAny_holding ?_)
    unfold setAdd
    refine wpAny_holding ?_
    refine wpAny_bind ((strKind P w).pyHash (k := z) (strKind_is _ _ _ _) ?_)
    refine setRS_add_hashed (s := { s' with toks := s'.toks + 1 }) hS' (by omega) fun h' hsb hS2 => ?_
    have hS3 : SetRS w h' S (fun j => decide (j ∈ ns.take (i + 1))) (if decide (z ∈ ns.take i) = true then c else c + 1) := hS2.congr fun j => by
      rw [List.take_add_one, hz]
      simp [List.mem_append]
    have hc3 : (if decide (z ∈ ns.take i) = true then c else c + 1) ≤ i + 1 := by
      split <;> omega
    refine wpAny_pure ⟨plainId_quiet F.plain_set_update_loop _, ih (i + 1) _ (by omega) hlt (W.frame _ s' _ _ hst' (Nat.le_succ _) fun b hb o e => ?_) ⟨_, hc3, hS3⟩ fun s'' c2 hm'' hc'' hS'' => ?_⟩
    · rw [hsb.2 b (fun h : b = S => hSf (by rw [← h]; exact hb))]; exact e
    · refine hR s'' c2 (Moved.trans W.gtrans ((hm.mono hsub).then_heap (Nat.le_succ _) fun b o hb e => ?_) hm'') hc'' hS''
      rw [hsb.2 b (fun h : b = S => hb (by rw [h]; exact List.mem_cons_self))]; exact e

set_option maxRecDepth 100000 in
set_option maxHeartbeats 3200000 in
theorem call_set_tupZ {l : Addr} {items : Array Value} (ns : List Str) {Q : Value → Shared → Prop} (hh : A.handled = none) (hl : s.heap.IsTuple l items) (hit : StrsAre items.toList ns) (hb : ns.length + 1 < scanBound)
    (h : ∀ (h' : Heap) (tk c : Nat), SetRS w h' s.heap.objs.size (fun j => decide (j ∈ ns)) c → c ≤ ns.length → (∀ b o, s.heap.get? b = some o → h'.get? b = some o) → Q (.ref s.heap.objs.size) { s with heap := h', toks := tk }) :
    wpAny (model P w) A (call (.type "set") [.ref l]) Q E s := by
  have hisz : items.size = ns.length := by
    have q := StrsAre.len_eq hit
    rw [Array.length_toList] at q
    exact q
  obtain ⟨c, tl, hmro⟩ := F.called_set.mro
  have hmade := F.called_set.made
  have hsub := F.called_set.sub
  refine wpAny_call (codeAny_of_tree ?_)
  show wpAny _ _ (callAny (.type "set") _) _ _ _
  refine wpAny_pure ⟨Code.quiet_builtin _ (by decide +kernel), codeAny_builtin F.entry_type_call ?_⟩
  rw [Around.under_plain (weight_type_call_type "set" [.ref l] []) rfl]
  have h1 := F.called_set.notType
  have h2 := F.called_set.canCreate
  have hct := F.typeCall_set_1 (.ref l)
  repeat (any_goals (first | assumption | wp_step))

  refine codeAny_mono (code_set_led1 (.ref l) (E := E) (Q₁ := fun obj s₁ => obj = .ref s.heap.objs.size ∧ s₁ = { s with heap := s.heap.push { cls := .type "set", dict := none, data := .set #[] 0 (.fresh 0 0 (!w.params.followText "set-order")) } }) ⟨rfl, rfl⟩) fun r s₁ hr => ?_
  cases r with
  | error e => exact hr
  | ok fl =>
    cases fl with
    | ret obj =>
      obtain ⟨rfl, rfl⟩ := hr
      have hS : (s.heap.push { cls := .type "set", dict := none, data := .set #[] 0 (.fresh 0 0 (!w.params.followText "set-order")) }).get? s.heap.objs.size = some { cls := .type "set", dict := none, data := .set #[] 0 (.fresh 0 0 (!w.params.followText "set-order")) } := Heap.get?_push_size _ rfl
      have hT : Shared.TypeIs { s with heap := s.heap.push { cls := .type "set", dict := none, data := .set #[] 0 (.fresh 0 0 (!w.params.followText "set-order")) } } (.ref s.heap.objs.size) "set" := ⟨_, hS, rfl⟩
      have hli := F.called_set.init.lookup
      have hbi := F.called_set.init.bind (.ref s.heap.objs.size)
      repeat (any_goals (first | assumption | wp_step))

      refine codeAny_mono (codeAny_call_builtin (R := wants (fun r s₂ => r = .none ∧ ∃ h' tk c, s₂ = { s with heap := h', toks := tk } ∧ SetRS w h' s.heap.objs.size (fun j => decide (j ∈ ns)) c ∧ c ≤ ns.length ∧
          (∀ b o, s.heap.get? b = some o → h'.get? b = some o)) E) F.called_set.init.plain F.entry_set_init (check_set_init_1 hT ?_)) fun r₂ s₂ hr₂ => ?_
      · obtain ⟨ol, hol, hcl, nl, hdl⟩ := hl
        obtain ⟨ocls, odict, odata, oslots⟩ := ol
        simp only at hcl hdl
        subst hcl; subst hdl
        have hol' : (s.heap.push { cls := .type "set", dict := none, data := .set #[] 0 (.fresh 0 0 (!w.params.followText "set-order")) }).get? l = some { cls := .type "tuple", dict := odict, data := .seq items nl, slots := oslots } := Heap.get?_push_of_some _ hol
        have hsls := F.sub_tuple_set
        have hslf := F.sub_tuple_frozenset
        have hne : (Value.type "tuple" == Value.type "dict") = false := by decide
        have hl1 : (s.heap.push { cls := .type "set", dict := none, data := .set #[] 0 (.fresh 0 0 (!w.params.followText "set-order")) }).IsTuple l items := ⟨_, hol', rfl, nl, rfl⟩
        unfold Builtin.«set.__init__» noKeywords Builtin.Frozenset.updateFrom
        generalize hPI : pyIter = PI
        wp_walk
        subst hPI

        refine wpAny_pyIter_tuple hl1 ?_
        refine wpAny_bind (wpAny_runValue ?_)
        have hlS : l < s.heap.objs.size := Heap.lt_size hol
        have hh3 : A.in1.in1.in1.handled = none := by simp [hh]
        have hz1 : (s.heap.push { cls := .type "set", dict := none, data := .set #[] 0 (.fresh 0 0 (!w.params.followText "set-order")) }).objs.size = s.heap.objs.size + 1 := Heap.size_push ..
        have hneI : l ≠ (s.heap.push { cls := .type "set", dict := none, data := .set #[] 0 (.fresh 0 0 (!w.params.followText "set-order")) }).objs.size := by
          rw [Heap.size_push]; exact Nat.ne_of_lt (Nat.lt_succ_of_lt hlS)
        have hSf : s.heap.objs.size ∉ [(s.heap.push { cls := .type "set", dict := none, data := .set #[] 0 (.fresh 0 0 (!w.params.followText "set-order")) }).objs.size, l] := by
          rw [Heap.size_push]; simp only [List.mem_cons, List.mem_singleton, List.not_mem_nil, or_false, not_or]
          exact ⟨Nat.ne_of_lt (Nat.lt_succ_self _), Nat.ne_of_gt hlS⟩
        have hval : ∀ (i : Nat) (v : Value), items[i]? = some v → ∃ k t, ns[i]? = some k ∧ v = .str k t := fun i v hv => by
          have hi : i < ns.length := by rw [← hisz]; exact (Array.getElem?_eq_some_iff.mp hv).1
          obtain ⟨t, e⟩ := SS.strs_at hit i v (by rw [Array.getElem?_toList]; exact hv)
          refine ⟨ns[i], t, List.getElem?_eq_getElem hi, ?_⟩
          rw [e, List.getD_eq_getElem?_getD, List.getElem?_eq_getElem hi] <;> rfl
        refine set_update_strs ((Walks.tuple hh3 _ l hneI items).toS) s.heap.objs.size
          hSf ns hisz hb hval (items.size - 0) 0 _ (by omega) (Nat.zero_le _)
          ⟨⟨_, Heap.get?_push_size _ rfl, rfl, rfl⟩, (hl1.push _)⟩ ?hS0 ?hR
        case hS0 =>
          have hget : ((s.heap.push { cls := .type "set", dict := none, data := .set #[] 0 (.fresh 0 0 (!w.params.followText "set-order")) }).push { cls := .type "tuple_iterator", data := .fields #[.ref l, .int 0 0] }).get? s.heap.objs.size
              = some { cls := .type "set", dict := none, data := .set #[] 0 (.fresh 0 0 (!w.params.followText "set-order")) } := Heap.get?_push_of_some _ hS
          exact ⟨0, Nat.le_refl 0, setRS_new_at hget⟩
        case hR =>
          intro s' c' hm hc' hS'
          obtain ⟨h', g2, d', tk', os'⟩ := s'
          have eg : g2 = s.gens := hm.gens
          have ed : d' = s.drawn := hm.drawn
          have eo : os' = s.os := hm.os
          subst eg; subst ed; subst eo
          show wpAny _ _ _ _ _ _
          refine wpAny_pure ?_
          show wpAny _ _ (ret Value.none) _ _ _
          rw [hisz] at hc'
          refine wpAny_pure ⟨rfl, h', tk', c', rfl, hS', hc', fun b o e => ?_⟩
          have hb0 : b < s.heap.objs.size := Heap.lt_size e
          have hb1 : b ≠ s.heap.objs.size := Nat.ne_of_lt hb0
          have hb2 : b ≠ (s.heap.push { cls := .type "set", dict := none, data := .set #[] 0 (.fresh 0 0 (!w.params.followText "set-order")) }).objs.size := by
            rw [Heap.size_push]; exact Nat.ne_of_lt (Nat.lt_succ_of_lt hb0)
          exact hm.heap b o (by simp only [List.mem_cons, List.mem_singleton, List.not_mem_nil, or_false, not_or]; exact ⟨hb1, hb2⟩) (Heap.get?_push_of_some _ (Heap.get?_push_of_some _ e))

      · cases r₂ with
        | error e => exact hr₂
        | ok fl₂ =>
          cases fl₂ with
          | ret r =>
            obtain ⟨rfl, h', tk, c', rfl, hS', hc', hk'⟩ := hr₂
            repeat (any_goals (first | assumption | wp_step))
            exact h _ _ _ hS' hc' hk'
          | _ => exact hr₂.elim
    | _ => exact hr.elim

set_option maxRecDepth 100000 in
set_option maxHeartbeats 3200000 in
theorem call_set_lstZ {l : Addr} {items : Array Value} (ns : List Str) {Q : Value → Shared → Prop} (hh : A.handled = none) (hl : s.heap.IsList l items) (hit : StrsAre items.toList ns) (hb : ns.length + 1 < scanBound)
    (h : ∀ (h' : Heap) (tk c : Nat), SetRS w h' s.heap.objs.size (fun j => decide (j ∈ ns)) c → c ≤ ns.length → (∀ b o, s.heap.get? b = some o → h'.get? b = some o) → Q (.ref s.heap.objs.size) { s with heap := h', toks := tk }) :
    wpAny (model P w) A (call (.type "set") [.ref l]) Q E s := by
  have hisz : items.size = ns.length := by
    have q := StrsAre.len_eq hit
    rw [Array.length_toList] at q
    exact q
  obtain ⟨c, tl, hmro⟩ := F.called_set.mro
  have hmade := F.called_set.made
  have hsub := F.called_set.sub
  refine wpAny_call (codeAny_of_tree ?_)
  show wpAny _ _ (callAny (.type "set") _) _ _ _
  refine wpAny_pure ⟨Code.quiet_builtin _ (by decide +kernel), codeAny_builtin F.entry_type_call ?_⟩
  rw [Around.under_plain (weight_type_call_type "set" [.ref l] []) rfl]
  have h1 := F.called_set.notType
  have h2 := F.called_set.canCreate
  have hct := F.typeCall_set_1 (.ref l)
  repeat (any_goals (first | assumption | wp_step))

  refine codeAny_mono (code_set_led1 (.ref l) (E := E) (Q₁ := fun obj s₁ => obj = .ref s.heap.objs.size ∧ s₁ = { s with heap := s.heap.push { cls := .type "set", dict := none, data := .set #[] 0 (.fresh 0 0 (!w.params.followText "set-order")) } }) ⟨rfl, rfl⟩) fun r s₁ hr => ?_
  cases r with
  | error e => exact hr
  | ok fl =>
    cases fl with
    | ret obj =>
      obtain ⟨rfl, rfl⟩ := hr
      have hS : (s.heap.push { cls := .type "set", dict := none, data := .set #[] 0 (.fresh 0 0 (!w.params.followText "set-order")) }).get? s.heap.objs.size = some { cls := .type "set", dict := none, data := .set #[] 0 (.fresh 0 0 (!w.params.followText "set-order")) } := Heap.get?_push_size _ rfl
      have hT : Shared.TypeIs { s with heap := s.heap.push { cls := .type "set", dict := none, data := .set #[] 0 (.fresh 0 0 (!w.params.followText "set-order")) } } (.ref s.heap.objs.size) "set" := ⟨_, hS, rfl⟩
      have hli := F.called_set.init.lookup
      have hbi := F.called_set.init.bind (.ref s.heap.objs.size)
      repeat (any_goals (first | assumption | wp_step))

      refine codeAny_mono (codeAny_call_builtin (R := wants (fun r s₂ => r = .none ∧ ∃ h' tk c, s₂ = { s with heap := h', toks := tk } ∧ SetRS w h' s.heap.objs.size (fun j => decide (j ∈ ns)) c ∧ c ≤ ns.length ∧
          (∀ b o, s.heap.get? b = some o → h'.get? b = some o)) E) F.called_set.init.plain F.entry_set_init (check_set_init_1 hT ?_)) fun r₂ s₂ hr₂ => ?_
      · obtain ⟨ol, hol, hcl, nl, hdl⟩ := hl
        obtain ⟨ocls, odict, odata, oslots⟩ := ol
        simp only at hcl hdl
        subst hcl; subst hdl
        have hol' : (s.heap.push { cls := .type "set", dict := none, data := .set #[] 0 (.fresh 0 0 (!w.params.followText "set-order")) }).get? l = some { cls := .type "list", dict := odict, data := .seq items nl, slots := oslots } := Heap.get?_push_of_some _ hol
        have hsls := F.sub_list_set
        have hslf := F.sub_list_frozenset
        have hne : (Value.type "list" == Value.type "dict") = false := by decide
        have hl1 : (s.heap.push { cls := .type "set", dict := none, data := .set #[] 0 (.fresh 0 0 (!w.params.followText "set-order")) }).IsList l items := ⟨_, hol', rfl, nl, rfl⟩
        unfold Builtin.«set.__init__» noKeywords Builtin.Frozenset.updateFrom
        generalize hPI : pyIter = PI
        wp_walk
        subst hPI

        refine wpAny_pyIter_list hl1 ?_
        refine wpAny_bind (wpAny_runValue ?_)
        have hlS : l < s.heap.objs.size := Heap.lt_size hol
        have hh3 : A.in1.in1.in1.handled = none := by simp [hh]
        have hz1 : (s.heap.push { cls := .type "set", dict := none, data := .set #[] 0 (.fresh 0 0 (!w.params.followText "set-order")) }).objs.size = s.heap.objs.size + 1 := Heap.size_push ..
        have hneI : l ≠ (s.heap.push { cls := .type "set", dict := none, data := .set #[] 0 (.fresh 0 0 (!w.params.followText "set-order")) }).objs.size := by
          rw [Heap.size_push]; exact Nat.ne_of_lt (Nat.lt_succ_of_lt hlS)
        have hSf : s.heap.objs.size ∉ [(s.heap.push { cls := .type "set", dict := none, data := .set #[] 0 (.fresh 0 0 (!w.params.followText "set-order")) }).objs.size, l] := by
          rw [Heap.size_push]; simp only [List.mem_cons, List.mem_singleton, List.not_mem_nil, or_false, not_or]
          exact ⟨Nat.ne_of_lt (Nat.lt_succ_self _), Nat.ne_of_gt hlS⟩
        have hval : ∀ (i : Nat) (v : Value), items[i]? = some v → ∃ k t, ns[i]? = some k ∧ v = .str k t := fun i v hv => by
          have hi : i < ns.length := by rw [← hisz]; exact (Array.getElem?_eq_some_iff.mp hv).1
          obtain ⟨t, e⟩ := SS.strs_at hit i v (by rw [Array.getElem?_toList]; exact hv)
          refine ⟨ns[i], t, List.getElem?_eq_getElem hi, ?_⟩
          rw [e, List.getD_eq_getElem?_getD, List.getElem?_eq_getElem hi] <;> rfl
        refine set_update_strs ((Walks.list hh3 _ l hneI items).toS) s.heap.objs.size
          hSf ns hisz hb hval (items.size - 0) 0 _ (by omega) (Nat.zero_le _)
          ⟨⟨_, Heap.get?_push_size _ rfl, rfl, rfl⟩, (hl1.push _)⟩ ?hS0 ?hR
        case hS0 =>
          have hget : ((s.heap.push { cls := .type "set", dict := none, data := .set #[] 0 (.fresh 0 0 (!w.params.followText "set-order")) }).push { cls := .type "list_iterator", data := .fields #[.ref l, .int 0 0] }).get? s.heap.objs.size
              = some { cls := .type "set", dict := none, data := .set #[] 0 (.fresh 0 0 (!w.params.followText "set-order")) } := Heap.get?_push_of_some _ hS
          exact ⟨0, Nat.le_refl 0, setRS_new_at hget⟩
        case hR =>
          intro s' c' hm hc' hS'
          obtain ⟨h', g2, d', tk', os'⟩ := s'
          have eg : g2 = s.gens := hm.gens
          have ed : d' = s.drawn := hm.drawn
          have eo : os' = s.os := hm.os
          subst eg; subst ed; subst eo
          show wpAny _ _ _ _ _ _
          refine wpAny_pure ?_
          show wpAny _ _ (ret Value.none) _ _ _
          rw [hisz] at hc'
          refine wpAny_pure ⟨rfl, h', tk', c', rfl, hS', hc', fun b o e => ?_⟩
          have hb0 : b < s.heap.objs.size := Heap.lt_size e
          have hb1 : b ≠ s.heap.objs.size := Nat.ne_of_lt hb0
          have hb2 : b ≠ (s.heap.push { cls := .type "set", dict := none, data := .set #[] 0 (.fresh 0 0 (!w.params.followText "set-order")) }).objs.size := by
            rw [Heap.size_push]; exact Nat.ne_of_lt (Nat.lt_succ_of_lt hb0)
          exact hm.heap b o (by simp only [List.mem_cons, List.mem_singleton, List.not_mem_nil, or_false, not_or]; exact ⟨hb1, hb2⟩) (Heap.get?_push_of_some _ (Heap.get?_push_of_some _ e))

      · cases r₂ with
        | error e => exact hr₂
        | ok fl₂ =>
          cases fl₂ with
          | ret r =>
            obtain ⟨rfl, h', tk, c', rfl, hS', hc', hk'⟩ := hr₂
            repeat (any_goals (first | assumption | wp_step))
            exact h _ _ _ hS' hc' hk'
          | _ => exact hr₂.elim
    | _ => exact hr.elim

end
end EV

set_option Elab.async false
set_option linter.all false
set_option maxRecDepth 100000
set_option maxHeartbeats 2000000
/-! E10: sorted of a set of texts, of a list; their rules. -/
namespace EV
open PySem PySem.Spec PyProof.Rows L2
open PySem.W
section
variable {P : Program} {w : World} {A : Around} {E : Value → Shared → Prop} {s : Shared} {a : Addr} {S : Str → Bool} {n : Nat}
theorem strs_of : ∀ (l : List Value), (∀ v ∈ l, ∃ k tk, v = Value.str k tk) → EachIs (fun (v : Value) (b : Str) => ∃ t, v = .str b t) l (l.map fun v => keyOfS (0, v))
  | [], _ => .nil
  | v :: l, h => by
    obtain ⟨k, tk, rfl⟩ := h v List.mem_cons_self
    exact .cons ⟨tk, rfl⟩ (strs_of l fun u hu => h u (List.mem_cons_of_mem _ hu))
theorem sorted_setZ {Q : Value → Shared → Prop} (R : SetRS w s.heap a S n) (hh : A.handled = none) (hu : A.units + 66 < cLine)
    (hQ : ∀ s' p (out : List Value) (c : Nat) (ns : List Str), (∀ b o, s.heap.get? b = some o → s'.heap.get? b = some o) → s'.gens = s.gens → s'.os = s.os → s.heap.objs.size ≤ p →
      s'.heap.get? p = some (seqObj "list" out.toArray c) → ns.Nodup → (∀ k, k ∈ ns ↔ S k = true) → ns.length = n → EachIs (fun (v : Value) (b : Str) => ∃ t, v = .str b t) out (ns.mergeSort (dataLe false PyData.str)) → Q (.ref p) s') :
    wpAny (model P w) A (call (.builtin "sorted") [.ref a]) Q E s := by
  obtain ⟨o, es, ep, t, ho, hex, hd, g, nd, hm, hb, hf, hn, hr, hl⟩ := R
  refine Calls.call_function_entry kind_sorted plain_sorted entry_sorted (args_sorted1 _) ?_
  unfold Builtin.«sorted»
  refine wpAny_bind (m := checkCount "sorted" 1 1 _) (wpAny_pure ?_)
  refine wpAny_bind (collect_set (A := A.in1) hh ⟨o, ho, hex.1, hd⟩ hf hb hr hl fun s1 vs k1 hz g1 o1 pm => ?_)
  have hvl : vs.length = n := by rw [pm.length_eq, List.length_map, Array.length_toList]; exact hn
  have hI := strs_of vs fun v hv => by
    obtain ⟨e, he, q⟩ := List.mem_map.mp (pm.mem_iff.mp hv)
    obtain ⟨k, tk, h1, _⟩ := g e he
    exact ⟨k, tk, by rw [← q]; exact h1⟩
  have pk : (vs.map fun v => keyOfS (0, v)).Perm (es.toList.map keyOfS) := by
    have q := pm.map fun v => keyOfS (0, v)
    rw [List.map_map] at q
    exact q
  have hvz : vs.length ≤ sizeLine := by rw [hvl, ← hn]; exact fits_of_scanBound hb
  refine wpAny_bind (wpAny_newList ?_ hvz)
  have hoL : (s1.heap.push (seqObj "list" vs.toArray 0)).get? s1.heap.objs.size = some (seqObj "list" vs.toArray 0) := Heap.get?_push_size _ rfl
  refine wpAny_bind (wpAny_holding (list_sort_data (s := { s1 with heap := s1.heap.push (seqObj "list" vs.toArray 0) }) (R := fun (v : Value) (b : Str) => ∃ t, v = .str b t) (enc := PyData.str) hoL hI (hI.mono fun v b ⟨t, h⟩ => ⟨[], by rw [h]; exact PyProof.V.reads_key_str (prog := P) (w := w) b _ (strKind_is P w b t), by simp⟩) (.of fun _ _ => rfl) (.others fun b => ⟨by simp, by simp⟩) (by rw [List.length_map]; exact hvz) (fun b _ => ?_) fun out hlo he => ?_))
  · show A.units + 1 + 1 + (PyData.str b).depth < cLine
    have : (PyData.str b).depth ≤ 1 := by simp [PyData.depth]
    omega
  obtain ⟨c, hc⟩ := sortedHeap_at (vs := vs) (out := out.toArray) hoL
  refine wpAny_pure ⟨_, rfl, hQ _ s1.heap.objs.size out c (vs.map fun v => keyOfS (0, v)) (fun b u e => ?_) g1 o1 hz hc (pk.nodup_iff.mpr nd) (fun k => by rw [pk.mem_iff, ← hm k]) (by rw [List.length_map]; exact hvl) he⟩
  have q := k1 b u e
  have hlt := Heap.lt_size q
  show (sortedHeap (s1.heap.push (seqObj "list" vs.toArray 0)) s1.heap.objs.size vs out.toArray).get? b = some u
  rw [sortedHeap_old (Nat.ne_of_lt hlt) (by rw [size_push']; exact Nat.lt_succ_of_lt hlt)]
  exact Heap.get?_push_of_some _ q
end
/-- the different ones -/
def dd : List Str → List Str
  | [] => []
  | x :: r => if x ∈ r then dd r else x :: dd r
theorem mem_dd {k : Str} : ∀ {xs : List Str}, k ∈ dd xs ↔ k ∈ xs
  | [] => Iff.rfl
  | x :: r => by
    unfold dd
    split
    · rename_i h
      rw [mem_dd, List.mem_cons]
      exact ⟨.inr, fun z => z.elim (fun e => e ▸ h) id⟩
    · rw [List.mem_cons, List.mem_cons, mem_dd]
theorem nodup_dd : ∀ xs : List Str, (dd xs).Nodup
  | [] => List.nodup_nil
  | x :: r => by
    unfold dd
    split
    · exact nodup_dd r
    · rename_i h
      exact List.nodup_cons.mpr ⟨fun m => h (mem_dd.mp m), nodup_dd r⟩
theorem perm_of_mem {α : Type} [DecidableEq α] {xs ys : List α} (h1 : xs.Nodup) (h2 : ys.Nodup) (h : ∀ k, k ∈ xs ↔ k ∈ ys) : xs.Perm ys := (List.perm_ext_iff_of_nodup h1 h2).mpr h
/-! two orders of the same texts -/
theorem le_strs (x y : Str) : dataLe false PyData.str x y = !decide (y.cps.toList < x.cps.toList) := by
  show (!dataLt (.str y) (.str x)) = _
  rw [dataLt_str]
theorem le_anti {x y : Str} (h1 : dataLe false PyData.str x y = true) (h2 : dataLe false PyData.str y x = true) : x = y := by
  rw [le_strs, Bool.not_eq_true', decide_eq_false_iff_not] at h1 h2
  exact str_of_cps (List.le_antisymm (List.not_lt.mp h1) (List.not_lt.mp h2))
theorem perm_sorted : ∀ {xs ys : List Str}, xs.Perm ys → xs.Pairwise (fun a b => dataLe false PyData.str a b = true) → ys.Pairwise (fun a b => dataLe false PyData.str a b = true) → xs = ys
  | [], ys, p, _, _ => (List.nil_perm.mp p).symm ▸ rfl
  | x :: xs, [], p, _, _ => by have := p.length_eq; simp at this
  | x :: xs, y :: ys, p, h1, h2 => by
    obtain ⟨a1, b1⟩ := List.pairwise_cons.mp h1
    obtain ⟨a2, b2⟩ := List.pairwise_cons.mp h2
    have e : x = y := by
      rcases List.mem_cons.mp (p.mem_iff.mp (List.mem_cons_self (a := x) (l := xs))) with h | h
      · exact h
      · rcases List.mem_cons.mp (p.mem_iff.mpr (List.mem_cons_self (a := y) (l := ys))) with k | k
        · exact k.symm
        · exact le_anti (a1 y k) (a2 x h)
    subst e
    rw [perm_sorted (List.Perm.cons_inv p) b1 b2]
theorem sort_perm {xs ys : List Str} (p : xs.Perm ys) : xs.mergeSort (dataLe false PyData.str) = ys.mergeSort (dataLe false PyData.str) :=
  perm_sorted ((List.mergeSort_perm _ _).trans (p.trans (List.mergeSort_perm _ _).symm)) (List.pairwise_mergeSort (fun a b c => (sortLe_total _ _ _).trans a b c) (fun a b => by rw [Bool.or_eq_true]; exact (sortLe_total _ _ _).total a b) _) (List.pairwise_mergeSort (fun a b c => (sortLe_total _ _ _).trans a b c) (fun a b => by rw [Bool.or_eq_true]; exact (sortLe_total _ _ _).total a b) _)

/-! ### len(set(xs)), sorted(set(xs)) -/
def txts : List S → Option (List Str)
  | [] => some []
  | .d (.str x) :: r => (txts r).map (x :: ·)
  | _ :: _ => none
theorem SRs.txts {K : PySem.W.Frag} {c : Nat → Addr} {L : Lv} {H : Hp} : ∀ {xs : List S} {vs : List V} {ys : List Str}, SRs K c L H xs vs → EV.txts xs = some ys → vs = ys.map V.str
  | [], _, _, .nil, e => by simp [EV.txts] at e; subst e; rfl
  | x :: r, v :: vs, ys, .cons a b, e => by
    cases x with
    | d x =>
      cases x with
      | str z =>
        simp only [EV.txts, Option.map_eq_some_iff] at e
        obtain ⟨q, e1, rfl⟩ := e
        rw [List.map_cons, SRs.txts b e1, a.str]
      | _ => simp [EV.txts] at e
    | _ => simp [EV.txts] at e
def setOf (hd : Hd) (x : S) : Option (List Str) := match seqOf hd x with
  | some xs => match txts xs with
    | some ys => if ys.length ≤ 4000 then some ys else none
    | none => none
  | none => none
def gLenSet (x : S) (hd : Hd) : R S := match setOf hd x with
  | some ys => some (.ok (.d (.int (dd ys).length)) hd)
  | none => none
def srtS (ys : List Str) : List PyData := ((dd ys).mergeSort (dataLe false PyData.str)).map PyData.str
def gSrtSet (x : S) (hd : Hd) : R S := match setOf hd x with
  | some ys => some (.ok (.d (.list (srtS ys))) hd)
  | none => none
theorem set_of_ {K : PySem.W.Frag} {c : Nat → Addr} {L : Lv} {H : Hp} {hd : Hd} (rp : RP K c L H hd) {x : S} {v : V} {ys : List Str} (r : SR K c L H x v) (e : setOf hd x = some ys) : ∃ p, v = .ref p ∧ (SqL K H p (ys.map V.str) ∨ SqT K H p (ys.map V.str)) ∧ ys.length ≤ 4000 := by
  unfold setOf at e
  split at e
  · rename_i xs hxs
    split at e
    · rename_i zs hzs
      split at e
      · rename_i hl
        cases e
        obtain ⟨p, vs, rfl, hq, q⟩ := seq_of rp r hxs
        rw [q.txts hzs] at hq
        exact ⟨p, rfl, hq, hl⟩
      · cases e
    · cases e
  · cases e
section
variable {X : Cx} {c : Nat → Addr} {E : XK} {a : Expr} {f : FE} {p p2 q pos : Pos}
theorem set_run {pins : List (Addr × Obj)} {σ : L2.St} {H : Hp} {s : Shared} {l : Addr} {ys : List Str} {EE : Value → Shared → Prop} {Q : Value → Shared → Prop} (I : Inv X pins σ H s) (hc : X.calm = true) (hq : SqL X.K H l (ys.map V.str) ∨ SqT X.K H l (ys.map V.str)) (hz : ys.length ≤ 4000)
    (h : ∀ (h' : Heap) (tk n : Nat), SetRS X.w h' s.heap.objs.size (fun j => decide (j ∈ ys)) n → (∀ b o, s.heap.get? b = some o → h'.get? b = some o) → Q (.ref s.heap.objs.size) { s with heap := h', toks := tk }) : wpAny (model X.prog X.w) X.A (call (.type "set") [.ref l]) Q EE s := by
  rcases hq with hq | hq
  · obtain ⟨its, r, pl, _⟩ := I.list hq
    exact call_set_lstZ ys (I.ok.hd hc) pl.isList (by simpa using strsAre_of r) (by unfold scanBound; omega) fun h' tk n R _ k => h h' tk n R k
  · obtain ⟨its, r, pl, _⟩ := I.tuple hq
    exact call_set_tupZ ys (I.ok.hd hc) pl (by simpa using strsAre_of r) (by unfold scanBound; omega) fun h' tk n R _ k => h h' tk n R k
def tSetC (K : PySem.W.Frag) (k : List Str → Hp → VK → Prop) (ta : TE) : TE := fun σ H Q => ta σ H fun x H1 => ∃ l ys, x = .ref l ∧ (SqL K H1 l (ys.map V.str) ∨ SqT K H1 l (ys.map V.str)) ∧ ys.length ≤ 4000 ∧ k ys H1 Q
def srtZ (ys : List Str) : List Str := (dd ys).mergeSort (dataLe false PyData.str)
theorem pe_lenSetZ {ta : TE} (hc : X.calm = true) (hg : Gl X "len") (hm : X.mg "len" = none) (hg2 : Gl X "set") (hm2 : X.mg "set" = none) (ha : PE X a ta)
    (na : starEach [a] X.env = (false, eval a X.env) :: starEach [] X.env := by rfl) : PE X (.Call (.Name "len" p) [.Call (.Name "set" p2) [a] [] q] [] pos) (tSetC X.K (fun ys H Q => Q (.int (dd ys).length) H) ta) := by
  refine ⟨fun pins s σ H Q I h => ?_⟩
  refine Call_ (ld_blt I hg hm PySem.boot_len ?_)
  refine PyProof.Rows.callWith_builtin1 (PyProof.Rows.args_cons ?_ rfl) rfl rfl
  refine Call_ (ld_blt I hg2 hm2 PyProof.Rows.boot_set ?_)
  refine PyProof.Rows.callWith_type1 (PyProof.Rows.args_cons (thn (ha.run pins s σ H _ I h) fun v s1 ⟨x, H1, I1, r1, q1⟩ => PyProof.Rows.args_nil ?_) na) na rfl
  obtain ⟨l, ys, rfl, hq, hz, q1⟩ := q1
  cases r1
  refine set_run I1 hc hq hz fun h' tk n R k => ?_
  refine PyProof.Rows.args_nil ?_
  obtain ⟨o, es, ep, t, ho, hex, hd, g, nd, hmm, hb, hf, hn, _, _⟩ := R
  have I2 : Inv X pins σ H1 { s1 with heap := h', toks := tk } := I1.kept k
  have e : es.size = (dd ys).length := by
    have e1 : (es.toList.map keyOfS).Perm (dd ys) := perm_of_mem nd (nodup_dd ys) fun k => by rw [← hmm k, mem_dd, decide_eq_true_eq]
    have := e1.length_eq
    rw [List.length_map, Array.length_toList] at this
    exact this
  refine call_len_set ho hex hd hf (by unfold scanBound at hb; omega) ⟨.int (dd ys).length, H1, I2.tok _, ⟨_, by rw [e]⟩, q1⟩
theorem pe_srtSetZ {ta : TE} (hc : X.calm = true) (hu : X.A.units + 66 < cLine) (hg : Gl X "sorted") (hm : X.mg "sorted" = none) (hg2 : Gl X "set") (hm2 : X.mg "set" = none) (ha : PE X a ta)
    (na : starEach [a] X.env = (false, eval a X.env) :: starEach [] X.env := by rfl) : PE X (.Call (.Name "sorted" p) [.Call (.Name "set" p2) [a] [] q] [] pos) (tSetC X.K (fun ys H Q => ∀ p, H p = none → Q (.ref p) (upd H p (.lst ((srtZ ys).map V.str)))) ta) := by
  refine ⟨fun pins s σ H Q I h => ?_⟩
  refine Call_ (ld_blt I hg hm PyProof.Rows.boot_sorted ?_)
  refine PyProof.Rows.callWith_builtin1 (PyProof.Rows.args_cons ?_ rfl) rfl rfl
  refine Call_ (ld_blt I hg2 hm2 PyProof.Rows.boot_set ?_)
  refine PyProof.Rows.callWith_type1 (PyProof.Rows.args_cons (thn (ha.run pins s σ H _ I h) fun v s1 ⟨x, H1, I1, r1, q1⟩ => PyProof.Rows.args_nil ?_) na) na rfl
  obtain ⟨l, ys, rfl, hq, hz, q1⟩ := q1
  cases r1
  refine set_run I1 hc hq hz fun h' tk n R k => ?_
  refine PyProof.Rows.args_nil ?_
  have I2 : Inv X pins σ H1 { s1 with heap := h', toks := tk } := I1.kept k
  refine sorted_setZ R (I1.ok.hd hc) hu fun s' p out cc ns k2 g o hp hg' hnd hmem hln he => ?_
  have ep : ns.Perm (dd ys) := perm_of_mem hnd (nodup_dd ys) fun k => by rw [hmem k, mem_dd, decide_eq_true_eq]
  rw [sort_perm ep] at he
  have hv : ∀ {us : List Value} {bs : List Str}, EachIs (fun (v : Value) (b : Str) => ∃ t, v = .str b t) us bs → Vals (bs.map V.str) us := fun {us bs} h => by
    induction h with
    | nil => exact .nil
    | cons a b ih => exact .cons a ih
  have hlen : ((srtZ ys).map V.str).length ≤ sizeLine := by
    have h1 : (srtZ ys).length = (dd ys).length := (List.mergeSort_perm _ _).length_eq
    have h2 : (dd ys).length ≤ ys.length := by
      have : ∀ zs : List Str, (dd zs).length ≤ zs.length := fun zs => by
        induction zs with
        | nil => exact Nat.le_refl _
        | cons x r ih =>
          unfold dd
          split
          · exact Nat.le_succ_of_le ih
          · exact Nat.succ_le_succ ih
      exact this ys
    rw [List.length_map, h1, sizeLine_eq]
    omega
  have hn : H1 p = none := I2.hok.fresh hp
  have J : Inv X pins σ (upd H1 p (.lst ((srtZ ys).map V.str))) { { s1 with heap := h', toks := tk } with heap := s'.heap, gens := s'.gens, drawn := s'.drawn, toks := s'.toks } :=
    I2.call (ch := []) (Un.laid k2 hp hn) (I2.hok.laid k2 hp ⟨hlen, out, cc, hv he, hg'⟩) (by rw [g]; exact I2.bare) (fun _ z => nomatch z)
  have e : s' = { { s1 with heap := h', toks := tk } with heap := s'.heap, gens := s'.gens, drawn := s'.drawn, toks := s'.toks } := by
    cases s'
    cases s1
    cases o
    rfl
  rw [e]
  exact ⟨.ref p, _, J, rfl, q1 p hn⟩
theorem eLenSet (hc : X.calm = true) (hg : Gl X "len") (hm : X.mg "len" = none) (hg2 : Gl X "set") (hm2 : X.mg "set" = none) (ha : EvE X c E a f)
    (na : starEach [a] X.env = (false, eval a X.env) :: starEach [] X.env := by rfl) : EvE X c E (.Call (.Name "len" p) [.Call (.Name "set" p2) [a] [] q] [] pos) (f1 gLenSet f) :=
  (pe_lenSetZ hc hg hm hg2 hm2 ha na).weak fun σ H Q ⟨L, hd, ss, rp, gr, o⟩ => ⟨L, hd, ss, rp, gr, (OutP.bnd o).imp fun x hd1 L1 H1 _ x1 rp1 o1 v sv => by
    unfold gLenSet at o1
    split at o1
    · rename_i ys hys
      obtain ⟨l, rfl, hq, hz⟩ := set_of_ rp1 sv hys
      exact ⟨l, ys, rfl, hq, hz, o1.here rp1 _ (.d (.int _))⟩
    · exact o1.elim⟩
theorem prs_strs {K : PySem.W.Frag} {L : Lv} {H : Hp} : ∀ ys : List Str, PRs K L H (ys.map PyData.str) (ys.map V.str)
  | [] => .nil
  | _ :: r => .cons (.str _) (prs_strs r)
theorem eSrtSet (hc : X.calm = true) (hu : X.A.units + 66 < cLine) (hg : Gl X "sorted") (hm : X.mg "sorted" = none) (hg2 : Gl X "set") (hm2 : X.mg "set" = none) (ha : EvE X c E a f)
    (na : starEach [a] X.env = (false, eval a X.env) :: starEach [] X.env := by rfl) : EvE X c E (.Call (.Name "sorted" p) [.Call (.Name "set" p2) [a] [] q] [] pos) (f1 gSrtSet f) :=
  (pe_srtSetZ hc hu hg hm hg2 hm2 ha na).weak fun σ H Q ⟨L, hd, ss, rp, gr, o⟩ => ⟨L, hd, ss, rp, gr, (OutP.bnd o).imp fun x hd1 L1 H1 _ x1 rp1 o1 v sv => by
    unfold gSrtSet at o1
    split at o1
    · rename_i ys hys
      obtain ⟨l, rfl, hq, hz⟩ := set_of_ rp1 sv hys
      exact ⟨l, ys, rfl, hq, hz, fun p hp => new_lst (P := fun _ _ _ _ => True) rp1 (prs_strs (srtZ ys)) o1 hp⟩
    · exact o1.elim⟩
end

/-! ### sorted(list) -/
def rSrt (K : PySem.W.Frag) : List V → Hp → VK → Prop := fun xs H Q => ∃ (l : Addr) (ys : List V) (ds : List PyData), xs = [.ref l] ∧ SqL K H l ys ∧ ys.length = ds.length ∧ DpAll K H ys ds ∧ AllAlike ds ∧ Sortable ds ∧ (∀ d ∈ ds, d.depth ≤ 64) ∧
  ∀ p, H p = none → Q (.ref p) (upd H p (.lst (((ys.zip ds).mergeSort (dataLe false Prod.snd)).map Prod.fst)))
theorem call_srt {X : Cx} (hu : X.A.units + 80 < cLine) : CallR X (.builtin "sorted") (rSrt X.K) := by
  intro pins s σ H xs us Q I r h
  obtain ⟨l, ys, ds, rfl, hq, hlen, hD, hal, hk, hdp, q⟩ := h
  rw [Vals.ref1 r]
  obtain ⟨its, rv, pl, hz⟩ := I.list hq
  have hE : ∀ {ys : List V} {ds : List PyData} {its : List Value}, ys.length = ds.length → Vals ys its → EachIs (fun (u : Value) (b : V × PyData) => RelV b.1 u) its (ys.zip ds) := fun {ys} => by
    induction ys with
    | nil => intro ds its hl r; cases r; exact .nil
    | cons y ys ih =>
      intro ds its hl r
      cases ds with
      | nil => simp at hl
      | cons d ds =>
        cases r with
        | cons a b => exact .cons a (ih (by simpa using hl) b)
  have hR : ∀ {ys : List V} {ds : List PyData} {its : List Value}, DpAll X.K H ys ds → Vals ys its → EachIs (fun (u : Value) (b : V × PyData) => ∃ as, Reads s.heap u b.2 as) its (ys.zip ds) := fun {ys} => by
    induction ys with
    | nil => intro ds its h r; cases h; cases r; exact .nil
    | cons y ys ih =>
      intro ds its h r
      cases h with
      | cons a b =>
        cases r with
        | cons a' b' => exact .cons (Dp.reads I _ _ _ a a') (ih b b')
  have hsnd : (ys.zip ds).map Prod.snd = ds := List.map_snd_zip (by omega)
  refine sorted_data (bs := ys.zip ds) (enc := Prod.snd) pl.isList (hE hlen rv) (hR hD rv) (by rw [hsnd]; exact hal) (by rw [hsnd]; exact hk) (by rw [List.length_zip, ← hlen, Nat.min_self, rv.length, ]; exact (by rw [← rv.length]; exact hz)) (fun b hb => ?_) fun out hlo he => ?_
  · have : b.2 ∈ ds := by
      rw [← hsnd]; exact List.mem_map_of_mem hb
    have := hdp _ this
    omega
  · obtain ⟨ep, he'⟩ := PyProof.Rows.sortedAll_at s.heap its out.toArray
    have hv : ∀ {us : List Value} {bs : List (V × PyData)}, EachIs (fun (u : Value) (b : V × PyData) => RelV b.1 u) us bs → Vals (bs.map Prod.fst) us := fun {us bs} h => by
      induction h with
      | nil => exact .nil
      | cons a b ih => exact .cons a ih
    have hl2 : (((ys.zip ds).mergeSort (dataLe false Prod.snd)).map Prod.fst).length ≤ sizeLine := by
      rw [List.length_map, (List.mergeSort_perm _ _).length_eq, List.length_zip, ← hlen, Nat.min_self]; exact hz
    exact ⟨.ref _, upd H (s.heap.objs.size + 1) (.lst (((ys.zip ds).mergeSort (dataLe false Prod.snd)).map Prod.fst)), I.laid (t' := s.toks) (fun _ _ => PyProof.Rows.sortedAll_old) (Nat.le_succ _) ⟨hl2, out, ep, hv he, he'⟩, rfl, q _ (I.hok.fresh (Nat.le_succ _))⟩
def alikes (ds : List PyData) : Bool := ds.all fun d => ds.all fun e => alike d e
def sortb (ds : List PyData) : Bool := (ds.all fun d => match d with
  | .tuple (_ :: _) => true
  | _ => false) || ds.all fun d => match d with
  | .none => false
  | .tuple _ => false
  | _ => true
theorem sortb_ok {ds : List PyData} (h : sortb ds = true) : Sortable ds := by
  unfold sortb at h
  rw [Bool.or_eq_true, List.all_eq_true, List.all_eq_true] at h
  rcases h with h | h
  · refine .inl fun d hd => ?_
    have := h d hd
    split at this
    · exact ⟨_, _, rfl⟩
    · cases this
  · refine .inr fun d hd => ?_
    have := h d hd
    split at this
    · cases this
    · cases this
    · rename_i h1 h2
      exact ⟨h1, h2⟩
def srt (ds : List PyData) : List PyData := ds.mergeSort (dataLe false id)
def gSrt (x : S) (hd : Hd) : R S := match lstOf hd x with
  | some xs => match pures xs with
    | some ds => if alikes ds = true ∧ sortb ds = true ∧ (ds.all fun d => decide (d.depth ≤ 64)) = true then some (.ok (.d (.list (srt ds))) hd) else none
    | none => none
  | none => none
theorem prs_zip {K : PySem.W.Frag} {L : Lv} {H : Hp} : ∀ {ds : List PyData} {vs : List V}, PRs K L H ds vs → ∀ b ∈ vs.zip ds, PR K L H b.2 b.1
  | _, _, .nil, b, h => by simp at h
  | _, _, .cons a r, b, h => by
    rcases List.mem_cons.mp h with h | h
    · rw [h]; exact a
    · exact prs_zip r b h
theorem prs_of_zip {K : PySem.W.Frag} {L : Lv} {H : Hp} : ∀ {bs : List (V × PyData)}, (∀ b ∈ bs, PR K L H b.2 b.1) → PRs K L H (bs.map Prod.snd) (bs.map Prod.fst)
  | [], _ => .nil
  | b :: bs, h => .cons (h b List.mem_cons_self) (prs_of_zip fun x hx => h x (List.mem_cons_of_mem _ hx))
theorem ok_srt {K : PySem.W.Frag} {c : Nat → Addr} {E : XK} : OkN K c E (g1 gSrt) (rSrt K) := ok1 fun L H hd x v Q rp rx o => by
  unfold gSrt at o
  split at o
  · rename_i xs hxs
    split at o
    · rename_i ds hds
      split at o
      · rename_i hc
        obtain ⟨p, vs, rfl, hq, q⟩ := lst_of rp rx hxs
        have qp := q.pure hds
        have hl : vs.length = ds.length := qp.length.symm
        refine ⟨p, vs, ds, rfl, hq, hl, qp.dp, fun d hd e he => ?_, sortb_ok hc.2.1, fun d hd => of_decide_eq_true (List.all_eq_true.mp hc.2.2 d hd), fun l hl' => ?_⟩
        · exact List.all_eq_true.mp (List.all_eq_true.mp hc.1 d hd) e he
        · have hsnd : (vs.zip ds).map Prod.snd = ds := List.map_snd_zip (by omega)
          have e : srt ds = ((vs.zip ds).mergeSort (dataLe false Prod.snd)).map Prod.snd := by
            unfold srt
            rw [List.map_mergeSort (r := dataLe false Prod.snd) (s := dataLe false id) (fun a _ b _ => rfl), hsnd]
          rw [e] at o
          refine new_lst (P := fun _ _ _ _ => True) rp (prs_of_zip fun b hb => prs_zip qp b ((List.mergeSort_perm _ _).mem_iff.mp hb)) o hl'
      · exact o.elim
    · exact o.elim
  · exact o.elim
end EV

set_option Elab.async false
set_option linter.all false
set_option maxRecDepth 100000
set_option maxHeartbeats 2000000
/-! E11: reversed slices; str of bools; calls by keyword; repr under known guards. -/
namespace EV
open PySem PySem.Spec PyProof.Rows L2
theorem fm_congr {α β : Type} {f g : α → Option β} : ∀ {l : List α}, (∀ k ∈ l, f k = g k) → l.filterMap f = l.filterMap g
  | [], _ => rfl
  | x :: l, h => by
    rw [List.filterMap_cons, List.filterMap_cons, h x List.mem_cons_self, fm_congr fun k hk => h k (List.mem_cons_of_mem _ hk)]
section
variable {prog : Program} {w : World} {A : Around} {E : Value → Shared → Prop} {s : Shared}
theorem rev_pick (xs : Array Value) : ((List.range xs.size).filterMap fun (k : Nat) => xs[(((xs.size : Int) - 1) + (k : Int) * (-1)).toNat]?).toArray = xs.toList.reverse.toArray := by
  have h := PySem.W.krv_pick xs
  unfold slicePick at h
  rw [PySem.W.krv_bounds] at h
  have h : ((sliceRange ((xs.size : Int) - 1) (-1) (-1)).filterMap (xs[·]?)).toArray = xs.toList.reverse.toArray := h
  rw [PySem.W.krv_sliceRange, List.filterMap_map] at h
  rw [← h]
  congr 1
  refine fm_congr fun k hk => ?_
  have := List.mem_range.mp hk
  show xs[(((xs.size : Int) - 1) + (k : Int) * (-1)).toNat]? = xs[xs.size - 1 - k]?
  congr 1
  omega
theorem getItem_tuple_rev {t sl : Addr} {items : Array Value} {tk : Tok} {Q : Value → Shared → Prop} (ht : IsTup s.heap t items) (hs : s.heap.IsSliceOf sl .none .none (.int (-1) tk))
    (h : Q (.ref s.heap.objs.size) { s with heap := s.heap.push { cls := .type "tuple", data := .seq items.toList.reverse.toArray } })
    (hsz : items.size ≤ sizeLine) : wpAny (model prog w) A (getItem (.ref t) (.ref sl)) Q E s := by
  have htake : sizeOk (.seq items.toList.reverse.toArray) := by
    show items.toList.reverse.toArray.size ≤ sizeLine
    rw [List.size_toArray, List.length_reverse, Array.length_toList]
    exact hsz
  obtain ⟨os, hos, hcs, hds⟩ := id hs
  have hTs : s.TypeIs (.ref sl) "slice" := ⟨os, hos, hcs⟩
  unfold getItem
  try with_reducible refine wpAny_holding ?_
  first | refine wpAny_bind (wpAny_pure ?_) | skip
  refine wpAny_bind (wpAny_sequenceKey ht.typeIs (by decide) ?_)
  refine wpAny_bind (wpAny_callSpecial?_slot (name := Str.ofString "__getitem__") ht.typeIs PyProof.Rows.slot_tuple_getitem
    (wpAny_call_entry PyProof.Rows.slot_tuple_getitem ht.typeIs entry_tuple_getitem ?_ (args_tuple_getitem _ _)))
  show wpAny _ _ (Builtin.Tuple.tupleItemsOf (.ref t) >>= _) _ _ s
  refine wpAny_bind (tupleItemsOf_ ht ?_)
  refine wpAny_bind (wpAny_typeOf hTs ?_)
  rw [if_pos (by decide)]
  have ap : ∀ {Q : Int × Int × Nat → Shared → Prop}, Q ((items.size : Int) - 1, -1, items.size) s → ∀ EE, wpAny (model prog w) A.in1 (Builtin.Slice.sliceApplied (.ref sl) (pure (items.size : Int))) Q EE s := fun {Q} q EE => by
    unfold Builtin.Slice.sliceApplied Builtin.Slice.sliceFields
    refine wpAny_bind (wpAny_bind (wpAny_field hos hds (x := .none) rfl (wpAny_bind (wpAny_field hos hds (x := .none) rfl (wpAny_bind (wpAny_field hos hds (x := .int (-1) tk) rfl (wpAny_pure ?_)))))))
    refine wpAny_bind (HT.slicePart_ (.int (-1) tk) ?_)
    show wpAny _ _ (if ((-1 : Int) == 0) = true then _ else _) _ _ s
    rw [if_neg (by decide)]
    refine wpAny_bind (HT.slicePart_ .none (wpAny_bind (HT.slicePart_ .none (wpAny_bind (wpAny_pure ?_)))))
    have e1 : Builtin.Slice.sliceAdjust none none (-1) (items.size : Int) = ((items.size : Int) - 1, -1) := rfl
    show wpAny _ _ (match Builtin.Slice.sliceAdjust none none (-1) (items.size : Int) with | (lo, hi) => pure (lo, (-1 : Int), Builtin.Slice.slicePlaces lo hi (-1))) _ _ s
    rw [e1]
    show wpAny _ _ (pure ((items.size : Int) - 1, (-1 : Int), Builtin.Slice.slicePlaces ((items.size : Int) - 1) (-1) (-1))) _ _ s
    have e2 : Builtin.Slice.slicePlaces ((items.size : Int) - 1) (-1) (-1) = items.size := by
      unfold Builtin.Slice.slicePlaces
      simp
      try (split <;> omega)
    rw [e2]
    exact wpAny_pure q
  refine wpAny_bind (ap ?_ _)
  show wpAny _ _ (if (((items.size : Int) - 1) == 0 && (-1 : Int) == 1 && items.size == items.size) = true then _ else _) _ _ s
  rw [if_neg (by simp), rev_pick]
  first
    | exact wpAny_bind (m := Builtin.Tuple.tupleExact _) (wpAny_newObj_type (wpAny_pure ⟨_, rfl, wpAny_pure h⟩) htake)
    | exact wpAny_bind (m := Builtin.Tuple.tupleExact _) (wpAny_newObj_type (wpAny_bind (wpAny_pure (wpAny_pure ⟨_, rfl, wpAny_pure h⟩))) htake)
    | exact wpAny_bind (wpAny_bind (m := Builtin.Tuple.tupleExact _) (wpAny_newObj_type (wpAny_pure (wpAny_pure ⟨_, rfl, wpAny_pure h⟩)) htake))
    | exact wpAny_bind (wpAny_bind (m := Builtin.Tuple.tupleExact _) (wpAny_newObj_type (wpAny_pure ⟨_, rfl, wpAny_pure h⟩) htake))
end
def revS (x : Str) : Str := ⟨((Builtin.Str.strSliceIndices none none (-1) x.length).filterMap (x.cps[·]?)).toArray⟩
def tRev (K : PySem.W.Frag) (te : TE) : TE := fun σ H Q => te σ H fun x H1 =>
  (∃ a xs, x = .ref a ∧ SqL K H1 a xs ∧ ∀ p, H1 p = none → Q (.ref p) (upd H1 p (.lst xs.reverse))) ∨ (∃ a xs, x = .ref a ∧ SqT K H1 a xs ∧ ∀ p, H1 p = none → Q (.ref p) (upd H1 p (.tup xs.reverse))) ∨
  (∃ y, x = .str y ∧ (revS y).length ≤ sizeLine ∧ Q (.str (revS y)) H1)
section
variable {X : Cx}
theorem pe_rev {e : Expr} {te : TE} {k : Nat} {p1 p2 p3 pos : Pos} (he : PE X e te) : PE X (.Subscript e (.Slice none none (some (.UnaryOp .USub (.Constant (.int 1) k p1) p2)) p3) pos) (tRev X.K te) := by
  refine ⟨fun pins s σ H Q I h => ?_⟩
  refine Subscript_ (thn (he.run pins s σ H _ I h) fun v s1 ⟨x, H1, I1, r1, q1⟩ => ?_)
  have hst : PO X (some (.UnaryOp .USub (.Constant (.int 1) k p1) p2)) (tPart (tUn (rU fun i => .int (-i)) (tC (.int 1)))) := po_some (pe_un un_neg pe_int)
  refine wpAny_Slice (thn (po_none.run pins s1 σ H1 (fun o H2 => o = none ∧ H2 = H1) I1 ⟨rfl, rfl⟩) fun vl s2 ⟨l, H2, I2, pl, el, e2⟩ => ?_)
  subst el e2
  refine thn (po_none.run pins s2 σ H2 (fun o H3 => o = none ∧ H3 = H2) I2 ⟨rfl, rfl⟩) fun vu s3 ⟨u, H3, I3, pu, eu, e3⟩ => ?_
  subst eu e3
  refine thn (hst.run pins s3 σ H3 (fun o H4 => o = some (-1) ∧ H4 = H3) I3 ⟨1, rfl, -1, rfl, rfl, rfl⟩) fun vs s4 ⟨o, H4, I4, ps, eo, e4⟩ => ?_
  subst eo e4
  have I5 : Inv X pins σ H4 { s4 with heap := s4.heap.push { cls := .type "slice", data := .fields #[vl, vu, vs] } } := I4.kept (t' := s4.toks) fun b ob q => Heap.get?_push_of_some _ q
  rcases q1 with ⟨a, xs, ex, hx, q⟩ | ⟨a, xs, ex, hx, q⟩ | ⟨y, ex, hz, q⟩
  · subst ex
    cases r1
    obtain ⟨its, r, ht, hz⟩ := I5.list hx
    have hlen := r.length
    show wpAny (model X.prog X.w) X.A (subscriptTail e (.Slice none none (some (.UnaryOp .USub (.Constant (.int 1) k p1) p2)) p3) (.ref a) (.ref s4.heap.objs.size)) (EP X pins σ Q) X.xe { s4 with heap := s4.heap.push { cls := .type "slice", data := .fields #[vl, vu, vs] } }
    refine tail_any (ops := [.ref a, .ref s4.heap.objs.size]) ht.isList.typeIs (PySem.slot_list_getitem.lookup) ?_ (by with_unfolding_all rfl)
    refine wpAny_getItem_list_slice ht.isList (Heap.IsSliceOf.new _ vl vu vs) pl pu ps (by decide) ?_ (by rw [List.size_toArray]; omega)
    rw [PySem.W.krv_pick]
    refine ⟨.ref _, _, I5.laid (t' := s4.toks) (o := .lst xs.reverse) (fun b ob q => Heap.get?_push_of_some _ q) (Nat.le_refl _) ?_, rfl, q _ (I5.hok.fresh (Nat.le_refl _))⟩
    exact ⟨by rw [List.length_reverse]; exact hz, _, 0, r.reverse, Heap.get?_push_size _ rfl⟩
  · subst ex
    cases r1
    obtain ⟨its, r, ht, hz⟩ := I5.tuple hx
    have hlen := r.length
    cases pl; cases pu
    cases ps with
    | int i tk =>
    show wpAny (model X.prog X.w) X.A (subscriptTail e (.Slice none none (some (.UnaryOp .USub (.Constant (.int 1) k p1) p2)) p3) (.ref a) (.ref s4.heap.objs.size)) (EP X pins σ Q) X.xe { s4 with heap := s4.heap.push { cls := .type "slice", data := .fields #[.none, .none, .int (-1) tk] } }
    refine tail_any (ops := [.ref a, .ref s4.heap.objs.size]) ht.typeIs (PyProof.Rows.slot_tuple_getitem.lookup) ?_ (by with_unfolding_all rfl)
    refine getItem_tuple_rev ht (Heap.IsSliceOf.new _ _ _ _) ?_ (by rw [List.size_toArray]; omega)
    refine ⟨.ref _, _, I5.laid (t' := s4.toks) (o := .tup xs.reverse) (fun b ob q => Heap.get?_push_of_some _ q) (Nat.le_refl _) ?_, rfl, q _ (I5.hok.fresh (Nat.le_refl _))⟩
    exact ⟨by rw [List.length_reverse]; exact hz, _, r.reverse, IsTup.new _ _⟩
  · subst ex
    obtain ⟨t, rfl⟩ := r1
    cases pl; cases pu
    cases ps with
    | int i tk =>
    show wpAny (model X.prog X.w) X.A (subscriptTail e (.Slice none none (some (.UnaryOp .USub (.Constant (.int 1) k p1) p2)) p3) (.str y t) (.ref s4.heap.objs.size)) (EP X pins σ Q) X.xe { s4 with heap := s4.heap.push { cls := .type "slice", data := .fields #[.none, .none, .int (-1) tk] } }
    refine tail_any (ops := [.str y t, .ref s4.heap.objs.size]) (typeIs_str _ _ _) (PySem.F.slot_str_getitem.lookup) ?_ (by with_unfolding_all rfl)
    refine wpAny_getItem_str_slice (l := none) (u := none) (st := some (-1, tk)) (Heap.IsSliceOf.new _ _ _ _) rfl ?_
    exact ⟨hz, .str _, H4, I5.tok _, ⟨_, rfl⟩, q⟩
end

section
variable {X : Cx} {K : PySem.W.Frag} {c : Nat → Addr} {E : XK} {L L' M2 : Lv} {H H' H2 : Hp} {hd hd' : Hd} {e : Expr} {es : List Expr} {pos : Pos} {f : FE} {fs : Sd → Hd → R (List S)}
def gRev (x : S) (hd : Hd) : R S := match x with
  | .d (.tuple ds) => some (.ok (.d (.tuple ds.reverse)) hd)
  | .d (.list ds) => some (.ok (.d (.list ds.reverse)) hd)
  | .d (.str y) => if (revS y).length ≤ 16777216 then some (.ok (.d (.str (revS y))) hd) else none
  | _ => none
theorem eRev {k : Nat} {p1 p2 p3 : Pos} (he : EvE X c E e f) : EvE X c E (.Subscript e (.Slice none none (some (.UnaryOp .USub (.Constant (.int 1) k p1) p2)) p3) pos) (f1 gRev f) :=
  (pe_rev he).weak fun σ H Q ⟨L, hd, ss, rp, gr, o⟩ => ⟨L, hd, ss, rp, gr, (OutP.bnd o).imp fun x hd1 L1 H1 _ x1 rp1 o1 v sv => by
    unfold gRev at o1
    split at o1
    · obtain ⟨p, vs, rfl, a, r⟩ := sv.tup
      exact .inr (.inl ⟨p, vs, rfl, a, fun q hq => new_tup rp1 r.reverse o1 hq⟩)
    · obtain ⟨p, vs, rfl, a, _, r⟩ := sv.lst
      exact .inl ⟨p, vs, rfl, SqL.of a, fun q hq => new_lst (P := fun _ _ _ _ => True) rp1 r.reverse o1 hq⟩
    · split at o1
      · rename_i h
        exact .inr (.inr ⟨_, sv.str, by rw [sizeLine_eq]; exact h, o1.here rp1 _ (.d (.str _))⟩)
      · exact o1.elim
    · exact o1.elim⟩
/-- str(True) -/
theorem call_str_bl : CallR X (.type "str") (fun xs H Q => (∃ b, xs = [.bl b] ∧ Q (.str (if b then "True" else "False")) H) ∨ ∃ a, xs = [.str a] ∧ Q (.str a) H) := by
  intro pins s σ H xs us Q I r h
  rcases h with ⟨b, rfl, q⟩ | h
  · obtain ⟨u, rfl, r1⟩ := vals1 r
    cases (show u = Value.bool b from r1)
    refine PySem.P.str_of_bool (b := b) ?_
    exact ⟨.str (if b then "True" else "False"), H, I.tok _, ⟨_, rfl⟩, q⟩
  · exact SkE.call_str_str pins s σ H xs us Q I r h
def gStr (x : S) (hd : Hd) : R S := match x with
  | .d (.bool b) => some (.ok (.d (.str (if b then "True" else "False"))) hd)
  | .d (.str y) => some (.ok (.d (.str y)) hd)
  | _ => none
theorem ok_str : OkN K c E (g1 gStr) (fun xs H Q => (∃ b, xs = [.bl b] ∧ Q (.str (if b then "True" else "False")) H) ∨ ∃ a, xs = [.str a] ∧ Q (.str a) H) := ok1 fun L H hd x v Q rp rx o => by
  unfold gStr at o
  split at o
  · rw [rx.bl]; exact .inl ⟨_, rfl, o.here rp _ (.d (.str _))⟩
  · rw [rx.str]; exact .inr ⟨_, rfl, o.here rp _ (.d (.str _))⟩
  · exact o.elim
/-- the same def with its arguments by keyword -/
def EvK (X : Cx) (c : Nat → Addr) (E : XK) (kws : List Keyword) (f : Sd → Hd → R (List S)) : Prop := PK X kws (TAof X.K c E f)
theorem PK.weak {kws : List Keyword} {t t' : TA} (h : PK X kws t) (w : ∀ σ H Q, t' σ H Q → t σ H Q) : PK X kws t' := ⟨fun p pins s σ H Q I q => h.run p pins s σ H Q I (w σ H Q q)⟩
theorem ekN : EvK X c E [] aN := PK.weak pk_nil fun σ H Q ⟨L, hd, ss, rp, gr, o⟩ => o.here rp _ .nil
theorem ekC {kws : List Keyword} {nm : Option Str} {kpos : Pos} {g : Sd → Hd → R (List S)} (ha : EvE X c E e f) (hr : EvK X c E kws g) : EvK X c E (⟨nm, e, kpos⟩ :: kws) (aC f g) :=
  PK.weak (pk_cons ha hr) fun σ H Q ⟨L, hd, ss, rp, gr, o⟩ => ⟨L, hd, ss, rp, gr, (OutP.bnd o).imp fun x hd1 L1 H1 _ x1 rp1 o1 v sv =>
    ⟨L1, hd1, ss, rp1, gr.ext x1, (OutP.bnd o1).imp fun xs hd2 L2 H2 _ x2 rp2 o2 vs svs => o2.here rp2 _ (.cons (sv.ext x2) svs)⟩⟩
def kwPick {α : Type} (a b : Nat) (ix : List Nat) (us ws : List α) : List α := if us.length = a ∧ ws.length = b then ix.filterMap fun i => (us ++ ws)[i]? else []
theorem Vals.pick {vs : List V} {us : List Value} (r : Vals vs us) : ∀ ix : List Nat, Vals (ix.filterMap fun i => vs[i]?) (ix.filterMap fun i => us[i]?)
  | [] => .nil
  | i :: ix => by
    rw [List.filterMap_cons, List.filterMap_cons]
    by_cases h : i < vs.length
    · have h2 : i < us.length := by rw [← r.length]; exact h
      obtain ⟨u, hu, ru⟩ := r.get (i := i) (x := vs[i]) (List.getElem?_eq_getElem h)
      rw [List.getElem?_eq_getElem h, hu]
      exact .cons ru (Vals.pick r ix)
    · rw [List.getElem?_eq_none (by omega), List.getElem?_eq_none (by rw [← r.length]; omega)]
      exact Vals.pick r ix
theorem SRs.pick {xs : List S} {vs : List V} (r : SRs K c L H xs vs) : ∀ ix : List Nat, SRs K c L H (ix.filterMap fun i => xs[i]?) (ix.filterMap fun i => vs[i]?)
  | [] => .nil
  | i :: ix => by
    rw [List.filterMap_cons, List.filterMap_cons]
    by_cases h : i < xs.length
    · obtain ⟨u, hu, ru⟩ := r.get (i := i) (x := xs[i]) (List.getElem?_eq_getElem h)
      rw [List.getElem?_eq_getElem h, hu]
      exact .cons ru (SRs.pick r ix)
    · rw [List.getElem?_eq_none (by omega), List.getElem?_eq_none (by rw [← r.length]; omega)]
      exact SRs.pick r ix
theorem kb_mk {fd : FuncData} {ps ks : List Str} {a b : Nat} {ix : List Nat} (hp : ps ≠ []) (h : ∀ (s : Shared) (us ws : List Value), us.length = a → ws.length = b → BindsTo s fd ⟨us, ks.zip ws⟩ (ps.zip (ix.filterMap fun i => (us ++ ws)[i]?))) : KBinds K fd ps ks (kwPick a b ix) (kwPick a b ix) where
  to := fun s us ws _ hl => by
    unfold kwPick at hl ⊢
    split at hl
    · rename_i q
      rw [if_pos q]
      exact h s us ws q.1 q.2
    · exact absurd (List.length_eq_zero_iff.mp hl.symm) hp
  rel := fun {vs us zs ws} r rz => by
    unfold kwPick
    rw [r.length, rz.length]
    split
    · exact Vals.pick (r.append rz) ix
    · exact .nil
section
variable {CX : CXT} {k : Nat} {fa' : Addr} {fd : FuncData} {ps ks : List Str} {m : List S → Hd → R S} {x : Str} {p : Pos} {sp : Sp} {tk : TA} {kws : List Keyword} {g : List Value → List Value → List Value} {gV : List V → List V → List V} {fk : Sd → Hd → R (List S)} {a b : Nat} {ix : List Nat}
theorem pe_callK0 (F : FnOk X.prog X.w X.K X.mg X.base CX k fa' fd ps sp) (hr : Room k X.A) (hg : Gl X x) (hm : X.mg x = some (.ref fa')) (hk : PySem.W.keepIn X.K (.ref fa') = true) (hb : KBinds X.K fd ps ks g gV) (hx : Passes CX X E)
    (hkw : PK X kws tk) (hall : (backToKw pos (keywordEach kws X.env)).all (·.1.isSome) = true := by rfl) (hks : (backToKw pos (keywordEach kws X.env)).filterMap (·.1) = ks := by rfl)
    (hdb : (x == ("__debug__" : Str)) = false := by decide)
    (hpl : (backToKw pos (keywordEach kws X.env)).any (·.1.isNone) = false := by rfl) :
    PE X (.Call (.Name x p) [] kws pos) (tCallK sp gV E tNil tk) := by
  refine ⟨fun pins s σ H Q I h => ?_⟩
  refine wpAny_Call_Name_kw (ld_glob I hg hm ?_ hdb)
  refine PySem.W.callWith_KW0 (h₀ := X.base) I.ok.mod.kin hk hall (thn (hkw.run pos pins s σ H _ I h) fun ws s2 ⟨zs, H2, I2, rz, q2⟩ => ⟨I2.kIn, ?_⟩) hpl
  rw [hks]
  exact run_fnk F hr hb hx I2 .nil rz q2
def fKw (a b : Nat) (ix : List Nat) (n : Nat) (m : List S → Hd → R S) (fs fk : Sd → Hd → R (List S)) : FE := fun ss hd => bnd (fs ss hd) fun xs h1 => bnd (fk ss h1) fun zs h2 => if xs.length = a ∧ zs.length = b ∧ (kwPick a b ix xs zs).length = n then m (kwPick a b ix xs zs) h2 else none
theorem kw_sp {σ : L2.St} {Q : VK} {ss : Sd} (rp : RP K c L H hd) (gr : GR K c L H ss σ) (o : OutP K c E L H (VP K c Q) (fKw a b ix ps.length m fs fk ss hd)) :
    TAof K c E fs σ H fun vs H1 => TAof K c E fk σ H1 fun zs H2 => spF K c ps.length m (kwPick a b ix vs zs) H2 Q E :=
  ⟨L, hd, ss, rp, gr, (OutP.bnd o).imp fun xs hd1 L1 H1 _ x1 rp1 o1 vs svs => ⟨L1, hd1, ss, rp1, gr.ext x1, (OutP.bnd o1).imp fun ys hd2 L2 H2 _ x2 rp2 o2 zs szs => by
    split at o2
    · rename_i hn
      have e : SRs K c L2 H2 (kwPick a b ix xs ys) (kwPick a b ix vs zs) := by
        unfold kwPick
        rw [(SRs.length svs).symm, (SRs.length szs).symm]
        split
        · exact SRs.pick ((svs.ext x2).append szs) ix
        · exact .nil
      exact ⟨by rw [← e.length]; exact hn.2.2, L2, hd2, _, rp2, e, o2⟩
    · exact o2.elim⟩⟩
theorem eCallK0 (F : FnE X.prog X.w X.K X.mg X.base CX c k fa' fd ps m) (hr : Room k X.A) (hg : Gl X x) (hm : X.mg x = some (.ref fa')) (hk : PySem.W.keepIn X.K (.ref fa') = true) (hb : KBinds X.K fd ps ks (kwPick a b ix) (kwPick a b ix)) (hx : Passes CX X E)
    (hkw : EvK X c E kws fk) (hall : (backToKw pos (keywordEach kws X.env)).all (·.1.isSome) = true := by rfl) (hks : (backToKw pos (keywordEach kws X.env)).filterMap (·.1) = ks := by rfl)
    (hdb : (x == ("__debug__" : Str)) = false := by decide)
    (hpl : (backToKw pos (keywordEach kws X.env)).any (·.1.isNone) = false := by rfl) :
    EvE X c E (.Call (.Name x p) [] kws pos) (fKw a b ix ps.length m aN fk) :=
  (pe_callK0 F hr hg hm hk hb hx hkw hall hks hdb hpl).weak fun σ H Q ⟨L, hd, ss, rp, gr, o⟩ => by
    obtain ⟨L', hd', ss', rp', gr', o'⟩ := kw_sp rp gr o
    exact o'.here rp' _ .nil
theorem eCallK (F : FnE X.prog X.w X.K X.mg X.base CX c k fa' fd ps m) (hr : Room k X.A) (hg : Gl X x) (hm : X.mg x = some (.ref fa')) (hk : PySem.W.keepIn X.K (.ref fa') = true) (hb : KBinds X.K fd ps ks (kwPick a b ix) (kwPick a b ix)) (hx : Passes CX X E)
    (ha : EvA X c E (e :: es) fs) (hkw : EvK X c E kws fk) (hall : (backToKw pos (keywordEach kws X.env)).all (·.1.isSome) = true := by rfl) (hks : (backToKw pos (keywordEach kws X.env)).filterMap (·.1) = ks := by rfl)
    (hdb : (x == ("__debug__" : Str)) = false := by decide) (he : starEach (e :: es) X.env = (false, eval e X.env) :: starEach es X.env := by rfl)
    (hpl : ((backTo pos (starEach (e :: es) X.env)).any (·.1) || (backToKw pos (keywordEach kws X.env)).any (·.1.isNone)) = false := by rfl) :
    EvE X c E (.Call (.Name x p) (e :: es) kws pos) (fKw a b ix ps.length m fs fk) :=
  (pe_callK F hr hg hm hk hb hx ha hkw hall hks hdb he hpl).weak fun σ H Q ⟨L, hd, ss, rp, gr, o⟩ => kw_sp rp gr o
end
end
end EV

set_option Elab.async false
set_option linter.all false
set_option maxRecDepth 100000
set_option maxHeartbeats 2000000
/-! E12: repr of data. It asks that no repr is under way, so the defs that call it promise something under known guards alone (FnG). -/
namespace EV
open PySem PySem.Spec PyProof.Rows L2
section
variable {X : Cx}
theorem call_reprD (hg : X.A.guards = some []) (hu : X.A.units + 80 < cLine) : CallR X (.builtin "repr") (fun xs H Q => ∃ x d, xs = [x] ∧ Dp X.K H x d ∧ d.showable = true ∧ d.hasDict = false ∧ d.depth ≤ 64 ∧ d.shown.length ≤ sizeLine ∧ Q (.str d.shown) H) := by
  intro pins s σ H xs us Q I r h
  obtain ⟨x, d, rfl, hd, h1, h2, h3, h4, q⟩ := h
  obtain ⟨u, rfl, r1⟩ := vals1 r
  obtain ⟨as, rd⟩ := Dp.reads I d x u hd r1
  cases hd with
  | non => cases (show u = Value.none from r1); refine PySem.P.repr_of_none ?_; exact ⟨.str "None", H, I.tok _, ⟨_, rfl⟩, q⟩
  | bl b => cases (show u = Value.bool b from r1); refine PySem.P.repr_of_bool (b := b) ?_; exact ⟨.str (if b then "True" else "False"), H, I.tok _, ⟨_, rfl⟩, q⟩
  | int i =>
    obtain ⟨t, e⟩ := r1
    cases e
    refine PySem.P.repr_of_int (by simpa [PyData.showable] using h1) ?_
    exact ⟨.str (toString i), H, I.tok _, ⟨_, rfl⟩, q⟩
  | str y =>
    obtain ⟨t, e⟩ := r1
    cases e
    refine PySem.P.repr_of_str ?_ h4
    exact ⟨.str (reprText y), H, I.tok _, ⟨_, rfl⟩, q⟩
  | @lst a vs ds hq hD =>
    cases (show u = Value.ref a from r1)
    exact PySem.repr_of_reads' rd h1 (PyData.noDict_hsm h2) hg (by omega) (fun _ _ e => e) (fun h' tk t hk => ⟨.str _, H, I.kept hk, ⟨_, rfl⟩, q⟩) h4
  | @tup a vs ds hq hD =>
    cases (show u = Value.ref a from r1)
    exact PySem.repr_of_reads' rd h1 (PyData.noDict_hsm h2) hg (by omega) (fun _ _ e => e) (fun h' tk t hk => ⟨.str _, H, I.kept hk, ⟨_, rfl⟩, q⟩) h4
end
def gRepr (x : S) (hd : Hd) : R S := match x with
  | .d d => if d.showable = true ∧ d.hasDict = false ∧ d.depth ≤ 64 ∧ d.shown.length ≤ 16777216 then some (.ok (.d (.str d.shown)) hd) else none
  | _ => none
theorem ok_repr {K : PySem.W.Frag} {c : Nat → Addr} {E : XK} : OkN K c E (g1 gRepr) (fun xs H Q => ∃ x d, xs = [x] ∧ Dp K H x d ∧ d.showable = true ∧ d.hasDict = false ∧ d.depth ≤ 64 ∧ d.shown.length ≤ sizeLine ∧ Q (.str d.shown) H) := ok1 fun L H hd x v Q rp rx o => by
  unfold gRepr at o
  split at o
  · split at o
    · rename_i h
      exact ⟨_, _, rfl, rx.pr.dp, h.1, h.2.1, h.2.2.1, by rw [sizeLine_eq]; exact h.2.2.2, o.here rp _ (.d (.str _))⟩
    · exact o.elim
  · exact o.elim

/-! ### promises under known guards -/
structure FnG (P : Program) (w : World) (K : PySem.W.Frag) (mg : Str → Option Value) (base : Heap) (k : Nat) (f : Addr) (fd : FuncData) (ps : List Str) (sp : Sp) : Prop where
  len : ∀ vs H Q E, sp vs H Q E → vs.length = ps.length
  run : ∀ (A : Around) (outer : List Env) (s : Shared) (H : Hp) (args : Args) (us : List Value) (vs : List V) (Q : VK) (E : XK), A.guards = some [] → Room k A → Env0 P w K mg base A outer s H → BindsTo s fd args (ps.zip us) → Vals vs us → sp vs H Q E →
    codeAny (model P w) A (.call (.ref f) args) (L2.CR CX0 outer P w H s Q E) s
abbrev FnEG (P : Program) (w : World) (K : PySem.W.Frag) (mg : Str → Option Value) (base : Heap) (c : Nat → Addr) (k : Nat) (f : Addr) (fd : FuncData) (ps : List Str) (m : List S → Hd → R S) : Prop :=
  FnG P w K mg base k f fd ps (spF K c ps.length m)
section
variable {P : Program} {w : World} {K : PySem.W.Frag} {mg : Str → Option Value} {base : Heap} {c : Nat → Addr} {k : Nat} {f' : Addr} {fd : FuncData} {ps : List Str} {m : List S → Hd → R S} {sp sp' : Sp}
theorem FnG.imp (F : FnG P w K mg base k f' fd ps sp) (h : ∀ vs H Q E, sp' vs H Q E → sp vs H Q E) : FnG P w K mg base k f' fd ps sp' :=
  ⟨fun vs H Q E q => F.len vs H Q E (h _ _ _ _ q), fun A outer s H args us vs Q E hg hr he hb hv hs => F.run A outer s H args us vs Q E hg hr he hb hv (h _ _ _ _ hs)⟩
theorem FnG.mono {j : Nat} (F : FnG P w K mg base j f' fd ps sp) (h : j ≤ k) : FnG P w K mg base k f' fd ps sp :=
  ⟨F.len, fun A outer s H args us vs Q E hg hr => F.run A outer s H args us vs Q E hg (hr.mono h)⟩
theorem FnEG.cut (F : FnEG P w K mg base c k f' fd ps m) : FnEG P w K mg base c k f' fd ps (mCut m) :=
  FnG.imp F fun vs H Q E ⟨hl, L, hd, xs, rp, svs, o⟩ => ⟨hl, L, hd, xs, rp, svs, cut_out rp o⟩
theorem deeper_guards (A : Around) (q : Str) (sc : Scope) (n : Nat) (f : Addr) (cd : Value) : (A.deeper (envOfC q sc n f cd)).guards = A.guards := rfl
theorem fn_evG {x qual : Str} {st : Stmt} {fA : Addr} {N : List Str} {fb : FS} (F : Fun K x qual st fA fd) (S : FnScope N ps (defScope st))
    (hbody : ∀ (cdv : Value) (A : Around) (outer : List Env) (s : Shared) (H : Hp) (E : XK), A.guards = some [] → Room k (A.deeper (envOfC qual (defScope st) s.heap.objs.size fA cdv)) →
      EvSs (cxOf CX0 P w K mg base N qual (defScope st) fA cdv A outer s H E).nox c E0 (defBody st) fb) : FnEG P w K mg base c (k + 1) fA fd ps (mB N.length fb) := by
  obtain ⟨oc, od, kV, doc, pm, an, cdv, ct, osl, rfl, lk, hcd⟩ := F.ex
  refine ⟨fun vs H Q E h => h.1, fun A outer s H args us vs Q E hg hr e0 hb r hsp => ?_⟩
  have hl := hsp.1
  have KX : K.In s.heap := e0.mod.kin.keeps fun b o e => (e0.bs b o e).1
  have lim : s.heap.NoLimit := e0.mod.nolimit.keeps fun b o e => (e0.bs b o e).1
  have hkind : ∀ y ∈ ps.zip us, (defScope st).names.lookup y.1 = some .local ∨ ((defScope st).names.lookup y.1 = some .cell ∧ ((cellsFrom (s.heap.objs.size + 1) (defScope st).names []).lookup y.1).isSome = true) := fun ⟨n, v⟩ hy => by
    rcases S.par n (List.of_mem_zip hy).1 with q | q
    · exact .inl q
    · exact .inr ⟨q, PySem.W.cellsFrom_some _ _ _ (.inl q)⟩
  refine codeAny_call_function hr.depth (KX _ _ lk) rfl S.co S.gen rfl (PySem.W.codeRec_of KX hcd) (hb _ _ _ _ ?_)
  refine wpAny_newFunctionEnv_cells S.kind hkind fun env he s1 x => ?_
  subst he
  refine ⟨lim.keeps x.toInCall.keep, codeAny_func ?_⟩
  have ht := (hbody cdv A outer s H E hg (hr.deeper _)).nox
  have I : Inv (cxOf CX0 P w K mg base N qual (defScope st) fA cdv A outer s H E) [] (L2.start N vs) H s1 := inv_start S hr.hd e0 hl r x
  have hq : TSof K c E0 fb { nx := fun _ H' => Q .non H', rt := Q } (L2.start N vs) H := by
    obtain ⟨_, L, hd, xs, rp, svs, o⟩ := hsp
    refine ⟨L, hd, stS N.length xs, rp, gr_start svs, ?_⟩
    obtain ⟨r, h', e, o'⟩ := OutP.bnd0 o
    rw [e]
    intro L1 H1 x1 rp1
    cases r with
    | nx ss => exact fun σ _ => o' L1 H1 x1 rp1 _ (.d .non)
    | rt x => exact fun v sv => o' L1 H1 x1 rp1 v sv
    | bk ss => exact o'.elim
    | ct ss => exact o'.elim
  refine wpAny_mono (ht.run [] s1 (L2.start N vs) H _ I hq) (fun fl s' hs => ?_) fun e s' hs => hs
  have fin : ∀ {σ' : L2.St} {H' : Hp} {v : V} {u : Value}, Inv (cxOf CX0 P w K mg base N qual (defScope st) fA cdv A outer s H E) [] σ' H' s' → RelV v u → Q v H' → L2.CE outer P w H s Q u s' :=
    fun {σ' H' v u} J rv q => ⟨v, H', J.os, J.bare, J.base, J.hok, rv, q⟩
  cases fl with
  | ret u =>
    obtain ⟨v, σ', H', J, rv, q⟩ := hs
    exact fin J rv q
  | next =>
    obtain ⟨σ', H', J, q⟩ := hs
    exact fin (v := V.non) (u := Value.none) J rfl q
  | brk =>
    obtain ⟨_, _, _, q⟩ := hs
    exact False.elim q
  | cont =>
    obtain ⟨_, _, _, q⟩ := hs
    exact False.elim q
end
section
variable {X : Cx} {c : Nat → Addr} {E : XK} {e : Expr} {es : List Expr} {pos : Pos} {k : Nat} {fa' : Addr} {fd : FuncData} {ps : List Str} {m : List S → Hd → R S} {x : Str} {p : Pos} {sp : Sp} {t : TA} {fs : Sd → Hd → R (List S)}
theorem run_fnG {pins : List (Addr × Obj)} {σ : L2.St} {H : Hp} {s : Shared} {Q : VK} {us : List Value} {vs : List V} (F : FnG X.prog X.w X.K X.mg X.base k fa' fd ps sp) (hgd : X.A.guards = some []) (hr : Room k X.A) (hb : Binds X.K fd ps []) (hx : Passes CX0 X E)
    (I : Inv X pins σ H s) (r : Vals vs us) (h : sp vs H Q E) : wpAny (model X.prog X.w) X.A (call (.ref fa') us) (EP X pins σ Q) X.xe s := by
  have hl : (us ++ []).length = ps.length := by rw [List.append_nil, ← r.length]; exact F.len _ _ _ _ h
  have hbt := hb s us I.kIn hl
  rw [List.append_nil] at hbt
  refine wpAny_call (codeAny_mono (F.run X.A X.stack s H ⟨us, []⟩ us vs Q E hgd hr I.env0 hbt r h) fun r s' hq => ?_)
  cases r with
  | error e => exact hx pins σ H s e s' I hq
  | ok fl =>
    cases fl with
    | ret u => exact I.after hq
    | next => exact False.elim hq
    | brk => exact False.elim hq
    | cont => exact False.elim hq
theorem pe_callG (F : FnG X.prog X.w X.K X.mg X.base k fa' fd ps sp) (hgd : X.A.guards = some []) (hr : Room k X.A) (hg : Gl X x) (hm : X.mg x = some (.ref fa')) (hk : PySem.W.keepIn X.K (.ref fa') = true) (hb : Binds X.K fd ps []) (hx : Passes CX0 X E)
    (ha : PA X (e :: es) t) (hdb : (x == ("__debug__" : Str)) = false := by decide) (he : starEach (e :: es) X.env = (false, eval e X.env) :: starEach es X.env := by rfl) (hpl : (backTo pos (starEach es X.env)).any (·.1) = false := by rfl) :
    PE X (.Call (.Name x p) (e :: es) [] pos) (fun σ H Q => t σ H fun vs H1 => sp vs H1 Q E) := by
  refine ⟨fun pins s σ H Q I h => ?_⟩
  refine wpAny_Call_Name_kw (ld_glob I hg hm ?_ hdb)
  refine PySem.W.callWith_K (h₀ := X.base) I.ok.mod.kin hk (thn (ha.run pos pins s σ H _ I h) fun us s1 ⟨vs, H1, I1, r1, q1⟩ => ⟨I1.kIn, ?_⟩) he hpl
  exact run_fnG F hgd hr hb hx I1 r1 q1
theorem eCallG (F : FnEG X.prog X.w X.K X.mg X.base c k fa' fd ps m) (hgd : X.A.guards = some []) (hr : Room k X.A) (hg : Gl X x) (hm : X.mg x = some (.ref fa')) (hk : PySem.W.keepIn X.K (.ref fa') = true) (hb : Binds X.K fd ps []) (hx : Passes CX0 X E)
    (ha : EvA X c E (e :: es) fs) (hdb : (x == ("__debug__" : Str)) = false := by decide) (he : starEach (e :: es) X.env = (false, eval e X.env) :: starEach es X.env := by rfl) (hpl : (backTo pos (starEach es X.env)).any (·.1) = false := by rfl) :
    EvE X c E (.Call (.Name x p) (e :: es) [] pos) (fN (ar ps.length m) fs) :=
  (pe_callG F hgd hr hg hm hk hb hx ha hdb he hpl).weak fun σ H Q ⟨L, hd, ss, rp, gr, o⟩ => ⟨L, hd, ss, rp, gr, (OutP.bnd o).imp fun xs hd1 L1 H1 _ x1 rp1 o1 vs svs => by
    unfold ar at o1
    split at o1
    · rename_i hn
      exact ⟨by rw [← svs.length]; exact hn, L1, hd1, xs, rp1, svs, o1⟩
    · exact o1.elim⟩
end

/-! ### the head: the law's own promise, at the heap behind the top -/
/-- what law(script) has to promise -/
def Good (m : List S → Hd → R S) : Prop := ∀ ns : List Int, ns.length ≤ 63 → ∃ h, m [.scr ns] [] = some (.ok (.d (.bool true)) h)
theorem law_spF {K : PySem.W.Frag} {c : Nat → Addr} {m : List S → Hd → R S} (g : Good m) {H : Hp} {a : Addr} {ns : List Int} (hl : ns.length ≤ 63) (hO : Only H) (hS : SqL K H a (ns.map V.int)) :
    spF K c 1 m [.ref a] H (fun v _ => v = .bl true) fun _ _ _ => False := by
  obtain ⟨h, e⟩ := g ns hl
  refine ⟨rfl, ⟨[], []⟩, [], [.scr ns], ⟨List.nodup_nil, rfl, fun b hb => by simp at hb, fun p hp => by simp at hp, fun n p o h1 _ => by simp at h1⟩, .cons (.scr ?_) .nil, ?_⟩
  · rcases hS with hS | ⟨o, its, n, h1, h2, h3, h4, h5, h6⟩
    · refine .inl ⟨?_, by simp [Lv.all]⟩
      rcases hS with hS | ⟨o, hS⟩
      · exact ⟨_, hS, rfl⟩
      · exact ⟨_, hS, rfl⟩
    · exact .inr ⟨o, its, n, h1, h2, h3, h4, h5, h6⟩
  · rw [e]
    intro L' H' _ _ v sv
    exact sv.bl
theorem walk_ev {l : PySem.W.OpenLaw} {k : Nat} {q : Program} {loose : List Str} {XP : (Str → Option Value) → Heap → Prop} {YP : World → Heap → Prop} {d : DefRec} {K : Params → PySem.W.Frag} {x : Str} {c : World → Nat → Addr} {m : List S → Hd → R S}
    (hn : l.most = some 63) (hdf : d.params.defaults = []) (hr : Room k callerA) (g : Good m)
    (hY : ∀ (w : World) (h : Heap), YP w h → (K w.params).In h)
    (F : ∀ (w : World) (mg : Str → Option Value) (fa : Addr) (h : Heap), (K w.params).In h → h.Ns mainGlobals mg → mg d.name = some (.ref fa) →
      ∃ fd : FuncData, (∀ (s : Shared) (u : Value), BindsTo s fd ⟨[u], []⟩ [(x, u)]) ∧
        ∀ base : Heap, (K w.params).In base → base.Ns mainGlobals mg → FnE l.prog w (K w.params) mg base CX0 (c w) k fa fd [x] m) :
    PySem.W.WalkO q loose XP YP l.row.toRowW d [] (fun f vs => PySem.call f vs) :=
  L2.walk_of (n := 63) (k := k) (x := x) (CX := fun _ => CX0) (sp := fun w => spF (K w.params) (c w) 1 m) hn (by decide) hdf hr hY F (fun w H a ns hl hO hS => law_spF g hl hO hS) fun _ _ _ _ _ z => z
end EV

set_option Elab.async false
set_option linter.all false
set_option maxRecDepth 100000
set_option maxHeartbeats 2000000
/-! E13: the head for a law that calls repr. -/
namespace EV
open PySem PySem.Spec PyProof.Rows L2
theorem law_callG {P : Program} {w : World} {K : PySem.W.Frag} {mg mb : Str → Option Value} {k : Nat} {fa a : Addr} {fd : FuncData} {x : Str} {sp : Sp} {s₁ : Shared} {vs : List Value} {ns : List Int}
    (KX : K.In s₁.heap) (hns : s₁.heap.Ns mainGlobals mg) (hb : s₁.heap.Ns builtinsNs mb) (hbb : ∀ x : Str, x ≠ "__name__" → mb x = bootBuiltins x) (hlim : s₁.heap.NoLimit) (hg : s₁.gens = #[])
    (ha : s₁.heap.get? a = some { cls := .type "list", data := .seq vs.toArray }) (hi : IntsAre vs ns) (hl : ns.length ≤ sizeLine) (hr : Room k callerA)
    (F : ∀ base : Heap, K.In base → base.Ns mainGlobals mg → FnG P w K mg base k fa fd [x] sp) (hbind : ∀ (s : Shared) (u : Value), BindsTo s fd ⟨[u], []⟩ [(x, u)])
    (hsp : ∀ H : Hp, Only H → SqL K H a (ns.map V.int) → sp [.ref a] H (fun v _ => v = .bl true) fun _ _ _ => False) :
    codeAny (model P w) callerA (.call (.ref fa) ⟨[.ref a], []⟩) (fun r s' => r = .ok (.ret (.bool true)) ∧ OldK s₁.heap s'.heap ∧ s'.os = s₁.os ∧ AllBare s'.gens) s₁ := by
  have rv := vals_ints hi
  have lenV := hi.length
  -- from an abstract heap in which nothing but the script may be tracked
  have core : ∀ H : Hp, Only H → SqL K H a (ns.map V.int) → HOk P w H s₁.heap → (∀ b, H b ≠ none → b = a) → (H a ≠ none → K.lookup a = none) →
      codeAny (model P w) callerA (.call (.ref fa) ⟨[.ref a], []⟩) (fun r s' => r = .ok (.ret (.bool true)) ∧ OldK s₁.heap s'.heap ∧ s'.os = s₁.os ∧ AllBare s'.gens) s₁ := by
    intro H hO hS hok hA hK
    have base_of : ∀ {b : Addr} {o : Obj}, s₁.heap.get? b = some o → H b = none → (hidT s₁.heap H).get? b = some o := fun e n => hidT_get e n
    have noA : ∀ {b : Addr} {o : Obj} {es : Array DictEntry} {ep : Nat}, s₁.heap.get? b = some o → o.data = .dict es ep → H b = none := fun {b o es ep} e d => by
      cases q : H b with
      | none => rfl
      | some u =>
        have e' : b = a := hA b (by rw [q]; simp)
        subst e'
        rw [ha] at e; cases e
        have d' : Data.seq vs.toArray _ = Data.dict es ep := d
        cases d'
    have nsK : ∀ {b : Addr} {m : Str → Option Value}, s₁.heap.Ns b m → (hidT s₁.heap H).Ns b m := fun {b m} ⟨o, es, ep, e, d, r⟩ => ⟨o, es, ep, base_of e (noA e d), d, r⟩
    have hKb : K.In (hidT s₁.heap H) := fun b o e => base_of (KX b o e) (by
      cases q : H b with
      | none => rfl
      | some u =>
        have e' : b = a := hA b (by rw [q]; simp)
        subst e'
        rw [hK (by rw [q]; simp)] at e; cases e)
    have hM : Mod K mg (hidT s₁.heap H) := ⟨hKb, nsK hns, ⟨mb, nsK hb, hbb⟩, let ⟨mc, h1, h2⟩ := hlim; ⟨mc, nsK h1, h2⟩⟩
    have e0 : Env0 P w K mg (hidT s₁.heap H) callerA [] s₁ H := ⟨rfl, hM, fun b o e => of_hidT e, Nat.le_of_eq (hidT_size _ _), trivial, fun b hb => absurd (show b ∈ ([] : List Addr) from hb) (by simp), hok, .of_eq hg⟩
    refine codeAny_mono ((F _ hKb (nsK hns)).run callerA [] s₁ H ⟨[.ref a], []⟩ [.ref a] [.ref a] _ _ rfl hr e0 (hbind s₁ (.ref a)) (.cons rfl .nil) (hsp H hO hS)) fun r s' h => ?_
    cases r with
    | error e => exact (show False from h).elim
    | ok fl =>
      cases fl with
      | next => exact False.elim h
      | brk => exact False.elim h
      | cont => exact False.elim h
      | ret u =>
        obtain ⟨v, H', os, bare, un, hok', r', q⟩ := h
        have q' : v = .bl true := q
        subst q'
        obtain rfl : u = Value.bool true := r'
        refine ⟨rfl, OldK.of_keep fun b o e => ?_, os, bare⟩
        cases q : H b with
        | none => exact un.keep b o e q (by intro z; exact absurd (show b ∈ ([] : List Addr) from z) (by simp)) (by simp)
        | some u =>
          rcases hO b with z | ⟨ob, xs, z⟩
          · rw [q] at z; cases z
          · have z2 := un.frzs b ob _ z
            obtain ⟨e1, _⟩ := hok b _ z
            obtain ⟨e2, _⟩ := hok' b _ z2
            rw [e] at e1; cases e1
            exact e2
  cases hk : K.lookup a with
  | some o =>
    -- the script is one of the module's own objects
    have e := KX a o hk
    rw [ha] at e
    cases e
    refine core (fun _ => none) (fun _ => .inl rfl) (.inr ⟨_, vs.toArray, _, hk, rfl, rfl, rfl, by rw [List.size_toArray, lenV]; exact hl, by simpa using rv⟩) (fun b u z => by have z' : (none : Option HO) = some u := z; cases z') (fun b z => absurd rfl z) fun z => absurd rfl z
  | none =>
    refine core (fun b => if b = a then some (.frz { cls := .type "list", data := .seq vs.toArray } (.lst (ns.map V.int))) else none) (fun b => ?_) (.inl (.inr ⟨{ cls := .type "list", data := .seq vs.toArray }, if_pos rfl⟩)) (fun b u z => ?_) (fun b z => ?_) fun _ => hk
    · by_cases hb : b = a
      · exact .inr ⟨_, _, if_pos hb⟩
      · exact .inl (if_neg hb)
    · by_cases hb : b = a
      · have z' := (if_pos hb).symm.trans z
        cases z'
        subst hb
        exact ⟨ha, by rw [List.length_map]; exact hl, vs, _, rv, ha⟩
      · have z' := (if_neg hb).symm.trans z
        cases z'
    · by_cases hb : b = a
      · exact hb
      · exact absurd (if_neg hb) z
theorem walk_evG {l : PySem.W.OpenLaw} {k : Nat} {q : Program} {loose : List Str} {XP : (Str → Option Value) → Heap → Prop} {YP : World → Heap → Prop} {d : DefRec} {K : Params → PySem.W.Frag} {x : Str} {c : World → Nat → Addr} {m : List S → Hd → R S}
    (hn : l.most = some 63) (hdf : d.params.defaults = []) (hr : Room k callerA) (g : Good m)
    (hY : ∀ (w : World) (h : Heap), YP w h → (K w.params).In h)
    (F : ∀ (w : World) (mg : Str → Option Value) (fa : Addr) (h : Heap), (K w.params).In h → h.Ns mainGlobals mg → mg d.name = some (.ref fa) →
      ∃ fd : FuncData, (∀ (s : Shared) (u : Value), BindsTo s fd ⟨[u], []⟩ [(x, u)]) ∧
        ∀ base : Heap, (K w.params).In base → base.Ns mainGlobals mg → FnEG l.prog w (K w.params) mg base (c w) k fa fd [x] m) :
    PySem.W.WalkO q loose XP YP l.row.toRowW d [] (fun f vs => PySem.call f vs) := by
  refine Att.attach_call hn hdf fun w s₀ s₁ mg mb fa o pm cd doc a vs ns G Y ho hd hcd hmg hobj hints hlen hg => ?_
  have KX := hY w _ Y
  obtain ⟨fd, hb, hF⟩ := F w mg fa _ KX G.T.g hmg
  exact law_callG KX G.T.g G.T.b G.T.builtins G.T.nolimit hg hobj hints (Nat.le_trans hlen (by decide)) hr hF hb (fun H hO hS => law_spF g hlen hO hS)
end EV

set_option Elab.async false
set_option linter.all false
set_option maxRecDepth 100000
set_option maxHeartbeats 2000000
/-! E14: walks over any sequence; list + list with live lists; short rules for the printer. -/
namespace EV
open PySem PySem.Spec PyProof.Rows L2
variable {X : Cx} {K : PySem.W.Frag} {c : Nat → Addr} {E : XK} {L L' M2 : Lv} {H H' H2 : Hp} {hd hd' : Hd}
variable {a b e : Expr} {es : List Expr} {rest : List Expr} {pos : Pos} {fa fb f : FE} {D : Ends}
/-- a text's signs -/
def signs (z : Str) : List S := z.cps.toList.map fun k => S.d (.str ⟨#[k]⟩)
def srcOfS (x : S) (hd : Hd) : R Src := match x with
  | .d (.str z) => if z.cps.size ≤ 16777216 then some (.ok (.it (signs z)) hd) else none
  | _ => none
theorem eiS {tg : Expr} (he : EvE X c E e f) : EvI X c E tg e (srcE srcOfS f) := PI.weak (pi_str he) fun σ H R ⟨L, hd, ss, rp, gr, o⟩ => ⟨L, hd, ss, rp, gr, (OutP.bnd o).imp fun x hd1 L1 H1 _ x1 rp1 o1 v sv => by
  unfold srcOfS at o1
  split at o1
  · split at o1
    · rename_i hz
      refine ⟨_, sv.str, o1.here rp1 _ ⟨by unfold signs; rw [List.length_map, Array.length_toList]; exact hz, fun _ => True, _, by unfold signs; rw [List.length_map, Array.length_toList]; exact walk_str, fun _ _ _ => trivial, fun i x L' H' hd' v H2 hx xt rp y => ?_⟩⟩
      obtain ⟨rfl, k, hk, rfl⟩ := y
      unfold signs at hx
      rw [List.getElem?_map, Array.getElem?_toList, hk] at hx
      cases hx
      exact ⟨.refl, rp, .d (.str _)⟩
    · exact o1.elim
  · exact o1.elim⟩
/-- a list, a live list, a tuple, a text -/
def srcA (x : S) (hd : Hd) : R Src := match x with
  | .d (.tuple ds) => some (.ok (.it (ds.map .d)) hd)
  | .d (.str z) => if z.cps.size ≤ 16777216 then some (.ok (.it (signs z)) hd) else none
  | x => srcOf x hd
theorem eiA {tg : Expr} (he : EvE X c E e f) : EvI X c E tg e (srcE srcA f) := by
  refine PI.or (eiL he) (PI.or (eiT he) (eiS he) (u := fun σ H Q => TIof X.K c E (srcE srcOfT f) σ H Q ∨ TIof X.K c E (srcE srcOfS f) σ H Q) fun _ _ _ h => h) fun σ H Q ⟨L, hd, ss, rp, gr, o⟩ => ?_
  by_cases h : ∃ ds h, f ss hd = some (.ok (.d (.tuple ds)) h)
  · obtain ⟨ds, h, e⟩ := h
    refine .inr (.inl ⟨L, hd, ss, rp, gr, ?_⟩)
    unfold srcE at o ⊢
    rw [e] at o ⊢
    exact o
  · by_cases h2 : ∃ z h, f ss hd = some (.ok (.d (.str z)) h)
    · obtain ⟨z, h, e⟩ := h2
      refine .inr (.inr ⟨L, hd, ss, rp, gr, ?_⟩)
      unfold srcE at o ⊢
      rw [e] at o ⊢
      exact o
    · refine .inl ⟨L, hd, ss, rp, gr, ?_⟩
      unfold srcE at o ⊢
      cases e : f ss hd with
      | none => rw [e] at o; exact o
      | some r =>
        cases r with
        | ex a b => rw [e] at o; exact o
        | ok x h' =>
          rw [e] at o
          have o : OutP X.K c E L H _ (srcA x h') := o
          show OutP X.K c E L H _ (srcOf x h')
          unfold srcA at o
          split at o
          · exact absurd ⟨_, _, e⟩ h
          · exact absurd ⟨_, _, e⟩ h2
          · exact o
/-! ### list + list, of which one may be live -/
def litems (hd : Hd) : S → Option (List S)
  | .d (.list xs) => some (xs.map .d)
  | .ref n => match hd[n]? with
    | some (.lst xs) => some xs
    | _ => none
  | _ => none
theorem litems_of (rp : RP K c L H hd) {x : S} {v : V} {xs : List S} (r : SR K c L H x v) (e : litems hd x = some xs) : ∃ p vs, v = .ref p ∧ H p = some (.lst vs) ∧ SRs K c L H xs vs := by
  cases x with
  | d x =>
    cases x with
    | list ds =>
      obtain ⟨p, vs, rfl, a, _, q⟩ := r.lst
      simp only [litems, Option.some.injEq] at e
      subst e
      exact ⟨p, vs, rfl, a, q.srs⟩
    | _ => simp [litems] at e
  | ref n =>
    obtain ⟨p, rfl, hp⟩ := r.ref_
    obtain ⟨o, ho, cr⟩ := rp.get hp
    simp only [litems, ho] at e
    cases cr with
    | lst a q =>
      simp only [Option.some.injEq] at e
      subst e
      exact ⟨p, _, rfl, a, q⟩
    | dct _ _ => simp at e
    | ins _ _ => simp at e
    | slt _ _ _ => simp at e
  | _ => simp [litems] at e
def gCatF (x y : S) (hd : Hd) : R S := match litems hd x, litems hd y with
  | some xs, some ys => if xs.length + ys.length ≤ 16777216 then match pures (xs ++ ys) with
    | some ds => some (.ok (.d (.list ds)) hd)
    | none => none
    else none
  | _, _ => none
def gCatL (x y : S) (hd : Hd) : R S := match litems hd x, litems hd y with
  | some xs, some ys => if xs.length + ys.length ≤ 16777216 then some (.ok (.ref hd.length) (hd ++ [.lst (xs ++ ys)])) else none
  | _, _ => none
theorem ok_catF : Ok2 K c E gCatF rCat := by
  intro L H hd x y v u Q rp rx ry o
  unfold gCatF at o
  split at o
  · rename_i xs ys hx hy
    split at o
    · rename_i hz
      split at o
      · rename_i ds hds
        obtain ⟨p, vs, rfl, a, ra⟩ := litems_of rp rx hx
        obtain ⟨q, ws, rfl, b, rb⟩ := litems_of rp ry hy
        exact ⟨p, q, vs, ws, rfl, rfl, a, b, by rw [sizeLine_eq, ← ra.length, ← rb.length]; exact hz, fun l hl => new_lst (P := fun _ _ _ _ => True) rp ((ra.append rb).pure hds) o hl⟩
      · exact o.elim
    · exact o.elim
  · exact o.elim
theorem ok_catL : Ok2 K c E gCatL rCat := by
  intro L H hd x y v u Q rp rx ry o
  unfold gCatL at o
  split at o
  · rename_i xs ys hx hy
    split at o
    · rename_i hz
      obtain ⟨p, vs, rfl, a, ra⟩ := litems_of rp rx hx
      obtain ⟨q, ws, rfl, b, rb⟩ := litems_of rp ry hy
      exact ⟨p, q, vs, ws, rfl, rfl, a, b, by rw [sizeLine_eq, ← ra.length, ← rb.length]; exact hz, fun l hl => new_live rp (ra.append rb) o hl⟩
    · exact o.elim
  · exact o.elim
theorem eCatF (ha : EvE X c E a fa) (hb : EvE X c E b fb) : EvE X c E (.BinOp a .Add b pos) (f2 gCatF fa fb) := e2 ok_catF (pe_op op_cat ha hb)
theorem eCatL (ha : EvE X c E a fa) (hb : EvE X c E b fb) : EvE X c E (.BinOp a .Add b pos) (f2 gCatL fa fb) := e2 ok_catL (pe_op op_cat ha hb)

/-! ### comparisons, in short -/
theorem qEq (hu : X.A.units + 64 < cLine) (ha : EvE X c E a fa) (hb : EvE X c E b fb) : EvE X c E (.Compare a [.Eq] [b] pos) (f2 gEq fa fb) := e2 ok_eq (pe_cmpR (op_eqA hu) ha hb (nomark _))
theorem qNe (hu : X.A.units + 64 < cLine) (ha : EvE X c E a fa) (hb : EvE X c E b fb) : EvE X c E (.Compare a [.NotEq] [b] pos) (f2 gNe fa fb) := e2 ok_ne (pe_cmpR (op_neA hu) ha hb (nomark _))
theorem qLt (ha : EvE X c E a fa) (hb : EvE X c E b fb) : EvE X c E (.Compare a [.Lt] [b] pos) (f2 gLt fa fb) := e2 ok_ord (pe_cmpR op_ltA ha hb (nomark _))
theorem qLe (ha : EvE X c E a fa) (hb : EvE X c E b fb) : EvE X c E (.Compare a [.LtE] [b] pos) (f2 gLe fa fb) := e2 ok_ord (pe_cmpR op_leA ha hb (nomark _))
theorem qGt (ha : EvE X c E a fa) (hb : EvE X c E b fb) : EvE X c E (.Compare a [.Gt] [b] pos) (f2 gGt fa fb) := e2 ok_ord (pe_cmpR op_gtA ha hb (nomark _))
theorem qGe (ha : EvE X c E a fa) (hb : EvE X c E b fb) : EvE X c E (.Compare a [.GtE] [b] pos) (f2 gGe fa fb) := e2 ok_ord (pe_cmpR op_geA ha hb (nomark _))
theorem qIs (ha : EvE X c E a fa) (hb : EvE X c E b fb) : EvE X c E (.Compare a [.Is] [b] pos) (f2 (gIsN false) fa fb) := e2 ok_isN (pe_cmpR op_isN ha hb (nomark _))
theorem qIsNot (ha : EvE X c E a fa) (hb : EvE X c E b fb) : EvE X c E (.Compare a [.IsNot] [b] pos) (f2 (gIsN true) fa fb) := e2 ok_notN (pe_cmpR op_notN ha hb (nomark _))
theorem qIn (hu : X.A.units + 65 < cLine) (ha : EvE X c E a fa) (hb : EvE X c E b fb) (hm : behindInMarks .In b = false := by rfl) : EvE X c E (.Compare a [.In] [b] pos) (f2 gIn fa fb) := e2 ok_in (pe_cmpR (op_inA hu) ha hb hm)
theorem qNin (hu : X.A.units + 65 < cLine) (ha : EvE X c E a fa) (hb : EvE X c E b fb) (hm : behindInMarks .NotIn b = false := by rfl) : EvE X c E (.Compare a [.NotIn] [b] pos) (f2 gNin fa fb) := e2 ok_nin (pe_cmpR (op_ninA hu) ha hb hm)
theorem wEq (hu : X.A.units + 64 < cLine) (ha : EvE X c E a fa) (hb : EvE X c E b fb) : EvT X c E (.Compare a [.Eq] [b] pos) (tb (f2 gEq fa fb)) := tCmp2 ok_eq (pt_cmpR (op_eqA hu) ha hb (nomark _))
theorem wNe (hu : X.A.units + 64 < cLine) (ha : EvE X c E a fa) (hb : EvE X c E b fb) : EvT X c E (.Compare a [.NotEq] [b] pos) (tb (f2 gNe fa fb)) := tCmp2 ok_ne (pt_cmpR (op_neA hu) ha hb (nomark _))
theorem wLt (ha : EvE X c E a fa) (hb : EvE X c E b fb) : EvT X c E (.Compare a [.Lt] [b] pos) (tb (f2 gLt fa fb)) := tCmp2 ok_ord (pt_cmpR op_ltA ha hb (nomark _))
theorem wLe (ha : EvE X c E a fa) (hb : EvE X c E b fb) : EvT X c E (.Compare a [.LtE] [b] pos) (tb (f2 gLe fa fb)) := tCmp2 ok_ord (pt_cmpR op_leA ha hb (nomark _))
theorem wGt (ha : EvE X c E a fa) (hb : EvE X c E b fb) : EvT X c E (.Compare a [.Gt] [b] pos) (tb (f2 gGt fa fb)) := tCmp2 ok_ord (pt_cmpR op_gtA ha hb (nomark _))
theorem wGe (ha : EvE X c E a fa) (hb : EvE X c E b fb) : EvT X c E (.Compare a [.GtE] [b] pos) (tb (f2 gGe fa fb)) := tCmp2 ok_ord (pt_cmpR op_geA ha hb (nomark _))
theorem wIs (ha : EvE X c E a fa) (hb : EvE X c E b fb) : EvT X c E (.Compare a [.Is] [b] pos) (tb (f2 (gIsN false) fa fb)) := tCmp2 ok_isN (pt_cmpR op_isN ha hb (nomark _))
theorem wIsNot (ha : EvE X c E a fa) (hb : EvE X c E b fb) : EvT X c E (.Compare a [.IsNot] [b] pos) (tb (f2 (gIsN true) fa fb)) := tCmp2 ok_notN (pt_cmpR op_notN ha hb (nomark _))
theorem wIn (hu : X.A.units + 65 < cLine) (ha : EvE X c E a fa) (hb : EvE X c E b fb) (hm : behindInMarks .In b = false := by rfl) : EvT X c E (.Compare a [.In] [b] pos) (tb (f2 gIn fa fb)) := tCmp2 ok_in (pt_cmpR (op_inA hu) ha hb hm)
theorem wNin (hu : X.A.units + 65 < cLine) (ha : EvE X c E a fa) (hb : EvE X c E b fb) (hm : behindInMarks .NotIn b = false := by rfl) : EvT X c E (.Compare a [.NotIn] [b] pos) (tb (f2 gNin fa fb)) := tCmp2 ok_nin (pt_cmpR (op_ninA hu) ha hb hm)
/-! ### built-ins, in short -/
section
variable {fs : Sd → Hd → R (List S)} {p : Pos}
theorem bLen (hg : Gl X "len") (hm : X.mg "len" = none) (ha : EvA X c E (e :: es) fs)  (he : starEach (e :: es) X.env = (false, eval e X.env) :: starEach es X.env := by rfl) (hpl : (backTo pos (starEach es X.env)).any (·.1) = false := by rfl) : EvE X c E (.Call (.Name "len" p) (e :: es) [] pos) (fN (g1 gLen) fs) := eN_ ok_len (pe_callB call_lenA hg hm PySem.boot_len ha (he := he) (hpl := hpl))
theorem bAll (hg : Gl X "all") (hm : X.mg "all" = none) (hc : X.calm = true) (ha : EvA X c E (e :: es) fs)  (he : starEach (e :: es) X.env = (false, eval e X.env) :: starEach es X.env := by rfl) (hpl : (backTo pos (starEach es X.env)).any (·.1) = false := by rfl) : EvE X c E (.Call (.Name "all" p) (e :: es) [] pos) (fN (g1 (gAA fun bs => bs.all id)) fs) := eN_ ok_all (pe_callB (cr_all hc) hg hm PyProof.Rows.boot_all ha (he := he) (hpl := hpl))
theorem bAny (hg : Gl X "any") (hm : X.mg "any" = none) (hc : X.calm = true) (ha : EvA X c E (e :: es) fs)  (he : starEach (e :: es) X.env = (false, eval e X.env) :: starEach es X.env := by rfl) (hpl : (backTo pos (starEach es X.env)).any (·.1) = false := by rfl) : EvE X c E (.Call (.Name "any" p) (e :: es) [] pos) (fN (g1 (gAA fun bs => bs.any id)) fs) := eN_ ok_any (pe_callB (cr_any hc) hg hm PyProof.Rows.boot_any ha (he := he) (hpl := hpl))
theorem bListF (hg : Gl X "list") (hm : X.mg "list" = none) (ha : EvA X c E (e :: es) fs) (he : starEach (e :: es) X.env = (false, eval e X.env) :: starEach es X.env := by rfl) (hpl : (backTo pos (starEach es X.env)).any (·.1) = false := by rfl) : EvE X c E (.Call (.Name "list" p) (e :: es) [] pos) (fN (g1 gList) fs) := eN_ ok_list (pe_callTy call_list_of hg hm PyProof.Rows.boot_list ha (he := he) (hpl := hpl))
theorem bListL (hg : Gl X "list") (hm : X.mg "list" = none) (ha : EvA X c E (e :: es) fs) (he : starEach (e :: es) X.env = (false, eval e X.env) :: starEach es X.env := by rfl) (hpl : (backTo pos (starEach es X.env)).any (·.1) = false := by rfl) : EvE X c E (.Call (.Name "list" p) (e :: es) [] pos) (fN (g1 gListL) fs) := eN_ ok_listL (pe_callTy call_list_of hg hm PyProof.Rows.boot_list ha (he := he) (hpl := hpl))
theorem bTuple (hg : Gl X "tuple") (hm : X.mg "tuple" = none) (ha : EvA X c E (e :: es) fs) (he : starEach (e :: es) X.env = (false, eval e X.env) :: starEach es X.env := by rfl) (hpl : (backTo pos (starEach es X.env)).any (·.1) = false := by rfl) : EvE X c E (.Call (.Name "tuple" p) (e :: es) [] pos) (fN (g1 gTuple) fs) := eN_ ok_tuple (pe_callTy call_tuple_of hg hm PyProof.Rows.boot_tuple ha (he := he) (hpl := hpl))
theorem bAbs (hg : Gl X "abs") (hm : X.mg "abs" = none) (ha : EvA X c E (e :: es) fs) (he : starEach (e :: es) X.env = (false, eval e X.env) :: starEach es X.env := by rfl) (hpl : (backTo pos (starEach es X.env)).any (·.1) = false := by rfl) : EvE X c E (.Call (.Name "abs" p) (e :: es) [] pos) (fN (g1 gAbs) fs) := eN_ ok_abs (pe_callB call_abs hg hm PyProof.Rows.boot_abs ha (he := he) (hpl := hpl))
theorem bInt (hg : Gl X "int") (hm : X.mg "int" = none) (ha : EvA X c E (e :: es) fs) (he : starEach (e :: es) X.env = (false, eval e X.env) :: starEach es X.env := by rfl) (hpl : (backTo pos (starEach es X.env)).any (·.1) = false := by rfl) : EvE X c E (.Call (.Name "int" p) (e :: es) [] pos) (fN (g1 gInt) fs) := eN_ ok_int (pe_callTy call_int1 hg hm PyProof.Rows.boot_int ha (he := he) (hpl := hpl))
theorem bMin (hg : Gl X "min") (hm : X.mg "min" = none) (hc : X.calm = true) (ha : EvA X c E (e :: es) fs) (he : starEach (e :: es) X.env = (false, eval e X.env) :: starEach es X.env := by rfl) (hpl : (backTo pos (starEach es X.env)).any (·.1) = false := by rfl) : EvE X c E (.Call (.Name "min" p) (e :: es) [] pos) (fN (g2 (gMM fun i j => if j < i then j else i)) fs) := eN_ ok_min2 (pe_callB (call_min2 hc) hg hm PyProof.Rows.boot_min ha (he := he) (hpl := hpl))
theorem bMax (hg : Gl X "max") (hm : X.mg "max" = none) (hc : X.calm = true) (ha : EvA X c E (e :: es) fs) (he : starEach (e :: es) X.env = (false, eval e X.env) :: starEach es X.env := by rfl) (hpl : (backTo pos (starEach es X.env)).any (·.1) = false := by rfl) : EvE X c E (.Call (.Name "max" p) (e :: es) [] pos) (fN (g2 (gMM fun i j => if j > i then j else i)) fs) := eN_ ok_max2 (pe_callB (call_max2 hc) hg hm PyProof.Rows.boot_max ha (he := he) (hpl := hpl))
theorem bSrt (hg : Gl X "sorted") (hm : X.mg "sorted" = none) (hu : X.A.units + 80 < cLine) (ha : EvA X c E (e :: es) fs) (he : starEach (e :: es) X.env = (false, eval e X.env) :: starEach es X.env := by rfl) (hpl : (backTo pos (starEach es X.env)).any (·.1) = false := by rfl) : EvE X c E (.Call (.Name "sorted" p) (e :: es) [] pos) (fN (g1 gSrt) fs) := eN_ ok_srt (pe_callB (call_srt hu) hg hm PyProof.Rows.boot_sorted ha (he := he) (hpl := hpl))
theorem bRepr (hg : Gl X "repr") (hm : X.mg "repr" = none) (hgd : X.A.guards = some []) (hu : X.A.units + 80 < cLine) (ha : EvA X c E (e :: es) fs) (he : starEach (e :: es) X.env = (false, eval e X.env) :: starEach es X.env := by rfl) (hpl : (backTo pos (starEach es X.env)).any (·.1) = false := by rfl) : EvE X c E (.Call (.Name "repr" p) (e :: es) [] pos) (fN (g1 gRepr) fs) := eN_ ok_repr (pe_callB (call_reprD hgd hu) hg hm PyProof.Rows.boot_repr ha (he := he) (hpl := hpl))
theorem bStr (hg : Gl X "str") (hm : X.mg "str" = none) (ha : EvA X c E (e :: es) fs) (he : starEach (e :: es) X.env = (false, eval e X.env) :: starEach es X.env := by rfl) (hpl : (backTo pos (starEach es X.env)).any (·.1) = false := by rfl) : EvE X c E (.Call (.Name "str" p) (e :: es) [] pos) (fN (g1 gStr) fs) := eN_ ok_str (pe_callTy call_str_bl hg hm PyProof.Rows.boot_str ha (he := he) (hpl := hpl))
end
end EV

set_option Elab.async false
set_option linter.all false
set_option maxRecDepth 100000
set_option maxHeartbeats 2000000
/-! E15: more short rules for the printer. -/
namespace EV
open PySem PySem.Spec PyProof.Rows L2
variable {X : Cx} {K : PySem.W.Frag} {c : Nat → Addr} {E : XK} {L L' M2 : Lv} {H H' H2 : Hp} {hd hd' : Hd}
variable {a b e : Expr} {es : List Expr} {rest : List Expr} {pos : Pos} {fa fb f : FE} {D : Ends}
theorem u64 {k : Nat} {A : Around} (r : Room k A) : A.units + 64 < cLine := r.units
theorem u65 {k : Nat} {A : Around} (r : Room k A) : A.units + 65 < cLine := by have := r.un; omega
theorem u66 {k : Nat} {A : Around} (r : Room k A) : A.units + 66 < cLine := by have := r.un; omega
theorem u80 {k : Nat} {A : Around} (r : Room k A) : A.units + 80 < cLine := by have := r.un; omega
theorem boot_str_ : bootBuiltins "str" = some (.type (tyn .str)) := PyProof.Rows.boot_str
theorem boot_list_ : bootBuiltins "list" = some (.type (tyn .lst)) := PyProof.Rows.boot_list
theorem boot_tuple_ : bootBuiltins "tuple" = some (.type (tyn .tup)) := PyProof.Rows.boot_tuple
theorem boot_dict_ : bootBuiltins "dict" = some (.type (tyn .dict)) := by decide +kernel
theorem boot_bool_ : bootBuiltins "bool" = some (.type (tyn .bool)) := by decide +kernel
theorem boot_int_ : bootBuiltins "int" = some (.type (tyn .int)) := PyProof.Rows.boot_int
def sPar3 (i j l : Nat) (fs : Sd → Hd → R (List S)) : FS := fun ss hd => bnd (fs ss hd) fun xs h => match xs with
  | [x, y, z] => some (.ok (.nx (((ss.set i (some x)).set j (some y)).set l (some z))) h)
  | _ => none
theorem iPar3 {i j l : Nat} {x y z : Str} {ea eb ec : Expr} {fs : Sd → Hd → R (List S)} {px py pz pt : Pos} {kt k2 pt2} (hc : X.calm = true) (hN : X.N.Nodup) (hi : X.N[i]? = some x) (hj : X.N[j]? = some y) (hl : X.N[l]? = some z) (hij : i ≠ j) (hil : i ≠ l) (hjl : j ≠ l)
    (hx : X.env.scope.names.lookup x = some .local) (hy : X.env.scope.names.lookup y = some .local) (hz : X.env.scope.names.lookup z = some .local) (ha : EvA X c E [ea, eb, ec] fs)
    (hw : swappedStores [.Tuple [.Name x px, .Name y py, .Name z pz] kt pt] (.Tuple [ea, eb, ec] k2 pt2) X.env = pure (some [x, y, z]))
    (hs : swapsWithSole [.Tuple [.Name x px, .Name y py, .Name z pz] kt pt] (.Tuple [ea, eb, ec] k2 pt2) pos.line X.env = pure false := by rfl) :
    EvS X c E (.Assign [.Tuple [.Name x px, .Name y py, .Name z pz] kt pt] (.Tuple [ea, eb, ec] k2 pt2) pos) (sPar3 i j l fs) :=
  (ps_par3 hc hN hi hj hl hij hil hjl hx hy hz ha hw hs).weak fun D σ H ⟨L, hd, ss, rp, gr, o⟩ => ⟨L, hd, ss, rp, gr, (OutP.bnd o).imp fun xs hd1 L1 H1 _ x1 rp1 o1 vs svs => by
    split at o1
    · cases svs with
      | cons p q => cases q with | cons q1 q2 => cases q2 with | cons r1 r2 => cases r2; exact ⟨_, _, _, rfl, o1.here rp1 _ ((((gr.ext x1).set i p).set j q1).set l r1)⟩
    · exact o1.elim⟩

section
variable {fs fk : Sd → Hd → R (List S)} {CX : CXT} {k : Nat} {fa' : Addr} {fd : FuncData} {ps ks : List Str} {m : List S → Hd → R S} {x : Str} {p : Pos} {n a b : Nat} {ix : List Nat} {kws : List Keyword}
theorem eCa {e : Expr} {es : List Expr} (F : FnE X.prog X.w X.K X.mg X.base CX c k fa' fd ps m) (hr : Room k X.A) (hg : Gl X x) (hm : X.mg x = some (.ref fa')) (hk : PySem.W.keepIn X.K (.ref fa') = true) (hb : Binds X.K fd ps []) (hx : Passes CX X E)
    (ha : EvA X c E (e :: es) fs) (hn : ps.length = n := by rfl) (hdb : (x == ("__debug__" : Str)) = false := by decide) (he : starEach (e :: es) X.env = (false, eval e X.env) :: starEach es X.env := by rfl) (hpl : (backTo pos (starEach es X.env)).any (·.1) = false := by rfl) :
    EvE X c E (.Call (.Name x p) (e :: es) [] pos) (fN (ar n m) fs) := by
  subst hn
  exact eCall F hr hg hm hk hb hx ha hdb he hpl
theorem eCaG {e : Expr} {es : List Expr} (F : FnEG X.prog X.w X.K X.mg X.base c k fa' fd ps m) (hgd : X.A.guards = some []) (hr : Room k X.A) (hg : Gl X x) (hm : X.mg x = some (.ref fa')) (hk : PySem.W.keepIn X.K (.ref fa') = true) (hb : Binds X.K fd ps []) (hx : Passes CX0 X E)
    (ha : EvA X c E (e :: es) fs) (hn : ps.length = n := by rfl) (hdb : (x == ("__debug__" : Str)) = false := by decide) (he : starEach (e :: es) X.env = (false, eval e X.env) :: starEach es X.env := by rfl) (hpl : (backTo pos (starEach es X.env)).any (·.1) = false := by rfl) :
    EvE X c E (.Call (.Name x p) (e :: es) [] pos) (fN (ar n m) fs) := by
  subst hn
  exact eCallG F hgd hr hg hm hk hb hx ha hdb he hpl
theorem eCaK0 (F : FnE X.prog X.w X.K X.mg X.base CX c k fa' fd ps m) (hr : Room k X.A) (hg : Gl X x) (hm : X.mg x = some (.ref fa')) (hk : PySem.W.keepIn X.K (.ref fa') = true) (hb : KBinds X.K fd ps ks (kwPick a b ix) (kwPick a b ix)) (hx : Passes CX X E)
    (hkw : EvK X c E kws fk) (hn : ps.length = n := by rfl) (hall : (backToKw pos (keywordEach kws X.env)).all (·.1.isSome) = true := by rfl) (hks : (backToKw pos (keywordEach kws X.env)).filterMap (·.1) = ks := by rfl)
    (hdb : (x == ("__debug__" : Str)) = false := by decide)
    (hpl : (backToKw pos (keywordEach kws X.env)).any (·.1.isNone) = false := by rfl) :
    EvE X c E (.Call (.Name x p) [] kws pos) (fKw a b ix n m aN fk) := by
  subst hn
  exact eCallK0 F hr hg hm hk hb hx hkw hall hks hdb hpl
theorem eCaK {e : Expr} {es : List Expr} (F : FnE X.prog X.w X.K X.mg X.base CX c k fa' fd ps m) (hr : Room k X.A) (hg : Gl X x) (hm : X.mg x = some (.ref fa')) (hk : PySem.W.keepIn X.K (.ref fa') = true) (hb : KBinds X.K fd ps ks (kwPick a b ix) (kwPick a b ix)) (hx : Passes CX X E)
    (ha : EvA X c E (e :: es) fs) (hkw : EvK X c E kws fk) (hn : ps.length = n := by rfl) (hall : (backToKw pos (keywordEach kws X.env)).all (·.1.isSome) = true := by rfl) (hks : (backToKw pos (keywordEach kws X.env)).filterMap (·.1) = ks := by rfl)
    (hdb : (x == ("__debug__" : Str)) = false := by decide) (he : starEach (e :: es) X.env = (false, eval e X.env) :: starEach es X.env := by rfl)
    (hpl : ((backTo pos (starEach (e :: es) X.env)).any (·.1) || (backToKw pos (keywordEach kws X.env)).any (·.1.isNone)) = false := by rfl) :
    EvE X c E (.Call (.Name x p) (e :: es) kws pos) (fKw a b ix n m fs fk) := by
  subst hn
  exact eCallK F hr hg hm hk hb hx ha hkw hall hks hdb he hpl
end
end EV

set_option Elab.async false
set_option linter.all false
set_option maxRecDepth 100000
set_option maxHeartbeats 4000000
namespace K10
open PySem PySem.Spec PyProof.Rows L2 EV
def top (i : Nat) : Stmt := PySem.Challenge.pw_probed_k10_worlds_or_none.main.body.getD i (.Pass ⟨0, 0, 0, 0⟩)
def m_P_is_name : List S → Hd → R S := mCut (mB 2 (sRet (fAn (f1 (gIsI .str) (fV 0)) (fAn (f3c gLe gLe (fC (.int 1)) (fN (g1 gLen) (aC (fV 0) aN)) (fC (.int 8))) (fN (g1 (gAA fun bs => bs.all id)) (aC (fComp [1] (srcE srcA (fV 0)) (tgN 1) tYesF (f2 gIn (fV 1) (fC (.str "abcdefghijklmnopqrstuvwxyz"))) finF) aN))))))
def m_P_is_tuple : List S → Hd → R S := mCut (mB 2 (sRet (fAn (f1 (gIsI .tup) (fV 0)) (f2 gEq (fN (g1 gLen) (aC (fV 0) aN)) (fV 1)))))
def m_P_are_names : List S → Hd → R S := mCut (mB 2 (sRet (fAn (f1 (gIsI .tup) (fV 0)) (fN (g1 (gAA fun bs => bs.all id)) (aC (fComp [1] (srcE srcA (fV 0)) (tgN 1) tYesF (fN (ar 1 m_P_is_name) (aC (fV 1) aN)) finF) aN)))))
def m_P_rises : List S → Hd → R S := mCut (mB 4 (sSeq (sSet 1 (fN (g1 gList) (aC (fV 0) aN))) (sRet (fN (g1 (gAA fun bs => bs.all id)) (aC (fComp [2, 3] (srcZip (fV 1) (fSl (fV 1) (oS (fC (.int 1))) oN)) (tgT 2 (tgsC (tgN 2) (tgsC (tgN 3) tgsN))) tYesF (f2 gLt (fV 2) (fV 3)) finF) aN)))))
def m_P_is_wish : List S → Hd → R S := mCut (mB 2 (sSeq (sIf (tOr_ (tNo (tv (fN (ar 2 m_P_is_tuple) (aC (fV 0) (aC (fC (.int 2)) aN))))) (tOr_ (tNo (tv (f1 (gIsI .bool) (f2 gIx (fV 0) (fC (.int 1)))))) (tNo (tv (fN (ar 1 m_P_are_names) (aC (f2 gIx (fV 0) (fC (.int 0))) aN)))))) (sRet (fC (.bool false))) sNil) (sRet (fAn (f2 gGt (fN (g1 gLen) (aC (f2 gIx (fV 0) (fC (.int 0))) aN)) (fC (.int 0))) (fAn (f2 gNin (fV 1) (f2 gIx (fV 0) (fC (.int 0)))) (f2 gEq (f1 gLenSet (f2 gIx (fV 0) (fC (.int 0)))) (fN (g1 gLen) (aC (f2 gIx (fV 0) (fC (.int 0))) aN))))))))
def m_P_is_device : List S → Hd → R S := mCut (mB 2 (sSeq (sIf (tOr_ (tNo (tv (fN (ar 2 m_P_is_tuple) (aC (fV 0) (aC (fC (.int 3)) aN))))) (tOr_ (tNo (tv (fN (ar 1 m_P_is_name) (aC (f2 gIx (fV 0) (fC (.int 0))) aN)))) (tNo (tv (fN (ar 1 m_P_are_names) (aC (f2 gIx (fV 0) (fC (.int 1))) aN)))))) (sRet (fC (.bool false))) sNil) (sSeq (sIf (tOr_ (tNo (tv (fN (ar 1 m_P_rises) (aC (f2 gIx (fV 0) (fC (.int 1))) aN)))) (tOr_ (tb (f2 gIn (f2 gIx (fV 0) (fC (.int 0))) (f2 gIx (fV 0) (fC (.int 1))))) (tNo (tv (f1 (gIsI .tup) (f2 gIx (fV 0) (fC (.int 2)))))))) (sRet (fC (.bool false))) sNil) (sRet (fN (g1 (gAA fun bs => bs.all id)) (aC (fComp [1] (srcE srcA (f2 gIx (fV 0) (fC (.int 2)))) (tgN 1) tYesF (fN (ar 2 m_P_is_wish) (aC (fV 1) (aC (f2 gIx (fV 0) (fC (.int 0))) aN))) finF) aN))))))
def m_P_is_world : List S → Hd → R S := mCut (mB 2 (sSeq (sIf (tOr_ (tNo (tv (f1 (gIsI .tup) (fV 0)))) (tNo (tv (fN (g1 (gAA fun bs => bs.all id)) (aC (fComp [1] (srcE srcA (fV 0)) (tgN 1) tYesF (fN (ar 1 m_P_is_device) (aC (fV 1) aN)) finF) aN))))) (sRet (fC (.bool false))) sNil) (sRet (fN (ar 1 m_P_rises) (aC (fComp [1] (srcE srcA (fV 0)) (tgN 1) tYesF (f2 gIx (fV 1) (fC (.int 0))) finF) aN)))))
def m_L_box : List S → Hd → R S := mB 3 (sSeq (sSet 2 (fIf (tb (f2 gLt (fV 1) (fN (g1 gLen) (aC (fV 0) aN)))) (f2 gIx (fV 0) (fV 1)) (fC (.int 0)))) (sRet (fN gLstL (aC (f2 (gI2 hMul) (fN (g1 gAbs) (aC (fV 2) aN)) (fN (g1 gInt) (aC (f2 gGe (fN (g1 gAbs) (aC (fV 2) aN)) (f2 (gI2 hPow) (fC (.int 10)) (fC (.int 18)))) aN))) (aC (f2 gAdd (f2 gAdd (f2 (gI2 hMod) (fN (g1 gInt) (aC (fV 2) aN)) (fC (.int 2305843009213693951))) (f2 (gI2 hMul) (fC (.int 39373)) (fV 1))) (fC (.int 211))) (aC (fC (.int 0)) aN))))))
def m_L_take : List S → Hd → R S := mCut (mB 6 (sSeq (sIf (tb (f2 gGt (f2 gIx (fV 0) (fC (.int 0))) (fC (.int 0)))) (sSeq (sSet 2 (f2 (gI2 hMod) (fN (g1 gInt) (aC (f2 gIx (fV 0) (fC (.int 0))) aN)) (fV 1))) (sSeq (sIxL (fV 0) (fC (.int 0)) (f2 (gI2 hDiv) (f2 gIx (fV 0) (fC (.int 0))) (fV 1))) (sRet (fV 2)))) sNil) (sSeq (sIxL (fV 0) (fC (.int 2)) (f2 gAdd (f2 gIx (fV 0) (fC (.int 2))) (fC (.int 1)))) (sSeq (sSet 3 (f2 (gI2 hMod) (fN (g1 gInt) (aC (f2 (gI2 hMul) (f2 gAdd (f2 gIx (fV 0) (fC (.int 1))) (f2 (gI2 hMul) (fC (.int 48271)) (f2 gIx (fV 0) (fC (.int 2))))) (f2 gAdd (fC (.int 39373)) (f2 gIx (fV 0) (fC (.int 2))))) aN)) (fC (.int 2147483647)))) (sSeq (sSet 4 (f2 gAdd (f2 (gI2 hMod) (fN (g1 gInt) (aC (fV 3) aN)) (fC (.int 40009))) (fC (.int 7)))) (sSeq (sSet 5 (f2 (gI2 hMod) (fN (g1 gInt) (aC (f2 (gI2 hMul) (f2 gAdd (f2 gAdd (fV 3) (f2 gIx (fV 0) (fC (.int 2)))) (f2 (gI2 hDiv) (f2 gIx (fV 0) (fC (.int 1))) (fC (.int 1000003)))) (fV 4)) aN)) (fC (.int 2147483629)))) (sRet (f2 (gI2 hMod) (fN (g1 gInt) (aC (f2 (gI2 hDiv) (f2 (gI2 hMod) (fN (g1 gInt) (aC (f2 gAdd (f2 (gI2 hMul) (fV 5) (fC (.int 48271))) (fV 3)) aN)) (fC (.int 2147483587))) (fC (.int 64))) aN)) (fV 1)))))))))
def m_L_cells : List S → Hd → R S := mCut (mB 6 (sSeq (sSet 2 (fOr_ (fN (g1 gListL) (aC (fSl (fV 0) oN (oS (fV 1))) aN)) (fN gLstL (aC (fC (.int 0)) aN)))) (sSeq (sFor (srcEn (fSl (fV 0) (oS (fV 1)) (oS (fC (.int 63))))) (tgT 2 (tgsC (tgN 3) (tgsC (tgN 4) tgsN))) (sSeq (sSet 5 (f2 (gI2 hMod) (fN (g1 gInt) (aC (fV 3) aN)) (fV 1))) (sIxL (fV 2) (fV 5) (f2 gAdd (f2 gIx (fV 2) (fV 5)) (f2 (gI2 hMul) (fV 4) (f2 gAdd (fV 3) (fC (.int 2)))))))) (sRet (fV 2)))))
def m_L_of : List S → Hd → R S := mCut (mB 2 (sRet (f2 gIx (fV 1) (fN (ar 2 m_L_take) (aC (fV 0) (aC (fN (g1 gLen) (aC (fV 1) aN)) aN))))))
def step_L_lists (m : List S → Hd → R S) : List S → Hd → R S := mCut (mB 2 (sRet (fIf (tv (f1 (gIsI2 .lst .tup) (fV 0))) (fComp [1] (srcE srcA (fV 0)) (tgN 1) tYesF (fN (ar 1 m) (aC (fV 1) aN)) finF) (fV 0))))
def m_L_lists (n : Nat) : List S → Hd → R S := mRec step_L_lists n
def step_L_same (m : List S → Hd → R S) : List S → Hd → R S := mCut (mB 5 (sSeq (sIf (tv (f1 (gIsI2 .lst .tup) (fV 1))) (sSeq (sIf (tOr_ (tb (f2 gNe (f1 (gIsI .lst) (fV 0)) (f1 (gIsI .lst) (fV 1)))) (tb (f2 gNe (f1 (gIsI .tup) (fV 0)) (f1 (gIsI .tup) (fV 1))))) (sRet (fC (.bool false))) sNil) (sRet (fAn (f2 gEq (fN (g1 gLen) (aC (fV 0) aN)) (fN (g1 gLen) (aC (fV 1) aN))) (fN (g1 (gAA fun bs => bs.all id)) (aC (fComp [2, 3] (srcZip (fV 0) (fV 1)) (tgT 2 (tgsC (tgN 2) (tgsC (tgN 3) tgsN))) tYesF (fN (ar 2 m) (aC (fV 2) (aC (fV 3) aN))) finF) aN))))) sNil) (sSeq (sIf (tv (f1 (gIsI .dict) (fV 1))) sNo sNil) (sSeq (sIf (tOr_ (tb (f2 (gIsN false) (fV 1) (fC .none))) (tv (f1 (gIsI2 .bool .str) (fV 1)))) (sRet (fAn (f2 gEq (fV 0) (fV 1)) (fAn (f2 gEq (f1 (gIsI .bool) (fV 0)) (f1 (gIsI .bool) (fV 1))) (f2 gEq (f2 (gIsN false) (fV 0) (fC .none)) (f2 (gIsN false) (fV 1) (fC .none)))))) sNil) (sRet (fAn (f1 (gIsI .int) (fV 0)) (fAn (fNo (f1 (gIsI .bool) (fV 0))) (f2 gEq (fV 0) (fV 1)))))))))
def m_L_same (n : Nat) : List S → Hd → R S := mRec step_L_same n
def m_L_names : List S → Hd → R S := mCut (mB 5 (sSeq (sPar 2 3 (aC (fN gLstL (aC (fC (.str "a")) (aC (fC (.str "ab")) (aC (fC (.str "b")) (aC (fC (.str "bus")) (aC (fC (.str "c")) (aC (fC (.str "clk")) (aC (fC (.str "d")) (aC (fC (.str "e")) (aC (fC (.str "gpio")) (aC (fC (.str "x")) aN))))))))))) (aC (fN gLstL aN) aN))) (sSeq (sFor (srcR1 (fV 1)) (tgN 4) (sDrop (fM gApp (fV 3) (aC (fM gPopAt (fV 2) (aC (fN (ar 2 m_L_take) (aC (fV 0) (aC (fN (g1 gLen) (aC (fV 2) aN)) aN))) aN)) aN)))) (sRet (fN (g1 gSrt) (aC (fV 3) aN))))))
def m_L_some : List S → Hd → R S := mCut (mB 6 (sSeq (sPar 3 4 (aC (fN (g1 gListL) (aC (fV 1) aN)) (aC (fN gLstL aN) aN))) (sSeq (sFor (srcR1 (fN (g2 (gMM fun i j => if j < i then j else i)) (aC (fV 2) (aC (fN (g1 gLen) (aC (fV 3) aN)) aN)))) (tgN 5) (sDrop (fM gApp (fV 4) (aC (fM gPopAt (fV 3) (aC (fN (ar 2 m_L_take) (aC (fV 0) (aC (fN (g1 gLen) (aC (fV 3) aN)) aN))) aN)) aN)))) (sRet (fV 4)))))
def m_L_world : List S → Hd → R S := mCut (mB 15 (sSeq (sSet 3 (fN (ar 2 m_L_names) (aC (fV 0) (aC (fV 1) aN)))) (sSeq (sPar 4 5 (aC (fN (ar 3 m_L_some) (aC (fV 0) (aC (fV 3) (aC (fV 1) aN)))) (aC (fN gLstL aN) aN))) (sSeq (sFor (srcR1 (fV 1)) (tgN 6) (sSeq (sTT 3 (tgsC (tgN 7) (tgsC (tgN 8) (tgsC (tgN 9) tgsN))) (aC (f2 gIx (fV 4) (fV 6)) (aC (fN (ar 2 m_L_of) (aC (fV 0) (aC (fN gLstD (aC (fC (.int 0)) (aC (fC (.int 0)) (aC (fC (.int 0)) (aC (fC (.int 1)) (aC (fC (.int 1)) (aC (fC (.int 2)) aN))))))) aN))) (aC (fN gLstL aN) aN)))) (sSeq (sSet 10 (fN (ar 3 m_L_some) (aC (fV 0) (aC (fSl (fV 4) oN (oS (fV 6))) (aC (fV 8) aN))))) (sSeq (sIf (tb (f2 gEq (fN (ar 2 m_L_take) (aC (fV 0) (aC (fC (.int 12)) aN))) (fC (.int 0)))) (sSet 10 (f2 gAdd (fV 10) (fN gLstD (aC (fN (ar 2 m_L_of) (aC (fV 0) (aC (f2 gAdd (fComp [11] (srcE srcA (fV 3)) (tgN 11) (tb (f2 gNe (fV 11) (fV 7))) (fV 11) finF) (fN gLstD (aC (fC (.str "none")) aN))) aN))) aN)))) sNil) (sSeq (sFor (srcR1 (fN (ar 2 m_L_of) (aC (fV 0) (aC (fN gLstD (aC (fC (.int 0)) (aC (fC (.int 1)) (aC (fC (.int 1)) (aC (fC (.int 2)) aN))))) aN)))) (tgN 12) (sSeq (sSet 13 (fComp [11] (srcE srcA (f2 gAdd (fV 3) (f2 gRep (fN gLstD (aC (fC (.str "none")) aN)) (fN (g1 gInt) (aC (f2 gEq (fN (ar 2 m_L_take) (aC (fV 0) (aC (fC (.int 6)) aN))) (fC (.int 0))) aN))))) (tgN 11) (tb (f2 gNe (fV 11) (fV 7))) (fV 11) finF)) (sSeq (sSet 14 (fN (ar 3 m_L_some) (aC (fV 0) (aC (fV 13) (aC (f2 gAdd (fC (.int 1)) (fN (ar 2 m_L_take) (aC (fV 0) (aC (fC (.int 3)) aN)))) aN))))) (sIf (tb (f2 gNe (fV 14) (fN gLstD aN))) (sDrop (fM gApp (fV 9) (aC (fN gTupD (aC (fN (g1 gTuple) (aC (fV 14) aN)) (aC (fAn (fV 2) (f2 gEq (fN (ar 2 m_L_take) (aC (fV 0) (aC (fC (.int 4)) aN))) (fC (.int 0)))) aN))) aN))) sNil)))) (sDrop (fM gApp (fV 5) (aC (fN gTupD (aC (fV 7) (aC (fN (g1 gTuple) (aC (f1 gSrtSet (fV 10)) aN)) (aC (fN (g1 gTuple) (aC (fV 9) aN)) aN)))) aN)))))))) (sRet (fN (g1 gTuple) (aC (fN (g1 gSrt) (aC (fV 5) aN)) aN)))))))
def step_L_bent (m : List S → Hd → R S) : List S → Hd → R S := mCut (mB 5 (sSeq (sIf (tAn (tv (f1 (gIsI .tup) (fV 1))) (tAn (tb (f2 gNe (fV 1) (fN gTupD aN))) (tb (f2 gGt (fN (ar 2 m_L_take) (aC (fV 0) (aC (fC (.int 5)) aN))) (fC (.int 0)))))) (sSeq (sSet 3 (fN (ar 2 m_L_take) (aC (fV 0) (aC (fN (g1 gLen) (aC (fV 1) aN)) aN)))) (sRet (f2 gAdd (f2 gAdd (fSl (fV 1) oN (oS (fV 3))) (fN gTupD (aC (fN (ar 3 m) (aC (fV 0) (aC (f2 gIx (fV 1) (fV 3)) (aC (fV 2) aN)))) aN))) (fSl (fV 1) (oS (f2 gAdd (fV 3) (fC (.int 1)))) oN)))) sNil) (sSeq (sSet 4 (fN gLstD (aC (fC (.int 0)) (aC (fC (.int 1)) (aC (f1 gNeg (fC (.int 1))) (aC (fC .none) (aC (fC (.bool true)) (aC (fC (.bool false)) (aC (fC (.str "")) (aC (fC (.str "a")) (aC (fC (.str "A")) (aC (fC (.str "zzzzzzzz")) (aC (fC (.str "zzzzzzzzz")) (aC (fC (.str "b1")) (aC (fC (.str "a b")) (aC (fC (.str "a\n")) (aC (fN gTupD aN) aN))))))))))))))))) (sSeq (sSet 4 (f2 gAdd (f2 gAdd (fV 4) (fN gLstD (aC (fN gLstD aN) (aC (fN gTupD (aC (fC (.str "a")) aN)) aN)))) (fV 2))) (sSeq (sIf (tv (f1 (gIsI .tup) (fV 1))) (sSet 4 (f2 gAdd (fV 4) (fN gLstD (aC (fN (g1 gList) (aC (fV 1) aN)) (aC (fSl (fV 1) oN (oS (f1 gNeg (fC (.int 1))))) (aC (f2 gAdd (fV 1) (fSl (fV 1) (oS (f1 gNeg (fC (.int 1)))) oN)) (aC (f1 gRev (fV 1)) (aC (fN gTupD (aC (fV 1) aN)) aN)))))))) sNil) (sSeq (sIf (tv (f1 (gIsI .str) (fV 1))) (sSet 4 (f2 gAdd (fV 4) (fN gLstD (aC (f2 gAdd (fV 1) (fC (.str "z"))) (aC (fSl (fV 1) oN (oS (f1 gNeg (fC (.int 1))))) (aC (f2 gAdd (fV 1) (fV 1)) (aC (f2 gAdd (fV 1) (fC (.str " "))) aN))))))) sNil) (sSeq (sIf (tv (f1 (gIsI .bool) (fV 1))) (sSet 4 (f2 gAdd (fV 4) (fN gLstD (aC (fNo (fV 1)) (aC (fNo (fV 1)) (aC (fN (g1 gInt) (aC (fV 1) aN)) (aC (fN (g1 gStr) (aC (fV 1) aN)) aN))))))) sNil) (sRet (fN (ar 2 m_L_of) (aC (fV 0) (aC (fV 4) aN)))))))))))
def m_L_bent (n : Nat) : List S → Hd → R S := mRec step_L_bent n
def m_L_is_name : List S → Hd → R S := mCut (mB 3 (sSeq (sSet 1 (fC (.str "abcdefghijklmnopqrstuvwxyz"))) (sRet (fAn (f1 (gIsI .str) (fV 0)) (fAn (f3c gLt gLt (fC (.int 0)) (fN (g1 gLen) (aC (fV 0) aN)) (fC (.int 9))) (fN (g1 (gAA fun bs => bs.all id)) (aC (fComp [2] (srcE srcA (fV 0)) (tgN 2) tYesF (f2 gIn (fV 2) (fV 1)) finF) aN)))))))
def m_L_are_names : List S → Hd → R S := mCut (mB 2 (sRet (fAn (f1 (gIsI .tup) (fV 0)) (fN (g1 (gAA fun bs => bs.all id)) (aC (fComp [1] (srcE srcA (fV 0)) (tgN 1) tYesF (fN (ar 1 m_L_is_name) (aC (fV 1) aN)) finF) aN)))))
def m_L_goes_up : List S → Hd → R S := mCut (mB 3 (sRet (fN (g1 (gAA fun bs => bs.all id)) (aC (fComp [1, 2] (srcZip (fV 0) (fSl (fV 0) (oS (fC (.int 1))) oN)) (tgT 2 (tgsC (tgN 1) (tgsC (tgN 2) tgsN))) tYesF (f2 gLt (fV 1) (fV 2)) finF) aN))))
def m_L_is_whole : List S → Hd → R S := mCut (mB 3 (sSeq (sIf (tNo (tv (f1 (gIsI .tup) (fV 0)))) (sRet (fC (.bool false))) sNil) (sSeq (sFor (srcE srcA (fV 0)) (tgN 1) (sSeq (sIf (tOr_ (tNo (tv (f1 (gIsI .tup) (fV 1)))) (tOr_ (tb (f2 gNe (fN (g1 gLen) (aC (fV 1) aN)) (fC (.int 3)))) (tNo (tv (fN (ar 1 m_L_is_name) (aC (f2 gIx (fV 1) (fC (.int 0))) aN)))))) (sRet (fC (.bool false))) sNil) (sSeq (sIf (tOr_ (tNo (tv (fN (ar 1 m_L_are_names) (aC (f2 gIx (fV 1) (fC (.int 1))) aN)))) (tOr_ (tNo (tv (fN (ar 1 m_L_goes_up) (aC (f2 gIx (fV 1) (fC (.int 1))) aN)))) (tb (f2 gIn (f2 gIx (fV 1) (fC (.int 0))) (f2 gIx (fV 1) (fC (.int 1))))))) (sRet (fC (.bool false))) sNil) (sSeq (sIf (tNo (tv (f1 (gIsI .tup) (f2 gIx (fV 1) (fC (.int 2)))))) (sRet (fC (.bool false))) sNil) (sFor (srcE srcA (f2 gIx (fV 1) (fC (.int 2)))) (tgN 2) (sSeq (sIf (tOr_ (tNo (tv (f1 (gIsI .tup) (fV 2)))) (tOr_ (tb (f2 gNe (fN (g1 gLen) (aC (fV 2) aN)) (fC (.int 2)))) (tNo (tv (f1 (gIsI .bool) (f2 gIx (fV 2) (fC (.int 1)))))))) (sRet (fC (.bool false))) sNil) (sSeq (sIf (tOr_ (tNo (tv (fN (ar 1 m_L_are_names) (aC (f2 gIx (fV 2) (fC (.int 0))) aN)))) (tOr_ (tb (f2 gEq (f2 gIx (fV 2) (fC (.int 0))) (fN gTupD aN))) (tb (f2 gIn (f2 gIx (fV 1) (fC (.int 0))) (f2 gIx (fV 2) (fC (.int 0))))))) (sRet (fC (.bool false))) sNil) (sIf (tb (f2 gLt (f1 gLenSet (f2 gIx (fV 2) (fC (.int 0)))) (fN (g1 gLen) (aC (f2 gIx (fV 2) (fC (.int 0))) aN)))) (sRet (fC (.bool false))) sNil)))))))) (sRet (fN (ar 1 m_L_goes_up) (aC (fComp [1] (srcE srcA (fV 0)) (tgN 1) tYesF (f2 gIx (fV 1) (fC (.int 0))) finF) aN))))))
def m_L_by_hand : List S → Hd → R S := mCut (mB 8 (sSeq (sTT 2 (tgsC (tgN 0) (tgsC (tgN 1) tgsN)) (aC (fN gTupD (aC (fC (.str "a")) (aC (fN gTupD aN) (aC (fN gTupD aN) aN)))) (aC (fN gTupD (aC (fC (.str "b")) (aC (fN gTupD (aC (fC (.str "a")) aN)) (aC (fN gTupD (aC (fN gTupD (aC (fN gTupD (aC (fC (.str "a")) (aC (fC (.str "c")) aN))) (aC (fC (.bool false)) aN))) aN)) aN)))) aN))) (sSeq (sSet 2 (fN gTupD (aC (fC (.str "c")) (aC (fN gTupD (aC (fC (.str "a")) (aC (fC (.str "b")) aN))) (aC (fN gTupD (aC (fN gTupD (aC (fN gTupD (aC (fC (.str "a")) aN)) (aC (fC (.bool true)) aN))) (aC (fN gTupD (aC (fN gTupD (aC (fC (.str "zzzzzzzz")) aN)) (aC (fC (.bool false)) aN))) aN))) aN))))) (sSeq (sSet 3 (fN gLstL (aC (fN gTupD aN) (aC (fN gTupD (aC (fV 0) aN)) (aC (fN gTupD (aC (fV 0) (aC (fV 1) aN))) (aC (fN gTupD (aC (fV 0) (aC (fV 1) (aC (fV 2) aN)))) (aC (fN gTupD (aC (fV 1) (aC (fV 0) aN))) (aC (fN gTupD (aC (fV 0) (aC (fV 0) aN))) (aC (fN gTupD (aC (fV 2) aN)) (aC (fN gTupD (aC (fV 0) (aC (fN gTupD (aC (fC (.str "a")) (aC (fN gTupD (aC (fC (.str "b")) aN)) (aC (fN gTupD aN) aN)))) aN))) (aC (fN gTupD (aC (fN gTupD (aC (fC (.str "")) (aC (fN gTupD aN) (aC (fN gTupD aN) aN)))) aN)) aN))))))))))) (sSeq (sSet 3 (f2 gCatL (fV 3) (fN gLstD (aC (fN gTupD (aC (fN gTupD (aC (fC (.str "abcdefghi")) (aC (fN gTupD aN) (aC (fN gTupD aN) aN)))) aN)) (aC (fN gTupD (aC (fN gTupD (aC (fC (.str "abcdefgh")) (aC (fN gTupD aN) (aC (fN gTupD aN) aN)))) aN)) (aC (fN gTupD (aC (fN gTupD (aC (fC (.str "A")) (aC (fN gTupD aN) (aC (fN gTupD aN) aN)))) aN)) (aC (fN gTupD (aC (fN gTupD (aC (fC (.str "a1")) (aC (fN gTupD aN) (aC (fN gTupD aN) aN)))) aN)) aN))))))) (sSeq (sSet 3 (f2 gCatL (fV 3) (fN gLstD (aC (fN gTupD (aC (fN gTupD (aC (fC (.str "a")) (aC (fN gTupD aN) (aC (fN gTupD aN) (aC (fN gTupD aN) aN))))) aN)) (aC (fN gTupD (aC (fN gTupD (aC (fC (.str "a")) (aC (fN gTupD aN) aN))) aN)) (aC (fN gTupD (aC (fN gTupD (aC (fC (.int 1)) (aC (fN gTupD aN) (aC (fN gTupD aN) aN)))) aN)) (aC (fN gTupD (aC (fN gTupD (aC (fC (.str "a")) (aC (fN gTupD (aC (fC (.str "a")) aN)) (aC (fN gTupD aN) aN)))) aN)) (aC (fN gTupD (aC (fN gTupD (aC (fC (.str "a")) (aC (fN gTupD (aC (fC (.str "c")) (aC (fC (.str "b")) aN))) (aC (fN gTupD aN) aN)))) aN)) aN)))))))) (sSeq (sSet 3 (f2 gCatL (fV 3) (fN gLstD (aC (fN gTupD (aC (fN gTupD (aC (fC (.str "a")) (aC (fN gTupD (aC (fC (.str "b")) (aC (fC (.str "b")) aN))) (aC (fN gTupD aN) aN)))) aN)) (aC (fN gTupD (aC (fN gTupD (aC (fC (.str "a")) (aC (fN gTupD (aC (fC (.str "B")) aN)) (aC (fN gTupD aN) aN)))) aN)) (aC (fN gTupD (aC (fN gTupD (aC (fC (.str "a")) (aC (fN gLstD aN) (aC (fN gTupD aN) aN)))) aN)) (aC (fN gTupD (aC (fN gTupD (aC (fC (.str "a")) (aC (fN gTupD (aC (fC (.str "")) aN)) (aC (fN gTupD aN) aN)))) aN)) aN))))))) (sSeq (sFor (srcE srcA (fN gLstD (aC (fN gTupD (aC (fN gTupD (aC (fN gTupD (aC (fC (.str "a")) aN)) (aC (fC (.bool false)) aN))) aN)) (aC (fN gTupD (aC (fN gTupD (aC (fN gTupD (aC (fC (.str "b")) (aC (fC (.str "b")) aN))) (aC (fC (.bool false)) aN))) aN)) (aC (fN gTupD (aC (fN gTupD (aC (fN gTupD aN) (aC (fC (.bool false)) aN))) aN)) (aC (fN gTupD (aC (fN gTupD (aC (fN gTupD (aC (fC (.str "b")) aN)) (aC (fC (.int 0)) aN))) aN)) (aC (fN gTupD (aC (fN gTupD (aC (fN gTupD (aC (fC (.str "b")) aN)) (aC (fC .none) aN))) aN)) aN))))))) (tgN 4) (sDrop (fM gApp (fV 3) (aC (fN gTupD (aC (fN gTupD (aC (fC (.str "a")) (aC (fN gTupD aN) (aC (fV 4) aN)))) aN)) aN)))) (sSeq (sFor (srcE srcA (fN gLstD (aC (fN gTupD (aC (fN gTupD (aC (fN gTupD (aC (fC (.str "b")) aN)) aN)) aN)) (aC (fN gTupD (aC (fN gTupD (aC (fC (.str "b")) (aC (fC (.bool true)) aN))) aN)) (aC (fN gTupD (aC (fN gTupD (aC (fN gLstD (aC (fC (.str "b")) aN)) (aC (fC (.bool true)) aN))) aN)) (aC (fN gLstD (aC (fN gTupD (aC (fN gTupD (aC (fC (.str "b")) aN)) (aC (fC (.bool true)) aN))) aN)) (aC (fN gTupD (aC (fC .none) aN)) (aC (fC .none) (aC (fN gTupD (aC (fN gTupD (aC (fC (.str "b")) aN)) (aC (fC (.bool true)) aN))) aN))))))))) (tgN 4) (sDrop (fM gApp (fV 3) (aC (fN gTupD (aC (fN gTupD (aC (fC (.str "a")) (aC (fN gTupD aN) (aC (fV 4) aN)))) aN)) aN)))) (sSeq (sSet 3 (f2 gCatL (fV 3) (fN gLstD (aC (fN gTupD (aC (fC .none) aN)) (aC (fN gTupD (aC (fN gTupD aN) aN)) (aC (fC .none) (aC (fC (.int 0)) (aC (fC (.str "")) (aC (fC (.str "a")) (aC (fC (.bool true)) (aC (fN gLstD aN) (aC (fN gLstD (aC (fV 0) aN)) (aC (fN gTupD (aC (fN gLstD (aC (fC (.str "a")) (aC (fN gTupD aN) (aC (fN gTupD aN) aN)))) aN)) (aC (fV 0) (aC (fN gTupD (aC (fV 0) (aC (fC .none) aN))) (aC (fN gTupD (aC (fN gTupD (aC (fC (.str "a")) (aC (fC (.str "b")) (aC (fN gTupD aN) aN)))) aN)) aN)))))))))))))))) (sSeq (sSet 3 (f2 gCatL (fV 3) (fN gLstD (aC (fN gTupD (aC (fN gTupD (aC (fC (.str "a")) (aC (fN gTupD aN) (aC (fN gTupD (aC (fN gTupD (aC (fN gTupD (aC (fC (.str "c")) (aC (fC (.str "b")) aN))) (aC (fC (.bool true)) aN))) (aC (fN gTupD (aC (fN gTupD (aC (fC (.str "b")) (aC (fC (.str "c")) aN))) (aC (fC (.bool true)) aN))) aN))) aN)))) aN)) (aC (fN gTupD (aC (fN gTupD (aC (fC (.str "a")) (aC (fN gTupD (aC (fC (.str "b")) aN)) (aC (fN gTupD (aC (fN gTupD (aC (fN gTupD (aC (fC (.str "b")) aN)) (aC (fC (.bool true)) aN))) aN)) aN)))) aN)) aN))))) (sSeq (sDrop (fM gApp (fV 3) (aC (fN gTupD (aC (fN gTupD (aC (fC (.str "a")) (aC (fN gTupD (aC (fC (.str "b")) (aC (fC (.str "c")) (aC (fC (.str "d")) (aC (fC (.str "e")) aN))))) (aC (fN gTupD (aC (fN gTupD (aC (fN gTupD (aC (fC (.str "b")) (aC (fC (.str "c")) (aC (fC (.str "d")) (aC (fC (.str "e")) aN))))) (aC (fC (.bool true)) aN))) (aC (fN gTupD (aC (fN gTupD (aC (fC (.str "x")) aN)) (aC (fC (.bool false)) aN))) (aC (fN gTupD (aC (fN gTupD (aC (fC (.str "y")) aN)) (aC (fC (.bool false)) aN))) aN)))) aN)))) aN)) aN))) (sSeq (sSet 3 (f2 gCatL (fV 3) (fComp [5] (srcE srcA (fN gTupD (aC (fC (.str "a\n")) (aC (fC (.str " a")) (aC (fC (.str "a ")) (aC (fC (.str "aA")) (aC (fC (.str "a-b")) (aC (fC (.str "a.")) (aC (fC (.str "abcdefgh\n")) aN))))))))) (tgN 5) tYesF (fN gTupD (aC (fN gTupD (aC (fV 5) (aC (fN gTupD aN) (aC (fN gTupD aN) aN)))) aN)) finF))) (sSeq (sFor (srcE srcA (fN gTupD (aC (fC (.str "b\n")) (aC (fC (.str "b ")) (aC (fC (.str "")) aN))))) (tgN 5) (sSet 3 (f2 gCatL (fV 3) (fN gLstD (aC (fN gTupD (aC (fN gTupD (aC (fC (.str "a")) (aC (fN gTupD (aC (fV 5) aN)) (aC (fN gTupD aN) aN)))) aN)) (aC (fN gTupD (aC (fN gTupD (aC (fC (.str "a")) (aC (fN gTupD aN) (aC (fN gTupD (aC (fN gTupD (aC (fN gTupD (aC (fV 5) aN)) (aC (fC (.bool true)) aN))) aN)) aN)))) aN)) aN)))))) (sSeq (sSet 6 (fC (.str "abcdefghijklmnopqrstuvwxyz"))) (sRet (f2 gCatF (fV 3) (fN gLstD (aC (fN (g1 gTuple) (aC (fComp [7] (srcE srcA (fV 6)) (tgN 7) tYesF (fN gTupD (aC (f2 gAdd (fV 7) (fC (.str "q"))) (aC (fN gTupD aN) (aC (fN gTupD aN) aN)))) finF) aN)) (aC (fN (g1 gTuple) (aC (fComp [7] (srcE srcA (f1 gRev (fV 6))) (tgN 7) tYesF (fN gTupD (aC (fV 7) (aC (fN gTupD aN) (aC (fN gTupD aN) aN)))) finF) aN)) aN))))))))))))))))))))
def m_L_right : List S → Hd → R S := mCut (mB 10 (sSeq (sSet 1 (fC (.str "a"))) (sSeq (sFor (srcR1 (fC (.int 12))) (tgN 2) (sSet 1 (fN gTupD (aC (fV 1) aN)))) (sSeq (sSet 3 (f2 gAdd (fun _ hd => m_L_by_hand [] hd) (fN gLstD (aC (fV 1) aN)))) (sSeq (sFor (srcR1 (fC (.int 8))) (tgN 2) (sSeq (sSet 4 (fN (ar 3 m_L_world) (aC (fV 0) (aC (fN (ar 2 m_L_of) (aC (fV 0) (aC (fN gLstD (aC (fC (.int 1)) (aC (fC (.int 2)) (aC (fC (.int 4)) (aC (fC (.int 6)) (aC (fC (.int 10)) aN)))))) aN))) (aC (fC (.bool true)) aN))))) (sSeq (sSet 3 (f2 gAdd (fV 3) (fN gLstD (aC (fV 4) (aC (fN (ar 1 (m_L_lists 16)) (aC (fV 4) aN)) (aC (fN (g1 gList) (aC (fV 4) aN)) (aC (f1 gRev (fV 4)) (aC (fSl (fV 4) (oS (fC (.int 1))) oN) (aC (f2 gAdd (fV 4) (fSl (fV 4) (oS (f1 gNeg (fC (.int 1)))) oN)) aN))))))))) (sSeq (sSet 5 (fN gLstD (aC (fN gTupD (aC (fC (.str "a")) (aC (fN gTupD aN) (aC (fN gTupD aN) aN)))) (aC (fN gTupD (aC (fN gTupD (aC (fN gTupD (aC (fC (.str "a")) (aC (fC (.str "b")) aN))) (aC (fC (.bool true)) aN))) aN)) (aC (fN gTupD (aC (fN gTupD (aC (fC (.str "a")) aN)) (aC (fC (.bool false)) aN))) (aC (f2 gIx (f2 gIx (fV 4) (fC (.int 0))) (fC (.int 0))) aN)))))) (sFor (srcR1 (fC (.int 3))) (tgN 6) (sSeq (sSet 7 (fN (ar 3 (m_L_bent 20)) (aC (fV 0) (aC (fV 4) (aC (fV 5) aN))))) (sSet 3 (f2 gAdd (fV 3) (fN gLstD (aC (fV 7) (aC (fN (ar 3 (m_L_bent 20)) (aC (fV 0) (aC (fV 7) (aC (fV 5) aN)))) aN))))))))))) (sSeq (sFor (srcE srcA (fV 3)) (tgN 7) (sSeq (sPar 8 9 (aC (fN (g1 gRepr) (aC (fV 7) aN)) (aC (fN (ar 1 m_L_is_whole) (aC (fV 7) aN)) aN))) (sIf (tOr_ (tNo (tv (fN (ar 2 (m_L_same 4)) (aC (fN gLstD (aC (fN (ar 1 m_P_is_world) (aC (fV 7) aN)) (aC (fKw 0 1 [0] 1 m_P_is_world aN (aC (fV 7) aN)) aN))) (aC (fN gLstD (aC (fV 9) (aC (fV 9) aN))) aN))))) (tb (f2 gNe (fN (g1 gRepr) (aC (fV 7) aN)) (fV 8)))) (sRet (fC (.bool false))) sNil))) (sRet (fC (.bool true)))))))))
def m_L_law : List S → Hd → R S := mCut (mB 3 (sSeq (sSet 1 (fN (ar 2 m_L_cells) (aC (fV 0) (aC (fC (.int 3)) aN)))) (sRet (fN (g1 (gAA fun bs => bs.all id)) (aC (fComp [2] (srcR1 (fN (g1 gLen) (aC (fV 1) aN))) (tgN 2) tYesF (fN (ar 1 m_L_right) (aC (fN (ar 2 m_L_box) (aC (fV 1) (aC (fV 2) aN))) aN)) finF) aN)))))
structure Tp (K : PySem.W.Frag) (mg : Str → Option Value) where
  f_P_is_name : Addr
  d_P_is_name : FuncData
  F_P_is_name : Fun K "is_name" "is_name" (top 3) f_P_is_name d_P_is_name
  b_P_is_name : Binds K d_P_is_name ["thing"] []
  m_P_is_name : mg "is_name" = some (.ref f_P_is_name)
  f_P_is_tuple : Addr
  d_P_is_tuple : FuncData
  F_P_is_tuple : Fun K "is_tuple" "is_tuple" (top 4) f_P_is_tuple d_P_is_tuple
  b_P_is_tuple : Binds K d_P_is_tuple ["thing", "many"] []
  m_P_is_tuple : mg "is_tuple" = some (.ref f_P_is_tuple)
  f_P_are_names : Addr
  d_P_are_names : FuncData
  F_P_are_names : Fun K "are_names" "are_names" (top 5) f_P_are_names d_P_are_names
  b_P_are_names : Binds K d_P_are_names ["thing"] []
  m_P_are_names : mg "are_names" = some (.ref f_P_are_names)
  f_P_rises : Addr
  d_P_rises : FuncData
  F_P_rises : Fun K "rises" "rises" (top 6) f_P_rises d_P_rises
  b_P_rises : Binds K d_P_rises ["some"] []
  m_P_rises : mg "rises" = some (.ref f_P_rises)
  f_P_is_wish : Addr
  d_P_is_wish : FuncData
  F_P_is_wish : Fun K "is_wish" "is_wish" (top 10) f_P_is_wish d_P_is_wish
  b_P_is_wish : Binds K d_P_is_wish ["thing", "name"] []
  m_P_is_wish : mg "is_wish" = some (.ref f_P_is_wish)
  f_P_is_device : Addr
  d_P_is_device : FuncData
  F_P_is_device : Fun K "is_device" "is_device" (top 11) f_P_is_device d_P_is_device
  b_P_is_device : Binds K d_P_is_device ["thing"] []
  m_P_is_device : mg "is_device" = some (.ref f_P_is_device)
  f_P_is_world : Addr
  d_P_is_world : FuncData
  F_P_is_world : Fun K "is_world" "is_world" (top 12) f_P_is_world d_P_is_world
  b_P_is_world : Binds K d_P_is_world ["thing"] []
  m_P_is_world : mg "is_world" = some (.ref f_P_is_world)
  f_L_box : Addr
  d_L_box : FuncData
  F_L_box : Fun K "_law_box" "_law_box" (top 14) f_L_box d_L_box
  b_L_box : Binds K d_L_box ["_law_script", "_law_k"] []
  m_L_box : mg "_law_box" = some (.ref f_L_box)
  f_L_take : Addr
  d_L_take : FuncData
  F_L_take : Fun K "_law_take" "_law_take" (top 15) f_L_take d_L_take
  b_L_take : Binds K d_L_take ["_law_box_here", "_law_below"] []
  m_L_take : mg "_law_take" = some (.ref f_L_take)
  f_L_cells : Addr
  d_L_cells : FuncData
  F_L_cells : Fun K "_law_cells" "_law_cells" (top 16) f_L_cells d_L_cells
  b_L_cells : Binds K d_L_cells ["_law_script", "_law_most"] []
  m_L_cells : mg "_law_cells" = some (.ref f_L_cells)
  f_L_of : Addr
  d_L_of : FuncData
  F_L_of : Fun K "_law_of" "_law_of" (top 17) f_L_of d_L_of
  b_L_of : Binds K d_L_of ["_law_box_here", "_law_some_here"] []
  m_L_of : mg "_law_of" = some (.ref f_L_of)
  f_L_lists : Addr
  d_L_lists : FuncData
  F_L_lists : Fun K "_law_lists" "_law_lists" (top 18) f_L_lists d_L_lists
  b_L_lists : Binds K d_L_lists ["_law_matter"] []
  m_L_lists : mg "_law_lists" = some (.ref f_L_lists)
  f_L_same : Addr
  d_L_same : FuncData
  F_L_same : Fun K "_law_same" "_law_same" (top 19) f_L_same d_L_same
  b_L_same : Binds K d_L_same ["_law_got", "_law_due"] []
  m_L_same : mg "_law_same" = some (.ref f_L_same)
  f_L_names : Addr
  d_L_names : FuncData
  F_L_names : Fun K "_law_names" "_law_names" (top 20) f_L_names d_L_names
  b_L_names : Binds K d_L_names ["_law_box_here", "_law_many_so"] []
  m_L_names : mg "_law_names" = some (.ref f_L_names)
  f_L_some : Addr
  d_L_some : FuncData
  F_L_some : Fun K "_law_some" "_law_some" (top 21) f_L_some d_L_some
  b_L_some : Binds K d_L_some ["_law_box_here", "_law_names_so", "_law_many_so"] []
  m_L_some : mg "_law_some" = some (.ref f_L_some)
  f_L_world : Addr
  d_L_world : FuncData
  F_L_world : Fun K "_law_world" "_law_world" (top 22) f_L_world d_L_world
  b_L_world : Binds K d_L_world ["_law_box_here", "_law_many_so", "_law_musts"] []
  m_L_world : mg "_law_world" = some (.ref f_L_world)
  f_L_bent : Addr
  d_L_bent : FuncData
  F_L_bent : Fun K "_law_bent" "_law_bent" (top 23) f_L_bent d_L_bent
  b_L_bent : Binds K d_L_bent ["_law_box_here", "_law_part", "_law_more"] []
  m_L_bent : mg "_law_bent" = some (.ref f_L_bent)
  f_L_is_name : Addr
  d_L_is_name : FuncData
  F_L_is_name : Fun K "_law_is_name" "_law_is_name" (top 24) f_L_is_name d_L_is_name
  b_L_is_name : Binds K d_L_is_name ["_law_matter"] []
  m_L_is_name : mg "_law_is_name" = some (.ref f_L_is_name)
  f_L_are_names : Addr
  d_L_are_names : FuncData
  F_L_are_names : Fun K "_law_are_names" "_law_are_names" (top 25) f_L_are_names d_L_are_names
  b_L_are_names : Binds K d_L_are_names ["_law_matter"] []
  m_L_are_names : mg "_law_are_names" = some (.ref f_L_are_names)
  f_L_goes_up : Addr
  d_L_goes_up : FuncData
  F_L_goes_up : Fun K "_law_goes_up" "_law_goes_up" (top 26) f_L_goes_up d_L_goes_up
  b_L_goes_up : Binds K d_L_goes_up ["_law_some_here"] []
  m_L_goes_up : mg "_law_goes_up" = some (.ref f_L_goes_up)
  f_L_is_whole : Addr
  d_L_is_whole : FuncData
  F_L_is_whole : Fun K "_law_is_whole" "_law_is_whole" (top 27) f_L_is_whole d_L_is_whole
  b_L_is_whole : Binds K d_L_is_whole ["_law_matter"] []
  m_L_is_whole : mg "_law_is_whole" = some (.ref f_L_is_whole)
  f_L_by_hand : Addr
  d_L_by_hand : FuncData
  F_L_by_hand : Fun K "_law_by_hand" "_law_by_hand" (top 28) f_L_by_hand d_L_by_hand
  b_L_by_hand : Binds K d_L_by_hand [] []
  m_L_by_hand : mg "_law_by_hand" = some (.ref f_L_by_hand)
  f_L_right : Addr
  d_L_right : FuncData
  F_L_right : Fun K "_law_right" "_law_right" (top 29) f_L_right d_L_right
  b_L_right : Binds K d_L_right ["_law_box_here"] []
  m_L_right : mg "_law_right" = some (.ref f_L_right)
  f_L_law : Addr
  d_L_law : FuncData
  F_L_law : Fun K "law" "law" (top 30) f_L_law d_L_law
  b_L_law : Binds K d_L_law ["_law_script"] []
  m_L_law : mg "law" = some (.ref f_L_law)
  kb_P_is_world_0_thing : KBinds K d_P_is_world ["thing"] ["thing"] (kwPick 0 1 [0]) (kwPick 0 1 [0])
  z_abs : mg "abs" = none
  z_all : mg "all" = none
  z_bool : mg "bool" = none
  z_dict : mg "dict" = none
  z_enumerate : mg "enumerate" = none
  z_int : mg "int" = none
  z_isinstance : mg "isinstance" = none
  z_len : mg "len" = none
  z_list : mg "list" = none
  z_min : mg "min" = none
  z_range : mg "range" = none
  z_repr : mg "repr" = none
  z_set : mg "set" = none
  z_sorted : mg "sorted" = none
  z_str : mg "str" = none
  z_tuple : mg "tuple" = none
  z_zip : mg "zip" = none
  t_DEVICE : Tok
  g_DEVICE : mg "DEVICE" = some (.int 3 t_DEVICE)
  t_LETTERS : Tok
  g_LETTERS : mg "LETTERS" = some (.str "abcdefghijklmnopqrstuvwxyz" t_LETTERS)
  t_LONGEST : Tok
  g_LONGEST : mg "LONGEST" = some (.int 8 t_LONGEST)
  t_WISH : Tok
  g_WISH : mg "WISH" = some (.int 2 t_WISH)
section
variable {P : Program} {w : World} {K : PySem.W.Frag} {mg : Str → Option Value} {base : Heap} {c : Nat → Addr} {k : Nat}
theorem sc_P_is_name : FnScope ["thing", "sign"] ["thing"] (defScope (top 3)) := ⟨rfl, rfl, rfl, by decide +kernel, rfl, by decide +kernel, by decide +kernel⟩
theorem ok_P_is_name (T : Tp K mg) : FnE P w K mg base CX0 c (k + 1) T.f_P_is_name T.d_P_is_name ["thing"] (m_P_is_name) := by
  have sc := sc_P_is_name
  exact FnE.cut (fn_ev T.F_P_is_name sc_P_is_name fun cdv A outer s H E hr => (bOne (iRet (eAnd (eIsI .str rfl T.z_isinstance rfl T.z_str boot_str_ (eV (pv 0))) (eAnd (e3c ok_ord ok_ord (pe_chain op_leA op_leA eI (bLen rfl T.z_len (eaC (eV (pv 0)) eaN)) (eKi rfl T.g_LONGEST))) (pe_one (bAll rfl T.z_all rfl (eaC (eLc (own := [("sign", 1)]) fin_f rfl sc.nd (eiA (eV (pv 0))) (by exact blkOk_by (by kernel_rfl)) (fun _ _ _ _ _ => (eG sc.nd rfl (by first | exact Or.inl rfl | exact Or.inr rfl))) (fun _ _ _ _ _ => tsN) (fun _ _ _ _ _ => (qIn (u65 hr) (eV (pv 1)) (eKs rfl T.g_LETTERS)))) eaN))))))))
theorem sc_P_is_tuple : FnScope ["thing", "many"] ["thing", "many"] (defScope (top 4)) := ⟨rfl, rfl, rfl, by decide +kernel, rfl, by decide +kernel, by decide +kernel⟩
theorem ok_P_is_tuple (T : Tp K mg) : FnE P w K mg base CX0 c (k + 1) T.f_P_is_tuple T.d_P_is_tuple ["thing", "many"] (m_P_is_tuple) := by
  have sc := sc_P_is_tuple
  exact FnE.cut (fn_ev T.F_P_is_tuple sc_P_is_tuple fun cdv A outer s H E hr => (bOne (iRet (eAnd (eIsI .tup rfl T.z_isinstance rfl T.z_tuple boot_tuple_ (eV (pv 0))) (pe_one (qEq (u64 hr) (bLen rfl T.z_len (eaC (eV (pv 0)) eaN)) (eV (pv 1))))))))
theorem sc_P_are_names : FnScope ["thing", "part"] ["thing"] (defScope (top 5)) := ⟨rfl, rfl, rfl, by decide +kernel, rfl, by decide +kernel, by decide +kernel⟩
theorem ok_P_are_names (T : Tp K mg) (c_P_is_name : FnE P w K mg base CX0 c k T.f_P_is_name T.d_P_is_name ["thing"] m_P_is_name) : FnE P w K mg base CX0 c (k + 1) T.f_P_are_names T.d_P_are_names ["thing"] (m_P_are_names) := by
  have sc := sc_P_are_names
  exact FnE.cut (fn_ev T.F_P_are_names sc_P_are_names fun cdv A outer s H E hr => (bOne (iRet (eAnd (eIsI .tup rfl T.z_isinstance rfl T.z_tuple boot_tuple_ (eV (pv 0))) (pe_one (bAll rfl T.z_all rfl (eaC (eLc (own := [("part", 1)]) fin_f rfl sc.nd (eiA (eV (pv 0))) (by exact blkOk_by (by kernel_rfl)) (fun _ _ _ _ _ => (eG sc.nd rfl (by first | exact Or.inl rfl | exact Or.inr rfl))) (fun _ _ _ _ _ => tsN) (fun _ _ _ _ _ => (eCa c_P_is_name hr rfl T.m_P_is_name T.F_P_is_name.kp T.b_P_is_name pass0 (eaC (eV (pv 1)) eaN)))) eaN)))))))
theorem sc_P_rises : FnScope ["some", "rows", "one", "other"] ["some"] (defScope (top 6)) := ⟨rfl, rfl, rfl, by decide +kernel, rfl, by decide +kernel, by decide +kernel⟩
theorem ok_P_rises (T : Tp K mg) : FnE P w K mg base CX0 c (k + 1) T.f_P_rises T.d_P_rises ["some"] (m_P_rises) := by
  have sc := sc_P_rises
  exact FnE.cut (fn_ev T.F_P_rises sc_P_rises fun cdv A outer s H E hr => (bCons (iSet sc.nd rfl (by first | exact Or.inl rfl | exact Or.inr rfl) (bListF rfl T.z_list (eaC (eV (pv 0)) eaN))) (bOne (iRet (bAll rfl T.z_all rfl (eaC (eLc (own := [("one", 2), ("other", 3)]) fin_f rfl sc.nd (eiZip rfl T.z_zip (eV (pv 1)) (eSl (eV (pv 1)) (pS eI) pN)) (by exact blkOk_by (by kernel_rfl)) (fun _ _ _ _ _ => (eGT rfl (eGsC (eG sc.nd rfl (by first | exact Or.inl rfl | exact Or.inr rfl)) (eGsC (eG sc.nd rfl (by first | exact Or.inl rfl | exact Or.inr rfl)) eGsN)))) (fun _ _ _ _ _ => tsN) (fun _ _ _ _ _ => (qLt (eV (pv 2)) (eV (pv 3))))) eaN))))))
theorem sc_P_is_wish : FnScope ["thing", "name"] ["thing", "name"] (defScope (top 10)) := ⟨rfl, rfl, rfl, by decide +kernel, rfl, by decide +kernel, by decide +kernel⟩
theorem ok_P_is_wish (T : Tp K mg) (c_P_is_tuple : FnE P w K mg base CX0 c k T.f_P_is_tuple T.d_P_is_tuple ["thing", "many"] m_P_is_tuple) (c_P_are_names : FnE P w K mg base CX0 c k T.f_P_are_names T.d_P_are_names ["thing"] m_P_are_names) : FnE P w K mg base CX0 c (k + 1) T.f_P_is_wish T.d_P_is_wish ["thing", "name"] (m_P_is_wish) := by
  have sc := sc_P_is_wish
  exact FnE.cut (fn_ev T.F_P_is_wish sc_P_is_wish fun cdv A outer s H E hr => (bCons (iIf (PW.pt (wOr (tNot_ (tTru (eCa c_P_is_tuple hr rfl T.m_P_is_tuple T.F_P_is_tuple.kp T.b_P_is_tuple pass0 (eaC (eV (pv 0)) (eaC (eKi rfl T.g_WISH) eaN))))) (wOr (tNot_ (tTru (eIsI .bool rfl T.z_isinstance rfl T.z_bool boot_bool_ (eIx (eV (pv 0)) eI (fun _ _ => rfl))))) (pw_or1 (tNot_ (tTru (eCa c_P_are_names hr rfl T.m_P_are_names T.F_P_are_names.kp T.b_P_are_names pass0 (eaC (eIx (eV (pv 0)) eI (fun _ _ => rfl)) eaN)))))))) (bOne (iRet eB)) bNil) (bOne (iRet (eAnd (qGt (bLen rfl T.z_len (eaC (eIx (eV (pv 0)) eI (fun _ _ => rfl)) eaN)) eI) (eAnd (qNin (u65 hr) (eV (pv 1)) (eIx (eV (pv 0)) eI (fun _ _ => rfl))) (pe_one (qEq (u64 hr) (eLenSet rfl rfl T.z_len rfl T.z_set (eIx (eV (pv 0)) eI (fun _ _ => rfl))) (bLen rfl T.z_len (eaC (eIx (eV (pv 0)) eI (fun _ _ => rfl)) eaN))))))))))
theorem sc_P_is_device : FnScope ["thing", "part"] ["thing"] (defScope (top 11)) := ⟨rfl, rfl, rfl, by decide +kernel, rfl, by decide +kernel, by decide +kernel⟩
theorem ok_P_is_device (T : Tp K mg) (c_P_is_name : FnE P w K mg base CX0 c k T.f_P_is_name T.d_P_is_name ["thing"] m_P_is_name) (c_P_is_tuple : FnE P w K mg base CX0 c k T.f_P_is_tuple T.d_P_is_tuple ["thing", "many"] m_P_is_tuple) (c_P_are_names : FnE P w K mg base CX0 c k T.f_P_are_names T.d_P_are_names ["thing"] m_P_are_names) (c_P_rises : FnE P w K mg base CX0 c k T.f_P_rises T.d_P_rises ["some"] m_P_rises) (c_P_is_wish : FnE P w K mg base CX0 c k T.f_P_is_wish T.d_P_is_wish ["thing", "name"] m_P_is_wish) : FnE P w K mg base CX0 c (k + 1) T.f_P_is_device T.d_P_is_device ["thing"] (m_P_is_device) := by
  have sc := sc_P_is_device
  exact FnE.cut (fn_ev T.F_P_is_device sc_P_is_device fun cdv A outer s H E hr => (bCons (iIf (PW.pt (wOr (tNot_ (tTru (eCa c_P_is_tuple hr rfl T.m_P_is_tuple T.F_P_is_tuple.kp T.b_P_is_tuple pass0 (eaC (eV (pv 0)) (eaC (eKi rfl T.g_DEVICE) eaN))))) (wOr (tNot_ (tTru (eCa c_P_is_name hr rfl T.m_P_is_name T.F_P_is_name.kp T.b_P_is_name pass0 (eaC (eIx (eV (pv 0)) eI (fun _ _ => rfl)) eaN)))) (pw_or1 (tNot_ (tTru (eCa c_P_are_names hr rfl T.m_P_are_names T.F_P_are_names.kp T.b_P_are_names pass0 (eaC (eIx (eV (pv 0)) eI (fun _ _ => rfl)) eaN)))))))) (bOne (iRet eB)) bNil) (bCons (iIf (PW.pt (wOr (tNot_ (tTru (eCa c_P_rises hr rfl T.m_P_rises T.F_P_rises.kp T.b_P_rises pass0 (eaC (eIx (eV (pv 0)) eI (fun _ _ => rfl)) eaN)))) (wOr (wIn (u65 hr) (eIx (eV (pv 0)) eI (fun _ _ => rfl)) (eIx (eV (pv 0)) eI (fun _ _ => rfl))) (pw_or1 (tNot_ (tTru (eIsI .tup rfl T.z_isinstance rfl T.z_tuple boot_tuple_ (eIx (eV (pv 0)) eI (fun _ _ => rfl))))))))) (bOne (iRet eB)) bNil) (bOne (iRet (bAll rfl T.z_all rfl (eaC (eLc (own := [("part", 1)]) fin_f rfl sc.nd (eiA (eIx (eV (pv 0)) eI (fun _ _ => rfl))) (by exact blkOk_by (by kernel_rfl)) (fun _ _ _ _ _ => (eG sc.nd rfl (by first | exact Or.inl rfl | exact Or.inr rfl))) (fun _ _ _ _ _ => tsN) (fun _ _ _ _ _ => (eCa c_P_is_wish hr rfl T.m_P_is_wish T.F_P_is_wish.kp T.b_P_is_wish pass0 (eaC (eV (pv 1)) (eaC (eIx (eV (pv 0)) eI (fun _ _ => rfl)) eaN))))) eaN)))))))
theorem sc_P_is_world : FnScope ["thing", "part"] ["thing"] (defScope (top 12)) := ⟨rfl, rfl, rfl, by decide +kernel, rfl, by decide +kernel, by decide +kernel⟩
theorem ok_P_is_world (T : Tp K mg) (c_P_rises : FnE P w K mg base CX0 c k T.f_P_rises T.d_P_rises ["some"] m_P_rises) (c_P_is_device : FnE P w K mg base CX0 c k T.f_P_is_device T.d_P_is_device ["thing"] m_P_is_device) : FnE P w K mg base CX0 c (k + 1) T.f_P_is_world T.d_P_is_world ["thing"] (m_P_is_world) := by
  have sc := sc_P_is_world
  exact FnE.cut (fn_ev T.F_P_is_world sc_P_is_world fun cdv A outer s H E hr => (bCons (iIf (PW.pt (wOr (tNot_ (tTru (eIsI .tup rfl T.z_isinstance rfl T.z_tuple boot_tuple_ (eV (pv 0))))) (pw_or1 (tNot_ (tTru (bAll rfl T.z_all rfl (eaC (eLc (own := [("part", 1)]) fin_f rfl sc.nd (eiA (eV (pv 0))) (by exact blkOk_by (by kernel_rfl)) (fun _ _ _ _ _ => (eG sc.nd rfl (by first | exact Or.inl rfl | exact Or.inr rfl))) (fun _ _ _ _ _ => tsN) (fun _ _ _ _ _ => (eCa c_P_is_device hr rfl T.m_P_is_device T.F_P_is_device.kp T.b_P_is_device pass0 (eaC (eV (pv 1)) eaN)))) eaN))))))) (bOne (iRet eB)) bNil) (bOne (iRet (eCa c_P_rises hr rfl T.m_P_rises T.F_P_rises.kp T.b_P_rises pass0 (eaC (eLc (own := [("part", 1)]) fin_f rfl sc.nd (eiA (eV (pv 0))) (by exact blkOk_by (by kernel_rfl)) (fun _ _ _ _ _ => (eG sc.nd rfl (by first | exact Or.inl rfl | exact Or.inr rfl))) (fun _ _ _ _ _ => tsN) (fun _ _ _ _ _ => (eIx (eV (pv 1)) eI (fun _ _ => rfl)))) eaN))))))
theorem sc_L_box : FnScope ["_law_script", "_law_k", "_law_cell"] ["_law_script", "_law_k"] (defScope (top 14)) := ⟨rfl, rfl, rfl, by decide +kernel, rfl, by decide +kernel, by decide +kernel⟩
theorem ok_L_box (T : Tp K mg) : FnE P w K mg base CX0 c (k + 1) T.f_L_box T.d_L_box ["_law_script", "_law_k"] (m_L_box) := by
  have sc := sc_L_box
  exact (fn_ev T.F_L_box sc_L_box fun cdv A outer s H E hr => (bCons (iSet sc.nd rfl (by first | exact Or.inl rfl | exact Or.inr rfl) (eIf (wLt (eV (pv 1)) (bLen rfl T.z_len (eaC (eV (pv 0)) eaN))) (eIx (eV (pv 0)) (eV (pv 1)) (fun _ _ => rfl)) eI)) (bOne (iRet (eLstL (eaC (eMul (bAbs rfl T.z_abs (eaC (eV (pv 2)) eaN)) (bInt rfl T.z_int (eaC (qGe (bAbs rfl T.z_abs (eaC (eV (pv 2)) eaN)) (ePow eI eI)) eaN))) (eaC (eAdd (eAdd (eMod (bInt rfl T.z_int (eaC (eV (pv 2)) eaN)) eI) (eMul eI (eV (pv 1)))) eI) (eaC eI eaN))))))))
theorem sc_L_take : FnScope ["_law_box_here", "_law_below", "_law_drawn", "_law_once", "_law_far", "_law_twice"] ["_law_box_here", "_law_below"] (defScope (top 15)) := ⟨rfl, rfl, rfl, by decide +kernel, rfl, by decide +kernel, by decide +kernel⟩
theorem ok_L_take (T : Tp K mg) : FnE P w K mg base CX0 c (k + 1) T.f_L_take T.d_L_take ["_law_box_here", "_law_below"] (m_L_take) := by
  have sc := sc_L_take
  exact FnE.cut (fn_ev T.F_L_take sc_L_take fun cdv A outer s H E hr => (bCons (iIf (wGt (eIx (eV (pv 0)) eI (fun _ _ => rfl)) eI) (bCons (iSet sc.nd rfl (by first | exact Or.inl rfl | exact Or.inr rfl) (eMod (bInt rfl T.z_int (eaC (eIx (eV (pv 0)) eI (fun _ _ => rfl)) eaN)) (eV (pv 1)))) (bCons (iIxL (eDiv (eIx (eV (pv 0)) eI (fun _ _ => rfl)) (eV (pv 1))) (eV (pv 0)) eI) (bOne (iRet (eV (pv 2)))))) bNil) (bCons (iIxL (eAdd (eIx (eV (pv 0)) eI (fun _ _ => rfl)) eI) (eV (pv 0)) eI) (bCons (iSet sc.nd rfl (by first | exact Or.inl rfl | exact Or.inr rfl) (eMod (bInt rfl T.z_int (eaC (eMul (eAdd (eIx (eV (pv 0)) eI (fun _ _ => rfl)) (eMul eI (eIx (eV (pv 0)) eI (fun _ _ => rfl)))) (eAdd eI (eIx (eV (pv 0)) eI (fun _ _ => rfl)))) eaN)) eI)) (bCons (iSet sc.nd rfl (by first | exact Or.inl rfl | exact Or.inr rfl) (eAdd (eMod (bInt rfl T.z_int (eaC (eV (pv 3)) eaN)) eI) eI)) (bCons (iSet sc.nd rfl (by first | exact Or.inl rfl | exact Or.inr rfl) (eMod (bInt rfl T.z_int (eaC (eMul (eAdd (eAdd (eV (pv 3)) (eIx (eV (pv 0)) eI (fun _ _ => rfl))) (eDiv (eIx (eV (pv 0)) eI (fun _ _ => rfl)) eI)) (eV (pv 4))) eaN)) eI)) (bOne (iRet (eMod (bInt rfl T.z_int (eaC (eDiv (eMod (bInt rfl T.z_int (eaC (eAdd (eMul (eV (pv 5)) eI) (eV (pv 3))) eaN)) eI) eI) eaN)) (eV (pv 1)))))))))))
theorem sc_L_cells : FnScope ["_law_script", "_law_most", "_law_cells_here", "_law_k", "_law_cell", "_law_at_so"] ["_law_script", "_law_most"] (defScope (top 16)) := ⟨rfl, rfl, rfl, by decide +kernel, rfl, by decide +kernel, by decide +kernel⟩
theorem ok_L_cells (T : Tp K mg) : FnE P w K mg base CX0 c (k + 1) T.f_L_cells T.d_L_cells ["_law_script", "_law_most"] (m_L_cells) := by
  have sc := sc_L_cells
  exact FnE.cut (fn_ev T.F_L_cells sc_L_cells fun cdv A outer s H E hr => (bCons (iSet sc.nd rfl (by first | exact Or.inl rfl | exact Or.inr rfl) (eOr (bListL rfl T.z_list (eaC (eSl (eV (pv 0)) pN (pS (eV (pv 1)))) eaN)) (pe_one (eLstL (eaC eI eaN))))) (bCons (iFor (fun _ _ h => h.elim) rfl (eiEn rfl T.z_enumerate (eSl (eV (pv 0)) (pS (eV (pv 1))) (pS eI))) (eGT rfl (eGsC (eG sc.nd rfl (by first | exact Or.inl rfl | exact Or.inr rfl)) (eGsC (eG sc.nd rfl (by first | exact Or.inl rfl | exact Or.inr rfl)) eGsN))) (bCons (iSet sc.nd rfl (by first | exact Or.inl rfl | exact Or.inr rfl) (eMod (bInt rfl T.z_int (eaC (eV (pv 3)) eaN)) (eV (pv 1)))) (bOne (iIxL (eAdd (eIx (eV (pv 2)) (eV (pv 5)) (fun _ _ => rfl)) (eMul (eV (pv 4)) (eAdd (eV (pv 3)) eI))) (eV (pv 2)) (eV (pv 5)))))) (bOne (iRet (eV (pv 2)))))))
theorem sc_L_of : FnScope ["_law_box_here", "_law_some_here"] ["_law_box_here", "_law_some_here"] (defScope (top 17)) := ⟨rfl, rfl, rfl, by decide +kernel, rfl, by decide +kernel, by decide +kernel⟩
theorem ok_L_of (T : Tp K mg) (c_L_take : FnE P w K mg base CX0 c k T.f_L_take T.d_L_take ["_law_box_here", "_law_below"] m_L_take) : FnE P w K mg base CX0 c (k + 1) T.f_L_of T.d_L_of ["_law_box_here", "_law_some_here"] (m_L_of) := by
  have sc := sc_L_of
  exact FnE.cut (fn_ev T.F_L_of sc_L_of fun cdv A outer s H E hr => (bOne (iRet (eIx (eV (pv 1)) (eCa c_L_take hr rfl T.m_L_take T.F_L_take.kp T.b_L_take pass0 (eaC (eV (pv 0)) (eaC (bLen rfl T.z_len (eaC (eV (pv 1)) eaN)) eaN))) (fun _ _ => rfl)))))
theorem sc_L_lists : FnScope ["_law_matter", "_law_bit"] ["_law_matter"] (defScope (top 18)) := ⟨rfl, rfl, rfl, by decide +kernel, rfl, by decide +kernel, by decide +kernel⟩
theorem ok_L_lists (T : Tp K mg) {m : List S → Hd → R S} (c_L_lists : FnE P w K mg base CX0 c k T.f_L_lists T.d_L_lists ["_law_matter"] m) : FnE P w K mg base CX0 c (k + 1) T.f_L_lists T.d_L_lists ["_law_matter"] (step_L_lists m) := by
  have sc := sc_L_lists
  exact FnE.cut (fn_ev T.F_L_lists sc_L_lists fun cdv A outer s H E hr => (bOne (iRet (eIf (tTru (eIsI2 .lst .tup rfl T.z_isinstance rfl T.z_list boot_list_ rfl T.z_tuple boot_tuple_ (eV (pv 0)))) (eLc (own := [("_law_bit", 1)]) fin_f rfl sc.nd (eiA (eV (pv 0))) (by exact blkOk_by (by kernel_rfl)) (fun _ _ _ _ _ => (eG sc.nd rfl (by first | exact Or.inl rfl | exact Or.inr rfl))) (fun _ _ _ _ _ => tsN) (fun _ _ _ _ _ => (eCa c_L_lists hr rfl T.m_L_lists T.F_L_lists.kp T.b_L_lists pass0 (eaC (eV (pv 1)) eaN)))) (eV (pv 0))))))
theorem sc_L_same : FnScope ["_law_got", "_law_due", "_law_mine", "_law_its", "_law_own"] ["_law_got", "_law_due"] (defScope (top 19)) := ⟨rfl, rfl, rfl, by decide +kernel, rfl, by decide +kernel, by decide +kernel⟩
theorem ok_L_same (T : Tp K mg) {m : List S → Hd → R S} (c_L_same : FnE P w K mg base CX0 c k T.f_L_same T.d_L_same ["_law_got", "_law_due"] m) : FnE P w K mg base CX0 c (k + 1) T.f_L_same T.d_L_same ["_law_got", "_law_due"] (step_L_same m) := by
  have sc := sc_L_same
  exact FnE.cut (fn_ev T.F_L_same sc_L_same fun cdv A outer s H E hr => (bCons (iIf (tTru (eIsI2 .lst .tup rfl T.z_isinstance rfl T.z_list boot_list_ rfl T.z_tuple boot_tuple_ (eV (pv 1)))) (bCons (iIf (PW.pt (wOr (wNe (u64 hr) (eIsI .lst rfl T.z_isinstance rfl T.z_list boot_list_ (eV (pv 0))) (eIsI .lst rfl T.z_isinstance rfl T.z_list boot_list_ (eV (pv 1)))) (pw_or1 (wNe (u64 hr) (eIsI .tup rfl T.z_isinstance rfl T.z_tuple boot_tuple_ (eV (pv 0))) (eIsI .tup rfl T.z_isinstance rfl T.z_tuple boot_tuple_ (eV (pv 1))))))) (bOne (iRet eB)) bNil) (bOne (iRet (eAnd (qEq (u64 hr) (bLen rfl T.z_len (eaC (eV (pv 0)) eaN)) (bLen rfl T.z_len (eaC (eV (pv 1)) eaN))) (pe_one (bAll rfl T.z_all rfl (eaC (eLc (own := [("_law_mine", 2), ("_law_its", 3)]) fin_f rfl sc.nd (eiZip rfl T.z_zip (eV (pv 0)) (eV (pv 1))) (by exact blkOk_by (by kernel_rfl)) (fun _ _ _ _ _ => (eGT rfl (eGsC (eG sc.nd rfl (by first | exact Or.inl rfl | exact Or.inr rfl)) (eGsC (eG sc.nd rfl (by first | exact Or.inl rfl | exact Or.inr rfl)) eGsN)))) (fun _ _ _ _ _ => tsN) (fun _ _ _ _ _ => (eCa c_L_same hr rfl T.m_L_same T.F_L_same.kp T.b_L_same pass0 (eaC (eV (pv 2)) (eaC (eV (pv 3)) eaN))))) eaN))))))) bNil) (bCons (iIf (tTru (eIsI .dict rfl T.z_isinstance rfl T.z_dict boot_dict_ (eV (pv 1)))) bNo bNil) (bCons (iIf (PW.pt (wOr (wIs (eV (pv 1)) eN) (pw_or1 (tTru (eIsI2 .bool .str rfl T.z_isinstance rfl T.z_bool boot_bool_ rfl T.z_str boot_str_ (eV (pv 1))))))) (bOne (iRet (eAnd (qEq (u64 hr) (eV (pv 0)) (eV (pv 1))) (eAnd (qEq (u64 hr) (eIsI .bool rfl T.z_isinstance rfl T.z_bool boot_bool_ (eV (pv 0))) (eIsI .bool rfl T.z_isinstance rfl T.z_bool boot_bool_ (eV (pv 1)))) (pe_one (qEq (u64 hr) (qIs (eV (pv 0)) eN) (qIs (eV (pv 1)) eN))))))) bNil) (bOne (iRet (eAnd (eIsI .int rfl T.z_isinstance rfl T.z_int boot_int_ (eV (pv 0))) (eAnd (eNot (eIsI .bool rfl T.z_isinstance rfl T.z_bool boot_bool_ (eV (pv 0)))) (pe_one (qEq (u64 hr) (eV (pv 0)) (eV (pv 1))))))))))))
theorem sc_L_names : FnScope ["_law_box_here", "_law_many_so", "_law_pool", "_law_some_here", "_law_turn_so"] ["_law_box_here", "_law_many_so"] (defScope (top 20)) := ⟨rfl, rfl, rfl, by decide +kernel, rfl, by decide +kernel, by decide +kernel⟩
theorem ok_L_names (T : Tp K mg) (c_L_take : FnE P w K mg base CX0 c k T.f_L_take T.d_L_take ["_law_box_here", "_law_below"] m_L_take) : FnE P w K mg base CX0 c (k + 1) T.f_L_names T.d_L_names ["_law_box_here", "_law_many_so"] (m_L_names) := by
  have sc := sc_L_names
  exact FnE.cut (fn_ev T.F_L_names sc_L_names fun cdv A outer s H E hr => (bCons (iPar rfl sc.nd rfl rfl (by decide) rfl rfl (eaC (eLstL (eaC eS (eaC eS (eaC eS (eaC eS (eaC eS (eaC eS (eaC eS (eaC eS (eaC eS (eaC eS eaN))))))))))) (eaC (eLstL eaN) eaN)) rfl) (bCons (iFor (fun _ _ h => h.elim) rfl (eiR1 rfl T.z_range (eV (pv 1))) (eG sc.nd rfl (by first | exact Or.inl rfl | exact Or.inr rfl)) (bOne (iExpr (eM ok_app (pe_bm PySem.F.plainAttrs_list PySem.F.slot_list_append PySem.F.type_list_append mt_append (eV (pv 3)) (eaC (eM ok_popAt (pe_bm PySem.F.plainAttrs_list PySem.F.slot_list_pop PySem.F.type_list_pop mt_popAt (eV (pv 2)) (eaC (eCa c_L_take hr rfl T.m_L_take T.F_L_take.kp T.b_L_take pass0 (eaC (eV (pv 0)) (eaC (bLen rfl T.z_len (eaC (eV (pv 2)) eaN)) eaN))) eaN))) eaN)))))) (bOne (iRet (bSrt rfl T.z_sorted (u80 hr) (eaC (eV (pv 3)) eaN)))))))
theorem sc_L_some : FnScope ["_law_box_here", "_law_names_so", "_law_many_so", "_law_left_so", "_law_some_here", "_law_turn_so"] ["_law_box_here", "_law_names_so", "_law_many_so"] (defScope (top 21)) := ⟨rfl, rfl, rfl, by decide +kernel, rfl, by decide +kernel, by decide +kernel⟩
theorem ok_L_some (T : Tp K mg) (c_L_take : FnE P w K mg base CX0 c k T.f_L_take T.d_L_take ["_law_box_here", "_law_below"] m_L_take) : FnE P w K mg base CX0 c (k + 1) T.f_L_some T.d_L_some ["_law_box_here", "_law_names_so", "_law_many_so"] (m_L_some) := by
  have sc := sc_L_some
  exact FnE.cut (fn_ev T.F_L_some sc_L_some fun cdv A outer s H E hr => (bCons (iPar rfl sc.nd rfl rfl (by decide) rfl rfl (eaC (bListL rfl T.z_list (eaC (eV (pv 1)) eaN)) (eaC (eLstL eaN) eaN)) rfl) (bCons (iFor (fun _ _ h => h.elim) rfl (eiR1 rfl T.z_range (bMin rfl T.z_min rfl (eaC (eV (pv 2)) (eaC (bLen rfl T.z_len (eaC (eV (pv 3)) eaN)) eaN)))) (eG sc.nd rfl (by first | exact Or.inl rfl | exact Or.inr rfl)) (bOne (iExpr (eM ok_app (pe_bm PySem.F.plainAttrs_list PySem.F.slot_list_append PySem.F.type_list_append mt_append (eV (pv 4)) (eaC (eM ok_popAt (pe_bm PySem.F.plainAttrs_list PySem.F.slot_list_pop PySem.F.type_list_pop mt_popAt (eV (pv 3)) (eaC (eCa c_L_take hr rfl T.m_L_take T.F_L_take.kp T.b_L_take pass0 (eaC (eV (pv 0)) (eaC (bLen rfl T.z_len (eaC (eV (pv 3)) eaN)) eaN))) eaN))) eaN)))))) (bOne (iRet (eV (pv 4)))))))
theorem sc_L_world : FnScope ["_law_box_here", "_law_many_so", "_law_musts", "_law_names_so", "_law_order_so", "_law_rows", "_law_k", "_law_name_so", "_law_many_here", "_law_wishes_so", "_law_needs_so", "_law_own", "_law_turn_so", "_law_free", "_law_options_so"] ["_law_box_here", "_law_many_so", "_law_musts"] (defScope (top 22)) := ⟨rfl, rfl, rfl, by decide +kernel, rfl, by decide +kernel, by decide +kernel⟩
theorem ok_L_world (T : Tp K mg) (c_L_take : FnE P w K mg base CX0 c k T.f_L_take T.d_L_take ["_law_box_here", "_law_below"] m_L_take) (c_L_of : FnE P w K mg base CX0 c k T.f_L_of T.d_L_of ["_law_box_here", "_law_some_here"] m_L_of) (c_L_names : FnE P w K mg base CX0 c k T.f_L_names T.d_L_names ["_law_box_here", "_law_many_so"] m_L_names) (c_L_some : FnE P w K mg base CX0 c k T.f_L_some T.d_L_some ["_law_box_here", "_law_names_so", "_law_many_so"] m_L_some) : FnE P w K mg base CX0 c (k + 1) T.f_L_world T.d_L_world ["_law_box_here", "_law_many_so", "_law_musts"] (m_L_world) := by
  have sc := sc_L_world
  exact FnE.cut (fn_ev T.F_L_world sc_L_world fun cdv A outer s H E hr => (bCons (iSet sc.nd rfl (by first | exact Or.inl rfl | exact Or.inr rfl) (eCa c_L_names hr rfl T.m_L_names T.F_L_names.kp T.b_L_names pass0 (eaC (eV (pv 0)) (eaC (eV (pv 1)) eaN)))) (bCons (iPar rfl sc.nd rfl rfl (by decide) rfl rfl (eaC (eCa c_L_some hr rfl T.m_L_some T.F_L_some.kp T.b_L_some pass0 (eaC (eV (pv 0)) (eaC (eV (pv 3)) (eaC (eV (pv 1)) eaN)))) (eaC (eLstL eaN) eaN)) rfl) (bCons (iFor (fun _ _ h => h.elim) rfl (eiR1 rfl T.z_range (eV (pv 1))) (eG sc.nd rfl (by first | exact Or.inl rfl | exact Or.inr rfl)) (bCons (iTT rfl (eaC (eIx (eV (pv 4)) (eV (pv 6)) (fun _ _ => rfl)) (eaC (eCa c_L_of hr rfl T.m_L_of T.F_L_of.kp T.b_L_of pass0 (eaC (eV (pv 0)) (eaC (eLst (eaC eI (eaC eI (eaC eI (eaC eI (eaC eI (eaC eI eaN))))))) eaN))) (eaC (eLstL eaN) eaN))) (eGsC (eG sc.nd rfl (by first | exact Or.inl rfl | exact Or.inr rfl)) (eGsC (eG sc.nd rfl (by first | exact Or.inl rfl | exact Or.inr rfl)) (eGsC (eG sc.nd rfl (by first | exact Or.inl rfl | exact Or.inr rfl)) eGsN)))) (bCons (iSet sc.nd rfl (by first | exact Or.inl rfl | exact Or.inr rfl) (eCa c_L_some hr rfl T.m_L_some T.F_L_some.kp T.b_L_some pass0 (eaC (eV (pv 0)) (eaC (eSl (eV (pv 4)) pN (pS (eV (pv 6)))) (eaC (eV (pv 8)) eaN))))) (bCons (iIf (wEq (u64 hr) (eCa c_L_take hr rfl T.m_L_take T.F_L_take.kp T.b_L_take pass0 (eaC (eV (pv 0)) (eaC eI eaN))) eI) (bOne (iSet sc.nd rfl (by first | exact Or.inl rfl | exact Or.inr rfl) (eAdd (eV (pv 10)) (eLst (eaC (eCa c_L_of hr rfl T.m_L_of T.F_L_of.kp T.b_L_of pass0 (eaC (eV (pv 0)) (eaC (eAdd (eLc (own := [("_law_own", 11)]) fin_f rfl sc.nd (eiA (eV (pv 3))) (by exact blkOk_by (by kernel_rfl)) (fun _ _ _ _ _ => (eG sc.nd rfl (by first | exact Or.inl rfl | exact Or.inr rfl))) (fun _ _ _ _ _ => (ts1 (wNe (u64 hr) (eV (pv 11)) (eV (pv 7))))) (fun _ _ _ _ _ => (eV (pv 11)))) (eLst (eaC eS eaN))) eaN))) eaN))))) bNil) (bCons (iFor (fun _ _ h => h.elim) rfl (eiR1 rfl T.z_range (eCa c_L_of hr rfl T.m_L_of T.F_L_of.kp T.b_L_of pass0 (eaC (eV (pv 0)) (eaC (eLst (eaC eI (eaC eI (eaC eI (eaC eI eaN))))) eaN)))) (eG sc.nd rfl (by first | exact Or.inl rfl | exact Or.inr rfl)) (bCons (iLc (own := [("_law_own", 11)]) fin_f rfl sc.nd rfl rfl (eiA (eAdd (eV (pv 3)) (eRep (eLst (eaC eS eaN)) (bInt rfl T.z_int (eaC (qEq (u64 hr) (eCa c_L_take hr rfl T.m_L_take T.F_L_take.kp T.b_L_take pass0 (eaC (eV (pv 0)) (eaC eI eaN))) eI) eaN))))) (by exact blkOk_by (by kernel_rfl)) (sw_true rfl rfl rfl rfl) (fun _ _ _ _ _ => (eG sc.nd rfl (by first | exact Or.inl rfl | exact Or.inr rfl))) (fun _ _ _ _ _ => (ts1 (wNe (u64 hr) (eV (pv 11)) (eV (pv 7))))) (fun _ _ _ _ _ => (eV (pv 11)))) (bCons (iSet sc.nd rfl (by first | exact Or.inl rfl | exact Or.inr rfl) (eCa c_L_some hr rfl T.m_L_some T.F_L_some.kp T.b_L_some pass0 (eaC (eV (pv 0)) (eaC (eV (pv 13)) (eaC (eAdd eI (eCa c_L_take hr rfl T.m_L_take T.F_L_take.kp T.b_L_take pass0 (eaC (eV (pv 0)) (eaC eI eaN)))) eaN))))) (bOne (iIf (wNe (u64 hr) (eV (pv 14)) (eLst eaN)) (bOne (iExpr (eM ok_app (pe_bm PySem.F.plainAttrs_list PySem.F.slot_list_append PySem.F.type_list_append mt_append (eV (pv 9)) (eaC (eTup (eaC (bTuple rfl T.z_tuple (eaC (eV (pv 14)) eaN)) (eaC (eAnd (eV (pv 2)) (pe_one (qEq (u64 hr) (eCa c_L_take hr rfl T.m_L_take T.F_L_take.kp T.b_L_take pass0 (eaC (eV (pv 0)) (eaC eI eaN))) eI))) eaN))) eaN))))) bNil))))) (bOne (iExpr (eM ok_app (pe_bm PySem.F.plainAttrs_list PySem.F.slot_list_append PySem.F.type_list_append mt_append (eV (pv 5)) (eaC (eTup (eaC (eV (pv 7)) (eaC (bTuple rfl T.z_tuple (eaC (eSrtSet rfl (u66 hr) rfl T.z_sorted rfl T.z_set (eV (pv 10))) eaN)) (eaC (bTuple rfl T.z_tuple (eaC (eV (pv 9)) eaN)) eaN)))) eaN)))))))))) (bOne (iRet (bTuple rfl T.z_tuple (eaC (bSrt rfl T.z_sorted (u80 hr) (eaC (eV (pv 5)) eaN)) eaN))))))))
theorem sc_L_bent : FnScope ["_law_box_here", "_law_part", "_law_more", "_law_k", "_law_some_here"] ["_law_box_here", "_law_part", "_law_more"] (defScope (top 23)) := ⟨rfl, rfl, rfl, by decide +kernel, rfl, by decide +kernel, by decide +kernel⟩
theorem ok_L_bent (T : Tp K mg) {m : List S → Hd → R S} (c_L_take : FnE P w K mg base CX0 c k T.f_L_take T.d_L_take ["_law_box_here", "_law_below"] m_L_take) (c_L_of : FnE P w K mg base CX0 c k T.f_L_of T.d_L_of ["_law_box_here", "_law_some_here"] m_L_of) (c_L_bent : FnE P w K mg base CX0 c k T.f_L_bent T.d_L_bent ["_law_box_here", "_law_part", "_law_more"] m) : FnE P w K mg base CX0 c (k + 1) T.f_L_bent T.d_L_bent ["_law_box_here", "_law_part", "_law_more"] (step_L_bent m) := by
  have sc := sc_L_bent
  exact FnE.cut (fn_ev T.F_L_bent sc_L_bent fun cdv A outer s H E hr => (bCons (iIf (PW.pt (wAnd (tTru (eIsI .tup rfl T.z_isinstance rfl T.z_tuple boot_tuple_ (eV (pv 1)))) (wAnd (wNe (u64 hr) (eV (pv 1)) (eTup eaN)) (pw_and1 (wGt (eCa c_L_take hr rfl T.m_L_take T.F_L_take.kp T.b_L_take pass0 (eaC (eV (pv 0)) (eaC eI eaN))) eI))))) (bCons (iSet sc.nd rfl (by first | exact Or.inl rfl | exact Or.inr rfl) (eCa c_L_take hr rfl T.m_L_take T.F_L_take.kp T.b_L_take pass0 (eaC (eV (pv 0)) (eaC (bLen rfl T.z_len (eaC (eV (pv 1)) eaN)) eaN)))) (bOne (iRet (eAdd (eAdd (eSl (eV (pv 1)) pN (pS (eV (pv 3)))) (eTup (eaC (eCa c_L_bent hr rfl T.m_L_bent T.F_L_bent.kp T.b_L_bent pass0 (eaC (eV (pv 0)) (eaC (eIx (eV (pv 1)) (eV (pv 3)) (fun _ _ => rfl)) (eaC (eV (pv 2)) eaN)))) eaN))) (eSl (eV (pv 1)) (pS (eAdd (eV (pv 3)) eI)) pN))))) bNil) (bCons (iSet sc.nd rfl (by first | exact Or.inl rfl | exact Or.inr rfl) (eLst (eaC eI (eaC eI (eaC (eNeg eI) (eaC eN (eaC eB (eaC eB (eaC eS (eaC eS (eaC eS (eaC eS (eaC eS (eaC eS (eaC eS (eaC eS (eaC (eTup eaN) eaN))))))))))))))))) (bCons (iSet sc.nd rfl (by first | exact Or.inl rfl | exact Or.inr rfl) (eAdd (eAdd (eV (pv 4)) (eLst (eaC (eLst eaN) (eaC (eTup (eaC eS eaN)) eaN)))) (eV (pv 2)))) (bCons (iIf (tTru (eIsI .tup rfl T.z_isinstance rfl T.z_tuple boot_tuple_ (eV (pv 1)))) (bOne (iSet sc.nd rfl (by first | exact Or.inl rfl | exact Or.inr rfl) (eAdd (eV (pv 4)) (eLst (eaC (bListF rfl T.z_list (eaC (eV (pv 1)) eaN)) (eaC (eSl (eV (pv 1)) pN (pS (eNeg eI))) (eaC (eAdd (eV (pv 1)) (eSl (eV (pv 1)) (pS (eNeg eI)) pN)) (eaC (eRev (eV (pv 1))) (eaC (eTup (eaC (eV (pv 1)) eaN)) eaN))))))))) bNil) (bCons (iIf (tTru (eIsI .str rfl T.z_isinstance rfl T.z_str boot_str_ (eV (pv 1)))) (bOne (iSet sc.nd rfl (by first | exact Or.inl rfl | exact Or.inr rfl) (eAdd (eV (pv 4)) (eLst (eaC (eAdd (eV (pv 1)) eS) (eaC (eSl (eV (pv 1)) pN (pS (eNeg eI))) (eaC (eAdd (eV (pv 1)) (eV (pv 1))) (eaC (eAdd (eV (pv 1)) eS) eaN)))))))) bNil) (bCons (iIf (tTru (eIsI .bool rfl T.z_isinstance rfl T.z_bool boot_bool_ (eV (pv 1)))) (bOne (iSet sc.nd rfl (by first | exact Or.inl rfl | exact Or.inr rfl) (eAdd (eV (pv 4)) (eLst (eaC (eNot (eV (pv 1))) (eaC (eNot (eV (pv 1))) (eaC (bInt rfl T.z_int (eaC (eV (pv 1)) eaN)) (eaC (bStr rfl T.z_str (eaC (eV (pv 1)) eaN)) eaN)))))))) bNil) (bOne (iRet (eCa c_L_of hr rfl T.m_L_of T.F_L_of.kp T.b_L_of pass0 (eaC (eV (pv 0)) (eaC (eV (pv 4)) eaN))))))))))))
theorem sc_L_is_name : FnScope ["_law_matter", "_law_letters", "_law_sign"] ["_law_matter"] (defScope (top 24)) := ⟨rfl, rfl, rfl, by decide +kernel, rfl, by decide +kernel, by decide +kernel⟩
theorem ok_L_is_name (T : Tp K mg) : FnE P w K mg base CX0 c (k + 1) T.f_L_is_name T.d_L_is_name ["_law_matter"] (m_L_is_name) := by
  have sc := sc_L_is_name
  exact FnE.cut (fn_ev T.F_L_is_name sc_L_is_name fun cdv A outer s H E hr => (bCons (iSet sc.nd rfl (by first | exact Or.inl rfl | exact Or.inr rfl) eS) (bOne (iRet (eAnd (eIsI .str rfl T.z_isinstance rfl T.z_str boot_str_ (eV (pv 0))) (eAnd (e3c ok_ord ok_ord (pe_chain op_ltA op_ltA eI (bLen rfl T.z_len (eaC (eV (pv 0)) eaN)) eI)) (pe_one (bAll rfl T.z_all rfl (eaC (eLc (own := [("_law_sign", 2)]) fin_f rfl sc.nd (eiA (eV (pv 0))) (by exact blkOk_by (by kernel_rfl)) (fun _ _ _ _ _ => (eG sc.nd rfl (by first | exact Or.inl rfl | exact Or.inr rfl))) (fun _ _ _ _ _ => tsN) (fun _ _ _ _ _ => (qIn (u65 hr) (eV (pv 2)) (eV (pv 1))))) eaN)))))))))
theorem sc_L_are_names : FnScope ["_law_matter", "_law_own"] ["_law_matter"] (defScope (top 25)) := ⟨rfl, rfl, rfl, by decide +kernel, rfl, by decide +kernel, by decide +kernel⟩
theorem ok_L_are_names (T : Tp K mg) (c_L_is_name : FnE P w K mg base CX0 c k T.f_L_is_name T.d_L_is_name ["_law_matter"] m_L_is_name) : FnE P w K mg base CX0 c (k + 1) T.f_L_are_names T.d_L_are_names ["_law_matter"] (m_L_are_names) := by
  have sc := sc_L_are_names
  exact FnE.cut (fn_ev T.F_L_are_names sc_L_are_names fun cdv A outer s H E hr => (bOne (iRet (eAnd (eIsI .tup rfl T.z_isinstance rfl T.z_tuple boot_tuple_ (eV (pv 0))) (pe_one (bAll rfl T.z_all rfl (eaC (eLc (own := [("_law_own", 1)]) fin_f rfl sc.nd (eiA (eV (pv 0))) (by exact blkOk_by (by kernel_rfl)) (fun _ _ _ _ _ => (eG sc.nd rfl (by first | exact Or.inl rfl | exact Or.inr rfl))) (fun _ _ _ _ _ => tsN) (fun _ _ _ _ _ => (eCa c_L_is_name hr rfl T.m_L_is_name T.F_L_is_name.kp T.b_L_is_name pass0 (eaC (eV (pv 1)) eaN)))) eaN)))))))
theorem sc_L_goes_up : FnScope ["_law_some_here", "_law_own", "_law_its"] ["_law_some_here"] (defScope (top 26)) := ⟨rfl, rfl, rfl, by decide +kernel, rfl, by decide +kernel, by decide +kernel⟩
theorem ok_L_goes_up (T : Tp K mg) : FnE P w K mg base CX0 c (k + 1) T.f_L_goes_up T.d_L_goes_up ["_law_some_here"] (m_L_goes_up) := by
  have sc := sc_L_goes_up
  exact FnE.cut (fn_ev T.F_L_goes_up sc_L_goes_up fun cdv A outer s H E hr => (bOne (iRet (bAll rfl T.z_all rfl (eaC (eLc (own := [("_law_own", 1), ("_law_its", 2)]) fin_f rfl sc.nd (eiZip rfl T.z_zip (eV (pv 0)) (eSl (eV (pv 0)) (pS eI) pN)) (by exact blkOk_by (by kernel_rfl)) (fun _ _ _ _ _ => (eGT rfl (eGsC (eG sc.nd rfl (by first | exact Or.inl rfl | exact Or.inr rfl)) (eGsC (eG sc.nd rfl (by first | exact Or.inl rfl | exact Or.inr rfl)) eGsN)))) (fun _ _ _ _ _ => tsN) (fun _ _ _ _ _ => (qLt (eV (pv 1)) (eV (pv 2))))) eaN)))))
theorem sc_L_is_whole : FnScope ["_law_matter", "_law_dev", "_law_hope"] ["_law_matter"] (defScope (top 27)) := ⟨rfl, rfl, rfl, by decide +kernel, rfl, by decide +kernel, by decide +kernel⟩
theorem ok_L_is_whole (T : Tp K mg) (c_L_is_name : FnE P w K mg base CX0 c k T.f_L_is_name T.d_L_is_name ["_law_matter"] m_L_is_name) (c_L_are_names : FnE P w K mg base CX0 c k T.f_L_are_names T.d_L_are_names ["_law_matter"] m_L_are_names) (c_L_goes_up : FnE P w K mg base CX0 c k T.f_L_goes_up T.d_L_goes_up ["_law_some_here"] m_L_goes_up) : FnE P w K mg base CX0 c (k + 1) T.f_L_is_whole T.d_L_is_whole ["_law_matter"] (m_L_is_whole) := by
  have sc := sc_L_is_whole
  exact FnE.cut (fn_ev T.F_L_is_whole sc_L_is_whole fun cdv A outer s H E hr => (bCons (iIf (tNot_ (tTru (eIsI .tup rfl T.z_isinstance rfl T.z_tuple boot_tuple_ (eV (pv 0))))) (bOne (iRet eB)) bNil) (bCons (iFor (fun _ _ h => h.elim) rfl (eiA (eV (pv 0))) (eG sc.nd rfl (by first | exact Or.inl rfl | exact Or.inr rfl)) (bCons (iIf (PW.pt (wOr (tNot_ (tTru (eIsI .tup rfl T.z_isinstance rfl T.z_tuple boot_tuple_ (eV (pv 1))))) (wOr (wNe (u64 hr) (bLen rfl T.z_len (eaC (eV (pv 1)) eaN)) eI) (pw_or1 (tNot_ (tTru (eCa c_L_is_name hr rfl T.m_L_is_name T.F_L_is_name.kp T.b_L_is_name pass0 (eaC (eIx (eV (pv 1)) eI (fun _ _ => rfl)) eaN)))))))) (bOne (iRet eB)) bNil) (bCons (iIf (PW.pt (wOr (tNot_ (tTru (eCa c_L_are_names hr rfl T.m_L_are_names T.F_L_are_names.kp T.b_L_are_names pass0 (eaC (eIx (eV (pv 1)) eI (fun _ _ => rfl)) eaN)))) (wOr (tNot_ (tTru (eCa c_L_goes_up hr rfl T.m_L_goes_up T.F_L_goes_up.kp T.b_L_goes_up pass0 (eaC (eIx (eV (pv 1)) eI (fun _ _ => rfl)) eaN)))) (pw_or1 (wIn (u65 hr) (eIx (eV (pv 1)) eI (fun _ _ => rfl)) (eIx (eV (pv 1)) eI (fun _ _ => rfl))))))) (bOne (iRet eB)) bNil) (bCons (iIf (tNot_ (tTru (eIsI .tup rfl T.z_isinstance rfl T.z_tuple boot_tuple_ (eIx (eV (pv 1)) eI (fun _ _ => rfl))))) (bOne (iRet eB)) bNil) (bOne (iFor (fun _ _ h => h.elim) rfl (eiA (eIx (eV (pv 1)) eI (fun _ _ => rfl))) (eG sc.nd rfl (by first | exact Or.inl rfl | exact Or.inr rfl)) (bCons (iIf (PW.pt (wOr (tNot_ (tTru (eIsI .tup rfl T.z_isinstance rfl T.z_tuple boot_tuple_ (eV (pv 2))))) (wOr (wNe (u64 hr) (bLen rfl T.z_len (eaC (eV (pv 2)) eaN)) eI) (pw_or1 (tNot_ (tTru (eIsI .bool rfl T.z_isinstance rfl T.z_bool boot_bool_ (eIx (eV (pv 2)) eI (fun _ _ => rfl))))))))) (bOne (iRet eB)) bNil) (bCons (iIf (PW.pt (wOr (tNot_ (tTru (eCa c_L_are_names hr rfl T.m_L_are_names T.F_L_are_names.kp T.b_L_are_names pass0 (eaC (eIx (eV (pv 2)) eI (fun _ _ => rfl)) eaN)))) (wOr (wEq (u64 hr) (eIx (eV (pv 2)) eI (fun _ _ => rfl)) (eTup eaN)) (pw_or1 (wIn (u65 hr) (eIx (eV (pv 1)) eI (fun _ _ => rfl)) (eIx (eV (pv 2)) eI (fun _ _ => rfl))))))) (bOne (iRet eB)) bNil) (bOne (iIf (wLt (eLenSet rfl rfl T.z_len rfl T.z_set (eIx (eV (pv 2)) eI (fun _ _ => rfl))) (bLen rfl T.z_len (eaC (eIx (eV (pv 2)) eI (fun _ _ => rfl)) eaN))) (bOne (iRet eB)) bNil)))))))))) (bOne (iRet (eCa c_L_goes_up hr rfl T.m_L_goes_up T.F_L_goes_up.kp T.b_L_goes_up pass0 (eaC (eLc (own := [("_law_dev", 1)]) fin_f rfl sc.nd (eiA (eV (pv 0))) (by exact blkOk_by (by kernel_rfl)) (fun _ _ _ _ _ => (eG sc.nd rfl (by first | exact Or.inl rfl | exact Or.inr rfl))) (fun _ _ _ _ _ => tsN) (fun _ _ _ _ _ => (eIx (eV (pv 1)) eI (fun _ _ => rfl)))) eaN)))))))
theorem sc_L_by_hand : FnScope ["_law_a", "_law_b", "_law_c", "_law_some_here", "_law_hopes", "_law_own", "_law_pool", "_law_sign"] [] (defScope (top 28)) := ⟨rfl, rfl, rfl, by decide +kernel, rfl, by decide +kernel, by decide +kernel⟩
theorem ok_L_by_hand (T : Tp K mg) : FnE P w K mg base CX0 c (k + 1) T.f_L_by_hand T.d_L_by_hand [] (m_L_by_hand) := by
  have sc := sc_L_by_hand
  exact FnE.cut (fn_ev T.F_L_by_hand sc_L_by_hand fun cdv A outer s H E hr => (bCons (iTT rfl (eaC (eTup (eaC eS (eaC (eTup eaN) (eaC (eTup eaN) eaN)))) (eaC (eTup (eaC eS (eaC (eTup (eaC eS eaN)) (eaC (eTup (eaC (eTup (eaC (eTup (eaC eS (eaC eS eaN))) (eaC eB eaN))) eaN)) eaN)))) eaN)) (eGsC (eG sc.nd rfl (by first | exact Or.inl rfl | exact Or.inr rfl)) (eGsC (eG sc.nd rfl (by first | exact Or.inl rfl | exact Or.inr rfl)) eGsN))) (bCons (iSet sc.nd rfl (by first | exact Or.inl rfl | exact Or.inr rfl) (eTup (eaC eS (eaC (eTup (eaC eS (eaC eS eaN))) (eaC (eTup (eaC (eTup (eaC (eTup (eaC eS eaN)) (eaC eB eaN))) (eaC (eTup (eaC (eTup (eaC eS eaN)) (eaC eB eaN))) eaN))) eaN))))) (bCons (iSet sc.nd rfl (by first | exact Or.inl rfl | exact Or.inr rfl) (eLstL (eaC (eTup eaN) (eaC (eTup (eaC (eV (pv 0)) eaN)) (eaC (eTup (eaC (eV (pv 0)) (eaC (eV (pv 1)) eaN))) (eaC (eTup (eaC (eV (pv 0)) (eaC (eV (pv 1)) (eaC (eV (pv 2)) eaN)))) (eaC (eTup (eaC (eV (pv 1)) (eaC (eV (pv 0)) eaN))) (eaC (eTup (eaC (eV (pv 0)) (eaC (eV (pv 0)) eaN))) (eaC (eTup (eaC (eV (pv 2)) eaN)) (eaC (eTup (eaC (eV (pv 0)) (eaC (eTup (eaC eS (eaC (eTup (eaC eS eaN)) (eaC (eTup eaN) eaN)))) eaN))) (eaC (eTup (eaC (eTup (eaC eS (eaC (eTup eaN) (eaC (eTup eaN) eaN)))) eaN)) eaN))))))))))) (bCons (iSet sc.nd rfl (by first | exact Or.inl rfl | exact Or.inr rfl) (eCatL (eV (pv 3)) (eLst (eaC (eTup (eaC (eTup (eaC eS (eaC (eTup eaN) (eaC (eTup eaN) eaN)))) eaN)) (eaC (eTup (eaC (eTup (eaC eS (eaC (eTup eaN) (eaC (eTup eaN) eaN)))) eaN)) (eaC (eTup (eaC (eTup (eaC eS (eaC (eTup eaN) (eaC (eTup eaN) eaN)))) eaN)) (eaC (eTup (eaC (eTup (eaC eS (eaC (eTup eaN) (eaC (eTup eaN) eaN)))) eaN)) eaN))))))) (bCons (iSet sc.nd rfl (by first | exact Or.inl rfl | exact Or.inr rfl) (eCatL (eV (pv 3)) (eLst (eaC (eTup (eaC (eTup (eaC eS (eaC (eTup eaN) (eaC (eTup eaN) (eaC (eTup eaN) eaN))))) eaN)) (eaC (eTup (eaC (eTup (eaC eS (eaC (eTup eaN) eaN))) eaN)) (eaC (eTup (eaC (eTup (eaC eI (eaC (eTup eaN) (eaC (eTup eaN) eaN)))) eaN)) (eaC (eTup (eaC (eTup (eaC eS (eaC (eTup (eaC eS eaN)) (eaC (eTup eaN) eaN)))) eaN)) (eaC (eTup (eaC (eTup (eaC eS (eaC (eTup (eaC eS (eaC eS eaN))) (eaC (eTup eaN) eaN)))) eaN)) eaN)))))))) (bCons (iSet sc.nd rfl (by first | exact Or.inl rfl | exact Or.inr rfl) (eCatL (eV (pv 3)) (eLst (eaC (eTup (eaC (eTup (eaC eS (eaC (eTup (eaC eS (eaC eS eaN))) (eaC (eTup eaN) eaN)))) eaN)) (eaC (eTup (eaC (eTup (eaC eS (eaC (eTup (eaC eS eaN)) (eaC (eTup eaN) eaN)))) eaN)) (eaC (eTup (eaC (eTup (eaC eS (eaC (eLst eaN) (eaC (eTup eaN) eaN)))) eaN)) (eaC (eTup (eaC (eTup (eaC eS (eaC (eTup (eaC eS eaN)) (eaC (eTup eaN) eaN)))) eaN)) eaN))))))) (bCons (iFor (fun _ _ h => h.elim) rfl (eiA (eLst (eaC (eTup (eaC (eTup (eaC (eTup (eaC eS eaN)) (eaC eB eaN))) eaN)) (eaC (eTup (eaC (eTup (eaC (eTup (eaC eS (eaC eS eaN))) (eaC eB eaN))) eaN)) (eaC (eTup (eaC (eTup (eaC (eTup eaN) (eaC eB eaN))) eaN)) (eaC (eTup (eaC (eTup (eaC (eTup (eaC eS eaN)) (eaC eI eaN))) eaN)) (eaC (eTup (eaC (eTup (eaC (eTup (eaC eS eaN)) (eaC eN eaN))) eaN)) eaN))))))) (eG sc.nd rfl (by first | exact Or.inl rfl | exact Or.inr rfl)) (bOne (iExpr (eM ok_app (pe_bm PySem.F.plainAttrs_list PySem.F.slot_list_append PySem.F.type_list_append mt_append (eV (pv 3)) (eaC (eTup (eaC (eTup (eaC eS (eaC (eTup eaN) (eaC (eV (pv 4)) eaN)))) eaN)) eaN)))))) (bCons (iFor (fun _ _ h => h.elim) rfl (eiA (eLst (eaC (eTup (eaC (eTup (eaC (eTup (eaC eS eaN)) eaN)) eaN)) (eaC (eTup (eaC (eTup (eaC eS (eaC eB eaN))) eaN)) (eaC (eTup (eaC (eTup (eaC (eLst (eaC eS eaN)) (eaC eB eaN))) eaN)) (eaC (eLst (eaC (eTup (eaC (eTup (eaC eS eaN)) (eaC eB eaN))) eaN)) (eaC (eTup (eaC eN eaN)) (eaC eN (eaC (eTup (eaC (eTup (eaC eS eaN)) (eaC eB eaN))) eaN))))))))) (eG sc.nd rfl (by first | exact Or.inl rfl | exact Or.inr rfl)) (bOne (iExpr (eM ok_app (pe_bm PySem.F.plainAttrs_list PySem.F.slot_list_append PySem.F.type_list_append mt_append (eV (pv 3)) (eaC (eTup (eaC (eTup (eaC eS (eaC (eTup eaN) (eaC (eV (pv 4)) eaN)))) eaN)) eaN)))))) (bCons (iSet sc.nd rfl (by first | exact Or.inl rfl | exact Or.inr rfl) (eCatL (eV (pv 3)) (eLst (eaC (eTup (eaC eN eaN)) (eaC (eTup (eaC (eTup eaN) eaN)) (eaC eN (eaC eI (eaC eS (eaC eS (eaC eB (eaC (eLst eaN) (eaC (eLst (eaC (eV (pv 0)) eaN)) (eaC (eTup (eaC (eLst (eaC eS (eaC (eTup eaN) (eaC (eTup eaN) eaN)))) eaN)) (eaC (eV (pv 0)) (eaC (eTup (eaC (eV (pv 0)) (eaC eN eaN))) (eaC (eTup (eaC (eTup (eaC eS (eaC eS (eaC (eTup eaN) eaN)))) eaN)) eaN)))))))))))))))) (bCons (iSet sc.nd rfl (by first | exact Or.inl rfl | exact Or.inr rfl) (eCatL (eV (pv 3)) (eLst (eaC (eTup (eaC (eTup (eaC eS (eaC (eTup eaN) (eaC (eTup (eaC (eTup (eaC (eTup (eaC eS (eaC eS eaN))) (eaC eB eaN))) (eaC (eTup (eaC (eTup (eaC eS (eaC eS eaN))) (eaC eB eaN))) eaN))) eaN)))) eaN)) (eaC (eTup (eaC (eTup (eaC eS (eaC (eTup (eaC eS eaN)) (eaC (eTup (eaC (eTup (eaC (eTup (eaC eS eaN)) (eaC eB eaN))) eaN)) eaN)))) eaN)) eaN))))) (bCons (iExpr (eM ok_app (pe_bm PySem.F.plainAttrs_list PySem.F.slot_list_append PySem.F.type_list_append mt_append (eV (pv 3)) (eaC (eTup (eaC (eTup (eaC eS (eaC (eTup (eaC eS (eaC eS (eaC eS (eaC eS eaN))))) (eaC (eTup (eaC (eTup (eaC (eTup (eaC eS (eaC eS (eaC eS (eaC eS eaN))))) (eaC eB eaN))) (eaC (eTup (eaC (eTup (eaC eS eaN)) (eaC eB eaN))) (eaC (eTup (eaC (eTup (eaC eS eaN)) (eaC eB eaN))) eaN)))) eaN)))) eaN)) eaN)))) (bCons (iSet sc.nd rfl (by first | exact Or.inl rfl | exact Or.inr rfl) (eCatL (eV (pv 3)) (eLc (own := [("_law_own", 5)]) fin_f rfl sc.nd (eiA (eTup (eaC eS (eaC eS (eaC eS (eaC eS (eaC eS (eaC eS (eaC eS eaN))))))))) (by exact blkOk_by (by kernel_rfl)) (fun _ _ _ _ _ => (eG sc.nd rfl (by first | exact Or.inl rfl | exact Or.inr rfl))) (fun _ _ _ _ _ => tsN) (fun _ _ _ _ _ => (eTup (eaC (eTup (eaC (eV (pv 5)) (eaC (eTup eaN) (eaC (eTup eaN) eaN)))) eaN)))))) (bCons (iFor (fun _ _ h => h.elim) rfl (eiA (eTup (eaC eS (eaC eS (eaC eS eaN))))) (eG sc.nd rfl (by first | exact Or.inl rfl | exact Or.inr rfl)) (bOne (iSet sc.nd rfl (by first | exact Or.inl rfl | exact Or.inr rfl) (eCatL (eV (pv 3)) (eLst (eaC (eTup (eaC (eTup (eaC eS (eaC (eTup (eaC (eV (pv 5)) eaN)) (eaC (eTup eaN) eaN)))) eaN)) (eaC (eTup (eaC (eTup (eaC eS (eaC (eTup eaN) (eaC (eTup (eaC (eTup (eaC (eTup (eaC (eV (pv 5)) eaN)) (eaC eB eaN))) eaN)) eaN)))) eaN)) eaN))))))) (bCons (iSet sc.nd rfl (by first | exact Or.inl rfl | exact Or.inr rfl) eS) (bOne (iRet (eCatF (eV (pv 3)) (eLst (eaC (bTuple rfl T.z_tuple (eaC (eLc (own := [("_law_sign", 7)]) fin_f rfl sc.nd (eiA (eV (pv 6))) (by exact blkOk_by (by kernel_rfl)) (fun _ _ _ _ _ => (eG sc.nd rfl (by first | exact Or.inl rfl | exact Or.inr rfl))) (fun _ _ _ _ _ => tsN) (fun _ _ _ _ _ => (eTup (eaC (eAdd (eV (pv 7)) eS) (eaC (eTup eaN) (eaC (eTup eaN) eaN)))))) eaN)) (eaC (bTuple rfl T.z_tuple (eaC (eLc (own := [("_law_sign", 7)]) fin_f rfl sc.nd (eiA (eRev (eV (pv 6)))) (by exact blkOk_by (by kernel_rfl)) (fun _ _ _ _ _ => (eG sc.nd rfl (by first | exact Or.inl rfl | exact Or.inr rfl))) (fun _ _ _ _ _ => tsN) (fun _ _ _ _ _ => (eTup (eaC (eV (pv 7)) (eaC (eTup eaN) (eaC (eTup eaN) eaN)))))) eaN)) eaN)))))))))))))))))))))
theorem sc_L_right : FnScope ["_law_box_here", "_law_deep", "_law_turn_so", "_law_some_here", "_law_net", "_law_more", "_law_again_so", "_law_part", "_law_was", "_law_due"] ["_law_box_here"] (defScope (top 29)) := ⟨rfl, rfl, rfl, by decide +kernel, rfl, by decide +kernel, by decide +kernel⟩
theorem ok_L_right (T : Tp K mg) (c_P_is_world : FnE P w K mg base CX0 c k T.f_P_is_world T.d_P_is_world ["thing"] m_P_is_world) (c_L_of : FnE P w K mg base CX0 c k T.f_L_of T.d_L_of ["_law_box_here", "_law_some_here"] m_L_of) (c_L_lists : FnE P w K mg base CX0 c k T.f_L_lists T.d_L_lists ["_law_matter"] (m_L_lists 16)) (c_L_same : FnE P w K mg base CX0 c k T.f_L_same T.d_L_same ["_law_got", "_law_due"] (m_L_same 4)) (c_L_world : FnE P w K mg base CX0 c k T.f_L_world T.d_L_world ["_law_box_here", "_law_many_so", "_law_musts"] m_L_world) (c_L_bent : FnE P w K mg base CX0 c k T.f_L_bent T.d_L_bent ["_law_box_here", "_law_part", "_law_more"] (m_L_bent 20)) (c_L_is_whole : FnE P w K mg base CX0 c k T.f_L_is_whole T.d_L_is_whole ["_law_matter"] m_L_is_whole) (c_L_by_hand : FnE P w K mg base CX0 c k T.f_L_by_hand T.d_L_by_hand [] m_L_by_hand) : FnEG P w K mg base c (k + 1) T.f_L_right T.d_L_right ["_law_box_here"] (m_L_right) := by
  have sc := sc_L_right
  exact FnEG.cut (fn_evG T.F_L_right sc_L_right fun cdv A outer s H E hgd hr => (bCons (iSet sc.nd rfl (by first | exact Or.inl rfl | exact Or.inr rfl) eS) (bCons (iFor (fun _ _ h => h.elim) rfl (eiR1 rfl T.z_range eI) (eG sc.nd rfl (by first | exact Or.inl rfl | exact Or.inr rfl)) (bOne (iSet sc.nd rfl (by first | exact Or.inl rfl | exact Or.inr rfl) (eTup (eaC (eV (pv 1)) eaN))))) (bCons (iSet sc.nd rfl (by first | exact Or.inl rfl | exact Or.inr rfl) (eAdd (eCall0 c_L_by_hand hr rfl T.m_L_by_hand T.F_L_by_hand.kp T.b_L_by_hand pass0) (eLst (eaC (eV (pv 1)) eaN)))) (bCons (iFor (fun _ _ h => h.elim) rfl (eiR1 rfl T.z_range eI) (eG sc.nd rfl (by first | exact Or.inl rfl | exact Or.inr rfl)) (bCons (iSet sc.nd rfl (by first | exact Or.inl rfl | exact Or.inr rfl) (eCa c_L_world hr rfl T.m_L_world T.F_L_world.kp T.b_L_world pass0 (eaC (eV (pv 0)) (eaC (eCa c_L_of hr rfl T.m_L_of T.F_L_of.kp T.b_L_of pass0 (eaC (eV (pv 0)) (eaC (eLst (eaC eI (eaC eI (eaC eI (eaC eI (eaC eI eaN)))))) eaN))) (eaC eB eaN))))) (bCons (iSet sc.nd rfl (by first | exact Or.inl rfl | exact Or.inr rfl) (eAdd (eV (pv 3)) (eLst (eaC (eV (pv 4)) (eaC (eCa c_L_lists hr rfl T.m_L_lists T.F_L_lists.kp T.b_L_lists pass0 (eaC (eV (pv 4)) eaN)) (eaC (bListF rfl T.z_list (eaC (eV (pv 4)) eaN)) (eaC (eRev (eV (pv 4))) (eaC (eSl (eV (pv 4)) (pS eI) pN) (eaC (eAdd (eV (pv 4)) (eSl (eV (pv 4)) (pS (eNeg eI)) pN)) eaN))))))))) (bCons (iSet sc.nd rfl (by first | exact Or.inl rfl | exact Or.inr rfl) (eLst (eaC (eTup (eaC eS (eaC (eTup eaN) (eaC (eTup eaN) eaN)))) (eaC (eTup (eaC (eTup (eaC (eTup (eaC eS (eaC eS eaN))) (eaC eB eaN))) eaN)) (eaC (eTup (eaC (eTup (eaC eS eaN)) (eaC eB eaN))) (eaC (eIx (eIx (eV (pv 4)) eI (fun _ _ => rfl)) eI (fun _ _ => rfl)) eaN)))))) (bOne (iFor (fun _ _ h => h.elim) rfl (eiR1 rfl T.z_range eI) (eG sc.nd rfl (by first | exact Or.inl rfl | exact Or.inr rfl)) (bCons (iSet sc.nd rfl (by first | exact Or.inl rfl | exact Or.inr rfl) (eCa c_L_bent hr rfl T.m_L_bent T.F_L_bent.kp T.b_L_bent pass0 (eaC (eV (pv 0)) (eaC (eV (pv 4)) (eaC (eV (pv 5)) eaN))))) (bOne (iSet sc.nd rfl (by first | exact Or.inl rfl | exact Or.inr rfl) (eAdd (eV (pv 3)) (eLst (eaC (eV (pv 7)) (eaC (eCa c_L_bent hr rfl T.m_L_bent T.F_L_bent.kp T.b_L_bent pass0 (eaC (eV (pv 0)) (eaC (eV (pv 7)) (eaC (eV (pv 5)) eaN)))) eaN))))))))))))) (bCons (iFor (fun _ _ h => h.elim) rfl (eiA (eV (pv 3))) (eG sc.nd rfl (by first | exact Or.inl rfl | exact Or.inr rfl)) (bCons (iPar rfl sc.nd rfl rfl (by decide) rfl rfl (eaC (bRepr rfl T.z_repr hgd (u80 hr) (eaC (eV (pv 7)) eaN)) (eaC (eCa c_L_is_whole hr rfl T.m_L_is_whole T.F_L_is_whole.kp T.b_L_is_whole pass0 (eaC (eV (pv 7)) eaN)) eaN)) rfl) (bOne (iIf (PW.pt (wOr (tNot_ (tTru (eCa c_L_same hr rfl T.m_L_same T.F_L_same.kp T.b_L_same pass0 (eaC (eLst (eaC (eCa c_P_is_world hr rfl T.m_P_is_world T.F_P_is_world.kp T.b_P_is_world pass0 (eaC (eV (pv 7)) eaN)) (eaC (eCaK0 (a := 0) (b := 1) (ix := [0]) c_P_is_world hr rfl T.m_P_is_world T.F_P_is_world.kp T.kb_P_is_world_0_thing pass0 (ekC (eV (pv 7)) ekN)) eaN))) (eaC (eLst (eaC (eV (pv 9)) (eaC (eV (pv 9)) eaN))) eaN))))) (pw_or1 (wNe (u64 hr) (bRepr rfl T.z_repr hgd (u80 hr) (eaC (eV (pv 7)) eaN)) (eV (pv 8)))))) (bOne (iRet eB)) bNil)))) (bOne (iRet eB))))))))
theorem sc_L_law : FnScope ["_law_script", "_law_cells_here", "_law_k"] ["_law_script"] (defScope (top 30)) := ⟨rfl, rfl, rfl, by decide +kernel, rfl, by decide +kernel, by decide +kernel⟩
theorem ok_L_law (T : Tp K mg) (c_L_box : FnE P w K mg base CX0 c k T.f_L_box T.d_L_box ["_law_script", "_law_k"] m_L_box) (c_L_cells : FnE P w K mg base CX0 c k T.f_L_cells T.d_L_cells ["_law_script", "_law_most"] m_L_cells) (c_L_right : FnEG P w K mg base c k T.f_L_right T.d_L_right ["_law_box_here"] m_L_right) : FnEG P w K mg base c (k + 1) T.f_L_law T.d_L_law ["_law_script"] (m_L_law) := by
  have sc := sc_L_law
  exact FnEG.cut (fn_evG T.F_L_law sc_L_law fun cdv A outer s H E hgd hr => (bCons (iSet sc.nd rfl (by first | exact Or.inl rfl | exact Or.inr rfl) (eCa c_L_cells hr rfl T.m_L_cells T.F_L_cells.kp T.b_L_cells pass0 (eaC (eV (pv 0)) (eaC eI eaN)))) (bOne (iRet (bAll rfl T.z_all rfl (eaC (eLc (own := [("_law_k", 2)]) fin_f rfl sc.nd (eiR1 rfl T.z_range (bLen rfl T.z_len (eaC (eV (pv 1)) eaN))) (by exact blkOk_by (by kernel_rfl)) (fun _ _ _ _ _ => (eG sc.nd rfl (by first | exact Or.inl rfl | exact Or.inr rfl))) (fun _ _ _ _ _ => tsN) (fun _ _ _ _ _ => (eCaG c_L_right hgd hr rfl T.m_L_right T.F_L_right.kp T.b_L_right pass0 (eaC (eCa c_L_box hr rfl T.m_L_box T.F_L_box.kp T.b_L_box pass0 (eaC (eV (pv 1)) (eaC (eV (pv 2)) eaN))) eaN)))) eaN))))))
theorem ok_all_ (T : Tp K mg) : FnEG P w K mg base c 24 T.f_L_law T.d_L_law ["_law_script"] m_L_law := by
  have h_P_is_name := ok_P_is_name (P := P) (w := w) (base := base) (c := c) (k := 0) T 
  have h_P_is_tuple := ok_P_is_tuple (P := P) (w := w) (base := base) (c := c) (k := 0) T 
  have h_P_are_names := ok_P_are_names (P := P) (w := w) (base := base) (c := c) (k := 1) T (FnOk.mono h_P_is_name (by decide))
  have h_P_rises := ok_P_rises (P := P) (w := w) (base := base) (c := c) (k := 0) T 
  have h_P_is_wish := ok_P_is_wish (P := P) (w := w) (base := base) (c := c) (k := 2) T (FnOk.mono h_P_is_tuple (by decide)) (FnOk.mono h_P_are_names (by decide))
  have h_P_is_device := ok_P_is_device (P := P) (w := w) (base := base) (c := c) (k := 3) T (FnOk.mono h_P_is_name (by decide)) (FnOk.mono h_P_is_tuple (by decide)) (FnOk.mono h_P_are_names (by decide)) (FnOk.mono h_P_rises (by decide)) (FnOk.mono h_P_is_wish (by decide))
  have h_P_is_world := ok_P_is_world (P := P) (w := w) (base := base) (c := c) (k := 4) T (FnOk.mono h_P_rises (by decide)) (FnOk.mono h_P_is_device (by decide))
  have h_L_box := ok_L_box (P := P) (w := w) (base := base) (c := c) (k := 0) T 
  have h_L_take := ok_L_take (P := P) (w := w) (base := base) (c := c) (k := 0) T 
  have h_L_cells := ok_L_cells (P := P) (w := w) (base := base) (c := c) (k := 0) T 
  have h_L_of := ok_L_of (P := P) (w := w) (base := base) (c := c) (k := 1) T (FnOk.mono h_L_take (by decide))
  have h_L_lists : FnE P w K mg base CX0 c (16 + 0) T.f_L_lists T.d_L_lists ["_law_matter"] (m_L_lists 16) := FnE.rec_ 0 (fun k m hk ih => ok_L_lists T ih) 16
  have h_L_same : FnE P w K mg base CX0 c (4 + 0) T.f_L_same T.d_L_same ["_law_got", "_law_due"] (m_L_same 4) := FnE.rec_ 0 (fun k m hk ih => ok_L_same T ih) 4
  have h_L_names := ok_L_names (P := P) (w := w) (base := base) (c := c) (k := 1) T (FnOk.mono h_L_take (by decide))
  have h_L_some := ok_L_some (P := P) (w := w) (base := base) (c := c) (k := 1) T (FnOk.mono h_L_take (by decide))
  have h_L_world := ok_L_world (P := P) (w := w) (base := base) (c := c) (k := 2) T (FnOk.mono h_L_take (by decide)) (FnOk.mono h_L_of (by decide)) (FnOk.mono h_L_names (by decide)) (FnOk.mono h_L_some (by decide))
  have h_L_bent : FnE P w K mg base CX0 c (20 + 2) T.f_L_bent T.d_L_bent ["_law_box_here", "_law_part", "_law_more"] (m_L_bent 20) := FnE.rec_ 2 (fun k m hk ih => ok_L_bent T (FnOk.mono h_L_take (by omega)) (FnOk.mono h_L_of (by omega)) ih) 20
  have h_L_is_name := ok_L_is_name (P := P) (w := w) (base := base) (c := c) (k := 0) T 
  have h_L_are_names := ok_L_are_names (P := P) (w := w) (base := base) (c := c) (k := 1) T (FnOk.mono h_L_is_name (by decide))
  have h_L_goes_up := ok_L_goes_up (P := P) (w := w) (base := base) (c := c) (k := 0) T 
  have h_L_is_whole := ok_L_is_whole (P := P) (w := w) (base := base) (c := c) (k := 2) T (FnOk.mono h_L_is_name (by decide)) (FnOk.mono h_L_are_names (by decide)) (FnOk.mono h_L_goes_up (by decide))
  have h_L_by_hand := ok_L_by_hand (P := P) (w := w) (base := base) (c := c) (k := 0) T 
  have h_L_right := ok_L_right (P := P) (w := w) (base := base) (c := c) (k := 22) T (FnOk.mono h_P_is_world (by decide)) (FnOk.mono h_L_of (by decide)) (FnOk.mono h_L_lists (by decide)) (FnOk.mono h_L_same (by decide)) (FnOk.mono h_L_world (by decide)) (FnOk.mono h_L_bent (by decide)) (FnOk.mono h_L_is_whole (by decide)) (FnOk.mono h_L_by_hand (by decide))
  have h_L_law := ok_L_law (P := P) (w := w) (base := base) (c := c) (k := 23) T (FnOk.mono h_L_box (by decide)) (FnOk.mono h_L_cells (by decide)) (FnG.mono h_L_right (by decide))
  exact h_L_law
theorem mk_ {h : Heap} (X : K.In h) (G : h.Ns mainGlobals mg)
    {f0 : Addr} {od0 an0 : Option Addr} {sl0 : Array (Option Value)} {oc0 kV0 dc0 pm0 cd0 ct0 : Value} (a0 : PySem.W.nsIn K mainGlobals "is_name" = some (some (.ref f0))) (l0 : K.lookup f0 = some ⟨oc0, od0, .func (PySem.W.fnOf "is_name" "is_name" (defArgs (top 3)) (defBody (top 3)) (defScope (top 3)) .none kV0 dc0 pm0 an0 cd0 ct0), sl0⟩) (c0 : PySem.W.codeIn K cd0 "is_name" = true) (k0 : PySem.W.keepIn K (.ref f0) = true)
    {f1 : Addr} {od1 an1 : Option Addr} {sl1 : Array (Option Value)} {oc1 kV1 dc1 pm1 cd1 ct1 : Value} (a1 : PySem.W.nsIn K mainGlobals "is_tuple" = some (some (.ref f1))) (l1 : K.lookup f1 = some ⟨oc1, od1, .func (PySem.W.fnOf "is_tuple" "is_tuple" (defArgs (top 4)) (defBody (top 4)) (defScope (top 4)) .none kV1 dc1 pm1 an1 cd1 ct1), sl1⟩) (c1 : PySem.W.codeIn K cd1 "is_tuple" = true) (k1 : PySem.W.keepIn K (.ref f1) = true)
    {f2 : Addr} {od2 an2 : Option Addr} {sl2 : Array (Option Value)} {oc2 kV2 dc2 pm2 cd2 ct2 : Value} (a2 : PySem.W.nsIn K mainGlobals "are_names" = some (some (.ref f2))) (l2 : K.lookup f2 = some ⟨oc2, od2, .func (PySem.W.fnOf "are_names" "are_names" (defArgs (top 5)) (defBody (top 5)) (defScope (top 5)) .none kV2 dc2 pm2 an2 cd2 ct2), sl2⟩) (c2 : PySem.W.codeIn K cd2 "are_names" = true) (k2 : PySem.W.keepIn K (.ref f2) = true)
    {f3 : Addr} {od3 an3 : Option Addr} {sl3 : Array (Option Value)} {oc3 kV3 dc3 pm3 cd3 ct3 : Value} (a3 : PySem.W.nsIn K mainGlobals "rises" = some (some (.ref f3))) (l3 : K.lookup f3 = some ⟨oc3, od3, .func (PySem.W.fnOf "rises" "rises" (defArgs (top 6)) (defBody (top 6)) (defScope (top 6)) .none kV3 dc3 pm3 an3 cd3 ct3), sl3⟩) (c3 : PySem.W.codeIn K cd3 "rises" = true) (k3 : PySem.W.keepIn K (.ref f3) = true)
    {f4 : Addr} {od4 an4 : Option Addr} {sl4 : Array (Option Value)} {oc4 kV4 dc4 pm4 cd4 ct4 : Value} (a4 : PySem.W.nsIn K mainGlobals "is_wish" = some (some (.ref f4))) (l4 : K.lookup f4 = some ⟨oc4, od4, .func (PySem.W.fnOf "is_wish" "is_wish" (defArgs (top 10)) (defBody (top 10)) (defScope (top 10)) .none kV4 dc4 pm4 an4 cd4 ct4), sl4⟩) (c4 : PySem.W.codeIn K cd4 "is_wish" = true) (k4 : PySem.W.keepIn K (.ref f4) = true)
    {f5 : Addr} {od5 an5 : Option Addr} {sl5 : Array (Option Value)} {oc5 kV5 dc5 pm5 cd5 ct5 : Value} (a5 : PySem.W.nsIn K mainGlobals "is_device" = some (some (.ref f5))) (l5 : K.lookup f5 = some ⟨oc5, od5, .func (PySem.W.fnOf "is_device" "is_device" (defArgs (top 11)) (defBody (top 11)) (defScope (top 11)) .none kV5 dc5 pm5 an5 cd5 ct5), sl5⟩) (c5 : PySem.W.codeIn K cd5 "is_device" = true) (k5 : PySem.W.keepIn K (.ref f5) = true)
    {f6 : Addr} {od6 an6 : Option Addr} {sl6 : Array (Option Value)} {oc6 kV6 dc6 pm6 cd6 ct6 : Value} (a6 : PySem.W.nsIn K mainGlobals "is_world" = some (some (.ref f6))) (l6 : K.lookup f6 = some ⟨oc6, od6, .func (PySem.W.fnOf "is_world" "is_world" (defArgs (top 12)) (defBody (top 12)) (defScope (top 12)) .none kV6 dc6 pm6 an6 cd6 ct6), sl6⟩) (c6 : PySem.W.codeIn K cd6 "is_world" = true) (k6 : PySem.W.keepIn K (.ref f6) = true)
    {f7 : Addr} {od7 an7 : Option Addr} {sl7 : Array (Option Value)} {oc7 kV7 dc7 pm7 cd7 ct7 : Value} (a7 : PySem.W.nsIn K mainGlobals "_law_box" = some (some (.ref f7))) (l7 : K.lookup f7 = some ⟨oc7, od7, .func (PySem.W.fnOf "_law_box" "_law_box" (defArgs (top 14)) (defBody (top 14)) (defScope (top 14)) .none kV7 dc7 pm7 an7 cd7 ct7), sl7⟩) (c7 : PySem.W.codeIn K cd7 "_law_box" = true) (k7 : PySem.W.keepIn K (.ref f7) = true)
    {f8 : Addr} {od8 an8 : Option Addr} {sl8 : Array (Option Value)} {oc8 kV8 dc8 pm8 cd8 ct8 : Value} (a8 : PySem.W.nsIn K mainGlobals "_law_take" = some (some (.ref f8))) (l8 : K.lookup f8 = some ⟨oc8, od8, .func (PySem.W.fnOf "_law_take" "_law_take" (defArgs (top 15)) (defBody (top 15)) (defScope (top 15)) .none kV8 dc8 pm8 an8 cd8 ct8), sl8⟩) (c8 : PySem.W.codeIn K cd8 "_law_take" = true) (k8 : PySem.W.keepIn K (.ref f8) = true)
    {f9 : Addr} {od9 an9 : Option Addr} {sl9 : Array (Option Value)} {oc9 kV9 dc9 pm9 cd9 ct9 : Value} (a9 : PySem.W.nsIn K mainGlobals "_law_cells" = some (some (.ref f9))) (l9 : K.lookup f9 = some ⟨oc9, od9, .func (PySem.W.fnOf "_law_cells" "_law_cells" (defArgs (top 16)) (defBody (top 16)) (defScope (top 16)) .none kV9 dc9 pm9 an9 cd9 ct9), sl9⟩) (c9 : PySem.W.codeIn K cd9 "_law_cells" = true) (k9 : PySem.W.keepIn K (.ref f9) = true)
    {f10 : Addr} {od10 an10 : Option Addr} {sl10 : Array (Option Value)} {oc10 kV10 dc10 pm10 cd10 ct10 : Value} (a10 : PySem.W.nsIn K mainGlobals "_law_of" = some (some (.ref f10))) (l10 : K.lookup f10 = some ⟨oc10, od10, .func (PySem.W.fnOf "_law_of" "_law_of" (defArgs (top 17)) (defBody (top 17)) (defScope (top 17)) .none kV10 dc10 pm10 an10 cd10 ct10), sl10⟩) (c10 : PySem.W.codeIn K cd10 "_law_of" = true) (k10 : PySem.W.keepIn K (.ref f10) = true)
    {f11 : Addr} {od11 an11 : Option Addr} {sl11 : Array (Option Value)} {oc11 kV11 dc11 pm11 cd11 ct11 : Value} (a11 : PySem.W.nsIn K mainGlobals "_law_lists" = some (some (.ref f11))) (l11 : K.lookup f11 = some ⟨oc11, od11, .func (PySem.W.fnOf "_law_lists" "_law_lists" (defArgs (top 18)) (defBody (top 18)) (defScope (top 18)) .none kV11 dc11 pm11 an11 cd11 ct11), sl11⟩) (c11 : PySem.W.codeIn K cd11 "_law_lists" = true) (k11 : PySem.W.keepIn K (.ref f11) = true)
    {f12 : Addr} {od12 an12 : Option Addr} {sl12 : Array (Option Value)} {oc12 kV12 dc12 pm12 cd12 ct12 : Value} (a12 : PySem.W.nsIn K mainGlobals "_law_same" = some (some (.ref f12))) (l12 : K.lookup f12 = some ⟨oc12, od12, .func (PySem.W.fnOf "_law_same" "_law_same" (defArgs (top 19)) (defBody (top 19)) (defScope (top 19)) .none kV12 dc12 pm12 an12 cd12 ct12), sl12⟩) (c12 : PySem.W.codeIn K cd12 "_law_same" = true) (k12 : PySem.W.keepIn K (.ref f12) = true)
    {f13 : Addr} {od13 an13 : Option Addr} {sl13 : Array (Option Value)} {oc13 kV13 dc13 pm13 cd13 ct13 : Value} (a13 : PySem.W.nsIn K mainGlobals "_law_names" = some (some (.ref f13))) (l13 : K.lookup f13 = some ⟨oc13, od13, .func (PySem.W.fnOf "_law_names" "_law_names" (defArgs (top 20)) (defBody (top 20)) (defScope (top 20)) .none kV13 dc13 pm13 an13 cd13 ct13), sl13⟩) (c13 : PySem.W.codeIn K cd13 "_law_names" = true) (k13 : PySem.W.keepIn K (.ref f13) = true)
    {f14 : Addr} {od14 an14 : Option Addr} {sl14 : Array (Option Value)} {oc14 kV14 dc14 pm14 cd14 ct14 : Value} (a14 : PySem.W.nsIn K mainGlobals "_law_some" = some (some (.ref f14))) (l14 : K.lookup f14 = some ⟨oc14, od14, .func (PySem.W.fnOf "_law_some" "_law_some" (defArgs (top 21)) (defBody (top 21)) (defScope (top 21)) .none kV14 dc14 pm14 an14 cd14 ct14), sl14⟩) (c14 : PySem.W.codeIn K cd14 "_law_some" = true) (k14 : PySem.W.keepIn K (.ref f14) = true)
    {f15 : Addr} {od15 an15 : Option Addr} {sl15 : Array (Option Value)} {oc15 kV15 dc15 pm15 cd15 ct15 : Value} (a15 : PySem.W.nsIn K mainGlobals "_law_world" = some (some (.ref f15))) (l15 : K.lookup f15 = some ⟨oc15, od15, .func (PySem.W.fnOf "_law_world" "_law_world" (defArgs (top 22)) (defBody (top 22)) (defScope (top 22)) .none kV15 dc15 pm15 an15 cd15 ct15), sl15⟩) (c15 : PySem.W.codeIn K cd15 "_law_world" = true) (k15 : PySem.W.keepIn K (.ref f15) = true)
    {f16 : Addr} {od16 an16 : Option Addr} {sl16 : Array (Option Value)} {oc16 kV16 dc16 pm16 cd16 ct16 : Value} (a16 : PySem.W.nsIn K mainGlobals "_law_bent" = some (some (.ref f16))) (l16 : K.lookup f16 = some ⟨oc16, od16, .func (PySem.W.fnOf "_law_bent" "_law_bent" (defArgs (top 23)) (defBody (top 23)) (defScope (top 23)) .none kV16 dc16 pm16 an16 cd16 ct16), sl16⟩) (c16 : PySem.W.codeIn K cd16 "_law_bent" = true) (k16 : PySem.W.keepIn K (.ref f16) = true)
    {f17 : Addr} {od17 an17 : Option Addr} {sl17 : Array (Option Value)} {oc17 kV17 dc17 pm17 cd17 ct17 : Value} (a17 : PySem.W.nsIn K mainGlobals "_law_is_name" = some (some (.ref f17))) (l17 : K.lookup f17 = some ⟨oc17, od17, .func (PySem.W.fnOf "_law_is_name" "_law_is_name" (defArgs (top 24)) (defBody (top 24)) (defScope (top 24)) .none kV17 dc17 pm17 an17 cd17 ct17), sl17⟩) (c17 : PySem.W.codeIn K cd17 "_law_is_name" = true) (k17 : PySem.W.keepIn K (.ref f17) = true)
    {f18 : Addr} {od18 an18 : Option Addr} {sl18 : Array (Option Value)} {oc18 kV18 dc18 pm18 cd18 ct18 : Value} (a18 : PySem.W.nsIn K mainGlobals "_law_are_names" = some (some (.ref f18))) (l18 : K.lookup f18 = some ⟨oc18, od18, .func (PySem.W.fnOf "_law_are_names" "_law_are_names" (defArgs (top 25)) (defBody (top 25)) (defScope (top 25)) .none kV18 dc18 pm18 an18 cd18 ct18), sl18⟩) (c18 : PySem.W.codeIn K cd18 "_law_are_names" = true) (k18 : PySem.W.keepIn K (.ref f18) = true)
    {f19 : Addr} {od19 an19 : Option Addr} {sl19 : Array (Option Value)} {oc19 kV19 dc19 pm19 cd19 ct19 : Value} (a19 : PySem.W.nsIn K mainGlobals "_law_goes_up" = some (some (.ref f19))) (l19 : K.lookup f19 = some ⟨oc19, od19, .func (PySem.W.fnOf "_law_goes_up" "_law_goes_up" (defArgs (top 26)) (defBody (top 26)) (defScope (top 26)) .none kV19 dc19 pm19 an19 cd19 ct19), sl19⟩) (c19 : PySem.W.codeIn K cd19 "_law_goes_up" = true) (k19 : PySem.W.keepIn K (.ref f19) = true)
    {f20 : Addr} {od20 an20 : Option Addr} {sl20 : Array (Option Value)} {oc20 kV20 dc20 pm20 cd20 ct20 : Value} (a20 : PySem.W.nsIn K mainGlobals "_law_is_whole" = some (some (.ref f20))) (l20 : K.lookup f20 = some ⟨oc20, od20, .func (PySem.W.fnOf "_law_is_whole" "_law_is_whole" (defArgs (top 27)) (defBody (top 27)) (defScope (top 27)) .none kV20 dc20 pm20 an20 cd20 ct20), sl20⟩) (c20 : PySem.W.codeIn K cd20 "_law_is_whole" = true) (k20 : PySem.W.keepIn K (.ref f20) = true)
    {f21 : Addr} {od21 an21 : Option Addr} {sl21 : Array (Option Value)} {oc21 kV21 dc21 pm21 cd21 ct21 : Value} (a21 : PySem.W.nsIn K mainGlobals "_law_by_hand" = some (some (.ref f21))) (l21 : K.lookup f21 = some ⟨oc21, od21, .func (PySem.W.fnOf "_law_by_hand" "_law_by_hand" (defArgs (top 28)) (defBody (top 28)) (defScope (top 28)) .none kV21 dc21 pm21 an21 cd21 ct21), sl21⟩) (c21 : PySem.W.codeIn K cd21 "_law_by_hand" = true) (k21 : PySem.W.keepIn K (.ref f21) = true)
    {f22 : Addr} {od22 an22 : Option Addr} {sl22 : Array (Option Value)} {oc22 kV22 dc22 pm22 cd22 ct22 : Value} (a22 : PySem.W.nsIn K mainGlobals "_law_right" = some (some (.ref f22))) (l22 : K.lookup f22 = some ⟨oc22, od22, .func (PySem.W.fnOf "_law_right" "_law_right" (defArgs (top 29)) (defBody (top 29)) (defScope (top 29)) .none kV22 dc22 pm22 an22 cd22 ct22), sl22⟩) (c22 : PySem.W.codeIn K cd22 "_law_right" = true) (k22 : PySem.W.keepIn K (.ref f22) = true)
    {f23 : Addr} {od23 an23 : Option Addr} {sl23 : Array (Option Value)} {oc23 kV23 dc23 pm23 cd23 ct23 : Value} (a23 : PySem.W.nsIn K mainGlobals "law" = some (some (.ref f23))) (l23 : K.lookup f23 = some ⟨oc23, od23, .func (PySem.W.fnOf "law" "law" (defArgs (top 30)) (defBody (top 30)) (defScope (top 30)) .none kV23 dc23 pm23 an23 cd23 ct23), sl23⟩) (c23 : PySem.W.codeIn K cd23 "law" = true) (k23 : PySem.W.keepIn K (.ref f23) = true)
    (z_abs : PySem.W.nsIn K mainGlobals "abs" = some none) (z_all : PySem.W.nsIn K mainGlobals "all" = some none) (z_bool : PySem.W.nsIn K mainGlobals "bool" = some none) (z_dict : PySem.W.nsIn K mainGlobals "dict" = some none) (z_enumerate : PySem.W.nsIn K mainGlobals "enumerate" = some none) (z_int : PySem.W.nsIn K mainGlobals "int" = some none) (z_isinstance : PySem.W.nsIn K mainGlobals "isinstance" = some none) (z_len : PySem.W.nsIn K mainGlobals "len" = some none) (z_list : PySem.W.nsIn K mainGlobals "list" = some none) (z_min : PySem.W.nsIn K mainGlobals "min" = some none) (z_range : PySem.W.nsIn K mainGlobals "range" = some none) (z_repr : PySem.W.nsIn K mainGlobals "repr" = some none) (z_set : PySem.W.nsIn K mainGlobals "set" = some none) (z_sorted : PySem.W.nsIn K mainGlobals "sorted" = some none) (z_str : PySem.W.nsIn K mainGlobals "str" = some none) (z_tuple : PySem.W.nsIn K mainGlobals "tuple" = some none) (z_zip : PySem.W.nsIn K mainGlobals "zip" = some none) {t_DEVICE : Tok} (g_DEVICE : PySem.W.nsIn K mainGlobals "DEVICE" = some (some (.int 3 t_DEVICE))) {t_LETTERS : Tok} (g_LETTERS : PySem.W.nsIn K mainGlobals "LETTERS" = some (some (.str "abcdefghijklmnopqrstuvwxyz" t_LETTERS))) {t_LONGEST : Tok} (g_LONGEST : PySem.W.nsIn K mainGlobals "LONGEST" = some (some (.int 8 t_LONGEST))) {t_WISH : Tok} (g_WISH : PySem.W.nsIn K mainGlobals "WISH" = some (some (.int 2 t_WISH))) :
    ∃ T : Tp K mg, T.d_L_law = PySem.W.fnOf "law" "law" (defArgs (top 30)) (defBody (top 30)) (defScope (top 30)) .none kV23 dc23 pm23 an23 cd23 ct23 ∧ T.f_L_law = f23 := by
  have F0 := fun_mk (st := top 3) l0 c0 k0
  have b0 := F0.binds (ps := ["thing"]) fun _ _ _ _ _ _ us hl => match us, hl with | [_], _ => rfl
  have F1 := fun_mk (st := top 4) l1 c1 k1
  have b1 := F1.binds (ps := ["thing", "many"]) fun _ _ _ _ _ _ us hl => match us, hl with | [_, _], _ => rfl
  have F2 := fun_mk (st := top 5) l2 c2 k2
  have b2 := F2.binds (ps := ["thing"]) fun _ _ _ _ _ _ us hl => match us, hl with | [_], _ => rfl
  have F3 := fun_mk (st := top 6) l3 c3 k3
  have b3 := F3.binds (ps := ["some"]) fun _ _ _ _ _ _ us hl => match us, hl with | [_], _ => rfl
  have F4 := fun_mk (st := top 10) l4 c4 k4
  have b4 := F4.binds (ps := ["thing", "name"]) fun _ _ _ _ _ _ us hl => match us, hl with | [_, _], _ => rfl
  have F5 := fun_mk (st := top 11) l5 c5 k5
  have b5 := F5.binds (ps := ["thing"]) fun _ _ _ _ _ _ us hl => match us, hl with | [_], _ => rfl
  have F6 := fun_mk (st := top 12) l6 c6 k6
  have b6 := F6.binds (ps := ["thing"]) fun _ _ _ _ _ _ us hl => match us, hl with | [_], _ => rfl
  have F7 := fun_mk (st := top 14) l7 c7 k7
  have b7 := F7.binds (ps := ["_law_script", "_law_k"]) fun _ _ _ _ _ _ us hl => match us, hl with | [_, _], _ => rfl
  have F8 := fun_mk (st := top 15) l8 c8 k8
  have b8 := F8.binds (ps := ["_law_box_here", "_law_below"]) fun _ _ _ _ _ _ us hl => match us, hl with | [_, _], _ => rfl
  have F9 := fun_mk (st := top 16) l9 c9 k9
  have b9 := F9.binds (ps := ["_law_script", "_law_most"]) fun _ _ _ _ _ _ us hl => match us, hl with | [_, _], _ => rfl
  have F10 := fun_mk (st := top 17) l10 c10 k10
  have b10 := F10.binds (ps := ["_law_box_here", "_law_some_here"]) fun _ _ _ _ _ _ us hl => match us, hl with | [_, _], _ => rfl
  have F11 := fun_mk (st := top 18) l11 c11 k11
  have b11 := F11.binds (ps := ["_law_matter"]) fun _ _ _ _ _ _ us hl => match us, hl with | [_], _ => rfl
  have F12 := fun_mk (st := top 19) l12 c12 k12
  have b12 := F12.binds (ps := ["_law_got", "_law_due"]) fun _ _ _ _ _ _ us hl => match us, hl with | [_, _], _ => rfl
  have F13 := fun_mk (st := top 20) l13 c13 k13
  have b13 := F13.binds (ps := ["_law_box_here", "_law_many_so"]) fun _ _ _ _ _ _ us hl => match us, hl with | [_, _], _ => rfl
  have F14 := fun_mk (st := top 21) l14 c14 k14
  have b14 := F14.binds (ps := ["_law_box_here", "_law_names_so", "_law_many_so"]) fun _ _ _ _ _ _ us hl => match us, hl with | [_, _, _], _ => rfl
  have F15 := fun_mk (st := top 22) l15 c15 k15
  have b15 := F15.binds (ps := ["_law_box_here", "_law_many_so", "_law_musts"]) fun _ _ _ _ _ _ us hl => match us, hl with | [_, _, _], _ => rfl
  have F16 := fun_mk (st := top 23) l16 c16 k16
  have b16 := F16.binds (ps := ["_law_box_here", "_law_part", "_law_more"]) fun _ _ _ _ _ _ us hl => match us, hl with | [_, _, _], _ => rfl
  have F17 := fun_mk (st := top 24) l17 c17 k17
  have b17 := F17.binds (ps := ["_law_matter"]) fun _ _ _ _ _ _ us hl => match us, hl with | [_], _ => rfl
  have F18 := fun_mk (st := top 25) l18 c18 k18
  have b18 := F18.binds (ps := ["_law_matter"]) fun _ _ _ _ _ _ us hl => match us, hl with | [_], _ => rfl
  have F19 := fun_mk (st := top 26) l19 c19 k19
  have b19 := F19.binds (ps := ["_law_some_here"]) fun _ _ _ _ _ _ us hl => match us, hl with | [_], _ => rfl
  have F20 := fun_mk (st := top 27) l20 c20 k20
  have b20 := F20.binds (ps := ["_law_matter"]) fun _ _ _ _ _ _ us hl => match us, hl with | [_], _ => rfl
  have F21 := fun_mk (st := top 28) l21 c21 k21
  have b21 := F21.binds (ps := []) fun _ _ _ _ _ _ us hl => match us, hl with | [], _ => rfl
  have F22 := fun_mk (st := top 29) l22 c22 k22
  have b22 := F22.binds (ps := ["_law_box_here"]) fun _ _ _ _ _ _ us hl => match us, hl with | [_], _ => rfl
  have F23 := fun_mk (st := top 30) l23 c23 k23
  have b23 := F23.binds (ps := ["_law_script"]) fun _ _ _ _ _ _ us hl => match us, hl with | [_], _ => rfl
  have kb_P_is_world_0_thing : KBinds K _ ["thing"] ["thing"] (kwPick 0 1 [0]) (kwPick 0 1 [0]) := kb_mk (fd := PySem.W.fnOf "is_world" "is_world" (defArgs (top 12)) (defBody (top 12)) (defScope (top 12)) .none kV6 dc6 pm6 an6 cd6 ct6) (by decide) fun s us ws h1 h2 => match us, h1, ws, h2 with | [], _, [_], _ => .of_eq rfl
  exact ⟨⟨f0, _, F0, b0, PySem.W.mg_of X G a0, f1, _, F1, b1, PySem.W.mg_of X G a1, f2, _, F2, b2, PySem.W.mg_of X G a2, f3, _, F3, b3, PySem.W.mg_of X G a3, f4, _, F4, b4, PySem.W.mg_of X G a4, f5, _, F5, b5, PySem.W.mg_of X G a5, f6, _, F6, b6, PySem.W.mg_of X G a6, f7, _, F7, b7, PySem.W.mg_of X G a7, f8, _, F8, b8, PySem.W.mg_of X G a8, f9, _, F9, b9, PySem.W.mg_of X G a9, f10, _, F10, b10, PySem.W.mg_of X G a10, f11, _, F11, b11, PySem.W.mg_of X G a11, f12, _, F12, b12, PySem.W.mg_of X G a12, f13, _, F13, b13, PySem.W.mg_of X G a13, f14, _, F14, b14, PySem.W.mg_of X G a14, f15, _, F15, b15, PySem.W.mg_of X G a15, f16, _, F16, b16, PySem.W.mg_of X G a16, f17, _, F17, b17, PySem.W.mg_of X G a17, f18, _, F18, b18, PySem.W.mg_of X G a18, f19, _, F19, b19, PySem.W.mg_of X G a19, f20, _, F20, b20, PySem.W.mg_of X G a20, f21, _, F21, b21, PySem.W.mg_of X G a21, f22, _, F22, b22, PySem.W.mg_of X G a22, f23, _, F23, b23, PySem.W.mg_of X G a23, kb_P_is_world_0_thing, PySem.W.mg_none_of X G z_abs, PySem.W.mg_none_of X G z_all, PySem.W.mg_none_of X G z_bool, PySem.W.mg_none_of X G z_dict, PySem.W.mg_none_of X G z_enumerate, PySem.W.mg_none_of X G z_int, PySem.W.mg_none_of X G z_isinstance, PySem.W.mg_none_of X G z_len, PySem.W.mg_none_of X G z_list, PySem.W.mg_none_of X G z_min, PySem.W.mg_none_of X G z_range, PySem.W.mg_none_of X G z_repr, PySem.W.mg_none_of X G z_set, PySem.W.mg_none_of X G z_sorted, PySem.W.mg_none_of X G z_str, PySem.W.mg_none_of X G z_tuple, PySem.W.mg_none_of X G z_zip, t_DEVICE, PySem.W.mg_of X G g_DEVICE, t_LETTERS, PySem.W.mg_of X G g_LETTERS, t_LONGEST, PySem.W.mg_of X G g_LONGEST, t_WISH, PySem.W.mg_of X G g_WISH⟩, rfl, rfl⟩
end
theorem fin_ {l : PySem.W.OpenLaw} {q : Program} {loose : List Str} {XP : (Str → Option Value) → Heap → Prop} {YP : World → Heap → Prop} {d : DefRec} {K : Params → PySem.W.Frag} (g : Good m_L_law) (hn : l.most = some 63) (hdf : d.params.defaults = []) (hnm : d.name = "law")
    (hY : ∀ (w : World) (h : Heap), YP w h → (K w.params).In h)
    (F : ∀ (w : World) (mg : Str → Option Value) (h : Heap), (K w.params).In h → h.Ns mainGlobals mg → ∃ T : Tp (K w.params) mg, ∃ kV dc pm an cd ct, T.d_L_law = PySem.W.fnOf "law" "law" (defArgs (top 30)) (defBody (top 30)) (defScope (top 30)) .none kV dc pm an cd ct) :
    PySem.W.WalkO q loose XP YP l.row.toRowW d [] (fun f vs => PySem.call f vs) := by
  refine walk_evG (k := 24) (x := "_law_script") (c := fun _ _ => 0) (m := m_L_law) hn hdf ⟨rfl, by decide, by decide⟩ g hY fun w mg fa h KX G hmg => ?_
  obtain ⟨T, kV, dc, pm, an, cd, ct, hT⟩ := F w mg h KX G
  rw [hnm] at hmg
  have e := hmg.symm.trans T.m_L_law
  cases e
  refine ⟨T.d_L_law, fun s v => ?_, fun base _ _ => ok_all_ T⟩
  rw [hT]
  exact .of_eq rfl
end K10

set_option Elab.async false
set_option linter.all false
set_option maxRecDepth 100000
set_option maxHeartbeats 4000000
/-! Q1: plain words about the mirrors: flat heaps, the drawing box, loops, blocks. -/
namespace EV
open PySem
/-- every cell is a list of data -/
def Flat (hd : Hd) : Prop := ∀ o ∈ hd, ∃ ds : List PyData, o = .lst (ds.map .d)
theorem cl_ds (n : Nat) : ∀ ds : List PyData, clSs n (ds.map .d) = true
  | [] => rfl
  | x :: r => by simp [clSs, clS, cl_ds n r]
theorem Flat.cl {hd : Hd} (h : Flat hd) (n : Nat) : clH n hd = true := by
  unfold clH
  rw [List.all_eq_true]
  intro o ho
  obtain ⟨ds, rfl⟩ := h o ho
  simp [clO, cl_ds]
theorem Flat.take {hd : Hd} (h : Flat hd) (n : Nat) : Flat (hd.take n) := fun o ho => h o (List.mem_of_mem_take ho)
theorem Flat.set {hd : Hd} (h : Flat hd) (n : Nat) (ds : List PyData) : Flat (hd.set n (.lst (ds.map .d))) := fun o ho => by
  rcases List.mem_or_eq_of_mem_set ho with q | q
  · exact h o q
  · exact ⟨ds, q⟩
theorem Flat.snoc {hd : Hd} (h : Flat hd) (ds : List PyData) : Flat (hd ++ [.lst (ds.map .d)]) := fun o ho => by
  rcases List.mem_append.mp ho with q | q
  · exact h o q
  · exact ⟨ds, List.mem_singleton.mp q⟩
theorem cut_ok {m : List S → Hd → R S} {xs : List S} {hd h : Hd} {r : PyData} (hm : m xs hd = some (.ok (.d r) h)) (hf : Flat h) : mCut m xs hd = some (.ok (.d r) (h.take hd.length)) := by
  unfold mCut
  rw [hm]
  show (if clH hd.length (h.take hd.length) = true then _ else _) = _
  rw [if_pos ((hf.take _).cl _)]
  try rfl
theorem cut_ref {m : List S → Hd → R S} {xs : List S} {hd h : Hd} {n : Nat} {ds : List PyData} (hm : m xs hd = some (.ok (.ref n) h)) (hn : hd.length ≤ n) (hl : h[n]? = some (.lst (ds.map .d))) (hf : Flat h) :
    mCut m xs hd = some (.ok (.d (.list ds)) (h.take hd.length)) := by
  unfold mCut
  rw [hm]
  show (if clH hd.length (h.take hd.length) = true then _ else _) = _
  rw [if_pos ((hf.take _).cl _)]
  unfold frz
  simp only [if_neg (Nat.not_lt.mpr hn), hl, pures_d]
/-- the box: three ints -/
def bO (x y z : Int) : O := .lst [.d (.int x), .d (.int y), .d (.int z)]
theorem bO_flat (x y z : Int) : bO x y z = .lst ([PyData.int x, .int y, .int z].map .d) := rfl
/-- the heap is flat, at b stands a box that has been drawn from at most Z times -/
def Bx (Z : Int) (b : Nat) (hd : Hd) : Prop := Flat hd ∧ ∃ x y z, hd[b]? = some (bO x y z) ∧ 0 ≤ z ∧ z ≤ Z
/-- the first n cells are as they were, but for the box -/
def Sx (b : Nat) (hd h : Hd) : Prop := hd.length ≤ h.length ∧ ∀ i, i < hd.length → i ≠ b → h[i]? = hd[i]?
theorem Sx.refl (b : Nat) (hd : Hd) : Sx b hd hd := ⟨Nat.le_refl _, fun _ _ _ => rfl⟩
theorem Sx.trans {b : Nat} {h1 h2 h3 : Hd} (a : Sx b h1 h2) (c : Sx b h2 h3) : Sx b h1 h3 := ⟨Nat.le_trans a.1 c.1, fun i hi hb => (c.2 i (Nat.lt_of_lt_of_le hi a.1) hb).trans (a.2 i hi hb)⟩
theorem Bx.lt {Z : Int} {b : Nat} {hd : Hd} (h : Bx Z b hd) : b < hd.length := by
  obtain ⟨_, x, y, z, h, _⟩ := h
  exact (List.getElem?_eq_some_iff.mp h).1
theorem Bx.mono {Z Z' : Int} {b : Nat} {hd : Hd} (h : Bx Z b hd) (l : Z ≤ Z') : Bx Z' b hd := by
  obtain ⟨f, x, y, z, e, h1, h2⟩ := h
  exact ⟨f, x, y, z, e, h1, by omega⟩
theorem Bx.snoc {Z : Int} {b : Nat} {hd : Hd} (h : Bx Z b hd) (ds : List PyData) : Bx Z b (hd ++ [.lst (ds.map .d)]) := by
  have hl := h.lt
  obtain ⟨f, x, y, z, e, h1⟩ := h
  exact ⟨f.snoc ds, x, y, z, by rw [List.getElem?_append_left hl]; exact e, h1⟩
theorem Bx.set {Z : Int} {b n : Nat} {hd : Hd} (h : Bx Z b hd) (hn : n ≠ b) (ds : List PyData) : Bx Z b (hd.set n (.lst (ds.map .d))) := by
  obtain ⟨f, x, y, z, e, h1⟩ := h
  exact ⟨f.set n ds, x, y, z, by rw [List.getElem?_set_ne hn]; exact e, h1⟩
theorem Bx.take {Z : Int} {b n : Nat} {hd : Hd} (h : Bx Z b hd) (hn : b < n) : Bx Z b (hd.take n) := by
  obtain ⟨f, x, y, z, e, h1⟩ := h
  exact ⟨f.take n, x, y, z, by rw [List.getElem?_take_of_lt hn]; exact e, h1⟩
theorem Sx.snoc {b : Nat} {hd h : Hd} (s : Sx b hd h) (o : O) : Sx b hd (h ++ [o]) := ⟨by rw [List.length_append]; exact Nat.le_trans s.1 (Nat.le_add_right _ _), fun i hi hb => by rw [List.getElem?_append_left (Nat.lt_of_lt_of_le hi s.1)]; exact s.2 i hi hb⟩
theorem Sx.set {b n : Nat} {hd h : Hd} (s : Sx b hd h) (hn : hd.length ≤ n) (o : O) : Sx b hd (h.set n o) := ⟨by rw [List.length_set]; exact s.1, fun i hi hb => by rw [List.getElem?_set_ne (by omega)]; exact s.2 i hi hb⟩
theorem Sx.cut {b : Nat} {hd h : Hd} (s : Sx b hd h) : Sx b hd (h.take hd.length) ∧ (h.take hd.length).length = hd.length :=
  ⟨⟨by rw [List.length_take]; have := s.1; omega, fun i hi hb => by rw [List.getElem?_take_of_lt hi]; exact s.2 i hi hb⟩, by rw [List.length_take]; have := s.1; omega⟩
/-- behind a def: as long as before -/
def Sa (b : Nat) (hd h : Hd) : Prop := Sx b hd h ∧ h.length = hd.length
/-! ### loops -/
theorem for_inv {t : Tg} {f : FS} (I : Nat → Sd → Hd → Prop) : ∀ (xs : List S) (i : Nat) (ss : Sd) (hd : Hd), I i ss hd →
    (∀ j x ss hd, x ∈ xs → j < i + xs.length → I j ss hd → ∃ ss1, t x ss = some ss1 ∧ ∃ ss2 hd2, (f ss1 hd = some (.ok (.nx ss2) hd2) ∨ f ss1 hd = some (.ok (.ct ss2) hd2)) ∧ I (j + 1) ss2 hd2) →
    ∃ ss' hd', forIt t f xs ss hd = some (.ok (.nx ss') hd') ∧ I (i + xs.length) ss' hd'
  | [], i, ss, hd, h, _ => ⟨ss, hd, rfl, h⟩
  | x :: xs, i, ss, hd, h, st => by
    obtain ⟨ss1, e1, ss2, hd2, e2, h2⟩ := st i x ss hd List.mem_cons_self (by simp) h
    obtain ⟨ss', hd', e3, h3⟩ := for_inv I xs (i + 1) ss2 hd2 h2 fun j y s h hy hj => st j y s h (List.mem_cons_of_mem _ hy) (by simp; omega)
    refine ⟨ss', hd', ?_, by rw [List.length_cons, Nat.add_comm xs.length, ← Nat.add_assoc]; exact h3⟩
    unfold forIt
    rcases e2 with e2 | e2
    · simp only [e1, e2, bnd_ok]; exact e3
    · simp only [e1, e2, bnd_ok]; exact e3
/-- a comprehension that changes nothing -/
theorem cmp_pure {vs : List Nat} {t : Tg} {tt : FT} {te : FE} {ss : Sd} {hd : Hd} (p : S → Bool) (g : S → S) : ∀ (xs acc : List S),
    (∀ x ∈ xs, ∃ ss1, t x (wip ss vs) = some ss1 ∧ tt ss1 hd = some (.ok (p x) hd) ∧ (p x = true → te ss1 hd = some (.ok (g x) hd))) → cmpIt vs t tt te xs acc ss hd = some (.ok (acc ++ (xs.filter p).map g) hd)
  | [], acc, _ => by simp [cmpIt]
  | x :: xs, acc, h => by
    obtain ⟨ss1, e1, e2, e3⟩ := h x List.mem_cons_self
    have ih := fun acc => cmp_pure p g xs acc fun y hy => h y (List.mem_cons_of_mem _ hy)
    unfold cmpIt
    simp only [e1, e2, bnd0_ok]
    cases hp : p x with
    | true => simp only [if_true, e3 hp, bnd0_ok, ih, List.filter_cons, hp, List.map_cons, List.append_assoc, List.singleton_append]
    | false => simp [ih, List.filter_cons, hp]
/-- a comprehension with an invariant of the heap -/
theorem cmp_inv {vs : List Nat} {t : Tg} {te : FE} {ss : Sd} (I : Nat → Hd → Prop) (P : S → Prop) : ∀ (xs acc : List S) (i : Nat) (hd : Hd), I i hd → (∀ a ∈ acc, P a) →
    (∀ i x hd, x ∈ xs → I i hd → ∃ ss1, t x (wip ss vs) = some ss1 ∧ ∃ y hd2, te ss1 hd = some (.ok y hd2) ∧ P y ∧ I (i + 1) hd2) →
    ∃ ys hd', cmpIt vs t tYesF te xs acc ss hd = some (.ok ys hd') ∧ (∀ y ∈ ys, P y) ∧ ys.length = acc.length + xs.length ∧ I (i + xs.length) hd'
  | [], acc, i, hd, h, ha, _ => ⟨acc, hd, rfl, ha, rfl, h⟩
  | x :: xs, acc, i, hd, h, ha, st => by
    obtain ⟨ss1, e1, y, hd2, e2, hy, h2⟩ := st i x hd List.mem_cons_self h
    obtain ⟨ys, hd', e3, h3, hl, h4⟩ := cmp_inv I P xs (acc ++ [y]) (i + 1) hd2 h2 (fun a h => by
      rcases List.mem_append.mp h with h | h
      · exact ha a h
      · rw [List.mem_singleton.mp h]; exact hy) fun j z h hz => st j z h (List.mem_cons_of_mem _ hz)
    refine ⟨ys, hd', ?_, h3, by rw [hl]; simp; omega, by rw [List.length_cons, Nat.add_comm xs.length, ← Nat.add_assoc]; exact h4⟩
    unfold cmpIt tYesF
    simp only [e1, bnd0_ok, if_true, e2]
    exact e3
end EV

set_option Elab.async false
set_option linter.all false
set_option maxRecDepth 100000
set_option maxHeartbeats 4000000
namespace K10
open PySem EV
theorem hMul_r {a b : Int} (h : -18446744073709551616 < b ∧ b < 18446744073709551616) : hMul a b = some (.int (a * b)) := by unfold hMul; rw [if_pos (.inr h)]
theorem hMul_l {a b : Int} (h : -18446744073709551616 < a ∧ a < 18446744073709551616) : hMul a b = some (.int (a * b)) := by unfold hMul; rw [if_pos (.inl h)]
theorem take_ok {Z : Int} {b : Nat} {hd : Hd} {n : Int} (h : Bx Z b hd) (hZ : Z ≤ 1000000000) (h0 : 0 < n) (h1 : n < 1073741824) :
    ∃ v hd', m_L_take [.ref b, .d (.int n)] hd = some (.ok (.d (.int v)) hd') ∧ 0 ≤ v ∧ v < n ∧ Bx (Z + 1) b hd' ∧ Sa b hd hd' := by
  obtain ⟨f, x, y, z, e, hz0, hz1⟩ := h
  have hb : b < hd.length := (List.getElem?_eq_some_iff.mp e).1
  have fin : ∀ x' z' : Int, 0 ≤ z' → z' ≤ Z + 1 → Flat (hd.set b (bO x' y z')) ∧ Bx (Z + 1) b ((hd.set b (bO x' y z')).take hd.length) ∧ Sa b hd ((hd.set b (bO x' y z')).take hd.length) := fun x' z' g1 g2 => by
    have ht : (hd.set b (bO x' y z')).take hd.length = hd.set b (bO x' y z') := List.take_of_length_le (by rw [List.length_set]; exact Nat.le_refl _)
    rw [ht]
    refine ⟨f.set b [.int x', .int y, .int z'], ⟨f.set b [.int x', .int y, .int z'], x', y, z', by rw [List.getElem?_set_self hb], g1, g2⟩, ⟨⟨by rw [List.length_set]; exact Nat.le_refl _, fun i _ hi => by rw [List.getElem?_set_ne (Ne.symm hi)]⟩, by rw [List.length_set]⟩⟩
  by_cases hx : 0 < x
  · obtain ⟨q1, q2, q3⟩ := fin (x / n) z hz0 (by omega)
    refine ⟨x % n, _, cut_ok (h := hd.set b (bO (x / n) y z)) ?_ q1, Int.emod_nonneg _ (by omega), Int.emod_lt_of_pos _ h0, q2, q3⟩
    simp [mB, stS, sSeq, sIf, tb, tv, tNo, tAn, tOr_, fAn, fOr_, fNo, fIf, f3c, f2, f1, fV, fC, gIx, gOrd, seqOf, lstOf, boolOf, truOf, truS, L2.atI, sSet, gI2, hMod, hDiv, hSub, fN, g1, g2, gInt, aC, aN, sIxL, L2.ixN, sRet, gAdd, gEq, gNe, gLen, ar, sNil, sDrop, fM, gApp, gPopAt, isL, sPar, sPar3, gLstD, gLstL, gTupD, pures, gIsI, gIsI2, tagS, isT, scalD, PyData.eqv, e, bO, hx, h0, h1]
  · obtain ⟨q1, q2, q3⟩ := fin x (z + 1) (by omega) (by omega)
    have es : ∀ o : O, (hd.set b o)[b]? = some o := fun o => List.getElem?_set_self hb
    have e1 : hMul 48271 (z + 1) = some (.int (48271 * (z + 1))) := hMul_l (by decide)
    have e2 : hMul (y + 48271 * (z + 1)) (39373 + (z + 1)) = some (.int ((y + 48271 * (z + 1)) * (39373 + (z + 1)))) := hMul_r (by omega)
    have e3 : ∀ (a o : Int), hMul a (o % 2147483647 % 40009 + 7) = some (.int (a * (o % 2147483647 % 40009 + 7))) := fun a o => hMul_r (by omega)
    have e4 : ∀ a : Int, hMul a 48271 = some (.int (a * 48271)) := fun a => hMul_r (by decide)
    refine ⟨(((y + 48271 * (z + 1)) * (39373 + (z + 1)) % 2147483647 + (z + 1) + y / 1000003) * ((y + 48271 * (z + 1)) * (39373 + (z + 1)) % 2147483647 % 40009 + 7) % 2147483629 * 48271 + (y + 48271 * (z + 1)) * (39373 + (z + 1)) % 2147483647) % 2147483587 / 64 % n, _, cut_ok (h := hd.set b (bO x y (z + 1))) ?_ q1, Int.emod_nonneg _ (by omega), Int.emod_lt_of_pos _ h0, q2, q3⟩
    simp [mB, stS, sSeq, sIf, tb, tv, tNo, tAn, tOr_, fAn, fOr_, fNo, fIf, f3c, f2, f1, fV, fC, gIx, gOrd, seqOf, lstOf, boolOf, truOf, truS, L2.atI, sSet, gI2, hMod, hDiv, hSub, fN, g1, g2, gInt, aC, aN, sIxL, L2.ixN, sRet, gAdd, gEq, gNe, gLen, ar, sNil, sDrop, fM, gApp, gPopAt, isL, sPar, sPar3, gLstD, gLstL, gTupD, pures, gIsI, gIsI2, tagS, isT, scalD, PyData.eqv, e, bO, hx, h0, h1, e1, e2, e3, e4, es]
theorem erase_map {α β : Type} {f : α → β} : ∀ (k : Nat) (xs : List α), (xs.map f).eraseIdx k = (xs.eraseIdx k).map f
  | _, [] => rfl
  | 0, _ :: _ => rfl
  | k + 1, x :: xs => by simp [erase_map k xs]
theorem seq_nat {n : Nat} {v : Int} (h0 : 0 ≤ v) (h1 : v < n) : seqIndex? v n = some v.toNat := by
  unfold seqIndex?
  simp [h0, h1]
  omega
theorem of_ok {Z : Int} {b : Nat} {hd : Hd} {ds : List PyData} (h : Bx Z b hd) (hZ : Z ≤ 1000000000) (h0 : ds ≠ []) (h1 : ds.length < 1073741824) :
    ∃ x hd', m_L_of [.ref b, .d (.list ds)] hd = some (.ok (.d x) hd') ∧ x ∈ ds ∧ Bx (Z + 1) b hd' ∧ Sa b hd hd' := by
  have hp : 0 < ds.length := List.length_pos_iff.mpr h0
  obtain ⟨v, hd1, e, v0, v1, bx, sa⟩ := take_ok h hZ (n := ds.length) (by omega) (by omega)
  have hk : v.toNat < ds.length := by omega
  refine ⟨ds[v.toNat], hd1.take hd.length, cut_ok (h := hd1) ?_ bx.1, List.getElem_mem hk, ?_, ?_⟩
  · have e5 : ds[v.toNat]? = some ds[v.toNat] := List.getElem?_eq_getElem hk
    simp [mB, stS, sSeq, sIf, tb, tv, tNo, tAn, tOr_, fAn, fOr_, fNo, fIf, f3c, f2, f1, fV, fC, gIx, gOrd, seqOf, lstOf, boolOf, truOf, truS, L2.atI, sSet, gI2, hMod, hDiv, hSub, fN, g1, g2, gInt, aC, aN, sIxL, L2.ixN, sRet, gAdd, gEq, gNe, gLen, ar, sNil, sDrop, fM, gApp, gPopAt, isL, sPar, sPar3, gLstD, gLstL, gTupD, pures, gIsI, gIsI2, tagS, isT, scalD, PyData.eqv, e, v0, v1, e5, hk]
  · rw [List.take_of_length_le (by rw [sa.2]; exact Nat.le_refl _)]; exact bx
  · rw [List.take_of_length_le (by rw [sa.2]; exact Nat.le_refl _)]; exact sa
/-- two lists of a loop that draws from the first for the second -/
structure Lp (Z : Int) (b : Nat) (hd : Hd) (p q : Nat) (left acc : List PyData) (h : Hd) : Prop where
  bx : Bx Z b h
  sx : Sx b hd h
  hp : h[p]? = some (.lst (left.map .d))
  hq : h[q]? = some (.lst (acc.map .d))
def fDraw (i j : Nat) : FS := sDrop (fM gApp (fV i) (aC (fM gPopAt (fV j) (aC (fN (ar 2 m_L_take) (aC (fV 0) (aC (fN (g1 gLen) (aC (fV j) aN)) aN))) aN)) aN))
theorem draw_ok {Z : Int} {b p q i j : Nat} {hd h : Hd} {ss : Sd} {left acc : List PyData} (L : Lp Z b hd p q left acc h) (hZ : Z ≤ 1000000000) (hb : b < hd.length) (hpn : hd.length ≤ p) (hqn : hd.length ≤ q) (hpq : p ≠ q)
    (s0 : ss[0]? = some (some (.ref b))) (si : ss[i]? = some (some (.ref q))) (sj : ss[j]? = some (some (.ref p))) (hne : left ≠ []) (hl : left.length < 1000) (ha : acc.length < 1000) :
    ∃ k y h', fDraw i j ss h = some (.ok (.nx ss) h') ∧ left[k]? = some y ∧ Lp (Z + 1) b hd p q (left.eraseIdx k) (acc ++ [y]) h' := by
  have hlp : 0 < left.length := List.length_pos_iff.mpr hne
  obtain ⟨v, h1, e, v0, v1, bx, sa⟩ := take_ok L.bx hZ (n := left.length) (by omega) (by omega)
  obtain ⟨k, y, e2, e3⟩ : ∃ k y, seqIndex? v left.length = some k ∧ left[k]? = some y := ⟨v.toNat, left[v.toNat]'(by omega), seq_nat v0 v1, List.getElem?_eq_getElem (by omega)⟩
  have p1 : h1[p]? = some (.lst (left.map .d)) := by rw [sa.1.2 p (List.getElem?_eq_some_iff.mp L.hp).1 (by omega)]; exact L.hp
  have q1 : h1[q]? = some (.lst (acc.map .d)) := by rw [sa.1.2 q (List.getElem?_eq_some_iff.mp L.hq).1 (by omega)]; exact L.hq
  have hp' := L.hp
  have hq' := L.hq
  have pl := (List.getElem?_eq_some_iff.mp p1).1
  have ql := (List.getElem?_eq_some_iff.mp q1).1
  have em : (left.map S.d).eraseIdx k = (left.eraseIdx k).map S.d := by
    exact erase_map k left
  have q2 : (h1.set p (.lst ((left.eraseIdx k).map S.d)))[q]? = some (.lst (acc.map .d)) := by rw [List.getElem?_set_ne hpq]; exact q1
  refine ⟨k, y, (h1.set p (.lst ((left.eraseIdx k).map S.d))).set q (.lst ((acc ++ [y]).map S.d)), ?_, e3, ?_⟩
  · have e4 : (left.map S.d)[k]? = some (S.d y) := by rw [List.getElem?_map, e3]; rfl
    have e5 : -9223372036854775808 ≤ v ∧ v < 9223372036854775808 := by omega
    have e6 : acc.length < 16777216 := by omega
    unfold fDraw
    simp [mB, stS, sSeq, sIf, tb, tv, tNo, tAn, tOr_, fAn, fOr_, fNo, fIf, f3c, f2, f1, fV, fC, gIx, gOrd, seqOf, lstOf, boolOf, truOf, truS, L2.atI, sSet, gI2, hMod, hDiv, hSub, fN, g1, g2, gInt, aC, aN, sIxL, L2.ixN, sRet, gAdd, gEq, gNe, gLen, ar, sNil, sDrop, fM, gApp, gPopAt, isL, sPar, sPar3, gLstD, gLstL, gTupD, pures, gIsI, gIsI2, tagS, isT, scalD, PyData.eqv, s0, si, sj, hp', hq', e, p1, q1, e2, e3, e4, e5, e6, em, q2]
  · refine ⟨(bx.set (by omega) _).set (by omega) _, ((L.sx.trans ?_).set hpn _).set hqn _, ?_, ?_⟩
    · exact sa.1
    · rw [List.getElem?_set_ne (Ne.symm hpq), List.getElem?_set_self pl]
    · rw [List.getElem?_set_self (by rw [List.length_set]; exact ql)]
end K10

set_option Elab.async false
set_option linter.all false
set_option maxRecDepth 100000
set_option maxHeartbeats 4000000
namespace K10
open PySem EV
theorem seq_nx {f g : FS} {ss s1 : Sd} {hd h1 : Hd} (e : f ss hd = some (.ok (.nx s1) h1)) : sSeq f g ss hd = g s1 h1 := by unfold sSeq; rw [e]; rfl
theorem seq_rt {f g : FS} {ss : Sd} {hd h1 : Hd} {x : S} (e : f ss hd = some (.ok (.rt x) h1)) : sSeq f g ss hd = some (.ok (.rt x) h1) := by unfold sSeq; rw [e]; rfl
theorem mB_rt {n : Nat} {fb : FS} {xs : List S} {hd h : Hd} {x : S} (e : fb (stS n xs) hd = some (.ok (.rt x) h)) : mB n fb xs hd = some (.ok x h) := by unfold mB; rw [e]; rfl
theorem for_it {s : Sd → Hd → R Src} {t : Tg} {b : FS} {ss : Sd} {hd h1 : Hd} {xs : List S} (e : s ss hd = some (.ok (.it xs) h1)) : sFor s t b ss hd = forIt t b xs ss h1 := by unfold sFor; rw [e]; rfl
/-- the numbers below n -/
def rng (n : Nat) : List S := (List.range n).map fun (i : Nat) => S.d (.int (i : Int))
theorem rng_mem {n : Nat} {x : S} (h : x ∈ rng n) : ∃ i : Nat, i < n ∧ x = .d (.int i) := by
  unfold rng at h
  obtain ⟨i, hi, rfl⟩ := List.mem_map.mp h
  exact ⟨i, List.mem_range.mp hi, rfl⟩
theorem rng_len (n : Nat) : (rng n).length = n := by unfold rng; rw [List.length_map, List.length_range]
theorem draws_ok {P : PyData → Prop} {b p q i j t : Nat} {hd : Hd} (hb : b < hd.length) (hpn : hd.length ≤ p) (hqn : hd.length ≤ q) (hpq : p ≠ q) (ht0 : t ≠ 0) (hti : t ≠ i) (htj : t ≠ j) {Z : Int} {h : Hd} {ss : Sd} {left : List PyData} {m : Nat}
    (L : Lp Z b hd p q left [] h) (hZ : Z + m ≤ 1000000000) (s0 : ss[0]? = some (some (.ref b))) (si : ss[i]? = some (some (.ref q))) (sj : ss[j]? = some (some (.ref p))) (hm : m ≤ left.length) (hl : left.length < 1000) (hP : ∀ y ∈ left, P y) :
    ∃ ss' h' left' acc, forIt (tgN t) (fDraw i j) (rng m) ss h = some (.ok (.nx ss') h') ∧ (∀ r, r ≠ t → ss'[r]? = ss[r]?) ∧ Lp (Z + m) b hd p q left' acc h' ∧ acc.length = m ∧ ∀ y ∈ acc, P y := by
  obtain ⟨ss', h', e, left', acc, g1, g2, g3, g4, g5, g6⟩ := for_inv (t := tgN t) (f := fDraw i j) (fun k s h' => ∃ left' acc, (∀ r, r ≠ t → s[r]? = ss[r]?) ∧ Lp (Z + k) b hd p q left' acc h' ∧ left'.length + k = left.length ∧ acc.length = k ∧ (∀ y ∈ left', P y) ∧ (∀ y ∈ acc, P y)) (rng m) 0 ss h
    ⟨left, [], fun _ _ => rfl, by simpa using L, rfl, rfl, hP, fun y hy => by simp at hy⟩ (fun k x s h1 hx hk ⟨left', acc, g1, g2, g3, g4, g5, g6⟩ => by
      rw [rng_len, Nat.zero_add] at hk
      refine ⟨s.set t (some x), rfl, s.set t (some x), ?_⟩
      have hs : ∀ r, r ≠ t → (s.set t (some x))[r]? = ss[r]? := fun r hr => by rw [List.getElem?_set_ne (Ne.symm hr)]; exact g1 r hr
      obtain ⟨c, y, h2, e2, e3, L2⟩ := draw_ok (ss := s.set t (some x)) g2 (by omega) hb hpn hqn hpq (by rw [hs 0 (Ne.symm ht0)]; exact s0) (by rw [hs i (Ne.symm hti)]; exact si) (by rw [hs j (Ne.symm htj)]; exact sj) (List.ne_nil_of_length_pos (by omega)) (by omega) (by omega)
      have hc : c < left'.length := (List.getElem?_eq_some_iff.mp e3).1
      refine ⟨h2, .inl e2, left'.eraseIdx c, acc ++ [y], hs, ?_, ?_, ?_, ?_, ?_⟩
      · have e : Z + ((k + 1 : Nat) : Int) = Z + k + 1 := by omega
        rw [e]; exact L2
      · rw [List.length_eraseIdx_of_lt hc]; omega
      · rw [List.length_append]; simp; omega
      · exact fun z hz => g5 z (List.mem_of_mem_eraseIdx hz)
      · intro z hz
        rcases List.mem_append.mp hz with hz | hz
        · exact g6 z hz
        · rw [List.mem_singleton.mp hz]; exact g5 y (List.mem_of_getElem? e3))
  exact ⟨ss', h', left', acc, e, g1, by simpa [rng_len] using g2, by simpa [rng_len] using g4, g6⟩

/-- a short text -/
def Nm (d : PyData) : Prop := ∃ s : Str, d = .str s ∧ PyData.strOk s = true ∧ s.cps.size ≤ 4
theorem names_ds : ∀ {ds : List PyData}, (∀ y ∈ ds, Nm y) → ∃ ys : List Str, ds = ys.map .str ∧ ∀ y ∈ ys, PyData.strOk y = true ∧ y.cps.size ≤ 4
  | [], _ => ⟨[], rfl, fun y hy => by simp at hy⟩
  | d :: ds, h => by
    obtain ⟨s, rfl, h1, h2⟩ := h d List.mem_cons_self
    obtain ⟨ys, rfl, h3⟩ := names_ds fun y hy => h y (List.mem_cons_of_mem _ hy)
    refine ⟨s :: ys, rfl, fun y hy => ?_⟩
    rcases List.mem_cons.mp hy with hy | hy
    · rw [hy]; exact ⟨h1, h2⟩
    · exact h3 y hy
theorem mem_srt {d : PyData} {ds : List PyData} : d ∈ srt ds ↔ d ∈ ds := (List.mergeSort_perm _ _).mem_iff
theorem len_srt (ds : List PyData) : (srt ds).length = ds.length := (List.mergeSort_perm _ _).length_eq
theorem nms_sort {ds : List PyData} (h : ∀ y ∈ ds, Nm y) : alikes ds = true ∧ sortb ds = true ∧ (ds.all fun d => decide (d.depth ≤ 64)) = true := by
  refine ⟨?_, ?_, ?_⟩
  · unfold alikes
    rw [List.all_eq_true]
    intro x hx
    rw [List.all_eq_true]
    intro y hy
    obtain ⟨s, rfl, _⟩ := h x hx
    obtain ⟨t, rfl, _⟩ := h y hy
    rfl
  · unfold sortb
    rw [Bool.or_eq_true]
    right
    rw [List.all_eq_true]
    intro x hx
    obtain ⟨s, rfl, _⟩ := h x hx
    rfl
  · rw [List.all_eq_true]
    intro x hx
    obtain ⟨s, rfl, _⟩ := h x hx
    exact decide_eq_true (Nat.zero_le _)
def pool : List PyData := [.str "a", .str "ab", .str "b", .str "bus", .str "c", .str "clk", .str "d", .str "e", .str "gpio", .str "x"]
theorem pool_nm : ∀ y ∈ pool, Nm y := by
  intro y hy
  simp only [pool, List.mem_cons, List.not_mem_nil, or_false] at hy
  rcases hy with rfl | rfl | rfl | rfl | rfl | rfl | rfl | rfl | rfl | rfl <;> exact ⟨_, rfl, by decide +kernel, by decide +kernel⟩
theorem Lp.start {Z : Int} {b : Nat} {hd : Hd} (bx : Bx Z b hd) (l a : List PyData) : Lp Z b hd hd.length (hd.length + 1) l a ((hd ++ [.lst (l.map .d)]) ++ [.lst (a.map .d)]) :=
  ⟨(bx.snoc l).snoc a, ((Sx.refl b hd).snoc _).snoc _, by simp, by simp⟩
theorem names_ok {Z : Int} {b n : Nat} {hd : Hd} (bx : Bx Z b hd) (hZ : Z + n ≤ 1000000000) (hn : n ≤ 10) :
    ∃ ds hd', m_L_names [.ref b, .d (.int n)] hd = some (.ok (.d (.list ds)) hd') ∧ ds.length = n ∧ (∀ y ∈ ds, Nm y) ∧ Bx (Z + n) b hd' ∧ Sa b hd hd' := by
  have hb := bx.lt
  obtain ⟨ss', h', left', acc, e1, hs, L, ha, hP⟩ := draws_ok (P := Nm) (p := hd.length) (q := hd.length + 1) (ss := [some (.ref b), some (.d (.int n)), some (.ref hd.length), some (.ref (hd.length + 1)), none]) (i := 3) (j := 2) (t := 4) hb (Nat.le_refl _) (by omega) (by omega) (by decide) (by decide) (by decide)
    (Lp.start bx pool []) hZ rfl rfl rfl (by simp [pool]; omega) (by decide) pool_nm
  obtain ⟨a1, a2, a3⟩ := nms_sort hP
  refine ⟨srt acc, h'.take hd.length, cut_ok (h := h') (mB_rt ?_) L.bx.1, by rw [len_srt]; exact ha, fun y hy => hP y (mem_srt.mp hy), L.bx.take hb, L.sx.cut⟩
  refine (seq_nx (s1 := [some (.ref b), some (.d (.int n)), some (.ref hd.length), some (.ref (hd.length + 1)), none]) (h1 := (hd ++ [O.lst (pool.map S.d)]) ++ [O.lst ([].map S.d)]) ?_).trans ?_
  · simp [mB, stS, sSeq, sIf, tb, tv, tNo, tAn, tOr_, fAn, fOr_, fNo, fIf, f3c, f2, f1, fV, fC, gIx, gOrd, seqOf, lstOf, boolOf, truOf, truS, L2.atI, sSet, gI2, hMod, hDiv, hSub, fN, g1, g2, gInt, aC, aN, sIxL, L2.ixN, sRet, gAdd, gEq, gNe, gLen, ar, sNil, sDrop, fM, gApp, gPopAt, isL, sPar, sPar3, gLstD, gLstL, gTupD, pures, gIsI, gIsI2, tagS, isT, scalD, PyData.eqv, pool]
  refine (seq_nx (s1 := ss') (h1 := h') ?_).trans ?_
  · refine (for_it (xs := rng n) (h1 := (hd ++ [O.lst (pool.map S.d)]) ++ [O.lst ([].map S.d)]) ?_).trans e1
    have hz : -4611686018427387904 ≤ (n : Int) ∧ n ≤ 16777216 := by omega
    simp [srcR1, fV, rng, hz]
    try omega
  · have s3 : ss'[3]? = some (some (.ref (hd.length + 1))) := hs 3 (by decide)
    have hq := L.hq
    simp [sRet, fN, g1, gSrt, aC, aN, fV, s3, lstOf, hq, pures_d, a1, a2, a3]
    try exact ⟨a1, a2, a3⟩
end K10

set_option Elab.async false
set_option linter.all false
set_option maxRecDepth 100000
set_option maxHeartbeats 4000000
namespace K10
open PySem EV
theorem some_ok {P : PyData → Prop} {Z : Int} {b n : Nat} {hd : Hd} {ds : List PyData} (bx : Bx Z b hd) (hZ : Z + n ≤ 1000000000) (hl : ds.length < 1000) (hn : n < 1000) (hP : ∀ y ∈ ds, P y) :
    ∃ os hd', m_L_some [.ref b, .d (.list ds), .d (.int n)] hd = some (.ok (.d (.list os)) hd') ∧ os.length = min n ds.length ∧ (∀ y ∈ os, P y) ∧ Bx (Z + n) b hd' ∧ Sa b hd hd' := by
  have hb := bx.lt
  obtain ⟨ss', h', left', acc, e1, hs, L, ha, hP⟩ := draws_ok (P := P) (p := hd.length) (q := hd.length + 1) (m := min n ds.length) (ss := [some (.ref b), some (.d (.list ds)), some (.d (.int n)), some (.ref hd.length), some (.ref (hd.length + 1)), none]) (i := 4) (j := 3) (t := 5) hb (Nat.le_refl _) (by omega) (by omega) (by decide) (by decide) (by decide)
    (Lp.start bx ds []) (by omega) rfl rfl rfl (by omega) hl hP
  refine ⟨acc, h'.take hd.length, cut_ref (h := h') (n := hd.length + 1) (mB_rt ?_) (by omega) L.hq L.bx.1, ha, hP, (L.bx.mono (by omega)).take hb, L.sx.cut⟩
  refine (seq_nx (s1 := [some (.ref b), some (.d (.list ds)), some (.d (.int n)), some (.ref hd.length), some (.ref (hd.length + 1)), none]) (h1 := (hd ++ [O.lst (ds.map S.d)]) ++ [O.lst ([].map S.d)]) ?_).trans ?_
  · simp [mB, stS, sSeq, sIf, tb, tv, tNo, tAn, tOr_, fAn, fOr_, fNo, fIf, f3c, f2, f1, fV, fC, gIx, gOrd, seqOf, lstOf, boolOf, truOf, truS, L2.atI, sSet, gI2, hMod, hDiv, hSub, fN, g1, g2, gInt, aC, aN, sIxL, L2.ixN, sRet, gAdd, gEq, gNe, gLen, ar, sNil, sDrop, fM, gApp, gPopAt, isL, sPar, sPar3, gLstD, gLstL, gTupD, pures, gIsI, gIsI2, tagS, isT, scalD, PyData.eqv, gListL]
  refine (seq_nx (s1 := ss') (h1 := h') ?_).trans ?_
  · refine (for_it (xs := rng (min n ds.length)) (h1 := (hd ++ [O.lst (ds.map S.d)]) ++ [O.lst ([].map S.d)]) ?_).trans e1
    have hz : (if (ds.length : Int) < n then (ds.length : Int) else n) = ((min n ds.length : Nat) : Int) := by split <;> omega
    have hz2 : -4611686018427387904 ≤ ((min n ds.length : Nat) : Int) ∧ ((min n ds.length : Nat) : Int) ≤ 16777216 := by omega
    simp only [srcR1, fN, g2, gMM, aC, fV, List.getElem?_cons_succ, List.getElem?_cons_zero, bnd_ok, g1, gLen, aN, seqOf]
    have h0 : ((hd ++ [O.lst (ds.map S.d)]) ++ [O.lst ([].map S.d)])[hd.length]? = some (O.lst (ds.map S.d)) := by simp
    simp only [h0, bnd_ok, List.length_map, g2, gMM, hz, if_pos hz2, Int.toNat_natCast]
    rfl
  · have s4 : ss'[4]? = some (some (.ref (hd.length + 1))) := hs 4 (by decide)
    simp [sRet, fV, s4]
theorem nm_ne {x y : PyData} (hx : Nm x) (hy : Nm y) : scalD x y = true := by
  obtain ⟨s, rfl, _⟩ := hx
  obtain ⟨t, rfl, _⟩ := hy
  rfl
theorem canLay_nms : ∀ {ds : List PyData}, (∀ y ∈ ds, Nm y) → PyData.canLayAll0 ds = true
  | [], _ => rfl
  | d :: ds, h => by
    obtain ⟨s, rfl, h1, _⟩ := h d List.mem_cons_self
    simp only [PyData.canLayAll0, PyData.canLay0, h1, canLay_nms fun y hy => h y (List.mem_cons_of_mem _ hy), Bool.and_self]
theorem depth_nms : ∀ {ds : List PyData}, (∀ y ∈ ds, Nm y) → PyData.depthAll ds = 0
  | [], _ => rfl
  | d :: ds, h => by
    obtain ⟨s, rfl, _⟩ := h d List.mem_cons_self
    simp [PyData.depthAll, PyData.depth, depth_nms fun y hy => h y (List.mem_cons_of_mem _ hy)]
theorem shaped_nms {ds : List PyData} (h : ∀ y ∈ ds, Nm y) : SeqAt.shaped (.list ds) = true := by
  unfold SeqAt.shaped
  simp [PyData.canLay0, canLay_nms h, PyData.depth, depth_nms h]
theorem shaped_nil : SeqAt.shaped (.list []) = true := by decide
/-- [own for own in xs if own != name] -/
theorem others_ok {h0 hd : Hd} {ss : Sd} {f : FE} {ds : List PyData} {nm : PyData} (h11 : 11 < ss.length) (h7 : ss[7]? = some (some (.d nm))) (hn : Nm nm) (hP : ∀ y ∈ ds, Nm y) (e : f ss h0 = some (.ok (.d (.list ds)) hd)) :
    ∃ os, fComp [11] (srcE srcA f) (tgN 11) (tb (f2 gNe (fV 11) (fV 7))) (fV 11) finF ss h0 = some (.ok (.d (.list os)) hd) ∧ (∀ y ∈ os, Nm y) ∧ os.length ≤ ds.length := by
  have q := cmp_pure (vs := [11]) (t := tgN 11) (tt := tb (f2 gNe (fV 11) (fV 7))) (te := fV 11) (ss := ss) (hd := hd) (fun x => match x with | .d y => !PyData.eqv y nm | _ => false) id (ds.map S.d) [] (fun x hx => by
    obtain ⟨y, hy, rfl⟩ := List.mem_map.mp hx
    have w11 : ((wip ss [11]).set 11 (some (S.d y)))[11]? = some (some (S.d y)) := List.getElem?_set_self (by simp [wip]; exact h11)
    have w7 : ((wip ss [11]).set 11 (some (S.d y)))[7]? = some (some (S.d nm)) := by
      rw [List.getElem?_set_ne (by decide)]
      show ((wip ss []).set 11 none)[7]? = _
      rw [List.getElem?_set_ne (by decide)]
      exact h7
    refine ⟨(wip ss [11]).set 11 (some (S.d y)), rfl, ?_, fun _ => ?_⟩
    · simp [tb, f2, fV, w11, w7, gNe, nm_ne (hP y hy) hn, boolOf]
    · simp [fV, w11])
  refine ⟨ds.filter (fun y => !PyData.eqv y nm), ?_, fun y hy => hP y (List.mem_filter.mp hy).1, List.length_filter_le _ _⟩
  unfold fComp srcE
  rw [e]
  simp only [bnd_ok, srcA, srcOf]
  rw [q]
  simp only [List.nil_append, bnd0_ok, List.map_id, finF]
  have e2 : ((ds.map S.d).filter fun x => match x with | .d y => !PyData.eqv y nm | _ => false) = (ds.filter fun y => !PyData.eqv y nm).map S.d := by
    rw [List.filter_map]
    rfl
  rw [e2, pures_d]

def OptP (d : PyData) : Prop := ∃ os : List PyData, d = .tuple os ∧ (∀ o ∈ os, Nm o) ∧ os.length ≤ 12
def WishP (d : PyData) : Prop := ∃ t b, d = .tuple [t, .bool b] ∧ OptP t
def RowP (d : PyData) : Prop := ∃ (nm : PyData) (needs ws : List PyData), d = .tuple [nm, .tuple needs, .tuple ws] ∧ Nm nm ∧ (∀ x ∈ needs, Nm x) ∧ needs.length ≤ 13 ∧ (∀ w ∈ ws, WishP w) ∧ ws.length ≤ 2
/-- the heap within the world's loop -/
structure Wl (Z : Int) (b : Nat) (hd : Hd) (R : Nat) (rows : List PyData) (h : Hd) : Prop where
  bx : Bx Z b h
  sx : Sx b hd h
  hR : h[R]? = some (.lst (rows.map .d))
theorem Wl.step {Z Z' : Int} {b R : Nat} {hd h h' : Hd} {rows : List PyData} (w : Wl Z b hd R rows h) (hb : R ≠ b) (bx : Bx Z' b h') (sa : Sa b h h') : Wl Z' b hd R rows h' :=
  ⟨bx, w.sx.trans sa.1, by rw [sa.1.2 R (List.getElem?_eq_some_iff.mp w.hR).1 hb]; exact w.hR⟩
def fWish : FS := sSeq (sSet 13 (fComp [11] (srcE srcA (f2 gAdd (fV 3) (f2 gRep (fN gLstD (aC (fC (.str "none")) aN)) (fN (g1 gInt) (aC (f2 gEq (fN (ar 2 m_L_take) (aC (fV 0) (aC (fC (.int 6)) aN))) (fC (.int 0))) aN))))) (tgN 11) (tb (f2 gNe (fV 11) (fV 7))) (fV 11) finF)) (sSeq (sSet 14 (fN (ar 3 m_L_some) (aC (fV 0) (aC (fV 13) (aC (f2 gAdd (fC (.int 1)) (fN (ar 2 m_L_take) (aC (fV 0) (aC (fC (.int 3)) aN)))) aN))))) (sIf (tb (f2 gNe (fV 14) (fN gLstD aN))) (sDrop (fM gApp (fV 9) (aC (fN gTupD (aC (fN (g1 gTuple) (aC (fV 14) aN)) (aC (fAn (fV 2) (f2 gEq (fN (ar 2 m_L_take) (aC (fV 0) (aC (fC (.int 4)) aN))) (fC (.int 0)))) aN))) aN))) sNil))
theorem none_nm : Nm (.str "none") := ⟨_, rfl, by decide +kernel, by decide +kernel⟩
theorem wish_ok {Z : Int} {b R W : Nat} {hd h : Hd} {ss : Sd} {rows ws names : List PyData} {nm : PyData} {mu : Bool} (w : Wl Z b hd R rows h) (hW : h[W]? = some (.lst (ws.map .d))) (hRb : R ≠ b) (hWb : W ≠ b) (hWR : W ≠ R) (hdW : hd.length ≤ W) (hZ : Z + 10 ≤ 1000000000)
    (hl : ss.length = 15) (s0 : ss[0]? = some (some (.ref b))) (s2 : ss[2]? = some (some (.d (.bool mu)))) (s3 : ss[3]? = some (some (.d (.list names)))) (s7 : ss[7]? = some (some (.d nm))) (s9 : ss[9]? = some (some (.ref W)))
    (hn : Nm nm) (hns : ∀ y ∈ names, Nm y) (hnl : names.length ≤ 10) (hws : ∀ x ∈ ws, WishP x) (hwl : ws.length < 100) :
    ∃ (ss' : Sd) (h' : Hd) (ws' : List PyData), fWish ss h = some (.ok (.nx ss') h') ∧ ss'.length = 15 ∧ (∀ r, r < 13 → ss'[r]? = ss[r]?) ∧ Wl (Z + 10) b hd R rows h' ∧ h'[W]? = some (.lst (ws'.map .d)) ∧ (∀ x ∈ ws', WishP x) ∧ ws'.length ≤ ws.length + 1 ∧ h'.length = h.length := by
  obtain ⟨v, h1, e1, v0, v1, bx1, sa1⟩ := take_ok w.bx (n := 6) (by omega) (by decide) (by decide)
  have w1 := w.step hRb bx1 sa1
  have hW1 : h1[W]? = some (.lst (ws.map .d)) := by rw [sa1.1.2 W (List.getElem?_eq_some_iff.mp hW).1 hWb]; exact hW
  obtain ⟨xs, ex, hxs, hxl⟩ : ∃ xs : List PyData, (f2 gAdd (fV 3) (f2 gRep (fN gLstD (aC (fC (.str "none")) aN)) (fN (g1 gInt) (aC (f2 gEq (fN (ar 2 m_L_take) (aC (fV 0) (aC (fC (.int 6)) aN))) (fC (.int 0))) aN)))) ss h = some (.ok (.d (.list xs)) h1) ∧ (∀ y ∈ xs, Nm y) ∧ xs.length ≤ 11 := by
    have hz : names.length ≤ 16777216 := by omega
    have hz1 : names.length + 1 ≤ 16777216 := by omega
    by_cases hv : v = 0
    · refine ⟨names ++ [.str "none"], ?_, fun y hy => ?_, by rw [List.length_append]; simp; omega⟩
      · simp [mB, stS, sSeq, sIf, tb, tv, tNo, tAn, tOr_, fAn, fOr_, fNo, fIf, f3c, f2, f1, fV, fC, gIx, gOrd, seqOf, lstOf, boolOf, truOf, truS, L2.atI, sSet, gI2, hMod, hDiv, hSub, fN, g1, g2, gInt, aC, aN, sIxL, L2.ixN, sRet, gAdd, gEq, gNe, gLen, ar, sNil, sDrop, fM, gApp, gPopAt, isL, sPar, sPar3, gLstD, gLstL, gTupD, pures, gIsI, gIsI2, tagS, isT, scalD, PyData.eqv, s0, s3, e1, hv, gRep, hz1]
      · rcases List.mem_append.mp hy with hy | hy
        · exact hns y hy
        · rw [List.mem_singleton.mp hy]; exact none_nm
    · refine ⟨names, ?_, hns, by omega⟩
      simp [mB, stS, sSeq, sIf, tb, tv, tNo, tAn, tOr_, fAn, fOr_, fNo, fIf, f3c, f2, f1, fV, fC, gIx, gOrd, seqOf, lstOf, boolOf, truOf, truS, L2.atI, sSet, gI2, hMod, hDiv, hSub, fN, g1, g2, gInt, aC, aN, sIxL, L2.ixN, sRet, gAdd, gEq, gNe, gLen, ar, sNil, sDrop, fM, gApp, gPopAt, isL, sPar, sPar3, gLstD, gLstL, gTupD, pures, gIsI, gIsI2, tagS, isT, scalD, PyData.eqv, s0, s3, e1, hv, gRep, hz]
  obtain ⟨os, eo, hos, hol⟩ := others_ok (h0 := h) (hd := h1) (by omega) s7 hn hxs ex
  obtain ⟨v2, h2, e2, u0, u1, bx2, sa2⟩ := take_ok bx1 (n := 3) (by omega) (by decide) (by decide)
  have w2 := w1.step hRb bx2 sa2
  obtain ⟨os2, h3, e3, hl3, hos2, bx3, sa3⟩ := some_ok (P := Nm) (n := 1 + v2.toNat) bx2 (by omega) (by omega) (by omega) hos
  have w3 := w2.step hRb bx3 sa3
  have hW3 : h3[W]? = some (.lst (ws.map .d)) := by
    have l1 := (List.getElem?_eq_some_iff.mp hW1).1
    rw [sa3.1.2 W (by rw [sa2.2]; exact l1) hWb, sa2.1.2 W l1 hWb]; exact hW1
  have en : ((1 + v2.toNat : Nat) : Int) = 1 + v2 := by omega
  rw [en] at e3
  have hl1 : (ss.set 13 (some (S.d (.list os)))).length = 15 := by rw [List.length_set]; exact hl
  have t0 : (ss.set 13 (some (S.d (.list os))))[0]? = some (some (.ref b)) := by rw [List.getElem?_set_ne (by decide)]; exact s0
  have t13 : (ss.set 13 (some (S.d (.list os))))[13]? = some (some (S.d (.list os))) := List.getElem?_set_self (by omega)
  have eA : fWish ss h = sIf (tb (f2 gNe (fV 14) (fN gLstD aN))) (sDrop (fM gApp (fV 9) (aC (fN gTupD (aC (fN (g1 gTuple) (aC (fV 14) aN)) (aC (fAn (fV 2) (f2 gEq (fN (ar 2 m_L_take) (aC (fV 0) (aC (fC (.int 4)) aN))) (fC (.int 0)))) aN))) aN))) sNil ((ss.set 13 (some (S.d (.list os)))).set 14 (some (S.d (.list os2)))) h3 := by
    unfold fWish
    refine (seq_nx (s1 := ss.set 13 (some (S.d (.list os)))) (h1 := h1) ?_).trans ?_
    · unfold sSet; rw [eo]; rfl
    refine (seq_nx (s1 := (ss.set 13 (some (S.d (.list os)))).set 14 (some (S.d (.list os2)))) (h1 := h3) ?_).trans rfl
    simp only [sSet, fN, aC, fV, t0, t13, bnd_ok, f2, fC, aN, ar, List.length_cons, List.length_nil, if_true, e2, gAdd, Nat.zero_add, Nat.reduceAdd, e3]
  have r0 : ((ss.set 13 (some (S.d (.list os)))).set 14 (some (S.d (.list os2))))[0]? = some (some (.ref b)) := by rw [List.getElem?_set_ne (by decide)]; exact t0
  have r2 : ((ss.set 13 (some (S.d (.list os)))).set 14 (some (S.d (.list os2))))[2]? = some (some (.d (.bool mu))) := by rw [List.getElem?_set_ne (by decide), List.getElem?_set_ne (by decide)]; exact s2
  have r9 : ((ss.set 13 (some (S.d (.list os)))).set 14 (some (S.d (.list os2))))[9]? = some (some (.ref W)) := by rw [List.getElem?_set_ne (by decide), List.getElem?_set_ne (by decide)]; exact s9
  have r14 : ((ss.set 13 (some (S.d (.list os)))).set 14 (some (S.d (.list os2))))[14]? = some (some (S.d (.list os2))) := List.getElem?_set_self (by omega)
  have rk : ∀ r, r < 13 → ((ss.set 13 (some (S.d (.list os)))).set 14 (some (S.d (.list os2))))[r]? = ss[r]? := fun r hr => by rw [List.getElem?_set_ne (by omega), List.getElem?_set_ne (by omega)]
  have rl : ((ss.set 13 (some (S.d (.list os)))).set 14 (some (S.d (.list os2)))).length = 15 := by rw [List.length_set]; exact hl1
  generalize (ss.set 13 (some (S.d (.list os)))).set 14 (some (S.d (.list os2))) = sf at eA r0 r2 r9 r14 rk rl
  rw [eA]
  have hh3 : h3.length = h.length := by rw [sa3.2, sa2.2, sa1.2]
  have sh := shaped_nms hos2
  cases os2 with
  | nil =>
    refine ⟨sf, h3, ws, ?_, rl, rk, ⟨w3.bx.mono (by omega), w3.sx, w3.hR⟩, hW3, hws, by omega, hh3⟩
    simp [mB, stS, sSeq, sIf, tb, tv, tNo, tAn, tOr_, fAn, fOr_, fNo, fIf, f3c, f2, f1, fV, fC, gIx, gOrd, seqOf, lstOf, boolOf, truOf, truS, L2.atI, sSet, gI2, hMod, hDiv, hSub, fN, g1, g2, gInt, aC, aN, sIxL, L2.ixN, sRet, gAdd, gEq, gNe, gLen, ar, sNil, sDrop, fM, gApp, gPopAt, isL, sPar, sPar3, gLstD, gLstL, gTupD, pures, gIsI, gIsI2, tagS, isT, scalD, PyData.eqv, r14, shaped_nil, PyData.eqvAll]
  | cons o os2 =>
    have hOpt : OptP (.tuple (o :: os2)) := ⟨_, rfl, hos2, by omega⟩
    have l3 := (List.getElem?_eq_some_iff.mp hW3).1
    cases mu with
    | false =>
      refine ⟨sf, h3.set W (.lst ((ws ++ [PyData.tuple [PyData.tuple (o :: os2), .bool false]]).map S.d)), ws ++ [.tuple [.tuple (o :: os2), .bool false]], ?_, rl, rk, ⟨(w3.bx.set hWb _).mono (by omega), w3.sx.set hdW _, by rw [List.getElem?_set_ne hWR]; exact w3.hR⟩, List.getElem?_set_self l3, fun x hx => ?_, by simp, by rw [List.length_set]; exact hh3⟩
      · have z : ws.length < 16777216 := by omega
        have z2 : os2.length + 1 ≤ 16777216 := by simp at hl3; omega
        simp [mB, stS, sSeq, sIf, tb, tv, tNo, tAn, tOr_, fAn, fOr_, fNo, fIf, f3c, f2, f1, fV, fC, gIx, gOrd, seqOf, lstOf, boolOf, truOf, truS, L2.atI, sSet, gI2, hMod, hDiv, hSub, fN, g1, g2, gInt, aC, aN, sIxL, L2.ixN, sRet, gAdd, gEq, gNe, gLen, ar, sNil, sDrop, fM, gApp, gPopAt, isL, sPar, sPar3, gLstD, gLstL, gTupD, pures, gIsI, gIsI2, tagS, isT, scalD, PyData.eqv, r14, sh, shaped_nil, PyData.eqvAll, r9, hW3, r2, gTuple, pures_d, z]
      · rcases List.mem_append.mp hx with hx | hx
        · exact hws x hx
        · rw [List.mem_singleton.mp hx]; exact ⟨_, _, rfl, hOpt⟩
    | true =>
      obtain ⟨v4, h4, e4, q0, q1, bx4, sa4⟩ := take_ok bx3 (n := 4) (by omega) (by decide) (by decide)
      have w4 := w3.step hRb bx4 sa4
      have hW4 : h4[W]? = some (.lst (ws.map .d)) := by rw [sa4.1.2 W l3 hWb]; exact hW3
      have l4 := (List.getElem?_eq_some_iff.mp hW4).1
      refine ⟨sf, h4.set W (.lst ((ws ++ [PyData.tuple [PyData.tuple (o :: os2), .bool (v4 == 0)]]).map S.d)), ws ++ [.tuple [.tuple (o :: os2), .bool (v4 == 0)]], ?_, rl, rk, ⟨(w4.bx.set hWb _).mono (by omega), w4.sx.set hdW _, by rw [List.getElem?_set_ne hWR]; exact w4.hR⟩, List.getElem?_set_self l4, fun x hx => ?_, by simp, by rw [List.length_set, sa4.2]; exact hh3⟩
      · have z : ws.length < 16777216 := by omega
        simp [mB, stS, sSeq, sIf, tb, tv, tNo, tAn, tOr_, fAn, fOr_, fNo, fIf, f3c, f2, f1, fV, fC, gIx, gOrd, seqOf, lstOf, boolOf, truOf, truS, L2.atI, sSet, gI2, hMod, hDiv, hSub, fN, g1, g2, gInt, aC, aN, sIxL, L2.ixN, sRet, gAdd, gEq, gNe, gLen, ar, sNil, sDrop, fM, gApp, gPopAt, isL, sPar, sPar3, gLstD, gLstL, gTupD, pures, gIsI, gIsI2, tagS, isT, scalD, PyData.eqv, r14, sh, shaped_nil, PyData.eqvAll, r9, hW3, r2, gTuple, pures_d, z, r0, e4, hW4]
      · rcases List.mem_append.mp hx with hx | hx
        · exact hws x hx
        · rw [List.mem_singleton.mp hx]; exact ⟨_, _, rfl, hOpt⟩
end K10

set_option Elab.async false
set_option linter.all false
set_option maxRecDepth 100000
set_option maxHeartbeats 4000000
namespace K10
open PySem EV
def rA : FS := sTT 3 (tgsC (tgN 7) (tgsC (tgN 8) (tgsC (tgN 9) tgsN))) (aC (f2 gIx (fV 4) (fV 6)) (aC (fN (ar 2 m_L_of) (aC (fV 0) (aC (fN gLstD (aC (fC (.int 0)) (aC (fC (.int 0)) (aC (fC (.int 0)) (aC (fC (.int 1)) (aC (fC (.int 1)) (aC (fC (.int 2)) aN))))))) aN))) (aC (fN gLstL aN) aN)))
def rB : FS := sSet 10 (fN (ar 3 m_L_some) (aC (fV 0) (aC (fSl (fV 4) oN (oS (fV 6))) (aC (fV 8) aN))))
def rC : FS := sIf (tb (f2 gEq (fN (ar 2 m_L_take) (aC (fV 0) (aC (fC (.int 12)) aN))) (fC (.int 0)))) (sSet 10 (f2 gAdd (fV 10) (fN gLstD (aC (fN (ar 2 m_L_of) (aC (fV 0) (aC (f2 gAdd (fComp [11] (srcE srcA (fV 3)) (tgN 11) (tb (f2 gNe (fV 11) (fV 7))) (fV 11) finF) (fN gLstD (aC (fC (.str "none")) aN))) aN))) aN)))) sNil
def rD : FS := sFor (srcR1 (fN (ar 2 m_L_of) (aC (fV 0) (aC (fN gLstD (aC (fC (.int 0)) (aC (fC (.int 1)) (aC (fC (.int 1)) (aC (fC (.int 2)) aN))))) aN)))) (tgN 12) fWish
def rE : FS := sDrop (fM gApp (fV 5) (aC (fN gTupD (aC (fV 7) (aC (fN (g1 gTuple) (aC (f1 gSrtSet (fV 10)) aN)) (aC (fN (g1 gTuple) (aC (fV 9) aN)) aN)))) aN))
/-- the slots that stay within a row -/
structure Ss (b : Nat) (mu : Bool) (names order : List PyData) (R : Nat) (n : PyData) (ss : Sd) : Prop where
  len : ss.length = 15
  s0 : ss[0]? = some (some (.ref b))
  s1 : ss[1]? = some (some (.d n))
  s2 : ss[2]? = some (some (.d (.bool mu)))
  s3 : ss[3]? = some (some (.d (.list names)))
  s4 : ss[4]? = some (some (.d (.list order)))
  s5 : ss[5]? = some (some (.ref R))
theorem Ss.set {b : Nat} {mu : Bool} {names order : List PyData} {R : Nat} {n : PyData} {ss : Sd} (s : Ss b mu names order R n ss) {i : Nat} (hi : 6 ≤ i) (o : Option S) : Ss b mu names order R n (ss.set i o) := by
  refine ⟨by rw [List.length_set]; exact s.len, ?_, ?_, ?_, ?_, ?_, ?_⟩ <;> rw [List.getElem?_set_ne (by omega)]
  · exact s.s0
  · exact s.s1
  · exact s.s2
  · exact s.s3
  · exact s.s4
  · exact s.s5
theorem Ss.of {b : Nat} {mu : Bool} {names order : List PyData} {R : Nat} {n : PyData} {ss s' : Sd} (s : Ss b mu names order R n ss) (hl : s'.length = 15) (h : ∀ r, r < 6 → s'[r]? = ss[r]?) : Ss b mu names order R n s' :=
  ⟨hl, by rw [h 0 (by decide)]; exact s.s0, by rw [h 1 (by decide)]; exact s.s1, by rw [h 2 (by decide)]; exact s.s2, by rw [h 3 (by decide)]; exact s.s3, by rw [h 4 (by decide)]; exact s.s4, by rw [h 5 (by decide)]; exact s.s5⟩
section
variable {Z : Int} {b R : Nat} {hd h : Hd} {ss : Sd} {rows names order : List PyData} {n : PyData} {mu : Bool}
theorem rA_ok {k : Nat} {nm : PyData} (w : Wl Z b hd R rows h) (s : Ss b mu names order R n ss) (hRb : R ≠ b) (hZ : Z + 1 ≤ 1000000000) (s6 : ss[6]? = some (some (.d (.int k)))) (hk : order[k]? = some nm) :
    ∃ (v : Nat) (h' : Hd), rA ss h = some (.ok (.nx (((ss.set 7 (some (.d nm))).set 8 (some (.d (.int v)))).set 9 (some (.ref h.length)))) h') ∧ v ≤ 2 ∧ Wl (Z + 1) b hd R rows h' ∧ h'[h.length]? = some (.lst ([].map .d)) := by
  obtain ⟨x, h1, e1, hx, bx1, sa1⟩ := of_ok (ds := [.int 0, .int 0, .int 0, .int 1, .int 1, .int 2]) w.bx (by omega) (by simp) (by decide)
  have w1 := w.step hRb bx1 sa1
  obtain ⟨v, hv, rfl⟩ : ∃ v : Nat, v ≤ 2 ∧ x = .int v := by
    simp only [List.mem_cons, List.not_mem_nil, or_false] at hx
    rcases hx with rfl | rfl | rfl | rfl | rfl | rfl <;> first | exact ⟨0, by decide, rfl⟩ | exact ⟨1, by decide, rfl⟩ | exact ⟨2, by decide, rfl⟩
  have hkl : k < order.length := (List.getElem?_eq_some_iff.mp hk).1
  have hkl2 : (k : Int) < order.length := by omega
  refine ⟨v, h1 ++ [.lst ([].map .d)], ?_, hv, ⟨bx1.snoc [], w1.sx.snoc _, ?_⟩, ?_⟩
  · unfold rA
    simp [mB, stS, sSeq, sIf, tb, tv, tNo, tAn, tOr_, fAn, fOr_, fNo, fIf, f3c, f2, f1, fV, fC, gIx, gOrd, seqOf, lstOf, boolOf, truOf, truS, L2.atI, sSet, gI2, hMod, hDiv, hSub, fN, g1, g2, gInt, aC, aN, sIxL, L2.ixN, sRet, gAdd, gEq, gNe, gLen, ar, sNil, sDrop, fM, gApp, gPopAt, isL, sPar, sPar3, gLstD, gLstL, gTupD, pures, gIsI, gIsI2, tagS, isT, scalD, PyData.eqv, sTT, tgsC, tgN, tgsN, s.s0, s.s4, s6, e1, hk, hkl, hkl2, sa1.2]
    rw [(List.getElem?_eq_some_iff.mp hk).2]
  · rw [List.getElem?_append_left (List.getElem?_eq_some_iff.mp w1.hR).1]; exact w1.hR
  · rw [← sa1.2]; simp
theorem rB_ok {k v : Nat} (w : Wl Z b hd R rows h) (s : Ss b mu names order R n ss) (hRb : R ≠ b) (hZ : Z + 2 ≤ 1000000000) (s6 : ss[6]? = some (some (.d (.int k)))) (s8 : ss[8]? = some (some (.d (.int v)))) (hv : v ≤ 2) (ho : ∀ y ∈ order, Nm y) (hol : order.length ≤ 10) :
    ∃ (nd : List PyData) (h' : Hd), rB ss h = some (.ok (.nx (ss.set 10 (some (.d (.list nd))))) h') ∧ (∀ y ∈ nd, Nm y) ∧ nd.length ≤ 10 ∧ Wl (Z + 2) b hd R rows h' ∧ Sa b h h' := by
  have hc : ∀ y ∈ cutL order none (some (k : Int)), Nm y := fun y hy => ho y (List.mem_of_mem_drop (List.mem_of_mem_take hy))
  have hcl : (cutL order none (some (k : Int))).length ≤ 10 := by
    unfold cutL
    rw [List.length_take, List.length_drop]
    omega
  obtain ⟨nd, h1, e1, hl, hn, bx1, sa1⟩ := some_ok (P := Nm) (n := v) w.bx (by omega) (by omega) (by omega) hc
  have w1 := w.step hRb bx1 sa1
  refine ⟨nd, h1, ?_, hn, by omega, ⟨w1.bx.mono (by omega), w1.sx, w1.hR⟩, sa1⟩
  unfold rB
  simp [mB, stS, sSeq, sIf, tb, tv, tNo, tAn, tOr_, fAn, fOr_, fNo, fIf, f3c, f2, f1, fV, fC, gIx, gOrd, seqOf, lstOf, boolOf, truOf, truS, L2.atI, sSet, gI2, hMod, hDiv, hSub, fN, g1, g2, gInt, aC, aN, sIxL, L2.ixN, sRet, gAdd, gEq, gNe, gLen, ar, sNil, sDrop, fM, gApp, gPopAt, isL, sPar, sPar3, gLstD, gLstL, gTupD, pures, gIsI, gIsI2, tagS, isT, scalD, PyData.eqv, s.s0, s.s4, s6, s8, fSl, oN, oS, gSl, pures_d, e1]
theorem rC_ok {nd : List PyData} {nm : PyData} (w : Wl Z b hd R rows h) (s : Ss b mu names order R n ss) (hRb : R ≠ b) (hZ : Z + 2 ≤ 1000000000) (s7 : ss[7]? = some (some (.d nm))) (s10 : ss[10]? = some (some (.d (.list nd)))) (hnm : Nm nm) (hnd : ∀ y ∈ nd, Nm y) (hnl : nd.length ≤ 10) (ho : ∀ y ∈ names, Nm y) (hol : names.length ≤ 10) :
    ∃ (nd' : List PyData) (ss' : Sd) (h' : Hd), rC ss h = some (.ok (.nx ss') h') ∧ ss'.length = 15 ∧ (∀ r, r ≠ 10 → ss'[r]? = ss[r]?) ∧ ss'[10]? = some (some (.d (.list nd'))) ∧ (∀ y ∈ nd', Nm y) ∧ nd'.length ≤ 11 ∧ Wl (Z + 2) b hd R rows h' ∧ Sa b h h' := by
  obtain ⟨v, h1, e1, v0, v1, bx1, sa1⟩ := take_ok w.bx (n := 12) (by omega) (by decide) (by decide)
  have w1 := w.step hRb bx1 sa1
  by_cases hv : v = 0
  · obtain ⟨os, eo, hos, hosl⟩ := others_ok (h0 := h1) (hd := h1) (ss := ss) (f := fV 3) (by rw [s.len]; decide) s7 hnm ho (by simp [fV, s.s3])
    have hx : ∀ y ∈ os ++ [PyData.str "none"], Nm y := fun y hy => by
      rcases List.mem_append.mp hy with hy | hy
      · exact hos y hy
      · rw [List.mem_singleton.mp hy]; exact none_nm
    obtain ⟨x, h2, e2, hxm, bx2, sa2⟩ := of_ok (ds := os ++ [PyData.str "none"]) bx1 (by omega) (by simp) (by simp; omega)
    have w2 := w1.step hRb bx2 sa2
    refine ⟨nd ++ [x], ss.set 10 (some (.d (.list (nd ++ [x])))), h2, ?_, by rw [List.length_set]; exact s.len, fun r hr => by rw [List.getElem?_set_ne (Ne.symm hr)], List.getElem?_set_self (by rw [s.len]; decide), fun y hy => ?_, by rw [List.length_append]; simp; omega, ⟨w2.bx.mono (by omega), w2.sx, w2.hR⟩, ⟨sa1.1.trans sa2.1, by rw [sa2.2, sa1.2]⟩⟩
    · have z1 : os.length + 1 ≤ 16777216 := by omega
      have z2 : nd.length + 1 ≤ 16777216 := by omega
      unfold rC
      simp [mB, stS, sSeq, sIf, tb, tv, tNo, tAn, tOr_, fAn, fOr_, fNo, fIf, f3c, f2, f1, fV, fC, gIx, gOrd, seqOf, lstOf, boolOf, truOf, truS, L2.atI, sSet, gI2, hMod, hDiv, hSub, fN, g1, g2, gInt, aC, aN, sIxL, L2.ixN, sRet, gAdd, gEq, gNe, gLen, ar, sNil, sDrop, fM, gApp, gPopAt, isL, sPar, sPar3, gLstD, gLstL, gTupD, pures, gIsI, gIsI2, tagS, isT, scalD, PyData.eqv, s.s0, s10, e1, hv, eo, z1, z2, e2]
    · rcases List.mem_append.mp hy with hy | hy
      · exact hnd y hy
      · rw [List.mem_singleton.mp hy]; exact hx x hxm
  · refine ⟨nd, ss, h1, ?_, s.len, fun _ _ => rfl, s10, hnd, by omega, ⟨w1.bx.mono (by omega), w1.sx, w1.hR⟩, sa1⟩
    unfold rC
    simp [mB, stS, sSeq, sIf, tb, tv, tNo, tAn, tOr_, fAn, fOr_, fNo, fIf, f3c, f2, f1, fV, fC, gIx, gOrd, seqOf, lstOf, boolOf, truOf, truS, L2.atI, sSet, gI2, hMod, hDiv, hSub, fN, g1, g2, gInt, aC, aN, sIxL, L2.ixN, sRet, gAdd, gEq, gNe, gLen, ar, sNil, sDrop, fM, gApp, gPopAt, isL, sPar, sPar3, gLstD, gLstL, gTupD, pures, gIsI, gIsI2, tagS, isT, scalD, PyData.eqv, s.s0, e1, hv]
theorem rD_ok {W : Nat} {nm : PyData} (w : Wl Z b hd R rows h) (s : Ss b mu names order R n ss) (hW : h[W]? = some (.lst ([].map .d))) (hRb : R ≠ b) (hWb : W ≠ b) (hWR : W ≠ R) (hdW : hd.length ≤ W) (hZ : Z + 40 ≤ 1000000000) (s7 : ss[7]? = some (some (.d nm))) (s9 : ss[9]? = some (some (.ref W))) (hnm : Nm nm) (ho : ∀ y ∈ names, Nm y) (hol : names.length ≤ 10) :
    ∃ (ss' : Sd) (h' : Hd) (ws : List PyData), rD ss h = some (.ok (.nx ss') h') ∧ ss'.length = 15 ∧ (∀ r, r < 12 → ss'[r]? = ss[r]?) ∧ Wl (Z + 21) b hd R rows h' ∧ h'[W]? = some (.lst (ws.map .d)) ∧ (∀ x ∈ ws, WishP x) ∧ ws.length ≤ 2 := by
  obtain ⟨x, h1, e1, hx, bx1, sa1⟩ := of_ok (ds := [.int 0, .int 1, .int 1, .int 2]) w.bx (by omega) (by simp) (by decide)
  have w1 := w.step hRb bx1 sa1
  have hW1 : h1[W]? = some (.lst (([] : List PyData).map .d)) := by rw [sa1.1.2 W (List.getElem?_eq_some_iff.mp hW).1 hWb]; exact hW
  obtain ⟨v, hv, rfl⟩ : ∃ v : Nat, v ≤ 2 ∧ x = .int v := by
    simp only [List.mem_cons, List.not_mem_nil, or_false] at hx
    rcases hx with rfl | rfl | rfl | rfl <;> first | exact ⟨0, by decide, rfl⟩ | exact ⟨1, by decide, rfl⟩ | exact ⟨2, by decide, rfl⟩
  obtain ⟨ss', h', e, g1, g2, g3, ws, g4, g5, g6⟩ := for_inv (t := tgN 12) (f := fWish) (fun i s' h' => s'.length = 15 ∧ (∀ r, r < 12 → s'[r]? = ss[r]?) ∧ Wl (Z + 1 + 10 * i) b hd R rows h' ∧ ∃ ws : List PyData, h'[W]? = some (.lst (ws.map .d)) ∧ (∀ x ∈ ws, WishP x) ∧ ws.length ≤ i) (rng v) 0 ss h1
    ⟨s.len, fun _ _ => rfl, by simpa using w1, [], hW1, fun x hx => by simp at hx, Nat.le_refl _⟩ (fun i x s' h2 hx hi ⟨g1, g2, g3, ws, g4, g5, g6⟩ => by
      rw [rng_len, Nat.zero_add] at hi
      have k : ∀ r, r < 12 → (s'.set 12 (some x))[r]? = ss[r]? := fun r hr => by rw [List.getElem?_set_ne (by omega)]; exact g2 r hr
      obtain ⟨s2, h3, ws', e, a1, a2, a3, a4, a5, a6, _⟩ := wish_ok (ss := s'.set 12 (some x)) (mu := mu) (names := names) (nm := nm) g3 g4 hRb hWb hWR hdW (by omega) (by rw [List.length_set]; exact g1) (by rw [k 0 (by decide)]; exact s.s0) (by rw [k 2 (by decide)]; exact s.s2) (by rw [k 3 (by decide)]; exact s.s3) (by rw [k 7 (by decide)]; exact s7) (by rw [k 9 (by decide)]; exact s9) hnm ho hol g5 (by omega)
      refine ⟨s'.set 12 (some x), rfl, s2, h3, .inl e, a1, fun r hr => by rw [a2 r (by omega)]; exact k r hr, ?_, ws', a4, a5, by omega⟩
      have e2 : Z + 1 + 10 * ((i + 1 : Nat) : Int) = Z + 1 + 10 * i + 10 := by omega
      rw [e2]; exact a3)
  rw [rng_len, Nat.zero_add] at g3 g6
  refine ⟨ss', h', ws, ?_, g1, g2, ⟨g3.bx.mono (by omega), g3.sx, g3.hR⟩, g4, g5, by omega⟩
  unfold rD
  refine (for_it (xs := rng v) (h1 := h1) ?_).trans e
  have hz : -4611686018427387904 ≤ (v : Int) ∧ (v : Int) ≤ 16777216 := by omega
  simp [mB, stS, sSeq, sIf, tb, tv, tNo, tAn, tOr_, fAn, fOr_, fNo, fIf, f3c, f2, f1, fV, fC, gIx, gOrd, seqOf, lstOf, boolOf, truOf, truS, L2.atI, sSet, gI2, hMod, hDiv, hSub, fN, g1, g2, gInt, aC, aN, sIxL, L2.ixN, sRet, gAdd, gEq, gNe, gLen, ar, sNil, sDrop, fM, gApp, gPopAt, isL, sPar, sPar3, gLstD, gLstL, gTupD, pures, gIsI, gIsI2, tagS, isT, scalD, PyData.eqv, srcR1, s.s0, e1, rng, hz]
  try omega
theorem rE_ok {W : Nat} {nm : PyData} {nd ws : List PyData} (w : Wl Z b hd R rows h) (s : Ss b mu names order R n ss) (hW : h[W]? = some (.lst (ws.map .d))) (hRb : R ≠ b) (hdR : hd.length ≤ R) (s7 : ss[7]? = some (some (.d nm))) (s9 : ss[9]? = some (some (.ref W))) (s10 : ss[10]? = some (some (.d (.list nd)))) (hnm : Nm nm) (hnd : ∀ y ∈ nd, Nm y) (hndl : nd.length ≤ 11) (hws : ∀ x ∈ ws, WishP x) (hwl : ws.length ≤ 2) (hr : rows.length ≤ 100) :
    ∃ (h' : Hd) (row : PyData), rE ss h = some (.ok (.nx ss) h') ∧ Wl Z b hd R (rows ++ [row]) h' ∧ RowP row := by
  obtain ⟨ys, rfl, hys⟩ := names_ds hnd
  have et : txts (ys.map fun x => S.d (.str x)) = some ys := by
    clear hndl hys hnd s10
    induction ys with
    | nil => rfl
    | cons y ys ih => rw [List.map_cons, txts, ih]; rfl
  have es : setOf h (.d (.list (ys.map .str))) = some ys := by
    have : ys.length ≤ 4000 := by rw [List.length_map] at hndl; omega
    simp only [setOf, seqOf, List.map_map]
    show (match txts (ys.map fun x => S.d (.str x)) with | some ys => if ys.length ≤ 4000 then some ys else none | none => none) = _
    simp only [et, if_pos this]
  have hm : ∀ d, d ∈ srtS ys → d ∈ ys.map PyData.str := fun d hd => by
    unfold srtS at hd
    obtain ⟨y, hy, rfl⟩ := List.mem_map.mp hd
    exact List.mem_map_of_mem (mem_dd.mp ((List.mergeSort_perm _ _).mem_iff.mp hy))
  have hl : (srtS ys).length ≤ 11 := by
    unfold srtS
    rw [List.length_map, (List.mergeSort_perm _ _).length_eq]
    have : ∀ zs : List Str, (dd zs).length ≤ zs.length := fun zs => by
      induction zs with
      | nil => exact Nat.le_refl _
      | cons x r ih =>
        unfold dd
        split
        · exact Nat.le_succ_of_le ih
        · exact Nat.succ_le_succ ih
    have := this ys
    rw [List.length_map] at hndl
    omega
  have hRl := (List.getElem?_eq_some_iff.mp w.hR).1
  refine ⟨h.set R (.lst ((rows ++ [PyData.tuple [nm, .tuple (srtS ys), .tuple ws]]).map S.d)), .tuple [nm, .tuple (srtS ys), .tuple ws], ?_, ⟨w.bx.set hRb _, w.sx.set hdR _, List.getElem?_set_self hRl⟩, ⟨nm, srtS ys, ws, rfl, hnm, fun x hx => hnd x (hm x hx), by omega, hws, hwl⟩⟩
  have z : rows.length < 16777216 := by omega
  have hR := w.hR
  unfold rE
  simp [mB, stS, sSeq, sIf, tb, tv, tNo, tAn, tOr_, fAn, fOr_, fNo, fIf, f3c, f2, f1, fV, fC, gIx, gOrd, seqOf, lstOf, boolOf, truOf, truS, L2.atI, sSet, gI2, hMod, hDiv, hSub, fN, g1, g2, gInt, aC, aN, sIxL, L2.ixN, sRet, gAdd, gEq, gNe, gLen, ar, sNil, sDrop, fM, gApp, gPopAt, isL, sPar, sPar3, gLstD, gLstL, gTupD, pures, gIsI, gIsI2, tagS, isT, scalD, PyData.eqv, s.s5, hR, s7, s10, gSrtSet, es, gTuple, pures_d, s9, hW, z]
def fRow : FS := sSeq rA (sSeq rB (sSeq rC (sSeq rD rE)))
theorem row_ok {k : Nat} (w : Wl Z b hd R rows h) (s : Ss b mu names order R n ss) (hRb : R ≠ b) (hdR : hd.length ≤ R) (hbd : b < hd.length) (hZ : Z + 100 ≤ 1000000000) (s6 : ss[6]? = some (some (.d (.int k)))) (hk : k < order.length) (ho : ∀ y ∈ names, Nm y) (hol : names.length ≤ 10) (hor : ∀ y ∈ order, Nm y) (horl : order.length ≤ 10) (hr : rows.length ≤ 100) :
    ∃ (ss' : Sd) (h' : Hd) (row : PyData), fRow ss h = some (.ok (.nx ss') h') ∧ Ss b mu names order R n ss' ∧ Wl (Z + 30) b hd R (rows ++ [row]) h' ∧ RowP row := by
  have hRh := (List.getElem?_eq_some_iff.mp w.hR).1
  have hl : hd.length ≤ h.length := w.sx.1
  obtain ⟨v, h1, e1, hv, w1, hW1⟩ := rA_ok w s hRb (by omega) s6 (List.getElem?_eq_getElem hk)
  have hnm : Nm order[k] := hor _ (List.getElem_mem hk)
  generalize order[k] = nm at e1 hnm
  generalize hs1 : ((ss.set 7 (some (S.d nm))).set 8 (some (S.d (.int v)))).set 9 (some (S.ref h.length)) = s1 at e1
  have S1 : Ss b mu names order R n s1 := by rw [← hs1]; exact ((s.set (by decide) _).set (by decide) _).set (by decide) _
  have a6 : s1[6]? = some (some (.d (.int k))) := by rw [← hs1, List.getElem?_set_ne (by decide), List.getElem?_set_ne (by decide), List.getElem?_set_ne (by decide)]; exact s6
  have a7 : s1[7]? = some (some (.d nm)) := by rw [← hs1, List.getElem?_set_ne (by decide), List.getElem?_set_ne (by decide), List.getElem?_set_self (by rw [s.len]; decide)]
  have a8 : s1[8]? = some (some (.d (.int v))) := by rw [← hs1, List.getElem?_set_ne (by decide), List.getElem?_set_self (by rw [List.length_set, s.len]; decide)]
  have a9 : s1[9]? = some (some (.ref h.length)) := by rw [← hs1, List.getElem?_set_self (by rw [List.length_set, List.length_set, s.len]; decide)]
  obtain ⟨nd, h2, e2, hnd, hndl, w2, sa2⟩ := rB_ok w1 S1 hRb (by omega) a6 a8 hv hor horl
  have hWb : h.length ≠ b := by omega
  have hW2 : h2[h.length]? = some (.lst (([] : List PyData).map .d)) := by rw [sa2.1.2 _ (List.getElem?_eq_some_iff.mp hW1).1 hWb]; exact hW1
  have S2 := S1.set (i := 10) (by decide) (some (.d (.list nd)))
  obtain ⟨nd', s3, h3, e3, l3, k3, b10, hnd', hndl', w3, sa3⟩ := rC_ok (nm := nm) (nd := nd) w2 S2 hRb (by omega) (by rw [List.getElem?_set_ne (by decide)]; exact a7) (List.getElem?_set_self (by rw [S1.len]; decide)) hnm hnd hndl ho hol
  have hW3 : h3[h.length]? = some (.lst (([] : List PyData).map .d)) := by rw [sa3.1.2 _ (List.getElem?_eq_some_iff.mp hW2).1 hWb]; exact hW2
  have S3 : Ss b mu names order R n s3 := S2.of l3 fun r hr => k3 r (by omega)
  have b7 : s3[7]? = some (some (.d nm)) := by rw [k3 7 (by decide), List.getElem?_set_ne (by decide)]; exact a7
  have b9 : s3[9]? = some (some (.ref h.length)) := by rw [k3 9 (by decide), List.getElem?_set_ne (by decide)]; exact a9
  obtain ⟨s4, h4, ws, e4, l4, k4, w4, hW4, hws, hwl⟩ := rD_ok (W := h.length) w3 S3 hW3 hRb hWb (by omega) hl (by omega) b7 b9 hnm ho hol
  have S4 : Ss b mu names order R n s4 := S3.of l4 fun r hr => k4 r (by omega)
  obtain ⟨h5, row, e5, w5, hrow⟩ := rE_ok (W := h.length) w4 S4 hW4 hRb hdR (by rw [k4 7 (by decide)]; exact b7) (by rw [k4 9 (by decide)]; exact b9) (by rw [k4 10 (by decide)]; exact b10) hnm hnd' hndl' hws hwl hr
  refine ⟨s4, h5, row, ?_, S4, ⟨w5.bx.mono (by omega), w5.sx, w5.hR⟩, hrow⟩
  unfold fRow
  rw [seq_nx e1, seq_nx e2, seq_nx e3, seq_nx e4]
  exact e5
end
end K10

set_option Elab.async false
set_option linter.all false
set_option maxRecDepth 100000
set_option maxHeartbeats 4000000
namespace K10
open PySem EV PySem.W
theorem alikeAll_of : ∀ {xs ys : List PyData}, (∀ x ∈ xs, ∀ y ∈ ys, alike x y = true) → alikeAll xs ys = true
  | [], _, _ => by unfold alikeAll; rfl
  | _ :: _, [], _ => by unfold alikeAll; rfl
  | x :: xs, y :: ys, h => by
    unfold alikeAll
    rw [Bool.and_eq_true]
    exact ⟨h x List.mem_cons_self y List.mem_cons_self, alikeAll_of fun a ha b hb => h a (List.mem_cons_of_mem _ ha) b (List.mem_cons_of_mem _ hb)⟩
theorem nm_alike {x y : PyData} (hx : Nm x) (hy : Nm y) : alike x y = true := by
  obtain ⟨s, rfl, _⟩ := hx
  obtain ⟨t, rfl, _⟩ := hy
  rfl
theorem wish_alike {x y : PyData} (hx : WishP x) (hy : WishP y) : alike x y = true := by
  obtain ⟨_, b, rfl, os, rfl, h1, _⟩ := hx
  obtain ⟨_, c, rfl, ps, rfl, h2, _⟩ := hy
  simp only [alike, alikeAll, Bool.and_true]
  exact alikeAll_of fun a ha b hb => nm_alike (h1 a ha) (h2 b hb)
theorem row_alike {x y : PyData} (hx : RowP x) (hy : RowP y) : alike x y = true := by
  obtain ⟨nm, nd, ws, rfl, h1, h2, _, h3, _⟩ := hx
  obtain ⟨nm', nd', ws', rfl, k1, k2, _, k3, _⟩ := hy
  simp only [alike, alikeAll, Bool.and_true, Bool.and_eq_true]
  exact ⟨nm_alike h1 k1, alikeAll_of fun a ha b hb => nm_alike (h2 a ha) (k2 b hb), alikeAll_of fun a ha b hb => wish_alike (h3 a ha) (k3 b hb)⟩
theorem depthAll_le {n : Nat} : ∀ {ds : List PyData}, (∀ y ∈ ds, y.depth ≤ n) → PyData.depthAll ds ≤ n
  | [], _ => Nat.zero_le _
  | d :: ds, h => by
    simp only [PyData.depthAll]
    have h1 := h d List.mem_cons_self
    have h2 := depthAll_le fun y hy => h y (List.mem_cons_of_mem _ hy)
    omega
theorem nm_depth {d : PyData} (h : Nm d) : d.depth = 0 := by obtain ⟨s, rfl, _⟩ := h; simp [PyData.depth]
theorem wish_depth {d : PyData} (h : WishP d) : d.depth ≤ 2 := by
  obtain ⟨_, b, rfl, os, rfl, h1, _⟩ := h
  simp [PyData.depth, PyData.depthAll, depth_nms h1]
theorem row_depth {d : PyData} (h : RowP d) : d.depth ≤ 4 := by
  obtain ⟨nm, nd, ws, rfl, h1, h2, _, h3, _⟩ := h
  have := depthAll_le (n := 2) fun y hy => wish_depth (h3 y hy)
  simp only [PyData.depth, PyData.depthAll, nm_depth h1, depth_nms h2]
  omega
theorem rows_sort {ds : List PyData} (h : ∀ y ∈ ds, RowP y) : alikes ds = true ∧ sortb ds = true ∧ (ds.all fun d => decide (d.depth ≤ 64)) = true := by
  refine ⟨?_, ?_, ?_⟩
  · unfold alikes
    rw [List.all_eq_true]
    intro x hx
    rw [List.all_eq_true]
    intro y hy
    exact row_alike (h x hx) (h y hy)
  · unfold sortb
    rw [Bool.or_eq_true]
    left
    rw [List.all_eq_true]
    intro x hx
    obtain ⟨nm, nd, ws, rfl, _⟩ := h x hx
    rfl
  · rw [List.all_eq_true]
    intro x hx
    exact decide_eq_true (Nat.le_trans (row_depth (h x hx)) (by decide))
theorem world_ok {Z : Int} {b n : Nat} {hd : Hd} {mu : Bool} (bx : Bx Z b hd) (hZ : Z + 500 ≤ 1000000000) (hn : n ≤ 10) :
    ∃ rows hd', m_L_world [.ref b, .d (.int n), .d (.bool mu)] hd = some (.ok (.d (.tuple rows)) hd') ∧ rows.length = n ∧ (∀ r ∈ rows, RowP r) ∧ Bx (Z + 400) b hd' ∧ Sa b hd hd' := by
  have hb := bx.lt
  obtain ⟨names, h1, e1, nl, hnm, bx1, sa1⟩ := names_ok bx (n := n) (by omega) hn
  obtain ⟨order, h2, e2, ol, hon, bx2, sa2⟩ := some_ok (P := Nm) (n := n) bx1 (by omega) (by omega) (by omega) hnm
  have sx2 : Sx b hd h2 := sa1.1.trans sa2.1
  have l2 : h2.length = hd.length := by rw [sa2.2, sa1.2]
  have ol' : order.length = n := by omega
  have w0 : Wl (Z + n + n) b hd hd.length [] (h2 ++ [.lst (([] : List PyData).map .d)]) := ⟨bx2.snoc [], sx2.snoc _, by rw [← l2]; simp⟩
  generalize hs0 : ([some (.ref b), some (.d (.int n)), some (.d (.bool mu)), some (.d (.list names)), some (.d (.list order)), some (.ref hd.length), none, none, none, none, none, none, none, none, none] : Sd) = s0
  have S0 : Ss b mu names order hd.length (.int n) s0 := by rw [← hs0]; exact ⟨rfl, rfl, rfl, rfl, rfl, rfl, rfl⟩
  obtain ⟨ss', h', e3, rows, S', w', hrows, hrl⟩ := for_inv (t := tgN 6) (f := fRow) (fun i s' h' => ∃ rows, Ss b mu names order hd.length (.int n) s' ∧ Wl (Z + n + n + 30 * i) b hd hd.length rows h' ∧ (∀ r ∈ rows, RowP r) ∧ rows.length = i) (rng n) 0 s0 (h2 ++ [.lst (([] : List PyData).map .d)])
    ⟨[], S0, by simpa using w0, fun r hr => by simp at hr, rfl⟩ (fun i x s' h3 hx hi ⟨rows, g1, g2, g3, g4⟩ => by
      rw [rng_len, Nat.zero_add] at hi
      obtain ⟨k, hk, rfl⟩ := rng_mem hx
      obtain ⟨s2, h4, row, e, a1, a2, a3⟩ := row_ok (ss := s'.set 6 (some (.d (.int k)))) g2 (g1.set (by decide) _) (by omega) (Nat.le_refl _) hb (by omega) (List.getElem?_set_self (by rw [g1.len]; decide)) (by omega) hnm (by omega) hon (by omega) (by omega)
      refine ⟨s'.set 6 (some (.d (.int k))), rfl, s2, h4, .inl e, rows ++ [row], a1, ?_, fun r hr => ?_, by rw [List.length_append, g4]; rfl⟩
      · have e2 : Z + n + n + 30 * ((i + 1 : Nat) : Int) = Z + n + n + 30 * i + 30 := by omega
        rw [e2]; exact a2
      · rcases List.mem_append.mp hr with hr | hr
        · exact g3 r hr
        · rw [List.mem_singleton.mp hr]; exact a3)
  rw [rng_len, Nat.zero_add] at w' hrl
  obtain ⟨a1, a2, a3⟩ := rows_sort hrows
  refine ⟨srt rows, h'.take hd.length, cut_ok (h := h') (mB_rt ?_) w'.bx.1, by rw [len_srt]; exact hrl, fun r hr => hrows r (mem_srt.mp hr), (w'.bx.mono (by omega)).take hb, w'.sx.cut⟩
  refine (seq_nx (s1 := [some (.ref b), some (.d (.int n)), some (.d (.bool mu)), some (.d (.list names)), none, none, none, none, none, none, none, none, none, none, none]) (h1 := h1) ?_).trans ?_
  · simp [mB, stS, sSeq, sIf, tb, tv, tNo, tAn, tOr_, fAn, fOr_, fNo, fIf, f3c, f2, f1, fV, fC, gIx, gOrd, seqOf, lstOf, EV.boolOf, truOf, truS, L2.atI, sSet, gI2, hMod, hDiv, hSub, fN, g1, g2, gInt, aC, aN, sIxL, L2.ixN, sRet, gAdd, gEq, gNe, gLen, ar, sNil, sDrop, fM, gApp, gPopAt, isL, sPar, sPar3, gLstD, gLstL, gTupD, pures, gIsI, gIsI2, tagS, isT, scalD, PyData.eqv, e1]
  refine (seq_nx (s1 := s0) (h1 := h2 ++ [O.lst (([] : List PyData).map S.d)]) ?_).trans ?_
  · rw [← hs0]
    simp [mB, stS, sSeq, sIf, tb, tv, tNo, tAn, tOr_, fAn, fOr_, fNo, fIf, f3c, f2, f1, fV, fC, gIx, gOrd, seqOf, lstOf, EV.boolOf, truOf, truS, L2.atI, sSet, gI2, hMod, hDiv, hSub, fN, g1, g2, gInt, aC, aN, sIxL, L2.ixN, sRet, gAdd, gEq, gNe, gLen, ar, sNil, sDrop, fM, gApp, gPopAt, isL, sPar, sPar3, gLstD, gLstL, gTupD, pures, gIsI, gIsI2, tagS, isT, scalD, PyData.eqv, e2, l2]
  refine (seq_nx (s1 := ss') (h1 := h') ?_).trans ?_
  · refine (for_it (xs := rng n) (h1 := h2 ++ [O.lst (([] : List PyData).map S.d)]) ?_).trans e3
    have hz : -4611686018427387904 ≤ (n : Int) ∧ (n : Int) ≤ 16777216 := by omega
    have s1 := S0.s1
    simp [srcR1, fV, s1, rng, hz]
    try omega
  · have s5 := S'.s5
    have hR := w'.hR
    simp [sRet, fN, g1, gSrt, aC, aN, fV, s5, lstOf, hR, pures_d, a1, a2]
    have h64 : ∀ x, x ∈ rows → x.depth ≤ 64 := fun x hx => Nat.le_trans (row_depth (hrows x hx)) (by decide)
    rw [if_pos h64]
    simp [g1, gTuple, lstOf, pures_d]
end K10

set_option Elab.async false
set_option linter.all false
set_option maxRecDepth 100000
set_option maxHeartbeats 4000000
namespace K10
open PySem EV
mutual
/-- no dict, small ints, texts of signs, lists and texts not longer than w -/
def fine (w : Nat) : PyData → Bool
  | .none => true
  | .bool _ => true
  | .int i => decide (i.natAbs ≤ 9)
  | .str x => PyData.strOk x && decide (x.cps.size ≤ w)
  | .list xs => decide (xs.length ≤ w) && fineAll w xs
  | .tuple xs => decide (xs.length ≤ w) && fineAll w xs
  | .dict _ => false
def fineAll (w : Nat) : List PyData → Bool
  | [] => true
  | x :: xs => fine w x && fineAll w xs
end
theorem fineAll_iff {w : Nat} : ∀ {xs : List PyData}, fineAll w xs = true ↔ ∀ x ∈ xs, fine w x = true
  | [] => by simp [fineAll]
  | x :: xs => by simp [fineAll, fineAll_iff (xs := xs)]
def letters : Str := "abcdefghijklmnopqrstuvwxyz"
def signB (k : Nat) : Bool := !(Builtin.Str.occurrences letters ⟨#[k]⟩ 0 letters.length 1).isEmpty
def sgn : S → Bool
  | .d (.str s) => signB (s.cps.getD 0 0)
  | _ => false
def nameB : PyData → Bool
  | .str s => decide (1 ≤ s.cps.size) && (decide (s.cps.size ≤ 8) && s.cps.toList.all signB)
  | _ => false
def namesB : PyData → Bool
  | .tuple ds => ds.all nameB
  | _ => false
theorem bools_map {α : Type} (f : α → Bool) : ∀ xs : List α, bools (xs.map fun x => PyData.bool (f x)) = some (xs.map f)
  | [] => rfl
  | x :: xs => by simp [bools, bools_map f xs]
theorem all_map_id {α : Type} (f : α → Bool) (xs : List α) : (xs.map f).all id = xs.all f := by
  rw [List.all_map]; rfl
/-- [test for x in xs], all of it -/
theorem comp_bools {vs : List Nat} {t : Tg} {te : FE} {ss : Sd} {hd h0 : Hd} {s : Sd → Hd → R Src} {xs : List S} (p : S → Bool) (es : s ss h0 = some (.ok (.it xs) hd))
    (h : ∀ x ∈ xs, ∃ ss1, t x (wip ss vs) = some ss1 ∧ te ss1 hd = some (.ok (.d (.bool (p x))) hd)) :
    fComp vs s t tYesF te finF ss h0 = some (.ok (.d (.list (xs.map fun x => .bool (p x)))) hd) := by
  have q := cmp_pure (vs := vs) (t := t) (tt := tYesF) (te := te) (ss := ss) (hd := hd) (fun _ => true) (fun x => .d (.bool (p x))) xs [] fun x hx => by
    obtain ⟨ss1, e1, e2⟩ := h x hx
    exact ⟨ss1, e1, rfl, fun _ => e2⟩
  unfold fComp
  rw [es]
  simp only [bnd_ok]
  rw [q]
  simp only [List.nil_append, bnd0_ok, finF]
  have e : ((xs.filter fun _ => true).map fun x => S.d (.bool (p x))) = (xs.map fun x => PyData.bool (p x)).map S.d := by
    rw [List.filter_eq_self.mpr (fun _ _ => rfl), List.map_map]; rfl
  rw [e, pures_d]
theorem cut_self {m : List S → Hd → R S} {xs : List S} {hd : Hd} {r : PyData} (hf : Flat hd) (hm : m xs hd = some (.ok (.d r) hd)) : mCut m xs hd = some (.ok (.d r) hd) := by
  have := cut_ok hm hf
  rw [List.take_length] at this
  exact this
section
variable {hd : Hd} {w : Nat}
theorem sign_in {k : Nat} : inS (.d (.str ⟨#[k]⟩)) (.d (.str "abcdefghijklmnopqrstuvwxyz")) hd = some (signB k) := rfl
theorem pname_ok (hf : Flat hd) (hw : w ≤ 1000000) {d : PyData} (h : fine w d = true) : m_P_is_name [.d d] hd = some (.ok (.d (.bool (nameB d))) hd) := by
  refine cut_self hf (mB_rt ?_)
  cases d with
  | str s =>
    simp only [fine, Bool.and_eq_true, decide_eq_true_eq] at h
    have hz : s.cps.size ≤ 16777216 := by omega
    have q := comp_bools (vs := [1]) (t := tgN 1) (te := f2 gIn (fV 1) (fC (.str "abcdefghijklmnopqrstuvwxyz"))) (ss := [some (.d (.str s)), none]) (hd := hd) (h0 := hd) (s := srcE srcA (fV 0)) (xs := signs s)
      sgn (by simp [srcE, srcA, fV, hz]) (fun x hx => by
        obtain ⟨k, hk, rfl⟩ := List.mem_map.mp hx
        exact ⟨_, rfl, by simp [f2, fV, fC, gIn, wip, sign_in, sgn]⟩)
    have eb : ((signs s).map fun x => PyData.bool (sgn x)) = s.cps.toList.map fun k => PyData.bool (signB k) := by
      unfold signs
      rw [List.map_map]; rfl
    rw [eb] at q
    by_cases h1 : 1 ≤ s.cps.size
    · by_cases h2 : s.cps.size ≤ 8
      · have z1 : (1 : Int) ≤ s.length := by show (1 : Int) ≤ (s.cps.size : Int); omega
        have z2 : (s.length : Int) ≤ 8 := by show (s.cps.size : Int) ≤ 8; omega
        have z3 : s.length ≤ 16777216 := hz
        simp [mB, stS, sSeq, sIf, tb, tv, tNo, tAn, tOr_, fAn, fOr_, fNo, fIf, f3c, f2, f1, fV, fC, gIx, gOrd, seqOf, lstOf, EV.boolOf, truOf, truS, L2.atI, sSet, gI2, hMod, hDiv, hSub, fN, g1, g2, gInt, aC, aN, sIxL, L2.ixN, sRet, gAdd, gEq, gNe, gLen, ar, sNil, sDrop, fM, gApp, gPopAt, isL, sPar, sPar3, gLstD, gLstL, gTupD, pures, gIsI, gIsI2, tagS, isT, scalD, PyData.eqv, q, gAA, bools_map, all_map_id, nameB, h1, h2, z1, z2, z3]
      · have z1 : (1 : Int) ≤ s.length := by show (1 : Int) ≤ (s.cps.size : Int); omega
        have z2 : ¬ (s.length : Int) ≤ 8 := by show ¬ (s.cps.size : Int) ≤ 8; omega
        have z3 : s.length ≤ 16777216 := hz
        have z4 : (8 : Int) < s.length := by omega
        simp [mB, stS, sSeq, sIf, tb, tv, tNo, tAn, tOr_, fAn, fOr_, fNo, fIf, f3c, f2, f1, fV, fC, gIx, gOrd, seqOf, lstOf, EV.boolOf, truOf, truS, L2.atI, sSet, gI2, hMod, hDiv, hSub, fN, g1, g2, gInt, aC, aN, sIxL, L2.ixN, sRet, gAdd, gEq, gNe, gLen, ar, sNil, sDrop, fM, gApp, gPopAt, isL, sPar, sPar3, gLstD, gLstL, gTupD, pures, gIsI, gIsI2, tagS, isT, scalD, PyData.eqv, q, gAA, bools_map, all_map_id, nameB, h1, h2, z1, z2, z3, z4]
    · have z1 : ¬ (1 : Int) ≤ s.length := by show ¬ (1 : Int) ≤ (s.cps.size : Int); omega
      have z3 : s.length ≤ 16777216 := hz
      have z4 : (s.length : Int) < 1 := by omega
      simp [mB, stS, sSeq, sIf, tb, tv, tNo, tAn, tOr_, fAn, fOr_, fNo, fIf, f3c, f2, f1, fV, fC, gIx, gOrd, seqOf, lstOf, EV.boolOf, truOf, truS, L2.atI, sSet, gI2, hMod, hDiv, hSub, fN, g1, g2, gInt, aC, aN, sIxL, L2.ixN, sRet, gAdd, gEq, gNe, gLen, ar, sNil, sDrop, fM, gApp, gPopAt, isL, sPar, sPar3, gLstD, gLstL, gTupD, pures, gIsI, gIsI2, tagS, isT, scalD, PyData.eqv, q, gAA, bools_map, all_map_id, nameB, h1, z1, z3, z4]
  | none => simp [mB, stS, sSeq, sIf, tb, tv, tNo, tAn, tOr_, fAn, fOr_, fNo, fIf, f3c, f2, f1, fV, fC, gIx, gOrd, seqOf, lstOf, EV.boolOf, truOf, truS, L2.atI, sSet, gI2, hMod, hDiv, hSub, fN, g1, g2, gInt, aC, aN, sIxL, L2.ixN, sRet, gAdd, gEq, gNe, gLen, ar, sNil, sDrop, fM, gApp, gPopAt, isL, sPar, sPar3, gLstD, gLstL, gTupD, pures, gIsI, gIsI2, tagS, isT, scalD, PyData.eqv, nameB]
  | bool _ => simp [mB, stS, sSeq, sIf, tb, tv, tNo, tAn, tOr_, fAn, fOr_, fNo, fIf, f3c, f2, f1, fV, fC, gIx, gOrd, seqOf, lstOf, EV.boolOf, truOf, truS, L2.atI, sSet, gI2, hMod, hDiv, hSub, fN, g1, g2, gInt, aC, aN, sIxL, L2.ixN, sRet, gAdd, gEq, gNe, gLen, ar, sNil, sDrop, fM, gApp, gPopAt, isL, sPar, sPar3, gLstD, gLstL, gTupD, pures, gIsI, gIsI2, tagS, isT, scalD, PyData.eqv, nameB]
  | int _ => simp [mB, stS, sSeq, sIf, tb, tv, tNo, tAn, tOr_, fAn, fOr_, fNo, fIf, f3c, f2, f1, fV, fC, gIx, gOrd, seqOf, lstOf, EV.boolOf, truOf, truS, L2.atI, sSet, gI2, hMod, hDiv, hSub, fN, g1, g2, gInt, aC, aN, sIxL, L2.ixN, sRet, gAdd, gEq, gNe, gLen, ar, sNil, sDrop, fM, gApp, gPopAt, isL, sPar, sPar3, gLstD, gLstL, gTupD, pures, gIsI, gIsI2, tagS, isT, scalD, PyData.eqv, nameB]
  | list _ => simp [mB, stS, sSeq, sIf, tb, tv, tNo, tAn, tOr_, fAn, fOr_, fNo, fIf, f3c, f2, f1, fV, fC, gIx, gOrd, seqOf, lstOf, EV.boolOf, truOf, truS, L2.atI, sSet, gI2, hMod, hDiv, hSub, fN, g1, g2, gInt, aC, aN, sIxL, L2.ixN, sRet, gAdd, gEq, gNe, gLen, ar, sNil, sDrop, fM, gApp, gPopAt, isL, sPar, sPar3, gLstD, gLstL, gTupD, pures, gIsI, gIsI2, tagS, isT, scalD, PyData.eqv, nameB]
  | tuple _ => simp [mB, stS, sSeq, sIf, tb, tv, tNo, tAn, tOr_, fAn, fOr_, fNo, fIf, f3c, f2, f1, fV, fC, gIx, gOrd, seqOf, lstOf, EV.boolOf, truOf, truS, L2.atI, sSet, gI2, hMod, hDiv, hSub, fN, g1, g2, gInt, aC, aN, sIxL, L2.ixN, sRet, gAdd, gEq, gNe, gLen, ar, sNil, sDrop, fM, gApp, gPopAt, isL, sPar, sPar3, gLstD, gLstL, gTupD, pures, gIsI, gIsI2, tagS, isT, scalD, PyData.eqv, nameB]
  | dict _ => cases h
theorem lname_ok (hf : Flat hd) (hw : w ≤ 1000000) {d : PyData} (h : fine w d = true) : m_L_is_name [.d d] hd = some (.ok (.d (.bool (nameB d))) hd) := by
  refine cut_self hf (mB_rt ?_)
  refine (seq_nx (s1 := [some (.d d), some (.d (.str "abcdefghijklmnopqrstuvwxyz")), none]) (h1 := hd) rfl).trans ?_
  cases d with
  | str s =>
    simp only [fine, Bool.and_eq_true, decide_eq_true_eq] at h
    have hz : s.cps.size ≤ 16777216 := by omega
    have q := comp_bools (vs := [2]) (t := tgN 2) (te := f2 gIn (fV 2) (fV 1)) (ss := [some (.d (.str s)), some (.d (.str "abcdefghijklmnopqrstuvwxyz")), none]) (hd := hd) (h0 := hd) (s := srcE srcA (fV 0)) (xs := signs s)
      sgn (by simp [srcE, srcA, fV, hz]) (fun x hx => by
        obtain ⟨k, hk, rfl⟩ := List.mem_map.mp hx
        exact ⟨_, rfl, by simp [f2, fV, fC, gIn, wip, sign_in, sgn]⟩)
    have eb : ((signs s).map fun x => PyData.bool (sgn x)) = s.cps.toList.map fun k => PyData.bool (signB k) := by
      unfold signs
      rw [List.map_map]; rfl
    rw [eb] at q
    have z3 : s.length ≤ 16777216 := hz
    have zl : s.length = s.cps.size := rfl
    by_cases h1 : 1 ≤ s.cps.size
    · by_cases h2 : s.cps.size ≤ 8
      · have z1 : (0 : Int) < s.length := by omega
        have z2 : (s.length : Int) < 9 := by omega
        have z5 : 0 < s.length := by omega
        simp [mB, stS, sSeq, sIf, tb, tv, tNo, tAn, tOr_, fAn, fOr_, fNo, fIf, f3c, f2, f1, fV, fC, gIx, gOrd, seqOf, lstOf, EV.boolOf, truOf, truS, L2.atI, sSet, gI2, hMod, hDiv, hSub, fN, g1, g2, gInt, aC, aN, sIxL, L2.ixN, sRet, gAdd, gEq, gNe, gLen, ar, sNil, sDrop, fM, gApp, gPopAt, isL, sPar, sPar3, gLstD, gLstL, gTupD, pures, gIsI, gIsI2, tagS, isT, scalD, PyData.eqv, q, gAA, bools_map, all_map_id, nameB, h1, h2, z2, z3, z5]
        try omega
      · have z1 : (0 : Int) < s.length := by omega
        have z2 : ¬ (s.length : Int) < 9 := by omega
        have z5 : 0 < s.length := by omega
        simp [mB, stS, sSeq, sIf, tb, tv, tNo, tAn, tOr_, fAn, fOr_, fNo, fIf, f3c, f2, f1, fV, fC, gIx, gOrd, seqOf, lstOf, EV.boolOf, truOf, truS, L2.atI, sSet, gI2, hMod, hDiv, hSub, fN, g1, g2, gInt, aC, aN, sIxL, L2.ixN, sRet, gAdd, gEq, gNe, gLen, ar, sNil, sDrop, fM, gApp, gPopAt, isL, sPar, sPar3, gLstD, gLstL, gTupD, pures, gIsI, gIsI2, tagS, isT, scalD, PyData.eqv, q, gAA, bools_map, all_map_id, nameB, h1, h2, z2, z3, z5]
        try omega
    · have z1 : ¬ (0 : Int) < s.length := by omega
      have z4 : s.length = 0 := by omega
      simp [mB, stS, sSeq, sIf, tb, tv, tNo, tAn, tOr_, fAn, fOr_, fNo, fIf, f3c, f2, f1, fV, fC, gIx, gOrd, seqOf, lstOf, EV.boolOf, truOf, truS, L2.atI, sSet, gI2, hMod, hDiv, hSub, fN, g1, g2, gInt, aC, aN, sIxL, L2.ixN, sRet, gAdd, gEq, gNe, gLen, ar, sNil, sDrop, fM, gApp, gPopAt, isL, sPar, sPar3, gLstD, gLstL, gTupD, pures, gIsI, gIsI2, tagS, isT, scalD, PyData.eqv, q, gAA, bools_map, all_map_id, nameB, h1, z1, z3, z4]
      try omega
  | none => simp [mB, stS, sSeq, sIf, tb, tv, tNo, tAn, tOr_, fAn, fOr_, fNo, fIf, f3c, f2, f1, fV, fC, gIx, gOrd, seqOf, lstOf, EV.boolOf, truOf, truS, L2.atI, sSet, gI2, hMod, hDiv, hSub, fN, g1, g2, gInt, aC, aN, sIxL, L2.ixN, sRet, gAdd, gEq, gNe, gLen, ar, sNil, sDrop, fM, gApp, gPopAt, isL, sPar, sPar3, gLstD, gLstL, gTupD, pures, gIsI, gIsI2, tagS, isT, scalD, PyData.eqv, nameB]
  | bool _ => simp [mB, stS, sSeq, sIf, tb, tv, tNo, tAn, tOr_, fAn, fOr_, fNo, fIf, f3c, f2, f1, fV, fC, gIx, gOrd, seqOf, lstOf, EV.boolOf, truOf, truS, L2.atI, sSet, gI2, hMod, hDiv, hSub, fN, g1, g2, gInt, aC, aN, sIxL, L2.ixN, sRet, gAdd, gEq, gNe, gLen, ar, sNil, sDrop, fM, gApp, gPopAt, isL, sPar, sPar3, gLstD, gLstL, gTupD, pures, gIsI, gIsI2, tagS, isT, scalD, PyData.eqv, nameB]
  | int _ => simp [mB, stS, sSeq, sIf, tb, tv, tNo, tAn, tOr_, fAn, fOr_, fNo, fIf, f3c, f2, f1, fV, fC, gIx, gOrd, seqOf, lstOf, EV.boolOf, truOf, truS, L2.atI, sSet, gI2, hMod, hDiv, hSub, fN, g1, g2, gInt, aC, aN, sIxL, L2.ixN, sRet, gAdd, gEq, gNe, gLen, ar, sNil, sDrop, fM, gApp, gPopAt, isL, sPar, sPar3, gLstD, gLstL, gTupD, pures, gIsI, gIsI2, tagS, isT, scalD, PyData.eqv, nameB]
  | list _ => simp [mB, stS, sSeq, sIf, tb, tv, tNo, tAn, tOr_, fAn, fOr_, fNo, fIf, f3c, f2, f1, fV, fC, gIx, gOrd, seqOf, lstOf, EV.boolOf, truOf, truS, L2.atI, sSet, gI2, hMod, hDiv, hSub, fN, g1, g2, gInt, aC, aN, sIxL, L2.ixN, sRet, gAdd, gEq, gNe, gLen, ar, sNil, sDrop, fM, gApp, gPopAt, isL, sPar, sPar3, gLstD, gLstL, gTupD, pures, gIsI, gIsI2, tagS, isT, scalD, PyData.eqv, nameB]
  | tuple _ => simp [mB, stS, sSeq, sIf, tb, tv, tNo, tAn, tOr_, fAn, fOr_, fNo, fIf, f3c, f2, f1, fV, fC, gIx, gOrd, seqOf, lstOf, EV.boolOf, truOf, truS, L2.atI, sSet, gI2, hMod, hDiv, hSub, fN, g1, g2, gInt, aC, aN, sIxL, L2.ixN, sRet, gAdd, gEq, gNe, gLen, ar, sNil, sDrop, fM, gApp, gPopAt, isL, sPar, sPar3, gLstD, gLstL, gTupD, pures, gIsI, gIsI2, tagS, isT, scalD, PyData.eqv, nameB]
  | dict _ => cases h
def onD (f : PyData → Bool) : S → Bool
  | .d x => f x
  | _ => false
theorem names_gen {m1 m : List S → Hd → R S} (hm : m = mCut (mB 2 (sRet (fAn (f1 (gIsI .tup) (fV 0)) (fN (g1 (gAA fun bs => bs.all id)) (aC (fComp [1] (srcE srcA (fV 0)) (tgN 1) tYesF (fN (ar 1 m1) (aC (fV 1) aN)) finF) aN))))))
    (h1 : ∀ d, fine w d = true → m1 [.d d] hd = some (.ok (.d (.bool (nameB d))) hd)) (hf : Flat hd) {d : PyData} (h : fine w d = true) : m [.d d] hd = some (.ok (.d (.bool (namesB d))) hd) := by
  rw [hm]
  refine cut_self hf (mB_rt ?_)
  cases d with
  | tuple ds =>
    simp only [fine, Bool.and_eq_true, decide_eq_true_eq] at h
    have q := comp_bools (vs := [1]) (t := tgN 1) (te := fN (ar 1 m1) (aC (fV 1) aN)) (ss := [some (.d (.tuple ds)), none]) (hd := hd) (h0 := hd) (s := srcE srcA (fV 0)) (xs := ds.map S.d)
      (onD nameB) (by simp [srcE, srcA, fV]) (fun x hx => by
        obtain ⟨k, hk, rfl⟩ := List.mem_map.mp hx
        exact ⟨_, rfl, by simp [fN, ar, aC, aN, fV, wip, h1 k (fineAll_iff.mp h.2 k hk), onD]⟩)
    have eb : ((ds.map S.d).map fun x => PyData.bool (onD nameB x)) = ds.map fun k => PyData.bool (nameB k) := by rw [List.map_map]; rfl
    rw [eb] at q
    simp [mB, stS, sSeq, sIf, tb, tv, tNo, tAn, tOr_, fAn, fOr_, fNo, fIf, f3c, f2, f1, fV, fC, gIx, gOrd, seqOf, lstOf, EV.boolOf, truOf, truS, L2.atI, sSet, gI2, hMod, hDiv, hSub, fN, g1, g2, gInt, aC, aN, sIxL, L2.ixN, sRet, gAdd, gEq, gNe, gLen, ar, sNil, sDrop, fM, gApp, gPopAt, isL, sPar, sPar3, gLstD, gLstL, gTupD, pures, gIsI, gIsI2, tagS, isT, scalD, PyData.eqv, q, gAA, bools_map, all_map_id, namesB]
  | none => simp [mB, stS, sSeq, sIf, tb, tv, tNo, tAn, tOr_, fAn, fOr_, fNo, fIf, f3c, f2, f1, fV, fC, gIx, gOrd, seqOf, lstOf, EV.boolOf, truOf, truS, L2.atI, sSet, gI2, hMod, hDiv, hSub, fN, g1, g2, gInt, aC, aN, sIxL, L2.ixN, sRet, gAdd, gEq, gNe, gLen, ar, sNil, sDrop, fM, gApp, gPopAt, isL, sPar, sPar3, gLstD, gLstL, gTupD, pures, gIsI, gIsI2, tagS, isT, scalD, PyData.eqv, namesB]
  | bool _ => simp [mB, stS, sSeq, sIf, tb, tv, tNo, tAn, tOr_, fAn, fOr_, fNo, fIf, f3c, f2, f1, fV, fC, gIx, gOrd, seqOf, lstOf, EV.boolOf, truOf, truS, L2.atI, sSet, gI2, hMod, hDiv, hSub, fN, g1, g2, gInt, aC, aN, sIxL, L2.ixN, sRet, gAdd, gEq, gNe, gLen, ar, sNil, sDrop, fM, gApp, gPopAt, isL, sPar, sPar3, gLstD, gLstL, gTupD, pures, gIsI, gIsI2, tagS, isT, scalD, PyData.eqv, namesB]
  | int _ => simp [mB, stS, sSeq, sIf, tb, tv, tNo, tAn, tOr_, fAn, fOr_, fNo, fIf, f3c, f2, f1, fV, fC, gIx, gOrd, seqOf, lstOf, EV.boolOf, truOf, truS, L2.atI, sSet, gI2, hMod, hDiv, hSub, fN, g1, g2, gInt, aC, aN, sIxL, L2.ixN, sRet, gAdd, gEq, gNe, gLen, ar, sNil, sDrop, fM, gApp, gPopAt, isL, sPar, sPar3, gLstD, gLstL, gTupD, pures, gIsI, gIsI2, tagS, isT, scalD, PyData.eqv, namesB]
  | list _ => simp [mB, stS, sSeq, sIf, tb, tv, tNo, tAn, tOr_, fAn, fOr_, fNo, fIf, f3c, f2, f1, fV, fC, gIx, gOrd, seqOf, lstOf, EV.boolOf, truOf, truS, L2.atI, sSet, gI2, hMod, hDiv, hSub, fN, g1, g2, gInt, aC, aN, sIxL, L2.ixN, sRet, gAdd, gEq, gNe, gLen, ar, sNil, sDrop, fM, gApp, gPopAt, isL, sPar, sPar3, gLstD, gLstL, gTupD, pures, gIsI, gIsI2, tagS, isT, scalD, PyData.eqv, namesB]
  | str _ => simp [mB, stS, sSeq, sIf, tb, tv, tNo, tAn, tOr_, fAn, fOr_, fNo, fIf, f3c, f2, f1, fV, fC, gIx, gOrd, seqOf, lstOf, EV.boolOf, truOf, truS, L2.atI, sSet, gI2, hMod, hDiv, hSub, fN, g1, g2, gInt, aC, aN, sIxL, L2.ixN, sRet, gAdd, gEq, gNe, gLen, ar, sNil, sDrop, fM, gApp, gPopAt, isL, sPar, sPar3, gLstD, gLstL, gTupD, pures, gIsI, gIsI2, tagS, isT, scalD, PyData.eqv, namesB]
  | dict _ => cases h
theorem pnames_ok (hf : Flat hd) (hw : w ≤ 1000000) {d : PyData} (h : fine w d = true) : m_P_are_names [.d d] hd = some (.ok (.d (.bool (namesB d))) hd) := names_gen rfl (fun d h => pname_ok hf hw h) hf h
theorem lnames_ok (hf : Flat hd) (hw : w ≤ 1000000) {d : PyData} (h : fine w d = true) : m_L_are_names [.d d] hd = some (.ok (.d (.bool (namesB d))) hd) := names_gen rfl (fun d h => lname_ok hf hw h) hf h
end
end K10

set_option Elab.async false
set_option linter.all false
set_option maxRecDepth 100000
set_option maxHeartbeats 4000000
namespace K10
open PySem EV
def ltD : PyData → PyData → Bool
  | .str a, .str b => decide (a.cps.toList < b.cps.toList)
  | _, _ => false
def onP : S → Bool
  | .d (.tuple [x, y]) => ltD x y
  | _ => false
def risesB (ds : List PyData) : Bool := ((ds.zip (cutL ds (some 1) none)).map fun p => S.d (.tuple [p.1, p.2])).all onP
theorem name_str {d : PyData} (h : nameB d = true) : ∃ s, d = .str s := by
  cases d with
  | str s => exact ⟨s, rfl⟩
  | _ => cases h
section
variable {hd : Hd} {w : Nat}
theorem mem_cutL {α : Type} {xs : List α} {lo hi : Option Int} {x : α} (h : x ∈ cutL xs lo hi) : x ∈ xs := List.mem_of_mem_drop (List.mem_of_mem_take h)
theorem pair_lt {a b : Nat} {ss : Sd} {x y : PyData} (hx : nameB x = true) (hy : nameB y = true) (ha : a < ss.length) (hb : b < ss.length) (hab : a ≠ b) :
    ∃ ss1, tgT 2 (tgsC (tgN a) (tgsC (tgN b) tgsN)) (.d (.tuple [x, y])) ss = some ss1 ∧ f2 gLt (fV a) (fV b) ss1 hd = some (.ok (.d (.bool (onP (.d (.tuple [x, y]))))) hd) := by
  obtain ⟨s, rfl⟩ := name_str hx
  obtain ⟨t, rfl⟩ := name_str hy
  refine ⟨(ss.set a (some (.d (.str s)))).set b (some (.d (.str t))), rfl, ?_⟩
  have e1 : ((ss.set a (some (S.d (.str s)))).set b (some (S.d (.str t))))[a]? = some (some (.d (.str s))) := by rw [List.getElem?_set_ne (Ne.symm hab), List.getElem?_set_self ha]
  have e2 : ((ss.set a (some (S.d (.str s)))).set b (some (S.d (.str t))))[b]? = some (some (.d (.str t))) := List.getElem?_set_self (by rw [List.length_set]; exact hb)
  simp [f2, fV, e1, e2, gOrd, onP, ltD]
theorem zip_src {i : Nat} {ss : Sd} {ds : List PyData} (h : ss[i]? = some (some (.d (.list ds))) ∨ ss[i]? = some (some (.d (.tuple ds)))) :
    srcZip (fV i) (fSl (fV i) (oS (fC (.int 1))) oN) ss hd = some (.ok (.it ((ds.zip (cutL ds (some 1) none)).map fun p => .d (.tuple [p.1, p.2]))) hd) := by
  rcases h with h | h
  · simp [srcZip, fV, fSl, oS, fC, oN, h, gSl, lstOf, pures_d]
  · simp [srcZip, fV, fSl, oS, fC, oN, h, gSl]
theorem zip_comp {i a b : Nat} {ss : Sd} {ds : List PyData} (h : ss[i]? = some (some (.d (.list ds))) ∨ ss[i]? = some (some (.d (.tuple ds)))) (hn : ∀ d ∈ ds, nameB d = true) (ha : a < ss.length) (hb : b < ss.length) (hab : a ≠ b) :
    fN (g1 (gAA fun bs => bs.all id)) (aC (fComp [a, b] (srcZip (fV i) (fSl (fV i) (oS (fC (.int 1))) oN)) (tgT 2 (tgsC (tgN a) (tgsC (tgN b) tgsN))) tYesF (f2 gLt (fV a) (fV b)) finF) aN) ss hd = some (.ok (.d (.bool (risesB ds))) hd) := by
  have q := comp_bools (vs := [a, b]) (t := tgT 2 (tgsC (tgN a) (tgsC (tgN b) tgsN))) (te := f2 gLt (fV a) (fV b)) (ss := ss) (hd := hd) (h0 := hd) onP (zip_src h) (fun x hx => by
    obtain ⟨p, hp, rfl⟩ := List.mem_map.mp hx
    have h1 := List.of_mem_zip hp
    exact pair_lt (hn _ h1.1) (hn _ (mem_cutL h1.2)) (by simp [wip]; exact ha) (by simp [wip]; exact hb) hab)
  simp only [fN, g1, aC, aN, q, bnd_ok, gAA, bools_map, all_map_id]
  rfl
theorem prises_ok (hf : Flat hd) {d : PyData} {ds : List PyData} (h : d = .list ds ∨ d = .tuple ds) (hn : ∀ x ∈ ds, nameB x = true) : m_P_rises [.d d] hd = some (.ok (.d (.bool (risesB ds))) hd) := by
  refine cut_self hf (mB_rt ?_)
  refine (seq_nx (s1 := [some (.d d), some (.d (.list ds)), none, none]) (h1 := hd) ?_).trans ?_
  · rcases h with rfl | rfl
    · simp [mB, stS, sSeq, sIf, tb, tv, tNo, tAn, tOr_, fAn, fOr_, fNo, fIf, f3c, f2, f1, fV, fC, gIx, gOrd, seqOf, lstOf, EV.boolOf, truOf, truS, L2.atI, sSet, gI2, hMod, hDiv, hSub, fN, g1, g2, gInt, aC, aN, sIxL, L2.ixN, sRet, gAdd, gEq, gNe, gLen, ar, sNil, sDrop, fM, gApp, gPopAt, isL, sPar, sPar3, gLstD, gLstL, gTupD, pures, gIsI, gIsI2, tagS, isT, scalD, PyData.eqv, gList, pures_d]
    · simp [mB, stS, sSeq, sIf, tb, tv, tNo, tAn, tOr_, fAn, fOr_, fNo, fIf, f3c, f2, f1, fV, fC, gIx, gOrd, seqOf, lstOf, EV.boolOf, truOf, truS, L2.atI, sSet, gI2, hMod, hDiv, hSub, fN, g1, g2, gInt, aC, aN, sIxL, L2.ixN, sRet, gAdd, gEq, gNe, gLen, ar, sNil, sDrop, fM, gApp, gPopAt, isL, sPar, sPar3, gLstD, gLstL, gTupD, pures, gIsI, gIsI2, tagS, isT, scalD, PyData.eqv, gList, pures_d]
  · unfold sRet
    rw [zip_comp (i := 1) (.inl rfl) hn (by simp) (by simp) (by decide)]
    rfl
theorem lup_ok (hf : Flat hd) {d : PyData} {ds : List PyData} (h : d = .list ds ∨ d = .tuple ds) (hn : ∀ x ∈ ds, nameB x = true) : m_L_goes_up [.d d] hd = some (.ok (.d (.bool (risesB ds))) hd) := by
  refine cut_self hf (mB_rt ?_)
  unfold sRet
  rw [zip_comp (i := 0) (ss := stS 3 [.d d]) (ds := ds) (by rcases h with rfl | rfl <;> first | exact .inl rfl | exact .inr rfl) hn (by simp [stS]) (by simp [stS]) (by decide)]
  rfl
def tupB (n : Int) : PyData → Bool
  | .tuple ds => decide ((ds.length : Int) = n)
  | _ => false
theorem ptuple_ok (hf : Flat hd) {d : PyData} {n : Int} (h : fine w d = true) : m_P_is_tuple [.d d, .d (.int n)] hd = some (.ok (.d (.bool (tupB n d))) hd) := by
  refine cut_self hf (mB_rt ?_)
  cases d with
  | dict _ => cases h
  | tuple ds => simp [mB, stS, sSeq, sIf, tb, tv, tNo, tAn, tOr_, fAn, fOr_, fNo, fIf, f3c, f2, f1, fV, fC, gIx, gOrd, seqOf, lstOf, EV.boolOf, truOf, truS, L2.atI, sSet, gI2, hMod, hDiv, hSub, fN, g1, g2, gInt, aC, aN, sIxL, L2.ixN, sRet, gAdd, gEq, gNe, gLen, ar, sNil, sDrop, fM, gApp, gPopAt, isL, sPar, sPar3, gLstD, gLstL, gTupD, pures, gIsI, gIsI2, tagS, isT, scalD, PyData.eqv, Bool.beq_eq_decide_eq, tupB]
  | _ => simp [mB, stS, sSeq, sIf, tb, tv, tNo, tAn, tOr_, fAn, fOr_, fNo, fIf, f3c, f2, f1, fV, fC, gIx, gOrd, seqOf, lstOf, EV.boolOf, truOf, truS, L2.atI, sSet, gI2, hMod, hDiv, hSub, fN, g1, g2, gInt, aC, aN, sIxL, L2.ixN, sRet, gAdd, gEq, gNe, gLen, ar, sNil, sDrop, fM, gApp, gPopAt, isL, sPar, sPar3, gLstD, gLstL, gTupD, pures, gIsI, gIsI2, tagS, isT, scalD, PyData.eqv, tupB]
def txO (ds : List PyData) : List Str := ds.map fun d => match d with
  | .str s => s
  | _ => Str.empty
theorem txts_of : ∀ {ds : List PyData}, (∀ d ∈ ds, nameB d = true) → txts (ds.map S.d) = some (txO ds)
  | [], _ => rfl
  | d :: ds, h => by
    obtain ⟨s, rfl⟩ := name_str (h d List.mem_cons_self)
    rw [List.map_cons, txts, txts_of fun x hx => h x (List.mem_cons_of_mem _ hx)]
    rfl
theorem flat_names {ds : List PyData} (h : ∀ d ∈ ds, nameB d = true) : ds.all flatD = true := List.all_eq_true.mpr fun d hd => by
  obtain ⟨s, rfl⟩ := name_str (h d hd)
  rfl
def memB (nm : PyData) (ds : List PyData) : Bool := ds.any fun z => PyData.eqv z nm
theorem in_names {ds : List PyData} {nm : PyData} (hn : nameB nm = true) (h : ∀ d ∈ ds, nameB d = true) : inS (.d nm) (.d (.tuple ds)) hd = some (memB nm ds) := by
  obtain ⟨s, rfl⟩ := name_str hn
  simp [inS, seqOf, pures_d, flatD, flat_names h, memB]
theorem set_names {ds : List PyData} (h : ∀ d ∈ ds, nameB d = true) (hl : ds.length ≤ 4000) : setOf hd (.d (.tuple ds)) = some (txO ds) := by
  have : (txO ds).length ≤ 4000 := by unfold txO; rw [List.length_map]; exact hl
  simp only [setOf, seqOf, txts_of h, if_pos this]
def optB (nm : PyData) (ds : List PyData) : Bool := (ds.all nameB && !ds.isEmpty) && (!memB nm ds && decide ((dd (txO ds)).length = ds.length))
def wishB (nm : PyData) : PyData → Bool
  | .tuple [.tuple os, .bool _] => optB nm os
  | _ => false
theorem dd_le : ∀ zs : List Str, (dd zs).length ≤ zs.length
  | [] => Nat.le_refl _
  | x :: r => by
    unfold dd
    split
    · exact Nat.le_succ_of_le (dd_le r)
    · exact Nat.succ_le_succ (dd_le r)
theorem pwish_ok (hf : Flat hd) (hw : w ≤ 1000) {d nm : PyData} (h : fine w d = true) (hn : nameB nm = true) : m_P_is_wish [.d d, .d nm] hd = some (.ok (.d (.bool (wishB nm d))) hd) := by
  refine cut_self hf (mB_rt ?_)
  have e1 := ptuple_ok (w := w) (n := 2) hf h
  by_cases c : ∃ t b, d = .tuple [t, b]
  · obtain ⟨t, b, rfl⟩ := c
    simp only [fine, fineAll, Bool.and_eq_true, decide_eq_true_eq] at h
    have e2 := pnames_ok (w := w) hf (by omega) h.2.1
    by_cases cb : ∃ k, b = .bool k
    · obtain ⟨k, rfl⟩ := cb
      by_cases ct : namesB t = true
      · obtain ⟨os, rfl⟩ : ∃ os, t = .tuple os := by
          cases t with
          | tuple os => exact ⟨os, rfl⟩
          | _ => cases ct
        have hos : ∀ d ∈ os, nameB d = true := List.all_eq_true.mp ct
        have hol : os.length ≤ 4000 := by
          have := h.2.1
          simp only [fine, Bool.and_eq_true, decide_eq_true_eq] at this
          omega
        have e3 := in_names (hd := hd) hn hos
        have e4 := set_names (hd := hd) hos hol
        have ct' : os.all nameB = true := ct
        simp [mB, stS, sSeq, sIf, tb, tv, tNo, tAn, tOr_, fAn, fOr_, fNo, fIf, f3c, f2, f1, fV, fC, gIx, gOrd, seqOf, lstOf, EV.boolOf, truOf, truS, L2.atI, sSet, gI2, hMod, hDiv, hSub, fN, g1, g2, gInt, aC, aN, sIxL, L2.ixN, sRet, gAdd, gEq, gNe, gLen, ar, sNil, sDrop, fM, gApp, gPopAt, isL, sPar, sPar3, gLstD, gLstL, gTupD, pures, gIsI, gIsI2, tagS, isT, scalD, PyData.eqv, e1, tupB, e2, ct, gNin, e3, gLenSet, e4, wishB, optB, ct']
        cases os with
        | nil => simp
        | cons o os =>
          cases hm : memB nm (o :: os) with
          | true => simp
          | false =>
            simp only [List.length_cons, Nat.zero_lt_succ, decide_true, Bool.not_false, List.isEmpty_cons, Bool.true_and]
            have : (((dd (txO (o :: os))).length : Int) == (os.length : Int) + 1) = decide ((dd (txO (o :: os))).length = os.length + 1) := by
              rw [Bool.eq_iff_iff]; simp; omega
            simp [this]
            try omega
      · have ct' : namesB t = false := by simpa using ct
        have hw' : wishB nm (.tuple [t, .bool k]) = false := by
          cases t with
          | tuple os =>
            have q : os.all nameB = false := ct'
            simp [wishB, optB, q]
          | _ => rfl
        simp [mB, stS, sSeq, sIf, tb, tv, tNo, tAn, tOr_, fAn, fOr_, fNo, fIf, f3c, f2, f1, fV, fC, gIx, gOrd, seqOf, lstOf, EV.boolOf, truOf, truS, L2.atI, sSet, gI2, hMod, hDiv, hSub, fN, g1, g2, gInt, aC, aN, sIxL, L2.ixN, sRet, gAdd, gEq, gNe, gLen, ar, sNil, sDrop, fM, gApp, gPopAt, isL, sPar, sPar3, gLstD, gLstL, gTupD, pures, gIsI, gIsI2, tagS, isT, scalD, PyData.eqv, e1, tupB, e2, ct', hw']
    · have hw' : wishB nm (.tuple [t, b]) = false := by
        cases t <;> cases b <;> first | rfl | exact absurd ⟨_, rfl⟩ cb
      cases b with
      | bool k => exact absurd ⟨k, rfl⟩ cb
      | dict _ => cases h.2.2.1
      | _ => simp [mB, stS, sSeq, sIf, tb, tv, tNo, tAn, tOr_, fAn, fOr_, fNo, fIf, f3c, f2, f1, fV, fC, gIx, gOrd, seqOf, lstOf, EV.boolOf, truOf, truS, L2.atI, sSet, gI2, hMod, hDiv, hSub, fN, g1, g2, gInt, aC, aN, sIxL, L2.ixN, sRet, gAdd, gEq, gNe, gLen, ar, sNil, sDrop, fM, gApp, gPopAt, isL, sPar, sPar3, gLstD, gLstL, gTupD, pures, gIsI, gIsI2, tagS, isT, scalD, PyData.eqv, e1, tupB, hw']
  · have e1' : tupB 2 d = false := by
      cases d with
      | tuple ds =>
        match ds with
        | [] => rfl
        | [_] => rfl
        | [a, b] => exact absurd ⟨a, b, rfl⟩ c
        | _ :: _ :: _ :: r => simp [tupB]; omega
      | _ => rfl
    rw [e1'] at e1
    have hw' : wishB nm d = false := by
      cases d with
      | tuple ds =>
        match ds with
        | [] => simp [wishB]
        | [_] => simp [wishB]
        | [a, b] => exact absurd ⟨a, b, rfl⟩ c
        | _ :: _ :: _ :: r => simp [wishB]
      | _ => rfl
    simp [mB, stS, sSeq, sIf, tb, tv, tNo, tAn, tOr_, fAn, fOr_, fNo, fIf, f3c, f2, f1, fV, fC, gIx, gOrd, seqOf, lstOf, EV.boolOf, truOf, truS, L2.atI, sSet, gI2, hMod, hDiv, hSub, fN, g1, g2, gInt, aC, aN, sIxL, L2.ixN, sRet, gAdd, gEq, gNe, gLen, ar, sNil, sDrop, fM, gApp, gPopAt, isL, sPar, sPar3, gLstD, gLstL, gTupD, pures, gIsI, gIsI2, tagS, isT, scalD, PyData.eqv, e1, tupB, hw']
def devB : PyData → Bool
  | .tuple [nm, .tuple nd, .tuple ws] => (nameB nm && nd.all nameB) && ((risesB nd && !memB nm nd) && ws.all (wishB nm))
  | _ => false
theorem pdev_ok (hf : Flat hd) (hw : w ≤ 1000) {d : PyData} (h : fine w d = true) : m_P_is_device [.d d] hd = some (.ok (.d (.bool (devB d))) hd) := by
  refine cut_self hf (mB_rt ?_)
  have e1 := ptuple_ok (w := w) (n := 3) hf h
  by_cases c : ∃ a t b, d = .tuple [a, t, b]
  · obtain ⟨a, t, b, rfl⟩ := c
    simp only [fine, fineAll, Bool.and_eq_true, decide_eq_true_eq] at h
    have e2 := pname_ok (w := w) hf (by omega) h.2.1
    have e3 := pnames_ok (w := w) hf (by omega) h.2.2.1
    by_cases cn : nameB a = true
    · by_cases ct : namesB t = true
      · obtain ⟨nd, rfl⟩ : ∃ os, t = .tuple os := by
          cases t with
          | tuple os => exact ⟨os, rfl⟩
          | _ => cases ct
        have hos : ∀ d ∈ nd, nameB d = true := List.all_eq_true.mp ct
        have ct' : nd.all nameB = true := ct
        have e4 := prises_ok (hd := hd) hf (.inr rfl) hos
        have e5 := in_names (hd := hd) cn hos
        by_cases cb : ∃ ws, b = .tuple ws
        · obtain ⟨ws, rfl⟩ := cb
          have hws := h.2.2.2.1
          simp only [fine, Bool.and_eq_true, decide_eq_true_eq] at hws
          have q := comp_bools (vs := [1]) (t := tgN 1) (te := fN (ar 2 m_P_is_wish) (aC (fV 1) (aC (f2 gIx (fV 0) (fC (.int 0))) aN))) (ss := [some (.d (.tuple [a, .tuple nd, .tuple ws])), none]) (hd := hd) (h0 := hd) (s := srcE srcA (f2 gIx (fV 0) (fC (.int 2)))) (xs := ws.map S.d)
            (onD (wishB a)) (by simp [mB, stS, sSeq, sIf, tb, tv, tNo, tAn, tOr_, fAn, fOr_, fNo, fIf, f3c, f2, f1, fV, fC, gIx, gOrd, seqOf, lstOf, EV.boolOf, truOf, truS, L2.atI, sSet, gI2, hMod, hDiv, hSub, fN, g1, g2, gInt, aC, aN, sIxL, L2.ixN, sRet, gAdd, gEq, gNe, gLen, ar, sNil, sDrop, fM, gApp, gPopAt, isL, sPar, sPar3, gLstD, gLstL, gTupD, pures, gIsI, gIsI2, tagS, isT, scalD, PyData.eqv, srcE, srcA]) (fun x hx => by
              obtain ⟨k, hk, rfl⟩ := List.mem_map.mp hx
              refine ⟨_, rfl, ?_⟩
              have e6 := pwish_ok (w := w) hf hw (fineAll_iff.mp hws.2 k hk) cn
              simp [mB, stS, sSeq, sIf, tb, tv, tNo, tAn, tOr_, fAn, fOr_, fNo, fIf, f3c, f2, f1, fV, fC, gIx, gOrd, seqOf, lstOf, EV.boolOf, truOf, truS, L2.atI, sSet, gI2, hMod, hDiv, hSub, fN, g1, g2, gInt, aC, aN, sIxL, L2.ixN, sRet, gAdd, gEq, gNe, gLen, ar, sNil, sDrop, fM, gApp, gPopAt, isL, sPar, sPar3, gLstD, gLstL, gTupD, pures, gIsI, gIsI2, tagS, isT, scalD, PyData.eqv, wip, e6, onD])
          have eb : ((ws.map S.d).map fun x => PyData.bool (onD (wishB a) x)) = ws.map fun k => PyData.bool (wishB a k) := by rw [List.map_map]; rfl
          rw [eb] at q
          cases hr : risesB nd with
          | false => simp [mB, stS, sSeq, sIf, tb, tv, tNo, tAn, tOr_, fAn, fOr_, fNo, fIf, f3c, f2, f1, fV, fC, gIx, gOrd, seqOf, lstOf, EV.boolOf, truOf, truS, L2.atI, sSet, gI2, hMod, hDiv, hSub, fN, g1, g2, gInt, aC, aN, sIxL, L2.ixN, sRet, gAdd, gEq, gNe, gLen, ar, sNil, sDrop, fM, gApp, gPopAt, isL, sPar, sPar3, gLstD, gLstL, gTupD, pures, gIsI, gIsI2, tagS, isT, scalD, PyData.eqv, e1, tupB, e2, e3, cn, ct, e4, hr, devB, ct']
          | true =>
            cases hm : memB a nd with
            | true => simp [mB, stS, sSeq, sIf, tb, tv, tNo, tAn, tOr_, fAn, fOr_, fNo, fIf, f3c, f2, f1, fV, fC, gIx, gOrd, seqOf, lstOf, EV.boolOf, truOf, truS, L2.atI, sSet, gI2, hMod, hDiv, hSub, fN, g1, g2, gInt, aC, aN, sIxL, L2.ixN, sRet, gAdd, gEq, gNe, gLen, ar, sNil, sDrop, fM, gApp, gPopAt, isL, sPar, sPar3, gLstD, gLstL, gTupD, pures, gIsI, gIsI2, tagS, isT, scalD, PyData.eqv, e1, tupB, e2, e3, cn, ct, e4, hr, gIn, e5, hm, devB, ct']
            | false => simp [mB, stS, sSeq, sIf, tb, tv, tNo, tAn, tOr_, fAn, fOr_, fNo, fIf, f3c, f2, f1, fV, fC, gIx, gOrd, seqOf, lstOf, EV.boolOf, truOf, truS, L2.atI, sSet, gI2, hMod, hDiv, hSub, fN, g1, g2, gInt, aC, aN, sIxL, L2.ixN, sRet, gAdd, gEq, gNe, gLen, ar, sNil, sDrop, fM, gApp, gPopAt, isL, sPar, sPar3, gLstD, gLstL, gTupD, pures, gIsI, gIsI2, tagS, isT, scalD, PyData.eqv, e1, tupB, e2, e3, cn, ct, e4, hr, gIn, e5, hm, devB, ct', q, gAA, bools_map, all_map_id]
        · have hw' : devB (.tuple [a, .tuple nd, b]) = false := by
            cases b <;> first | rfl | exact absurd ⟨_, rfl⟩ cb
          cases hr : risesB nd with
          | false => simp [mB, stS, sSeq, sIf, tb, tv, tNo, tAn, tOr_, fAn, fOr_, fNo, fIf, f3c, f2, f1, fV, fC, gIx, gOrd, seqOf, lstOf, EV.boolOf, truOf, truS, L2.atI, sSet, gI2, hMod, hDiv, hSub, fN, g1, g2, gInt, aC, aN, sIxL, L2.ixN, sRet, gAdd, gEq, gNe, gLen, ar, sNil, sDrop, fM, gApp, gPopAt, isL, sPar, sPar3, gLstD, gLstL, gTupD, pures, gIsI, gIsI2, tagS, isT, scalD, PyData.eqv, e1, tupB, e2, e3, cn, ct, e4, hr, hw']
          | true =>
            cases hm : memB a nd with
            | true => simp [mB, stS, sSeq, sIf, tb, tv, tNo, tAn, tOr_, fAn, fOr_, fNo, fIf, f3c, f2, f1, fV, fC, gIx, gOrd, seqOf, lstOf, EV.boolOf, truOf, truS, L2.atI, sSet, gI2, hMod, hDiv, hSub, fN, g1, g2, gInt, aC, aN, sIxL, L2.ixN, sRet, gAdd, gEq, gNe, gLen, ar, sNil, sDrop, fM, gApp, gPopAt, isL, sPar, sPar3, gLstD, gLstL, gTupD, pures, gIsI, gIsI2, tagS, isT, scalD, PyData.eqv, e1, tupB, e2, e3, cn, ct, e4, hr, gIn, e5, hm, hw']
            | false =>
              cases b with
              | tuple ws => exact absurd ⟨ws, rfl⟩ cb
              | dict _ => cases h.2.2.2.1
              | _ => simp [mB, stS, sSeq, sIf, tb, tv, tNo, tAn, tOr_, fAn, fOr_, fNo, fIf, f3c, f2, f1, fV, fC, gIx, gOrd, seqOf, lstOf, EV.boolOf, truOf, truS, L2.atI, sSet, gI2, hMod, hDiv, hSub, fN, g1, g2, gInt, aC, aN, sIxL, L2.ixN, sRet, gAdd, gEq, gNe, gLen, ar, sNil, sDrop, fM, gApp, gPopAt, isL, sPar, sPar3, gLstD, gLstL, gTupD, pures, gIsI, gIsI2, tagS, isT, scalD, PyData.eqv, e1, tupB, e2, e3, cn, ct, e4, hr, gIn, e5, hm, hw']
      · have ct' : namesB t = false := by simpa using ct
        have hw' : devB (.tuple [a, t, b]) = false := by
          cases t with
          | tuple os =>
            have q : os.all nameB = false := ct'
            cases b with
            | tuple ws => simp [devB, q]
            | _ => rfl
          | _ => cases b <;> rfl
        simp [mB, stS, sSeq, sIf, tb, tv, tNo, tAn, tOr_, fAn, fOr_, fNo, fIf, f3c, f2, f1, fV, fC, gIx, gOrd, seqOf, lstOf, EV.boolOf, truOf, truS, L2.atI, sSet, gI2, hMod, hDiv, hSub, fN, g1, g2, gInt, aC, aN, sIxL, L2.ixN, sRet, gAdd, gEq, gNe, gLen, ar, sNil, sDrop, fM, gApp, gPopAt, isL, sPar, sPar3, gLstD, gLstL, gTupD, pures, gIsI, gIsI2, tagS, isT, scalD, PyData.eqv, e1, tupB, e2, e3, cn, ct', hw']
    · have cn' : nameB a = false := by simpa using cn
      have hw' : devB (.tuple [a, t, b]) = false := by
        cases t with
        | tuple os =>
          cases b with
          | tuple ws => simp [devB, cn']
          | _ => rfl
        | _ => cases b <;> rfl
      simp [mB, stS, sSeq, sIf, tb, tv, tNo, tAn, tOr_, fAn, fOr_, fNo, fIf, f3c, f2, f1, fV, fC, gIx, gOrd, seqOf, lstOf, EV.boolOf, truOf, truS, L2.atI, sSet, gI2, hMod, hDiv, hSub, fN, g1, g2, gInt, aC, aN, sIxL, L2.ixN, sRet, gAdd, gEq, gNe, gLen, ar, sNil, sDrop, fM, gApp, gPopAt, isL, sPar, sPar3, gLstD, gLstL, gTupD, pures, gIsI, gIsI2, tagS, isT, scalD, PyData.eqv, e1, tupB, e2, cn', hw']
  · have e1' : tupB 3 d = false := by
      cases d with
      | tuple ds =>
        match ds with
        | [] => rfl
        | [_] => rfl
        | [_, _] => rfl
        | [a, b, x] => exact absurd ⟨a, b, x, rfl⟩ c
        | _ :: _ :: _ :: _ :: r => simp [tupB]; omega
      | _ => rfl
    rw [e1'] at e1
    have hw' : devB d = false := by
      cases d with
      | tuple ds =>
        match ds with
        | [] => simp [devB]
        | [_] => simp [devB]
        | [_, _] => simp [devB]
        | [a, b, x] => exact absurd ⟨a, b, x, rfl⟩ c
        | _ :: _ :: _ :: _ :: r => simp [devB]
      | _ => rfl
    simp [mB, stS, sSeq, sIf, tb, tv, tNo, tAn, tOr_, fAn, fOr_, fNo, fIf, f3c, f2, f1, fV, fC, gIx, gOrd, seqOf, lstOf, EV.boolOf, truOf, truS, L2.atI, sSet, gI2, hMod, hDiv, hSub, fN, g1, g2, gInt, aC, aN, sIxL, L2.ixN, sRet, gAdd, gEq, gNe, gLen, ar, sNil, sDrop, fM, gApp, gPopAt, isL, sPar, sPar3, gLstD, gLstL, gTupD, pures, gIsI, gIsI2, tagS, isT, scalD, PyData.eqv, e1, tupB, hw']
end
end K10

set_option Elab.async false
set_option linter.all false
set_option maxRecDepth 100000
set_option maxHeartbeats 4000000
namespace K10
open PySem EV
theorem for_all {i : Nat} {f : FS} {hd : Hd} (p : S → Bool) (I : Sd → Prop) : ∀ (xs : List S), (∀ x ∈ xs, ∀ ss, I ss → (p x = true → ∃ ss2, f (ss.set i (some x)) hd = some (.ok (.nx ss2) hd) ∧ I ss2) ∧ (p x = false → f (ss.set i (some x)) hd = some (.ok (.rt (.d (.bool false))) hd))) →
    ∀ ss, I ss → (xs.all p = true → ∃ ss2, forIt (tgN i) f xs ss hd = some (.ok (.nx ss2) hd) ∧ I ss2) ∧ (xs.all p = false → forIt (tgN i) f xs ss hd = some (.ok (.rt (.d (.bool false))) hd))
  | [], _, ss, h => ⟨fun _ => ⟨ss, rfl, h⟩, fun h => by simp at h⟩
  | x :: xs, st, ss, h => by
    obtain ⟨a1, a2⟩ := st x List.mem_cons_self ss h
    cases hp : p x with
    | false =>
      refine ⟨fun h => by simp [hp] at h, fun _ => ?_⟩
      unfold forIt tgN
      simp only [a2 hp, bnd_ok]
    | true =>
      obtain ⟨ss2, e, h2⟩ := a1 hp
      obtain ⟨b1, b2⟩ := for_all p I xs (fun y hy => st y (List.mem_cons_of_mem _ hy)) ss2 h2
      have e2 : forIt (tgN i) f (x :: xs) ss hd = forIt (tgN i) f xs ss2 hd := by
        conv => lhs; unfold forIt
        simp only [tgN, e, bnd_ok]
      rw [e2]
      simp only [List.all_cons, hp, Bool.true_and]
      exact ⟨b1, b2⟩
def hd0 : PyData → PyData
  | .tuple (a :: _) => a
  | _ => .none
def worldB : PyData → Bool
  | .tuple ds => ds.all devB && risesB (ds.map hd0)
  | _ => false
theorem dev_shape {d : PyData} (h : devB d = true) : ∃ nm nd ws, d = .tuple [nm, .tuple nd, .tuple ws] ∧ nameB nm = true ∧ (∀ x ∈ nd, nameB x = true) := by
  unfold devB at h
  split at h
  · simp only [Bool.and_eq_true] at h
    exact ⟨_, _, _, rfl, h.1.1, List.all_eq_true.mp h.1.2⟩
  · cases h
section
variable {hd : Hd} {w : Nat}
theorem heads_ok {i : Nat} {ss : Sd} {s : Sd → Hd → R Src} {ds : List PyData} (hs : s ss hd = some (.ok (.it (ds.map S.d)) hd)) (hi : i < ss.length) (h : ∀ d ∈ ds, devB d = true) :
    fComp [i] s (tgN i) tYesF (f2 gIx (fV i) (fC (.int 0))) finF ss hd = some (.ok (.d (.list (ds.map hd0))) hd) := by
  have q := cmp_pure (vs := [i]) (t := tgN i) (tt := tYesF) (te := f2 gIx (fV i) (fC (.int 0))) (ss := ss) (hd := hd) (fun _ => true) (fun x => match x with | .d d => .d (hd0 d) | x => x) (ds.map S.d) [] fun x hx => by
    obtain ⟨d, hd', rfl⟩ := List.mem_map.mp hx
    obtain ⟨nm, nd, ws, rfl, _⟩ := dev_shape (h d hd')
    have e : ((wip ss [i]).set i (some (S.d (.tuple [nm, .tuple nd, .tuple ws]))))[i]? = some (some (.d (.tuple [nm, .tuple nd, .tuple ws]))) := List.getElem?_set_self (by simp [wip]; exact hi)
    exact ⟨_, rfl, rfl, fun _ => by simp [f2, fV, fC, e, gIx, seqOf, L2.atI, L2.ixN, hd0]⟩
  unfold fComp
  rw [hs]
  simp only [bnd_ok]
  rw [q]
  simp only [List.nil_append, bnd0_ok, finF]
  have e : (((ds.map S.d).filter fun _ => true).map fun x => match x with | .d d => S.d (hd0 d) | x => x) = (ds.map hd0).map S.d := by
    rw [List.filter_eq_self.mpr (fun _ _ => rfl), List.map_map, List.map_map]; rfl
  rw [e, pures_d]
theorem heads_names {ds : List PyData} (h : ∀ d ∈ ds, devB d = true) : ∀ x ∈ ds.map hd0, nameB x = true := fun x hx => by
  obtain ⟨d, hd', rfl⟩ := List.mem_map.mp hx
  obtain ⟨nm, nd, ws, rfl, h1, _⟩ := dev_shape (h d hd')
  exact h1
theorem pworld_ok (hf : Flat hd) (hw : w ≤ 1000) {d : PyData} (h : fine w d = true) : m_P_is_world [.d d] hd = some (.ok (.d (.bool (worldB d))) hd) := by
  refine cut_self hf (mB_rt ?_)
  cases d with
  | dict _ => cases h
  | tuple ds =>
    simp only [fine, Bool.and_eq_true, decide_eq_true_eq] at h
    have q := comp_bools (vs := [1]) (t := tgN 1) (te := fN (ar 1 m_P_is_device) (aC (fV 1) aN)) (ss := [some (.d (.tuple ds)), none]) (hd := hd) (h0 := hd) (s := srcE srcA (fV 0)) (xs := ds.map S.d)
      (onD devB) (by simp [srcE, srcA, fV]) (fun x hx => by
        obtain ⟨k, hk, rfl⟩ := List.mem_map.mp hx
        exact ⟨_, rfl, by simp [fN, ar, aC, aN, fV, wip, pdev_ok hf hw (fineAll_iff.mp h.2 k hk), onD]⟩)
    have eb : ((ds.map S.d).map fun x => PyData.bool (onD devB x)) = ds.map fun k => PyData.bool (devB k) := by rw [List.map_map]; rfl
    rw [eb] at q
    cases hb : ds.all devB with
    | false => simp [mB, stS, sSeq, sIf, tb, tv, tNo, tAn, tOr_, fAn, fOr_, fNo, fIf, f3c, f2, f1, fV, fC, gIx, gOrd, seqOf, lstOf, EV.boolOf, truOf, truS, L2.atI, sSet, gI2, hMod, hDiv, hSub, fN, g1, g2, gInt, aC, aN, sIxL, L2.ixN, sRet, gAdd, gEq, gNe, gLen, ar, sNil, sDrop, fM, gApp, gPopAt, isL, sPar, sPar3, gLstD, gLstL, gTupD, pures, gIsI, gIsI2, tagS, isT, scalD, PyData.eqv, q, gAA, bools_map, all_map_id, worldB, hb]
    | true =>
      have hb' := List.all_eq_true.mp hb
      have e1 := heads_ok (i := 1) (ss := [some (.d (.tuple ds)), none]) (s := srcE srcA (fV 0)) (ds := ds) (hd := hd) (by simp [srcE, srcA, fV]) (by simp) hb'
      have e2 := prises_ok (hd := hd) hf (.inl rfl) (heads_names hb')
      simp [mB, stS, sSeq, sIf, tb, tv, tNo, tAn, tOr_, fAn, fOr_, fNo, fIf, f3c, f2, f1, fV, fC, gIx, gOrd, seqOf, lstOf, EV.boolOf, truOf, truS, L2.atI, sSet, gI2, hMod, hDiv, hSub, fN, g1, g2, gInt, aC, aN, sIxL, L2.ixN, sRet, gAdd, gEq, gNe, gLen, ar, sNil, sDrop, fM, gApp, gPopAt, isL, sPar, sPar3, gLstD, gLstL, gTupD, pures, gIsI, gIsI2, tagS, isT, scalD, PyData.eqv, q, gAA, bools_map, all_map_id, worldB, hb, e1, e2]
  | _ => simp [mB, stS, sSeq, sIf, tb, tv, tNo, tAn, tOr_, fAn, fOr_, fNo, fIf, f3c, f2, f1, fV, fC, gIx, gOrd, seqOf, lstOf, EV.boolOf, truOf, truS, L2.atI, sSet, gI2, hMod, hDiv, hSub, fN, g1, g2, gInt, aC, aN, sIxL, L2.ixN, sRet, gAdd, gEq, gNe, gLen, ar, sNil, sDrop, fM, gApp, gPopAt, isL, sPar, sPar3, gLstD, gLstL, gTupD, pures, gIsI, gIsI2, tagS, isT, scalD, PyData.eqv, worldB]
def fHope : FS := sSeq (sIf (tOr_ (tNo (tv (f1 (gIsI .tup) (fV 2)))) (tOr_ (tb (f2 gNe (fN (g1 gLen) (aC (fV 2) aN)) (fC (.int 2)))) (tNo (tv (f1 (gIsI .bool) (f2 gIx (fV 2) (fC (.int 1)))))))) (sRet (fC (.bool false))) sNil) (sSeq (sIf (tOr_ (tNo (tv (fN (ar 1 m_L_are_names) (aC (f2 gIx (fV 2) (fC (.int 0))) aN)))) (tOr_ (tb (f2 gEq (f2 gIx (fV 2) (fC (.int 0))) (fN gTupD aN))) (tb (f2 gIn (f2 gIx (fV 1) (fC (.int 0))) (f2 gIx (fV 2) (fC (.int 0))))))) (sRet (fC (.bool false))) sNil) (sIf (tb (f2 gLt (f1 gLenSet (f2 gIx (fV 2) (fC (.int 0)))) (fN (g1 gLen) (aC (f2 gIx (fV 2) (fC (.int 0))) aN)))) (sRet (fC (.bool false))) sNil))
theorem canLay_names {ds : List PyData} (hw : fineAll w ds = true) (h : ∀ d ∈ ds, nameB d = true) : PyData.canLayAll0 ds = true ∧ PyData.depthAll ds = 0 := by
  induction ds with
  | nil => exact ⟨rfl, rfl⟩
  | cons d ds ih =>
    simp only [fineAll, Bool.and_eq_true] at hw
    obtain ⟨i1, i2⟩ := ih hw.2 fun x hx => h x (List.mem_cons_of_mem _ hx)
    obtain ⟨s, rfl⟩ := name_str (h d List.mem_cons_self)
    have h1 := hw.1
    simp only [fine, Bool.and_eq_true] at h1
    exact ⟨by simp [PyData.canLayAll0, PyData.canLay0, h1.1, i1], by simp [PyData.depthAll, PyData.depth, i2]⟩
theorem hope_ok {ss : Sd} {h nm : PyData} {nd ws : List PyData} (hf : Flat hd) (hw : w ≤ 1000) (hh : fine w h = true) (hn : nameB nm = true) (s1 : ss[1]? = some (some (.d (.tuple [nm, .tuple nd, .tuple ws])))) (s2 : ss[2]? = some (some (.d h))) :
    fHope ss hd = some (.ok (if wishB nm h = true then .nx ss else .rt (.d (.bool false))) hd) := by
  unfold fHope
  by_cases c : ∃ t b, h = .tuple [t, b]
  · obtain ⟨t, b, rfl⟩ := c
    simp only [fine, fineAll, Bool.and_eq_true, decide_eq_true_eq] at hh
    have e2 := lnames_ok (w := w) hf (by omega) hh.2.1
    by_cases cb : ∃ k, b = .bool k
    · obtain ⟨k, rfl⟩ := cb
      by_cases ct : namesB t = true
      · obtain ⟨os, rfl⟩ : ∃ os, t = .tuple os := by
          cases t with
          | tuple os => exact ⟨os, rfl⟩
          | _ => cases ct
        have hos : ∀ d ∈ os, nameB d = true := List.all_eq_true.mp ct
        have hfo := hh.2.1
        simp only [fine, Bool.and_eq_true, decide_eq_true_eq] at hfo
        have hol : os.length ≤ 4000 := by omega
        have e3 := in_names (hd := hd) hn hos
        have e4 := set_names (hd := hd) hos hol
        have ct' : os.all nameB = true := ct
        obtain ⟨c1, c2⟩ := canLay_names hfo.2 hos
        have sh : SeqAt.shaped (.tuple os) = true := by simp [SeqAt.shaped, PyData.canLay0, c1, PyData.depth, c2]
        have sh0 : SeqAt.shaped (.tuple []) = true := by decide
        have ee : PyData.eqvAll os [] = os.isEmpty := by cases os <;> simp [PyData.eqvAll]
        have hdl := dd_le (txO os)
        have hdl2 : (txO os).length = os.length := by unfold txO; rw [List.length_map]
        cases he : os.isEmpty with
        | true => simp [mB, stS, sSeq, sIf, tb, tv, tNo, tAn, tOr_, fAn, fOr_, fNo, fIf, f3c, f2, f1, fV, fC, gIx, gOrd, seqOf, lstOf, EV.boolOf, truOf, truS, L2.atI, sSet, gI2, hMod, hDiv, hSub, fN, g1, g2, gInt, aC, aN, sIxL, L2.ixN, sRet, gAdd, gEq, gNe, gLen, ar, sNil, sDrop, fM, gApp, gPopAt, isL, sPar, sPar3, gLstD, gLstL, gTupD, pures, gIsI, gIsI2, tagS, isT, scalD, PyData.eqv, s1, s2, e2, ct, sh, sh0, ee, he, wishB, optB]
        | false =>
          cases hm : memB nm os with
          | true => simp [mB, stS, sSeq, sIf, tb, tv, tNo, tAn, tOr_, fAn, fOr_, fNo, fIf, f3c, f2, f1, fV, fC, gIx, gOrd, seqOf, lstOf, EV.boolOf, truOf, truS, L2.atI, sSet, gI2, hMod, hDiv, hSub, fN, g1, g2, gInt, aC, aN, sIxL, L2.ixN, sRet, gAdd, gEq, gNe, gLen, ar, sNil, sDrop, fM, gApp, gPopAt, isL, sPar, sPar3, gLstD, gLstL, gTupD, pures, gIsI, gIsI2, tagS, isT, scalD, PyData.eqv, s1, s2, e2, ct, sh, sh0, ee, he, wishB, optB, gIn, e3, hm]
          | false =>
            by_cases hq : (dd (txO os)).length < os.length
            · have hq2 : ¬ (dd (txO os)).length = os.length := by omega
              simp [mB, stS, sSeq, sIf, tb, tv, tNo, tAn, tOr_, fAn, fOr_, fNo, fIf, f3c, f2, f1, fV, fC, gIx, gOrd, seqOf, lstOf, EV.boolOf, truOf, truS, L2.atI, sSet, gI2, hMod, hDiv, hSub, fN, g1, g2, gInt, aC, aN, sIxL, L2.ixN, sRet, gAdd, gEq, gNe, gLen, ar, sNil, sDrop, fM, gApp, gPopAt, isL, sPar, sPar3, gLstD, gLstL, gTupD, pures, gIsI, gIsI2, tagS, isT, scalD, PyData.eqv, s1, s2, e2, ct, sh, sh0, ee, he, wishB, optB, gIn, e3, hm, gLenSet, e4, hq, hq2]
            · have hq2 : (dd (txO os)).length = os.length := by omega
              simp [mB, stS, sSeq, sIf, tb, tv, tNo, tAn, tOr_, fAn, fOr_, fNo, fIf, f3c, f2, f1, fV, fC, gIx, gOrd, seqOf, lstOf, EV.boolOf, truOf, truS, L2.atI, sSet, gI2, hMod, hDiv, hSub, fN, g1, g2, gInt, aC, aN, sIxL, L2.ixN, sRet, gAdd, gEq, gNe, gLen, ar, sNil, sDrop, fM, gApp, gPopAt, isL, sPar, sPar3, gLstD, gLstL, gTupD, pures, gIsI, gIsI2, tagS, isT, scalD, PyData.eqv, s1, s2, e2, ct, sh, sh0, ee, he, wishB, optB, gIn, e3, hm, gLenSet, e4, hq, hq2, ct']
      · have ct' : namesB t = false := by simpa using ct
        have hw' : wishB nm (.tuple [t, .bool k]) = false := by
          cases t with
          | tuple os =>
            have q : os.all nameB = false := ct'
            simp [wishB, optB, q]
          | _ => rfl
        simp [mB, stS, sSeq, sIf, tb, tv, tNo, tAn, tOr_, fAn, fOr_, fNo, fIf, f3c, f2, f1, fV, fC, gIx, gOrd, seqOf, lstOf, EV.boolOf, truOf, truS, L2.atI, sSet, gI2, hMod, hDiv, hSub, fN, g1, g2, gInt, aC, aN, sIxL, L2.ixN, sRet, gAdd, gEq, gNe, gLen, ar, sNil, sDrop, fM, gApp, gPopAt, isL, sPar, sPar3, gLstD, gLstL, gTupD, pures, gIsI, gIsI2, tagS, isT, scalD, PyData.eqv, s2, e2, ct', hw']
    · have hw' : wishB nm (.tuple [t, b]) = false := by
        cases t <;> cases b <;> first | rfl | exact absurd ⟨_, rfl⟩ cb
      cases b with
      | bool k => exact absurd ⟨k, rfl⟩ cb
      | dict _ => cases hh.2.2.1
      | _ => simp [mB, stS, sSeq, sIf, tb, tv, tNo, tAn, tOr_, fAn, fOr_, fNo, fIf, f3c, f2, f1, fV, fC, gIx, gOrd, seqOf, lstOf, EV.boolOf, truOf, truS, L2.atI, sSet, gI2, hMod, hDiv, hSub, fN, g1, g2, gInt, aC, aN, sIxL, L2.ixN, sRet, gAdd, gEq, gNe, gLen, ar, sNil, sDrop, fM, gApp, gPopAt, isL, sPar, sPar3, gLstD, gLstL, gTupD, pures, gIsI, gIsI2, tagS, isT, scalD, PyData.eqv, s2, hw']
  · have hw' : wishB nm h = false := by
      cases h with
      | tuple ds =>
        match ds with
        | [] => simp [wishB]
        | [_] => simp [wishB]
        | [a, b] => exact absurd ⟨a, b, rfl⟩ c
        | _ :: _ :: _ :: r => simp [wishB]
      | _ => rfl
    cases h with
    | dict _ => cases hh
    | tuple ds =>
      have hl : ¬ (ds.length : Int) = 2 := by
        match ds with
        | [] => simp
        | [_] => simp
        | [a, b] => exact absurd ⟨a, b, rfl⟩ c
        | _ :: _ :: _ :: r => simp; omega
      simp [mB, stS, sSeq, sIf, tb, tv, tNo, tAn, tOr_, fAn, fOr_, fNo, fIf, f3c, f2, f1, fV, fC, gIx, gOrd, seqOf, lstOf, EV.boolOf, truOf, truS, L2.atI, sSet, gI2, hMod, hDiv, hSub, fN, g1, g2, gInt, aC, aN, sIxL, L2.ixN, sRet, gAdd, gEq, gNe, gLen, ar, sNil, sDrop, fM, gApp, gPopAt, isL, sPar, sPar3, gLstD, gLstL, gTupD, pures, gIsI, gIsI2, tagS, isT, scalD, PyData.eqv, s2, hw', hl]
    | _ => simp [mB, stS, sSeq, sIf, tb, tv, tNo, tAn, tOr_, fAn, fOr_, fNo, fIf, f3c, f2, f1, fV, fC, gIx, gOrd, seqOf, lstOf, EV.boolOf, truOf, truS, L2.atI, sSet, gI2, hMod, hDiv, hSub, fN, g1, g2, gInt, aC, aN, sIxL, L2.ixN, sRet, gAdd, gEq, gNe, gLen, ar, sNil, sDrop, fM, gApp, gPopAt, isL, sPar, sPar3, gLstD, gLstL, gTupD, pures, gIsI, gIsI2, tagS, isT, scalD, PyData.eqv, s2, hw']
end
end K10

set_option Elab.async false
set_option linter.all false
set_option maxRecDepth 100000
set_option maxHeartbeats 4000000
namespace K10
open PySem EV
section
variable {hd : Hd} {w : Nat}
def fDev1 : FS := sIf (tOr_ (tNo (tv (f1 (gIsI .tup) (fV 1)))) (tOr_ (tb (f2 gNe (fN (g1 gLen) (aC (fV 1) aN)) (fC (.int 3)))) (tNo (tv (fN (ar 1 m_L_is_name) (aC (f2 gIx (fV 1) (fC (.int 0))) aN)))))) (sRet (fC (.bool false))) sNil
def fDev2 : FS := sIf (tOr_ (tNo (tv (fN (ar 1 m_L_are_names) (aC (f2 gIx (fV 1) (fC (.int 1))) aN)))) (tOr_ (tNo (tv (fN (ar 1 m_L_goes_up) (aC (f2 gIx (fV 1) (fC (.int 1))) aN)))) (tb (f2 gIn (f2 gIx (fV 1) (fC (.int 0))) (f2 gIx (fV 1) (fC (.int 1))))))) (sRet (fC (.bool false))) sNil
def fDev3 : FS := sIf (tNo (tv (f1 (gIsI .tup) (f2 gIx (fV 1) (fC (.int 2)))))) (sRet (fC (.bool false))) sNil
def fDev4 : FS := sFor (srcE srcA (f2 gIx (fV 1) (fC (.int 2)))) (tgN 2) fHope
def fDev : FS := sSeq fDev1 (sSeq fDev2 (sSeq fDev3 fDev4))
theorem dev_step {ss : Sd} {d : PyData} (hf : Flat hd) (hw : w ≤ 1000) (hh : fine w d = true) (hl : ss.length = 3) (s1 : ss[1]? = some (some (.d d))) :
    (devB d = true → ∃ ss2, fDev ss hd = some (.ok (.nx ss2) hd) ∧ ss2.length = 3 ∧ ss2[0]? = ss[0]?) ∧ (devB d = false → fDev ss hd = some (.ok (.rt (.d (.bool false))) hd)) := by
  unfold fDev
  by_cases c : ∃ a t b, d = .tuple [a, t, b]
  · obtain ⟨a, t, b, rfl⟩ := c
    simp only [fine, fineAll, Bool.and_eq_true, decide_eq_true_eq] at hh
    have e2 := lname_ok (w := w) hf (by omega) hh.2.1
    have e3 := lnames_ok (w := w) hf (by omega) hh.2.2.1
    cases cn : nameB a with
    | false =>
      have hw' : devB (.tuple [a, t, b]) = false := by
        cases t with
        | tuple os =>
          cases b with
          | tuple ws => simp [devB, cn]
          | _ => rfl
        | _ => cases b <;> rfl
      rw [hw']
      refine ⟨fun h => (by cases h), fun _ => seq_rt ?_⟩
      unfold fDev1
      simp [mB, stS, sSeq, sIf, tb, tv, tNo, tAn, tOr_, fAn, fOr_, fNo, fIf, f3c, f2, f1, fV, fC, gIx, gOrd, seqOf, lstOf, EV.boolOf, truOf, truS, L2.atI, sSet, gI2, hMod, hDiv, hSub, fN, g1, g2, gInt, aC, aN, sIxL, L2.ixN, sRet, gAdd, gEq, gNe, gLen, ar, sNil, sDrop, fM, gApp, gPopAt, isL, sPar, sPar3, gLstD, gLstL, gTupD, pures, gIsI, gIsI2, tagS, isT, scalD, PyData.eqv, s1, e2, cn]
    | true =>
      have q1 : fDev1 ss hd = some (.ok (.nx ss) hd) := by
        unfold fDev1
        simp [mB, stS, sSeq, sIf, tb, tv, tNo, tAn, tOr_, fAn, fOr_, fNo, fIf, f3c, f2, f1, fV, fC, gIx, gOrd, seqOf, lstOf, EV.boolOf, truOf, truS, L2.atI, sSet, gI2, hMod, hDiv, hSub, fN, g1, g2, gInt, aC, aN, sIxL, L2.ixN, sRet, gAdd, gEq, gNe, gLen, ar, sNil, sDrop, fM, gApp, gPopAt, isL, sPar, sPar3, gLstD, gLstL, gTupD, pures, gIsI, gIsI2, tagS, isT, scalD, PyData.eqv, s1, e2, cn]
      rw [seq_nx q1]
      cases ct : namesB t with
      | false =>
        have hw' : devB (.tuple [a, t, b]) = false := by
          cases t with
          | tuple os =>
            have q : os.all nameB = false := ct
            cases b with
            | tuple ws => simp [devB, q]
            | _ => rfl
          | _ => cases b <;> rfl
        rw [hw']
        refine ⟨fun h => (by cases h), fun _ => seq_rt ?_⟩
        unfold fDev2
        simp [mB, stS, sSeq, sIf, tb, tv, tNo, tAn, tOr_, fAn, fOr_, fNo, fIf, f3c, f2, f1, fV, fC, gIx, gOrd, seqOf, lstOf, EV.boolOf, truOf, truS, L2.atI, sSet, gI2, hMod, hDiv, hSub, fN, g1, g2, gInt, aC, aN, sIxL, L2.ixN, sRet, gAdd, gEq, gNe, gLen, ar, sNil, sDrop, fM, gApp, gPopAt, isL, sPar, sPar3, gLstD, gLstL, gTupD, pures, gIsI, gIsI2, tagS, isT, scalD, PyData.eqv, s1, e3, ct]
      | true =>
        obtain ⟨nd, rfl⟩ : ∃ os, t = .tuple os := by
          cases t with
          | tuple os => exact ⟨os, rfl⟩
          | _ => cases ct
        have hos : ∀ d ∈ nd, nameB d = true := List.all_eq_true.mp ct
        have ct' : nd.all nameB = true := ct
        have e4 := lup_ok (hd := hd) hf (.inr rfl) hos
        have e5 := in_names (hd := hd) cn hos
        cases hr : (risesB nd && !memB a nd) with
        | false =>
          have hw' : devB (.tuple [a, .tuple nd, b]) = false := by
            cases b with
            | tuple ws => simp only [devB, hr, Bool.false_and, Bool.and_false]
            | _ => rfl
          rw [hw']
          refine ⟨fun h => (by cases h), fun _ => seq_rt ?_⟩
          unfold fDev2
          cases hr1 : risesB nd with
          | false => simp [mB, stS, sSeq, sIf, tb, tv, tNo, tAn, tOr_, fAn, fOr_, fNo, fIf, f3c, f2, f1, fV, fC, gIx, gOrd, seqOf, lstOf, EV.boolOf, truOf, truS, L2.atI, sSet, gI2, hMod, hDiv, hSub, fN, g1, g2, gInt, aC, aN, sIxL, L2.ixN, sRet, gAdd, gEq, gNe, gLen, ar, sNil, sDrop, fM, gApp, gPopAt, isL, sPar, sPar3, gLstD, gLstL, gTupD, pures, gIsI, gIsI2, tagS, isT, scalD, PyData.eqv, s1, e3, ct, e4, hr1]
          | true =>
            have hm : memB a nd = true := by simpa [hr1] using hr
            simp [mB, stS, sSeq, sIf, tb, tv, tNo, tAn, tOr_, fAn, fOr_, fNo, fIf, f3c, f2, f1, fV, fC, gIx, gOrd, seqOf, lstOf, EV.boolOf, truOf, truS, L2.atI, sSet, gI2, hMod, hDiv, hSub, fN, g1, g2, gInt, aC, aN, sIxL, L2.ixN, sRet, gAdd, gEq, gNe, gLen, ar, sNil, sDrop, fM, gApp, gPopAt, isL, sPar, sPar3, gLstD, gLstL, gTupD, pures, gIsI, gIsI2, tagS, isT, scalD, PyData.eqv, s1, e3, ct, e4, hr1, gIn, e5, hm]
        | true =>
          simp only [Bool.and_eq_true, Bool.not_eq_true'] at hr
          have q2 : fDev2 ss hd = some (.ok (.nx ss) hd) := by
            unfold fDev2
            simp [mB, stS, sSeq, sIf, tb, tv, tNo, tAn, tOr_, fAn, fOr_, fNo, fIf, f3c, f2, f1, fV, fC, gIx, gOrd, seqOf, lstOf, EV.boolOf, truOf, truS, L2.atI, sSet, gI2, hMod, hDiv, hSub, fN, g1, g2, gInt, aC, aN, sIxL, L2.ixN, sRet, gAdd, gEq, gNe, gLen, ar, sNil, sDrop, fM, gApp, gPopAt, isL, sPar, sPar3, gLstD, gLstL, gTupD, pures, gIsI, gIsI2, tagS, isT, scalD, PyData.eqv, s1, e3, ct, e4, hr.1, gIn, e5, hr.2]
          rw [seq_nx q2]
          by_cases cb : ∃ ws, b = .tuple ws
          · obtain ⟨ws, rfl⟩ := cb
            have hws := hh.2.2.2.1
            simp only [fine, Bool.and_eq_true, decide_eq_true_eq] at hws
            have q3 : fDev3 ss hd = some (.ok (.nx ss) hd) := by
              unfold fDev3
              simp [mB, stS, sSeq, sIf, tb, tv, tNo, tAn, tOr_, fAn, fOr_, fNo, fIf, f3c, f2, f1, fV, fC, gIx, gOrd, seqOf, lstOf, EV.boolOf, truOf, truS, L2.atI, sSet, gI2, hMod, hDiv, hSub, fN, g1, g2, gInt, aC, aN, sIxL, L2.ixN, sRet, gAdd, gEq, gNe, gLen, ar, sNil, sDrop, fM, gApp, gPopAt, isL, sPar, sPar3, gLstD, gLstL, gTupD, pures, gIsI, gIsI2, tagS, isT, scalD, PyData.eqv, s1]
            rw [seq_nx q3]
            have hd1 : devB (.tuple [a, .tuple nd, .tuple ws]) = ws.all (wishB a) := by simp [devB, cn, ct', hr.1, hr.2]
            have e6 : fDev4 ss hd = forIt (tgN 2) fHope (ws.map S.d) ss hd := for_it (by simp [mB, stS, sSeq, sIf, tb, tv, tNo, tAn, tOr_, fAn, fOr_, fNo, fIf, f3c, f2, f1, fV, fC, gIx, gOrd, seqOf, lstOf, EV.boolOf, truOf, truS, L2.atI, sSet, gI2, hMod, hDiv, hSub, fN, g1, g2, gInt, aC, aN, sIxL, L2.ixN, sRet, gAdd, gEq, gNe, gLen, ar, sNil, sDrop, fM, gApp, gPopAt, isL, sPar, sPar3, gLstD, gLstL, gTupD, pures, gIsI, gIsI2, tagS, isT, scalD, PyData.eqv, srcE, srcA, s1])
            rw [e6, hd1]
            have q := for_all (i := 2) (f := fHope) (hd := hd) (onD (wishB a)) (fun s => s.length = 3 ∧ s[0]? = ss[0]? ∧ s[1]? = ss[1]?) (ws.map S.d) (fun x hx s hs => by
              obtain ⟨h, hh', rfl⟩ := List.mem_map.mp hx
              have e7 := hope_ok (ss := s.set 2 (some (.d h))) (nm := a) (nd := nd) (ws := ws) hf hw (fineAll_iff.mp hws.2 h hh') cn (by rw [List.getElem?_set_ne (by decide), hs.2.2]; exact s1) (List.getElem?_set_self (by rw [hs.1]; decide))
              rw [e7]
              refine ⟨fun hp => ⟨s.set 2 (some (.d h)), by have hp : wishB a h = true := hp; rw [if_pos hp], by rw [List.length_set]; exact hs.1, by rw [List.getElem?_set_ne (by decide)]; exact hs.2.1, by rw [List.getElem?_set_ne (by decide)]; exact hs.2.2⟩, fun hp => ?_⟩
              have hp : wishB a h = false := hp
              rw [if_neg (by rw [hp]; decide)]) ss ⟨hl, rfl, rfl⟩
            have ea : (ws.map S.d).all (onD (wishB a)) = ws.all (wishB a) := by rw [List.all_map]; rfl
            rw [ea] at q
            refine ⟨fun h => ?_, q.2⟩
            obtain ⟨s2, g1, g2⟩ := q.1 h
            exact ⟨s2, g1, g2.1, g2.2.1⟩
          · have hw' : devB (.tuple [a, .tuple nd, b]) = false := by
              cases b <;> first | rfl | exact absurd ⟨_, rfl⟩ cb
            rw [hw']
            refine ⟨fun h => (by cases h), fun _ => seq_rt ?_⟩
            unfold fDev3
            cases b with
            | tuple ws => exact absurd ⟨ws, rfl⟩ cb
            | dict _ => cases hh.2.2.2.1
            | _ => simp [mB, stS, sSeq, sIf, tb, tv, tNo, tAn, tOr_, fAn, fOr_, fNo, fIf, f3c, f2, f1, fV, fC, gIx, gOrd, seqOf, lstOf, EV.boolOf, truOf, truS, L2.atI, sSet, gI2, hMod, hDiv, hSub, fN, g1, g2, gInt, aC, aN, sIxL, L2.ixN, sRet, gAdd, gEq, gNe, gLen, ar, sNil, sDrop, fM, gApp, gPopAt, isL, sPar, sPar3, gLstD, gLstL, gTupD, pures, gIsI, gIsI2, tagS, isT, scalD, PyData.eqv, s1]
  · have hw' : devB d = false := by
      cases d with
      | tuple ds =>
        match ds with
        | [] => simp [devB]
        | [_] => simp [devB]
        | [_, _] => simp [devB]
        | [a, b, x] => exact absurd ⟨a, b, x, rfl⟩ c
        | _ :: _ :: _ :: _ :: r => simp [devB]
      | _ => rfl
    rw [hw']
    refine ⟨fun h => (by cases h), fun _ => seq_rt ?_⟩
    unfold fDev1
    cases d with
    | dict _ => cases hh
    | tuple ds =>
      have hl : ¬ (ds.length : Int) = 3 := by
        match ds with
        | [] => simp
        | [_] => simp
        | [_, _] => simp
        | [a, b, x] => exact absurd ⟨a, b, x, rfl⟩ c
        | _ :: _ :: _ :: _ :: r => simp; omega
      simp [mB, stS, sSeq, sIf, tb, tv, tNo, tAn, tOr_, fAn, fOr_, fNo, fIf, f3c, f2, f1, fV, fC, gIx, gOrd, seqOf, lstOf, EV.boolOf, truOf, truS, L2.atI, sSet, gI2, hMod, hDiv, hSub, fN, g1, g2, gInt, aC, aN, sIxL, L2.ixN, sRet, gAdd, gEq, gNe, gLen, ar, sNil, sDrop, fM, gApp, gPopAt, isL, sPar, sPar3, gLstD, gLstL, gTupD, pures, gIsI, gIsI2, tagS, isT, scalD, PyData.eqv, s1, hl]
    | _ => simp [mB, stS, sSeq, sIf, tb, tv, tNo, tAn, tOr_, fAn, fOr_, fNo, fIf, f3c, f2, f1, fV, fC, gIx, gOrd, seqOf, lstOf, EV.boolOf, truOf, truS, L2.atI, sSet, gI2, hMod, hDiv, hSub, fN, g1, g2, gInt, aC, aN, sIxL, L2.ixN, sRet, gAdd, gEq, gNe, gLen, ar, sNil, sDrop, fM, gApp, gPopAt, isL, sPar, sPar3, gLstD, gLstL, gTupD, pures, gIsI, gIsI2, tagS, isT, scalD, PyData.eqv, s1]
theorem whole_ok (hf : Flat hd) (hw : w ≤ 1000) {d : PyData} (h : fine w d = true) : m_L_is_whole [.d d] hd = some (.ok (.d (.bool (worldB d))) hd) := by
  refine cut_self hf (mB_rt ?_)
  cases d with
  | dict _ => cases h
  | tuple ds =>
    simp only [fine, Bool.and_eq_true, decide_eq_true_eq] at h
    refine (seq_nx (s1 := [some (.d (.tuple ds)), none, none]) (h1 := hd) (by simp [mB, stS, sSeq, sIf, tb, tv, tNo, tAn, tOr_, fAn, fOr_, fNo, fIf, f3c, f2, f1, fV, fC, gIx, gOrd, seqOf, lstOf, EV.boolOf, truOf, truS, L2.atI, sSet, gI2, hMod, hDiv, hSub, fN, g1, g2, gInt, aC, aN, sIxL, L2.ixN, sRet, gAdd, gEq, gNe, gLen, ar, sNil, sDrop, fM, gApp, gPopAt, isL, sPar, sPar3, gLstD, gLstL, gTupD, pures, gIsI, gIsI2, tagS, isT, scalD, PyData.eqv])).trans ?_
    have q := for_all (i := 1) (f := fDev) (hd := hd) (onD devB) (fun s => s.length = 3 ∧ s[0]? = some (some (.d (.tuple ds)))) (ds.map S.d) (fun x hx s hs => by
      obtain ⟨d, hd', rfl⟩ := List.mem_map.mp hx
      obtain ⟨a1, a2⟩ := dev_step (ss := s.set 1 (some (.d d))) hf hw (fineAll_iff.mp h.2 d hd') (by rw [List.length_set]; exact hs.1) (List.getElem?_set_self (by rw [hs.1]; decide))
      refine ⟨fun hp => ?_, a2⟩
      obtain ⟨s2, b1, b2, b3⟩ := a1 hp
      exact ⟨s2, b1, b2, by rw [b3, List.getElem?_set_ne (by decide)]; exact hs.2⟩) [some (.d (.tuple ds)), none, none] ⟨rfl, rfl⟩
    have ea : (ds.map S.d).all (onD devB) = ds.all devB := by rw [List.all_map]; rfl
    rw [ea] at q
    have e6 : sFor (srcE srcA (fV 0)) (tgN 1) fDev [some (.d (.tuple ds)), none, none] hd = forIt (tgN 1) fDev (ds.map S.d) [some (.d (.tuple ds)), none, none] hd := for_it (by simp [srcE, srcA, fV])
    cases hb : ds.all devB with
    | false => exact (seq_rt (e6.trans (q.2 hb))).trans (by simp [worldB, hb])
    | true =>
      obtain ⟨s2, b1, b2, b3⟩ := q.1 hb
      have hb' := List.all_eq_true.mp hb
      refine (seq_nx (e6.trans b1)).trans ?_
      have e1 := heads_ok (i := 1) (ss := s2) (s := srcE srcA (fV 0)) (ds := ds) (hd := hd) (by simp [srcE, srcA, fV, b3]) (by rw [b2]; decide) hb'
      have e2 := lup_ok (hd := hd) hf (.inl rfl) (heads_names hb')
      simp [sRet, fN, ar, aC, aN, e1, e2, worldB, hb]
  | _ => simp [mB, stS, sSeq, sIf, tb, tv, tNo, tAn, tOr_, fAn, fOr_, fNo, fIf, f3c, f2, f1, fV, fC, gIx, gOrd, seqOf, lstOf, EV.boolOf, truOf, truS, L2.atI, sSet, gI2, hMod, hDiv, hSub, fN, g1, g2, gInt, aC, aN, sIxL, L2.ixN, sRet, gAdd, gEq, gNe, gLen, ar, sNil, sDrop, fM, gApp, gPopAt, isL, sPar, sPar3, gLstD, gLstL, gTupD, pures, gIsI, gIsI2, tagS, isT, scalD, PyData.eqv, worldB]
end
end K10

set_option Elab.async false
set_option linter.all false
set_option maxRecDepth 100000
set_option maxHeartbeats 4000000
namespace K10
open PySem EV
mutual
theorem fine_lay {w : Nat} : ∀ d : PyData, fine w d = true → d.canLay0 = true
  | .none, _ => rfl
  | .bool _, _ => rfl
  | .int _, _ => rfl
  | .str x, h => by simp only [fine, Bool.and_eq_true] at h; exact h.1
  | .list xs, h => by simp only [fine, Bool.and_eq_true] at h; simp only [PyData.canLay0]; exact fines_lay xs h.2
  | .tuple xs, h => by simp only [fine, Bool.and_eq_true] at h; simp only [PyData.canLay0]; exact fines_lay xs h.2
  | .dict _, h => by simp [fine] at h
theorem fines_lay {w : Nat} : ∀ ds : List PyData, fineAll w ds = true → PyData.canLayAll0 ds = true
  | [], _ => rfl
  | x :: xs, h => by
    simp only [fineAll, Bool.and_eq_true] at h
    simp only [PyData.canLayAll0, Bool.and_eq_true]
    exact ⟨fine_lay x h.1, fines_lay xs h.2⟩
end
mutual
theorem fine_show {w : Nat} : ∀ d : PyData, fine w d = true → d.showable = true ∧ d.intsShort 13 = true
  | .none, _ => by simp [PyData.showable, PyData.intsShort]
  | .bool _, _ => by simp [PyData.showable, PyData.intsShort]
  | .int i, h => by
    simp only [fine, decide_eq_true_eq] at h
    have : i = 0 ∨ i = 1 ∨ i = 2 ∨ i = 3 ∨ i = 4 ∨ i = 5 ∨ i = 6 ∨ i = 7 ∨ i = 8 ∨ i = 9 ∨ i = -1 ∨ i = -2 ∨ i = -3 ∨ i = -4 ∨ i = -5 ∨ i = -6 ∨ i = -7 ∨ i = -8 ∨ i = -9 := by omega
    rcases this with rfl | rfl | rfl | rfl | rfl | rfl | rfl | rfl | rfl | rfl | rfl | rfl | rfl | rfl | rfl | rfl | rfl | rfl | rfl <;> exact ⟨by decide +kernel, by decide +kernel⟩
  | .str x, h => by simp [PyData.showable, PyData.intsShort]
  | .list xs, h => by simp only [fine, Bool.and_eq_true] at h; simp only [PyData.showable, PyData.intsShort]; exact fines_show xs h.2
  | .tuple xs, h => by simp only [fine, Bool.and_eq_true] at h; simp only [PyData.showable, PyData.intsShort]; exact fines_show xs h.2
  | .dict _, h => by simp [fine] at h
theorem fines_show {w : Nat} : ∀ ds : List PyData, fineAll w ds = true → PyData.showableAll ds = true ∧ PyData.intsShortAll 13 ds = true
  | [], _ => by simp [PyData.showableAll, PyData.intsShortAll]
  | x :: xs, h => by
    simp only [fineAll, Bool.and_eq_true] at h
    have a := fine_show x h.1
    have b := fines_show xs h.2
    simp only [PyData.showableAll, PyData.intsShortAll, Bool.and_eq_true]
    exact ⟨⟨a.1, b.1⟩, a.2, b.2⟩
end
theorem repr_ok {w : Nat} {d : PyData} {hd : Hd} (h : fine w d = true) (hd1 : d.depth ≤ 64) (hw : d.weight ≤ 2 ^ 20) : gRepr (.d d) hd = some (.ok (.d (.str d.shown)) hd) := by
  have h1 := fine_lay d h
  have h2 := fine_show d h
  have h3 : d.layable0 = true := by simp [PyData.layable0, h1, hd1, hw]
  have h4 := PyProof.Rows.shown_le13 h3 h2.2
  simp only [gRepr]
  rw [if_pos ⟨h2.1, PyData.hasDict_of_canLay d h1, hd1, by omega⟩]
mutual
theorem fine_mono {w v : Nat} (hv : w ≤ v) : ∀ d : PyData, fine w d = true → fine v d = true
  | .none, _ => rfl
  | .bool _, _ => rfl
  | .int _, h => h
  | .str x, h => by simp only [fine, Bool.and_eq_true, decide_eq_true_eq] at h ⊢; exact ⟨h.1, by omega⟩
  | .list xs, h => by simp only [fine, Bool.and_eq_true, decide_eq_true_eq] at h ⊢; exact ⟨by omega, fines_mono hv xs h.2⟩
  | .tuple xs, h => by simp only [fine, Bool.and_eq_true, decide_eq_true_eq] at h ⊢; exact ⟨by omega, fines_mono hv xs h.2⟩
  | .dict _, h => by simp [fine] at h
theorem fines_mono {w v : Nat} (hv : w ≤ v) : ∀ ds : List PyData, fineAll w ds = true → fineAll v ds = true
  | [], _ => rfl
  | x :: xs, h => by
    simp only [fineAll, Bool.and_eq_true] at h ⊢
    exact ⟨fine_mono hv x h.1, fines_mono hv xs h.2⟩
end
mutual
def deepL : PyData → PyData
  | .list xs => .list (deepLs xs)
  | .tuple xs => .list (deepLs xs)
  | .none => .none
  | .bool b => .bool b
  | .int i => .int i
  | .str s => .str s
  | .dict k => .dict k
def deepLs : List PyData → List PyData
  | [] => []
  | x :: xs => deepL x :: deepLs xs
end
theorem deepLs_map : ∀ xs : List PyData, deepLs xs = xs.map deepL
  | [] => rfl
  | x :: xs => by rw [deepLs, deepLs_map xs, List.map_cons]
theorem deepLs_len (xs : List PyData) : (deepLs xs).length = xs.length := by rw [deepLs_map, List.length_map]
mutual
theorem deep_same {w : Nat} : ∀ d : PyData, fine w (deepL d) = fine w d ∧ (deepL d).weight = d.weight ∧ (deepL d).depth = d.depth
  | .none => ⟨rfl, rfl, rfl⟩
  | .bool _ => ⟨rfl, rfl, rfl⟩
  | .int _ => ⟨rfl, rfl, rfl⟩
  | .str _ => ⟨rfl, rfl, rfl⟩
  | .dict _ => ⟨rfl, rfl, rfl⟩
  | .list xs => by
    obtain ⟨a, b, c⟩ := deeps_same (w := w) xs
    simp [deepL, fine, PyData.weight, PyData.depth, a, b, c, deepLs_len]
  | .tuple xs => by
    obtain ⟨a, b, c⟩ := deeps_same (w := w) xs
    simp [deepL, fine, PyData.weight, PyData.depth, a, b, c, deepLs_len]
theorem deeps_same {w : Nat} : ∀ ds : List PyData, fineAll w (deepLs ds) = fineAll w ds ∧ PyData.weightAll (deepLs ds) = PyData.weightAll ds ∧ PyData.depthAll (deepLs ds) = PyData.depthAll ds
  | [] => ⟨rfl, rfl, rfl⟩
  | x :: xs => by
    obtain ⟨a, b, c⟩ := deep_same (w := w) x
    obtain ⟨a', b', c'⟩ := deeps_same (w := w) xs
    simp [deepLs, fineAll, PyData.weightAll, PyData.depthAll, a, b, c, a', b', c']
end
theorem depth_mem : ∀ {ds : List PyData} {d : PyData}, d ∈ ds → d.depth ≤ PyData.depthAll ds
  | x :: xs, d, h => by
    simp only [PyData.depthAll]
    rcases List.mem_cons.mp h with h | h
    · rw [h]; omega
    · have := depth_mem h; omega
theorem lists_ok {hd : Hd} {w : Nat} (hf : Flat hd) : ∀ (n : Nat) (d : PyData), fine w d = true → d.depth < n → m_L_lists n [.d d] hd = some (.ok (.d (deepL d)) hd)
  | 0, d, _, h => by omega
  | n + 1, d, hfi, h => by
    refine cut_self hf (mB_rt ?_)
    have comp : ∀ ds : List PyData, fineAll w ds = true → PyData.depthAll ds < n → (d = .list ds ∨ d = .tuple ds) → fComp [1] (srcE srcA (fV 0)) (tgN 1) tYesF (fN (ar 1 (m_L_lists n)) (aC (fV 1) aN)) finF [some (.d d), none] hd = some (.ok (.d (.list (deepLs ds))) hd) := fun ds h1 h2 h3 => by
      have q := cmp_pure (vs := [1]) (t := tgN 1) (tt := tYesF) (te := fN (ar 1 (m_L_lists n)) (aC (fV 1) aN)) (ss := [some (.d d), none]) (hd := hd) (fun _ => true) (fun x => match x with | .d d => .d (deepL d) | x => x) (ds.map S.d) [] fun x hx => by
        obtain ⟨k, hk, rfl⟩ := List.mem_map.mp hx
        have e := lists_ok hf n k (fineAll_iff.mp h1 k hk) (Nat.lt_of_le_of_lt (depth_mem hk) h2)
        exact ⟨_, rfl, rfl, fun _ => by simp [fN, ar, aC, aN, fV, wip, e]⟩
      have es : srcE srcA (fV 0) [some (.d d), none] hd = some (.ok (.it (ds.map S.d)) hd) := by rcases h3 with rfl | rfl <;> simp [srcE, srcA, srcOf, fV]
      unfold fComp
      rw [es]
      simp only [bnd_ok]
      rw [q]
      simp only [List.nil_append, bnd0_ok, finF]
      have e : (((ds.map S.d).filter fun _ => true).map fun x => match x with | .d d => S.d (deepL d) | x => x) = (deepLs ds).map S.d := by
        rw [List.filter_eq_self.mpr (fun _ _ => rfl), List.map_map, deepLs_map, List.map_map]; rfl
      rw [e, pures_d]
    have hm : mRec step_L_lists n = m_L_lists n := rfl
    cases d with
    | list xs =>
      simp only [fine, Bool.and_eq_true] at hfi
      simp only [PyData.depth] at h
      have e := comp xs hfi.2 (by omega) (.inl rfl)
      simp [mB, stS, sSeq, sIf, tb, tv, tNo, tAn, tOr_, fAn, fOr_, fNo, fIf, f3c, f2, f1, fV, fC, gIx, gOrd, seqOf, lstOf, EV.boolOf, truOf, truS, L2.atI, sSet, gI2, hMod, hDiv, hSub, fN, g1, g2, gInt, aC, aN, sIxL, L2.ixN, sRet, gAdd, gEq, gNe, gLen, ar, sNil, sDrop, fM, gApp, gPopAt, isL, sPar, sPar3, gLstD, gLstL, gTupD, pures, gIsI, gIsI2, tagS, isT, scalD, PyData.eqv, e, hm, deepL]
    | tuple xs =>
      simp only [fine, Bool.and_eq_true] at hfi
      simp only [PyData.depth] at h
      have e := comp xs hfi.2 (by omega) (.inr rfl)
      simp [mB, stS, sSeq, sIf, tb, tv, tNo, tAn, tOr_, fAn, fOr_, fNo, fIf, f3c, f2, f1, fV, fC, gIx, gOrd, seqOf, lstOf, EV.boolOf, truOf, truS, L2.atI, sSet, gI2, hMod, hDiv, hSub, fN, g1, g2, gInt, aC, aN, sIxL, L2.ixN, sRet, gAdd, gEq, gNe, gLen, ar, sNil, sDrop, fM, gApp, gPopAt, isL, sPar, sPar3, gLstD, gLstL, gTupD, pures, gIsI, gIsI2, tagS, isT, scalD, PyData.eqv, e, hm, deepL]
    | dict _ => simp [fine] at hfi
    | _ => simp [mB, stS, sSeq, sIf, tb, tv, tNo, tAn, tOr_, fAn, fOr_, fNo, fIf, f3c, f2, f1, fV, fC, gIx, gOrd, seqOf, lstOf, EV.boolOf, truOf, truS, L2.atI, sSet, gI2, hMod, hDiv, hSub, fN, g1, g2, gInt, aC, aN, sIxL, L2.ixN, sRet, gAdd, gEq, gNe, gLen, ar, sNil, sDrop, fM, gApp, gPopAt, isL, sPar, sPar3, gLstD, gLstL, gTupD, pures, gIsI, gIsI2, tagS, isT, scalD, PyData.eqv, deepL]
theorem same_bool {hd : Hd} (hf : Flat hd) (n : Nat) (k : Bool) : m_L_same (n + 1) [.d (.bool k), .d (.bool k)] hd = some (.ok (.d (.bool true)) hd) := by
  refine cut_self hf (mB_rt ?_)
  simp [mB, stS, sSeq, sIf, tb, tv, tNo, tAn, tOr_, fAn, fOr_, fNo, fIf, f3c, f2, f1, fV, fC, gIx, gOrd, seqOf, lstOf, EV.boolOf, truOf, truS, L2.atI, sSet, gI2, hMod, hDiv, hSub, fN, g1, g2, gInt, aC, aN, sIxL, L2.ixN, sRet, gAdd, gEq, gNe, gLen, ar, sNil, sDrop, fM, gApp, gPopAt, isL, sPar, sPar3, gLstD, gLstL, gTupD, pures, gIsI, gIsI2, tagS, isT, scalD, PyData.eqv, gIsN]
theorem same_ok {hd : Hd} (hf : Flat hd) (k : Bool) : m_L_same 4 [.d (.list [.bool k, .bool k]), .d (.list [.bool k, .bool k])] hd = some (.ok (.d (.bool true)) hd) := by
  refine cut_self hf (mB_rt ?_)
  have e := same_bool hf 2 k
  have q := comp_bools (vs := [2, 3]) (t := tgT 2 (tgsC (tgN 2) (tgsC (tgN 3) tgsN))) (te := fN (ar 2 (mRec step_L_same 3)) (aC (fV 2) (aC (fV 3) aN))) (ss := [some (.d (.list [.bool k, .bool k])), some (.d (.list [.bool k, .bool k])), none, none, none]) (hd := hd) (h0 := hd) (s := srcZip (fV 0) (fV 1))
    (xs := [.d (.tuple [.bool k, .bool k]), .d (.tuple [.bool k, .bool k])]) (fun _ => true) (by simp [srcZip, fV]) (fun x hx => by
      have hx : x = .d (.tuple [.bool k, .bool k]) := by simpa using hx
      subst hx
      refine ⟨_, rfl, ?_⟩
      have e' : mRec step_L_same 3 [.d (.bool k), .d (.bool k)] hd = some (.ok (.d (.bool true)) hd) := e
      simp [fN, ar, aC, aN, fV, wip, e'])
  simp [mB, stS, sSeq, sIf, tb, tv, tNo, tAn, tOr_, fAn, fOr_, fNo, fIf, f3c, f2, f1, fV, fC, gIx, gOrd, seqOf, lstOf, EV.boolOf, truOf, truS, L2.atI, sSet, gI2, hMod, hDiv, hSub, fN, g1, g2, gInt, aC, aN, sIxL, L2.ixN, sRet, gAdd, gEq, gNe, gLen, ar, sNil, sDrop, fM, gApp, gPopAt, isL, sPar, sPar3, gLstD, gLstL, gTupD, pures, gIsI, gIsI2, tagS, isT, scalD, PyData.eqv, q, gAA, bools]
end K10

set_option Elab.async false
set_option linter.all false
set_option maxRecDepth 100000
set_option maxHeartbeats 4000000
namespace K10
open PySem EV
theorem fineAll_app {w : Nat} {xs ys : List PyData} : fineAll w (xs ++ ys) = (fineAll w xs && fineAll w ys) := by
  induction xs with
  | nil => simp [fineAll]
  | cons x xs ih => simp [fineAll, ih, Bool.and_assoc]
theorem weight_app : ∀ {xs ys : List PyData}, PyData.weightAll (xs ++ ys) = PyData.weightAll xs + PyData.weightAll ys
  | [], _ => by simp [PyData.weightAll]
  | x :: xs, ys => by simp only [List.cons_append, PyData.weightAll, weight_app (xs := xs)]; omega
theorem depth_app : ∀ {xs ys : List PyData}, PyData.depthAll (xs ++ ys) = max (PyData.depthAll xs) (PyData.depthAll ys)
  | [], _ => by simp [PyData.depthAll]
  | x :: xs, ys => by simp only [List.cons_append, PyData.depthAll, depth_app (xs := xs)]; omega
/-- y has come of p by one change -/
structure Bn (w : Nat) (p y : PyData) : Prop where
  fi : fine (2 * w) y = true
  wt : y.weight ≤ 2 * p.weight + 100
  dp : y.depth ≤ p.depth + 4
theorem cut_parts {xs : List PyData} (lo hi : Option Int) : ∃ a b, xs = a ++ cutL xs lo hi ++ b := by
  refine ⟨xs.take (HT.sIx xs.length 0 lo), (xs.drop (HT.sIx xs.length 0 lo)).drop (HT.sIx xs.length xs.length hi - HT.sIx xs.length 0 lo), ?_⟩
  unfold cutL
  rw [List.append_assoc, List.take_append_drop, List.take_append_drop]
theorem cut_meas {w : Nat} {xs : List PyData} (lo hi : Option Int) (h : fineAll w xs = true) : fineAll w (cutL xs lo hi) = true ∧ PyData.weightAll (cutL xs lo hi) ≤ PyData.weightAll xs ∧ PyData.depthAll (cutL xs lo hi) ≤ PyData.depthAll xs ∧ (cutL xs lo hi).length ≤ xs.length := by
  obtain ⟨a, b, e⟩ := cut_parts (xs := xs) lo hi
  have e1 := congrArg (fineAll w) e
  have e2 := congrArg PyData.weightAll e
  have e3 := congrArg PyData.depthAll e
  have e4 := congrArg List.length e
  rw [fineAll_app, fineAll_app, h] at e1
  rw [weight_app, weight_app] at e2
  rw [depth_app, depth_app] at e3
  rw [List.length_append, List.length_append] at e4
  have e1 := e1.symm
  simp only [Bool.and_eq_true] at e1
  exact ⟨e1.1.2, by omega, by omega, by omega⟩
theorem rev_meas {w : Nat} : ∀ {xs : List PyData}, fineAll w xs.reverse = fineAll w xs ∧ PyData.weightAll xs.reverse = PyData.weightAll xs ∧ PyData.depthAll xs.reverse = PyData.depthAll xs
  | [] => ⟨rfl, rfl, rfl⟩
  | x :: xs => by
    obtain ⟨a, b, c⟩ := rev_meas (w := w) (xs := xs)
    rw [List.reverse_cons, fineAll_app, weight_app, depth_app, a, b, c]
    simp only [fineAll, PyData.weightAll, PyData.depthAll, Bool.and_true]
    exact ⟨Bool.and_comm _ _, by omega, by omega⟩
/-- the constants -/
def bCon : List PyData := [.int 0, .int 1, .int (-1), .none, .bool true, .bool false, .str "", .str "a", .str "A", .str "zzzzzzzz", .str "zzzzzzzzz", .str "b1", .str "a b", .str "a\n", .tuple [], .list [], .tuple [.str "a"]]
theorem bCon_ok : ∀ y ∈ bCon, fine 9 y = true ∧ y.weight ≤ 100 ∧ y.depth ≤ 4 := by
  have : bCon.all (fun y => fine 9 y && decide (y.weight ≤ 100) && decide (y.depth ≤ 4)) = true := by decide +kernel
  intro y hy
  have := List.all_eq_true.mp this y hy
  simp only [Bool.and_eq_true, decide_eq_true_eq] at this
  exact ⟨this.1.1, this.1.2, this.2⟩
/-- what a part may become -/
def bOwn : PyData → List PyData
  | .tuple xs => [.list xs, .tuple (cutL xs none (some (-1))), .tuple (xs ++ cutL xs (some (-1)) none), .tuple xs.reverse, .tuple [.tuple xs]]
  | .str s => [.str (s ++ "z"), .str (L2.cutS s none (some (-1))), .str (s ++ s), .str (s ++ " ")]
  | .bool k => [.bool (!k), .bool (!k), .int (if k then 1 else 0), .str (if k then "True" else "False")]
  | _ => []
theorem ok_app {a b : Str} (h1 : PyData.strOk a = true) (h2 : PyData.strOk b = true) : PyData.strOk (a ++ b) = true := by
  unfold PyData.strOk at *
  show (a.cps ++ b.cps).all _ = true
  rw [Array.all_append, h1, h2]; rfl
theorem sz_app (a b : Str) : (a ++ b).cps.size = a.cps.size + b.cps.size := by
  show (a.cps ++ b.cps).size = _
  rw [Array.size_append]
theorem ok_cut {a : Str} (lo hi : Option Int) (h : PyData.strOk a = true) : PyData.strOk (L2.cutS a lo hi) = true := by
  unfold PyData.strOk at *
  rw [Array.all_eq_true_iff_forall_mem] at *
  intro x hx
  unfold L2.cutS at hx
  simp only [List.mem_toArray] at hx
  exact h x (by simpa using List.mem_of_mem_drop (List.mem_of_mem_take hx))
theorem sz_cut (a : Str) (lo hi : Option Int) : (L2.cutS a lo hi).cps.size ≤ a.cps.size := L2.cutS_length a lo hi
theorem bOwn_ok {w : Nat} {p : PyData} (hw : 9 ≤ w) (h : fine w p = true) : ∀ y ∈ bOwn p, Bn w p y := by
  intro y hy
  cases p with
  | tuple xs =>
    have h0 := fine_mono (v := 2 * w) (by omega) _ h
    simp only [fine, Bool.and_eq_true, decide_eq_true_eq] at h h0
    simp only [bOwn, List.mem_cons, List.not_mem_nil, or_false] at hy
    rcases hy with rfl | rfl | rfl | rfl | rfl
    · exact ⟨by simp [fine, h0], by simp [PyData.weight]; omega, by simp [PyData.depth]⟩
    · obtain ⟨a, b, c, d⟩ := cut_meas none (some (-1)) h0.2
      exact ⟨by simp [fine, a]; omega, by simp only [PyData.weight]; omega, by simp only [PyData.depth]; omega⟩
    · obtain ⟨a, b, c, d⟩ := cut_meas (some (-1)) none h0.2
      exact ⟨by simp [fine, fineAll_app, a, h0.2]; omega, by simp only [PyData.weight, weight_app]; omega, by simp only [PyData.depth, depth_app]; omega⟩
    · obtain ⟨a, b, c⟩ := rev_meas (w := 2 * w) (xs := xs)
      exact ⟨by simp [fine, a, h0], by simp only [PyData.weight, b]; omega, by simp only [PyData.depth, c]; omega⟩
    · exact ⟨by simp [fine, fineAll, h0]; omega, by simp [PyData.weight, PyData.weightAll]; omega, by simp [PyData.depth, PyData.depthAll]⟩
  | str s =>
    simp only [fine, Bool.and_eq_true, decide_eq_true_eq] at h
    simp only [bOwn, List.mem_cons, List.not_mem_nil, or_false] at hy
    have z1 : PyData.strOk "z" = true := by decide +kernel
    have z2 : PyData.strOk " " = true := by decide +kernel
    have l1 : ("z" : Str).cps.size = 1 := by decide +kernel
    have l2 : (" " : Str).cps.size = 1 := by decide +kernel
    rcases hy with rfl | rfl | rfl | rfl
    · exact ⟨by simp [fine, ok_app h.1 z1, sz_app, l1]; omega, by simp only [PyData.weight, sz_app, l1]; omega, by simp [PyData.depth]⟩
    · have := sz_cut s none (some (-1))
      exact ⟨by simp [fine, ok_cut none (some (-1)) h.1]; omega, by simp only [PyData.weight]; omega, by simp [PyData.depth]⟩
    · exact ⟨by simp [fine, ok_app h.1 h.1, sz_app]; omega, by simp only [PyData.weight, sz_app]; omega, by simp [PyData.depth]⟩
    · exact ⟨by simp [fine, ok_app h.1 z2, sz_app, l2]; omega, by simp only [PyData.weight, sz_app, l2]; omega, by simp [PyData.depth]⟩
  | bool k =>
    simp only [bOwn, List.mem_cons, List.not_mem_nil, or_false] at hy
    have t1 : PyData.strOk "True" = true ∧ ("True" : Str).cps.size = 4 := by decide +kernel
    have t2 : PyData.strOk "False" = true ∧ ("False" : Str).cps.size = 5 := by decide +kernel
    rcases hy with rfl | rfl | rfl | rfl
    · exact ⟨rfl, by simp [PyData.weight], by simp [PyData.depth]⟩
    · exact ⟨rfl, by simp [PyData.weight], by simp [PyData.depth]⟩
    · cases k <;> exact ⟨by simp [fine], by decide +kernel, by simp [PyData.depth]⟩
    · cases k
      · exact ⟨by simp [fine, t2]; omega, by simp [PyData.weight, t2], by simp [PyData.depth]⟩
      · exact ⟨by simp [fine, t1]; omega, by simp [PyData.weight, t1], by simp [PyData.depth]⟩
  | _ => simp [bOwn] at hy
def fB1 : FS := sSet 4 (fN gLstD (aC (fC (.int 0)) (aC (fC (.int 1)) (aC (f1 gNeg (fC (.int 1))) (aC (fC .none) (aC (fC (.bool true)) (aC (fC (.bool false)) (aC (fC (.str "")) (aC (fC (.str "a")) (aC (fC (.str "A")) (aC (fC (.str "zzzzzzzz")) (aC (fC (.str "zzzzzzzzz")) (aC (fC (.str "b1")) (aC (fC (.str "a b")) (aC (fC (.str "a\n")) (aC (fN gTupD aN) aN))))))))))))))))
def fB2 : FS := sSet 4 (f2 gAdd (f2 gAdd (fV 4) (fN gLstD (aC (fN gLstD aN) (aC (fN gTupD (aC (fC (.str "a")) aN)) aN)))) (fV 2))
def fB3 : FS := sIf (tv (f1 (gIsI .tup) (fV 1))) (sSet 4 (f2 gAdd (fV 4) (fN gLstD (aC (fN (g1 gList) (aC (fV 1) aN)) (aC (fSl (fV 1) oN (oS (f1 gNeg (fC (.int 1))))) (aC (f2 gAdd (fV 1) (fSl (fV 1) (oS (f1 gNeg (fC (.int 1)))) oN)) (aC (f1 gRev (fV 1)) (aC (fN gTupD (aC (fV 1) aN)) aN)))))))) sNil
def fB4 : FS := sIf (tv (f1 (gIsI .str) (fV 1))) (sSet 4 (f2 gAdd (fV 4) (fN gLstD (aC (f2 gAdd (fV 1) (fC (.str "z"))) (aC (fSl (fV 1) oN (oS (f1 gNeg (fC (.int 1))))) (aC (f2 gAdd (fV 1) (fV 1)) (aC (f2 gAdd (fV 1) (fC (.str " "))) aN))))))) sNil
def fB5 : FS := sIf (tv (f1 (gIsI .bool) (fV 1))) (sSet 4 (f2 gAdd (fV 4) (fN gLstD (aC (fNo (fV 1)) (aC (fNo (fV 1)) (aC (fN (g1 gInt) (aC (fV 1) aN)) (aC (fN (g1 gStr) (aC (fV 1) aN)) aN))))))) sNil
def fB6 : FS := sRet (fN (ar 2 m_L_of) (aC (fV 0) (aC (fV 4) aN)))
def fLeaf : FS := sSeq fB1 (sSeq fB2 (sSeq fB3 (sSeq fB4 (sSeq fB5 fB6))))
theorem noB {b : Nat} {more : List PyData} {p : PyData} {s4 : Option S} {hd : Hd} (hp : p = .none ∨ (∃ i, p = .int i) ∨ ∃ l, p = .list l) :
    fB3 [some (.ref b), some (.d p), some (.d (.list more)), none, s4] hd = some (.ok (.nx [some (.ref b), some (.d p), some (.d (.list more)), none, s4]) hd) ∧
    fB4 [some (.ref b), some (.d p), some (.d (.list more)), none, s4] hd = some (.ok (.nx [some (.ref b), some (.d p), some (.d (.list more)), none, s4]) hd) ∧
    fB5 [some (.ref b), some (.d p), some (.d (.list more)), none, s4] hd = some (.ok (.nx [some (.ref b), some (.d p), some (.d (.list more)), none, s4]) hd) := by
  rcases hp with rfl | ⟨i, rfl⟩ | ⟨l, rfl⟩ <;> (unfold fB3 fB4 fB5; refine ⟨?_, ?_, ?_⟩ <;> simp [mB, stS, sSeq, sIf, tb, tv, tNo, tAn, tOr_, fAn, fOr_, fNo, fIf, f3c, f2, f1, fV, fC, gIx, gOrd, seqOf, lstOf, EV.boolOf, truOf, truS, L2.atI, sSet, gI2, hMod, hDiv, hSub, fN, g1, g2, gInt, aC, aN, sIxL, L2.ixN, sRet, gAdd, gEq, gNe, gLen, ar, sNil, sDrop, fM, gApp, gPopAt, isL, sPar, sPar3, gLstD, gLstL, gTupD, pures, gIsI, gIsI2, tagS, isT, scalD, PyData.eqv])
theorem leaf_ok {Z : Int} {b w : Nat} {hd : Hd} {p : PyData} {more : List PyData} (bx : Bx Z b hd) (hZ : Z ≤ 1000000000) (hw : w ≤ 1000) (h : fine w p = true) (hm : more.length ≤ 1000) :
    ∃ y hd', fLeaf [some (.ref b), some (.d p), some (.d (.list more)), none, none] hd = some (.ok (.rt (.d y)) hd') ∧ (y ∈ bCon ∨ y ∈ more ∨ y ∈ bOwn p) ∧ Bx (Z + 1) b hd' ∧ Sa b hd hd' := by
  have hol : (bOwn p).length ≤ 5 := by cases p <;> simp [bOwn]
  obtain ⟨y, hd', e, hy, bx1, sa1⟩ := of_ok (ds := bCon ++ more ++ bOwn p) bx hZ (by simp [bCon]) (by rw [List.length_append, List.length_append]; have : bCon.length = 17 := rfl; omega)
  refine ⟨y, hd', ?_, ?_, bx1, sa1⟩
  · have q1 : fB1 [some (.ref b), some (.d p), some (.d (.list more)), none, none] hd = some (.ok (.nx [some (.ref b), some (.d p), some (.d (.list more)), none, some (.d (.list (bCon.take 15)))]) hd) := by
      unfold fB1
      simp [mB, stS, sSeq, sIf, tb, tv, tNo, tAn, tOr_, fAn, fOr_, fNo, fIf, f3c, f2, f1, fV, fC, gIx, gOrd, seqOf, lstOf, EV.boolOf, truOf, truS, L2.atI, sSet, gI2, hMod, hDiv, hSub, fN, g1, g2, gInt, aC, aN, sIxL, L2.ixN, sRet, gAdd, gEq, gNe, gLen, ar, sNil, sDrop, fM, gApp, gPopAt, isL, sPar, sPar3, gLstD, gLstL, gTupD, pures, gIsI, gIsI2, tagS, isT, scalD, PyData.eqv, gNeg, bCon]
    have hz : 17 + more.length ≤ 16777216 := by omega
    have q2 : fB2 [some (.ref b), some (.d p), some (.d (.list more)), none, some (.d (.list (bCon.take 15)))] hd = some (.ok (.nx [some (.ref b), some (.d p), some (.d (.list more)), none, some (.d (.list (bCon ++ more)))]) hd) := by
      unfold fB2
      simp [mB, stS, sSeq, sIf, tb, tv, tNo, tAn, tOr_, fAn, fOr_, fNo, fIf, f3c, f2, f1, fV, fC, gIx, gOrd, seqOf, lstOf, EV.boolOf, truOf, truS, L2.atI, sSet, gI2, hMod, hDiv, hSub, fN, g1, g2, gInt, aC, aN, sIxL, L2.ixN, sRet, gAdd, gEq, gNe, gLen, ar, sNil, sDrop, fM, gApp, gPopAt, isL, sPar, sPar3, gLstD, gLstL, gTupD, pures, gIsI, gIsI2, tagS, isT, scalD, PyData.eqv, bCon, hz]
    have q6 : fB6 [some (.ref b), some (.d p), some (.d (.list more)), none, some (.d (.list (bCon ++ more ++ bOwn p)))] hd = some (.ok (.rt (.d y)) hd') := by
      unfold fB6
      simp [sRet, fN, ar, aC, aN, fV]
      simp only [List.append_assoc] at e
      rw [e]; rfl
    unfold fLeaf
    rw [seq_nx q1, seq_nx q2]
    have lc : (bCon ++ more).length = 17 + more.length := by rw [List.length_append]; rfl
    have hz4 : (bCon ++ more).length + 4 ≤ 16777216 := by omega
    have hz5 : (bCon ++ more).length + 5 ≤ 16777216 := by omega
    generalize bCon ++ more = cs at *
    cases p with
    | tuple xs =>
      simp only [fine, Bool.and_eq_true, decide_eq_true_eq] at h
      obtain ⟨_, _, _, l1⟩ := cut_meas (some (-1)) none h.2
      have hz6 : xs.length + (cutL xs (some (-1)) none).length ≤ 16777216 := by omega
      have q3 : fB3 [some (.ref b), some (.d (.tuple xs)), some (.d (.list more)), none, some (.d (.list cs))] hd = some (.ok (.nx [some (.ref b), some (.d (.tuple xs)), some (.d (.list more)), none, some (.d (.list (cs ++ bOwn (.tuple xs))))]) hd) := by
        unfold fB3
        simp [mB, stS, sSeq, sIf, tb, tv, tNo, tAn, tOr_, fAn, fOr_, fNo, fIf, f3c, f2, f1, fV, fC, gIx, gOrd, seqOf, lstOf, EV.boolOf, truOf, truS, L2.atI, sSet, gI2, hMod, hDiv, hSub, fN, g1, g2, gInt, aC, aN, sIxL, L2.ixN, sRet, gAdd, gEq, gNe, gLen, ar, sNil, sDrop, fM, gApp, gPopAt, isL, sPar, sPar3, gLstD, gLstL, gTupD, pures, gIsI, gIsI2, tagS, isT, scalD, PyData.eqv, gList, pures_d, fSl, oN, oS, gNeg, gSl, gRev, hz5, hz6, bOwn]
      have q4 : ∀ s4, fB4 [some (.ref b), some (.d (.tuple xs)), some (.d (.list more)), none, s4] hd = some (.ok (.nx [some (.ref b), some (.d (.tuple xs)), some (.d (.list more)), none, s4]) hd) := fun s4 => by
        unfold fB4
        simp [mB, stS, sSeq, sIf, tb, tv, tNo, tAn, tOr_, fAn, fOr_, fNo, fIf, f3c, f2, f1, fV, fC, gIx, gOrd, seqOf, lstOf, EV.boolOf, truOf, truS, L2.atI, sSet, gI2, hMod, hDiv, hSub, fN, g1, g2, gInt, aC, aN, sIxL, L2.ixN, sRet, gAdd, gEq, gNe, gLen, ar, sNil, sDrop, fM, gApp, gPopAt, isL, sPar, sPar3, gLstD, gLstL, gTupD, pures, gIsI, gIsI2, tagS, isT, scalD, PyData.eqv]
      have q5 : ∀ s4, fB5 [some (.ref b), some (.d (.tuple xs)), some (.d (.list more)), none, s4] hd = some (.ok (.nx [some (.ref b), some (.d (.tuple xs)), some (.d (.list more)), none, s4]) hd) := fun s4 => by
        unfold fB5
        simp [mB, stS, sSeq, sIf, tb, tv, tNo, tAn, tOr_, fAn, fOr_, fNo, fIf, f3c, f2, f1, fV, fC, gIx, gOrd, seqOf, lstOf, EV.boolOf, truOf, truS, L2.atI, sSet, gI2, hMod, hDiv, hSub, fN, g1, g2, gInt, aC, aN, sIxL, L2.ixN, sRet, gAdd, gEq, gNe, gLen, ar, sNil, sDrop, fM, gApp, gPopAt, isL, sPar, sPar3, gLstD, gLstL, gTupD, pures, gIsI, gIsI2, tagS, isT, scalD, PyData.eqv]
      rw [seq_nx q3, seq_nx (q4 _), seq_nx (q5 _)]
      exact q6
    | str s =>
      simp only [fine, Bool.and_eq_true, decide_eq_true_eq] at h
      have z1 : s.length + ("z" : Str).length ≤ 16777216 := by
        have : ("z" : Str).length = 1 := by decide +kernel
        have : s.length = s.cps.size := rfl
        omega
      have z2 : s.length + (" " : Str).length ≤ 16777216 := by
        have : (" " : Str).length = 1 := by decide +kernel
        have : s.length = s.cps.size := rfl
        omega
      have z3 : s.length + s.length ≤ 16777216 := by
        have : s.length = s.cps.size := rfl
        omega
      have z4 : s.length ≤ 16777216 := by omega
      have q3 : fB3 [some (.ref b), some (.d (.str s)), some (.d (.list more)), none, some (.d (.list cs))] hd = some (.ok (.nx [some (.ref b), some (.d (.str s)), some (.d (.list more)), none, some (.d (.list cs))]) hd) := by
        unfold fB3
        simp [mB, stS, sSeq, sIf, tb, tv, tNo, tAn, tOr_, fAn, fOr_, fNo, fIf, f3c, f2, f1, fV, fC, gIx, gOrd, seqOf, lstOf, EV.boolOf, truOf, truS, L2.atI, sSet, gI2, hMod, hDiv, hSub, fN, g1, g2, gInt, aC, aN, sIxL, L2.ixN, sRet, gAdd, gEq, gNe, gLen, ar, sNil, sDrop, fM, gApp, gPopAt, isL, sPar, sPar3, gLstD, gLstL, gTupD, pures, gIsI, gIsI2, tagS, isT, scalD, PyData.eqv]
      have q4 : fB4 [some (.ref b), some (.d (.str s)), some (.d (.list more)), none, some (.d (.list cs))] hd = some (.ok (.nx [some (.ref b), some (.d (.str s)), some (.d (.list more)), none, some (.d (.list (cs ++ bOwn (.str s))))]) hd) := by
        unfold fB4
        simp [mB, stS, sSeq, sIf, tb, tv, tNo, tAn, tOr_, fAn, fOr_, fNo, fIf, f3c, f2, f1, fV, fC, gIx, gOrd, seqOf, lstOf, EV.boolOf, truOf, truS, L2.atI, sSet, gI2, hMod, hDiv, hSub, fN, g1, g2, gInt, aC, aN, sIxL, L2.ixN, sRet, gAdd, gEq, gNe, gLen, ar, sNil, sDrop, fM, gApp, gPopAt, isL, sPar, sPar3, gLstD, gLstL, gTupD, pures, gIsI, gIsI2, tagS, isT, scalD, PyData.eqv, fSl, oN, oS, gNeg, gSl, z1, z2, z3, z4, hz4, bOwn]
      have q5 : ∀ s4, fB5 [some (.ref b), some (.d (.str s)), some (.d (.list more)), none, s4] hd = some (.ok (.nx [some (.ref b), some (.d (.str s)), some (.d (.list more)), none, s4]) hd) := fun s4 => by
        unfold fB5
        simp [mB, stS, sSeq, sIf, tb, tv, tNo, tAn, tOr_, fAn, fOr_, fNo, fIf, f3c, f2, f1, fV, fC, gIx, gOrd, seqOf, lstOf, EV.boolOf, truOf, truS, L2.atI, sSet, gI2, hMod, hDiv, hSub, fN, g1, g2, gInt, aC, aN, sIxL, L2.ixN, sRet, gAdd, gEq, gNe, gLen, ar, sNil, sDrop, fM, gApp, gPopAt, isL, sPar, sPar3, gLstD, gLstL, gTupD, pures, gIsI, gIsI2, tagS, isT, scalD, PyData.eqv]
      rw [seq_nx q3, seq_nx q4, seq_nx (q5 _)]
      exact q6
    | bool k =>
      have q3 : fB3 [some (.ref b), some (.d (.bool k)), some (.d (.list more)), none, some (.d (.list cs))] hd = some (.ok (.nx [some (.ref b), some (.d (.bool k)), some (.d (.list more)), none, some (.d (.list cs))]) hd) := by
        unfold fB3
        simp [mB, stS, sSeq, sIf, tb, tv, tNo, tAn, tOr_, fAn, fOr_, fNo, fIf, f3c, f2, f1, fV, fC, gIx, gOrd, seqOf, lstOf, EV.boolOf, truOf, truS, L2.atI, sSet, gI2, hMod, hDiv, hSub, fN, g1, g2, gInt, aC, aN, sIxL, L2.ixN, sRet, gAdd, gEq, gNe, gLen, ar, sNil, sDrop, fM, gApp, gPopAt, isL, sPar, sPar3, gLstD, gLstL, gTupD, pures, gIsI, gIsI2, tagS, isT, scalD, PyData.eqv]
      have q4 : fB4 [some (.ref b), some (.d (.bool k)), some (.d (.list more)), none, some (.d (.list cs))] hd = some (.ok (.nx [some (.ref b), some (.d (.bool k)), some (.d (.list more)), none, some (.d (.list cs))]) hd) := by
        unfold fB4
        simp [mB, stS, sSeq, sIf, tb, tv, tNo, tAn, tOr_, fAn, fOr_, fNo, fIf, f3c, f2, f1, fV, fC, gIx, gOrd, seqOf, lstOf, EV.boolOf, truOf, truS, L2.atI, sSet, gI2, hMod, hDiv, hSub, fN, g1, g2, gInt, aC, aN, sIxL, L2.ixN, sRet, gAdd, gEq, gNe, gLen, ar, sNil, sDrop, fM, gApp, gPopAt, isL, sPar, sPar3, gLstD, gLstL, gTupD, pures, gIsI, gIsI2, tagS, isT, scalD, PyData.eqv]
      have q5 : fB5 [some (.ref b), some (.d (.bool k)), some (.d (.list more)), none, some (.d (.list cs))] hd = some (.ok (.nx [some (.ref b), some (.d (.bool k)), some (.d (.list more)), none, some (.d (.list (cs ++ bOwn (.bool k))))]) hd) := by
        unfold fB5
        simp [mB, stS, sSeq, sIf, tb, tv, tNo, tAn, tOr_, fAn, fOr_, fNo, fIf, f3c, f2, f1, fV, fC, gIx, gOrd, seqOf, lstOf, EV.boolOf, truOf, truS, L2.atI, sSet, gI2, hMod, hDiv, hSub, fN, g1, g2, gInt, aC, aN, sIxL, L2.ixN, sRet, gAdd, gEq, gNe, gLen, ar, sNil, sDrop, fM, gApp, gPopAt, isL, sPar, sPar3, gLstD, gLstL, gTupD, pures, gIsI, gIsI2, tagS, isT, scalD, PyData.eqv, gStr, hz4, bOwn]
      rw [seq_nx q3, seq_nx q4, seq_nx q5]
      exact q6
    | dict _ => simp [fine] at h
    | none =>
      simp only [bOwn, List.append_nil] at q6
      obtain ⟨q3, q4, q5⟩ := noB (b := b) (more := more) (p := .none) (s4 := some (.d (.list cs))) (hd := hd) (.inl rfl)
      rw [seq_nx q3, seq_nx q4, seq_nx q5]
      exact q6
    | int i =>
      simp only [bOwn, List.append_nil] at q6
      obtain ⟨q3, q4, q5⟩ := noB (b := b) (more := more) (p := .int i) (s4 := some (.d (.list cs))) (hd := hd) (.inr (.inl ⟨i, rfl⟩))
      rw [seq_nx q3, seq_nx q4, seq_nx q5]
      exact q6
    | list l =>
      simp only [bOwn, List.append_nil] at q6
      obtain ⟨q3, q4, q5⟩ := noB (b := b) (more := more) (p := .list l) (s4 := some (.d (.list cs))) (hd := hd) (.inr (.inr ⟨l, rfl⟩))
      rw [seq_nx q3, seq_nx q4, seq_nx q5]
      exact q6
  · rcases List.mem_append.mp hy with hy | hy
    · rcases List.mem_append.mp hy with hy | hy
      · exact .inl hy
      · exact .inr (.inl hy)
    · exact .inr (.inr hy)
end K10

set_option Elab.async false
set_option linter.all false
set_option maxRecDepth 100000
set_option maxHeartbeats 4000000
namespace K10
open PySem EV
def fTry (m : List S → Hd → R S) : FS := sIf (tAn (tv (f1 (gIsI .tup) (fV 1))) (tAn (tb (f2 gNe (fV 1) (fN gTupD aN))) (tb (f2 gGt (fN (ar 2 m_L_take) (aC (fV 0) (aC (fC (.int 5)) aN))) (fC (.int 0)))))) (sSeq (sSet 3 (fN (ar 2 m_L_take) (aC (fV 0) (aC (fN (g1 gLen) (aC (fV 1) aN)) aN)))) (sRet (f2 gAdd (f2 gAdd (fSl (fV 1) oN (oS (fV 3))) (fN gTupD (aC (fN (ar 3 m) (aC (fV 0) (aC (f2 gIx (fV 1) (fV 3)) (aC (fV 2) aN)))) aN))) (fSl (fV 1) (oS (f2 gAdd (fV 3) (fC (.int 1)))) oN)))) sNil
theorem step_bent_eq (m : List S → Hd → R S) : step_L_bent m = mCut (mB 5 (sSeq (fTry m) fLeaf)) := rfl
theorem cut_lo {xs : List PyData} (k : Nat) (hk : k ≤ xs.length) : cutL xs none (some (k : Int)) = xs.take k := by
  unfold cutL
  rw [HT.sIx_nat, HT.sIx_none, List.drop_zero, Nat.sub_zero, Nat.min_eq_left hk]
theorem cut_hi {xs : List PyData} (k : Nat) (hk : k ≤ xs.length) : cutL xs (some (k : Int)) none = xs.drop k := by
  unfold cutL
  rw [HT.sIx_nat, HT.sIx_none, Nat.min_eq_left hk]
  exact List.take_of_length_le (by rw [List.length_drop]; exact Nat.le_refl _)
/-- one place changed -/
theorem put_ok {w : Nat} {xs : List PyData} {k : Nat} {x y : PyData} (hx : xs[k]? = some x) (h : fine w (.tuple xs) = true) (b : Bn w x y) : Bn w (.tuple xs) (.tuple (xs.take k ++ [y] ++ xs.drop (k + 1))) := by
  have hk : k < xs.length := (List.getElem?_eq_some_iff.mp hx).1
  have hxe : xs[k] = x := (List.getElem?_eq_some_iff.mp hx).2
  have h0 := fine_mono (v := 2 * w) (by omega) _ h
  simp only [fine, Bool.and_eq_true, decide_eq_true_eq] at h0
  have e : xs = xs.take k ++ [x] ++ xs.drop (k + 1) := by
    rw [List.append_assoc, ← hxe, List.singleton_append, ← List.drop_eq_getElem_cons hk, List.take_append_drop]
  have e1 := congrArg (fineAll (2 * w)) e
  have e2 := congrArg PyData.weightAll e
  have e3 := congrArg PyData.depthAll e
  rw [h0.2, fineAll_app, fineAll_app] at e1
  rw [weight_app, weight_app] at e2
  rw [depth_app, depth_app] at e3
  have e1 := e1.symm
  simp only [Bool.and_eq_true, fineAll, Bool.and_true] at e1
  simp only [PyData.weightAll, Nat.add_zero] at e2
  simp only [PyData.depthAll] at e3
  obtain ⟨b1, b2, b3⟩ := b
  refine ⟨?_, ?_, ?_⟩
  · simp only [fine, Bool.and_eq_true, decide_eq_true_eq, fineAll_app, fineAll, Bool.and_true]
    refine ⟨?_, ⟨e1.1.1, b1⟩, e1.2⟩
    have : (xs.take k ++ [y] ++ xs.drop (k + 1)).length = xs.length := by
      rw [List.length_append, List.length_append, List.length_take, List.length_drop]
      simp only [List.length_singleton]
      omega
    omega
  · simp only [PyData.weight, weight_app, PyData.weightAll, Nat.add_zero]
    omega
  · simp only [PyData.depth, depth_app, PyData.depthAll]
    omega
theorem lay_tuple {w : Nat} {xs : List PyData} (h : fine w (.tuple xs) = true) (hd : (PyData.tuple xs).depth ≤ 64) : SeqAt.shaped (.tuple xs) = true := by
  have := fine_lay _ h
  simp [SeqAt.shaped, this, hd]
theorem bent_ok {w b : Nat} {more : List PyData} (hw : 9 ≤ w) (hw2 : w ≤ 400) (hm : ∀ y ∈ more, fine w y = true ∧ y.weight ≤ 100 ∧ y.depth ≤ 4) (hml : more.length ≤ 10) : ∀ (n : Nat) (p : PyData) (Z : Int) (hd : Hd), fine w p = true → p.depth < n → p.depth ≤ 40 → n ≤ 100 → Bx Z b hd → Z + 3 * n ≤ 1000000000 →
    ∃ y hd', m_L_bent n [.ref b, .d p, .d (.list more)] hd = some (.ok (.d y) hd') ∧ Bn w p y ∧ Bx (Z + 3 * n) b hd' ∧ Sa b hd hd'
  | 0, p, Z, hd, _, h, _, _, _, _ => by omega
  | n + 1, p, Z, hd, hfi, hdp, hdp2, hn, bx, hZ => by
    have leafB : ∀ y, (y ∈ bCon ∨ y ∈ more ∨ y ∈ bOwn p) → Bn w p y := fun y hy => by
      rcases hy with hy | hy | hy
      · obtain ⟨a1, a2, a3⟩ := bCon_ok y hy
        exact ⟨fine_mono (by omega) _ a1, by omega, by omega⟩
      · obtain ⟨a1, a2, a3⟩ := hm y hy
        exact ⟨fine_mono (by omega) _ a1, by omega, by omega⟩
      · exact bOwn_ok hw hfi y hy
    have leaf : ∀ h1 Z1, Bx Z1 b h1 → Z1 + 1 ≤ Z + 3 * (n + 1) → Sa b hd h1 → fTry (m_L_bent n) [some (.ref b), some (.d p), some (.d (.list more)), none, none] hd = some (.ok (.nx [some (.ref b), some (.d p), some (.d (.list more)), none, none]) h1) →
        ∃ y hd', m_L_bent (n + 1) [.ref b, .d p, .d (.list more)] hd = some (.ok (.d y) hd') ∧ Bn w p y ∧ Bx (Z + 3 * ((n + 1 : Nat) : Int)) b hd' ∧ Sa b hd hd' := fun h1 Z1 bx1 hz1 sa1 e => by
      obtain ⟨y, h2, e2, hy, bx2, sa2⟩ := leaf_ok (w := w) (p := p) (more := more) bx1 (by omega) (by omega) hfi (by omega)
      have sa : Sa b hd h2 := ⟨sa1.1.trans sa2.1, by rw [sa2.2, sa1.2]⟩
      refine ⟨y, h2, ?_, leafB y hy, bx2.mono (by omega), sa⟩
      have q := cut_ok (m := mB 5 (sSeq (fTry (m_L_bent n)) fLeaf)) (xs := [.ref b, .d p, .d (.list more)]) (hd := hd) (h := h2) (r := y) (mB_rt ((seq_nx e).trans e2)) bx2.1
      rw [List.take_of_length_le (by rw [sa.2]; exact Nat.le_refl _)] at q
      exact q
    by_cases c : ∃ x xs, p = .tuple (x :: xs)
    · obtain ⟨x, xs, rfl⟩ := c
      have sh := lay_tuple hfi (by omega)
      have sh0 : SeqAt.shaped (.tuple []) = true := by decide
      obtain ⟨v, h1, e1, v0, v1, bx1, sa1⟩ := take_ok bx (n := 5) (by omega) (by decide) (by decide)
      by_cases hv : 0 < v
      · have hfx := hfi
        simp only [fine, Bool.and_eq_true, decide_eq_true_eq] at hfx
        obtain ⟨k, h2, e2, k0, k1, bx2, sa2⟩ := take_ok bx1 (n := ((x :: xs).length : Nat)) (by omega) (by simp) (by omega)
        obtain ⟨k, rfl⟩ : ∃ j : Nat, k = j := ⟨k.toNat, by omega⟩
        have hk : k < (x :: xs).length := by omega
        have hs : (x :: xs)[k]? = some (x :: xs)[k] := List.getElem?_eq_getElem hk
        have hmem : (x :: xs)[k] ∈ x :: xs := List.getElem_mem hk
        have hfs := fineAll_iff.mp hfx.2 _ hmem
        have hds := depth_mem hmem
        have hdt : (PyData.tuple (x :: xs)).depth = PyData.depthAll (x :: xs) + 1 := by simp only [PyData.depth]
        generalize hsub : (x :: xs)[k] = sub at hs hfs hds
        obtain ⟨y, h3, e3, bn, bx3, sa3⟩ := bent_ok hw hw2 hm hml n sub (Z + 1 + 1) h2 hfs (by omega) (by omega) (by omega) bx2 (by omega)
        have sa : Sa b hd h3 := ⟨(sa1.1.trans sa2.1).trans sa3.1, by rw [sa3.2, sa2.2, sa1.2]⟩
        refine ⟨_, h3, ?_, put_ok hs hfi bn, bx3.mono (by omega), sa⟩
        have l1 := cut_lo (xs := x :: xs) k (by omega)
        have l2 := cut_hi (xs := x :: xs) (k + 1) (by omega)
        have e4 : fTry (m_L_bent n) [some (.ref b), some (.d (.tuple (x :: xs))), some (.d (.list more)), none, none] hd = some (.ok (.rt (.d (.tuple ((x :: xs).take k ++ [y] ++ (x :: xs).drop (k + 1))))) h3) := by
          unfold fTry
          generalize x :: xs = zs at *
          have hne : zs.isEmpty = false := by cases zs with | nil => simp at hk | cons _ _ => rfl
          have ee : PyData.eqvAll zs [] = false := by cases zs with | nil => simp at hk | cons _ _ => simp [PyData.eqvAll]
          have hz1 : (zs.take k).length + 1 ≤ 16777216 := by rw [List.length_take]; omega
          have hz2 : (zs.take k ++ [y]).length + (zs.drop (k + 1)).length ≤ 16777216 := by rw [List.length_append, List.length_take, List.length_drop]; simp only [List.length_singleton]; omega
          have hkk : (k : Int) < zs.length := by omega
          have l2' : cutL zs (some ((k : Int) + 1)) none = zs.drop (k + 1) := l2
          have hz3 : min k zs.length + 1 ≤ 16777216 := by omega
          have hz4 : min k zs.length + 1 + (zs.length - (k + 1)) ≤ 16777216 := by omega
          simp [mB, stS, sSeq, sIf, tb, tv, tNo, tAn, tOr_, fAn, fOr_, fNo, fIf, f3c, f2, f1, fV, fC, gIx, gOrd, seqOf, lstOf, EV.boolOf, truOf, truS, L2.atI, sSet, gI2, hMod, hDiv, hSub, fN, g1, g2, gInt, aC, aN, sIxL, L2.ixN, sRet, gAdd, gEq, gNe, gLen, ar, sNil, sDrop, fM, gApp, gPopAt, isL, sPar, sPar3, gLstD, gLstL, gTupD, pures, gIsI, gIsI2, tagS, isT, scalD, PyData.eqv, sh, sh0, ee, e1, hv, e2, fSl, oN, oS, gSl, l1, l2', hk, hsub, e3, hz1, hz2, hz3, hz4]
        have q := cut_ok (m := mB 5 (sSeq (fTry (m_L_bent n)) fLeaf)) (xs := [.ref b, .d (.tuple (x :: xs)), .d (.list more)]) (hd := hd) (h := h3) (mB_rt (seq_rt e4)) bx3.1
        have tk : h3.take hd.length = h3 := List.take_of_length_le (by rw [sa.2]; exact Nat.le_refl _)
        rw [tk] at q
        exact q
      · refine leaf h1 (Z + 1) bx1 (by omega) sa1 ?_
        unfold fTry
        simp [mB, stS, sSeq, sIf, tb, tv, tNo, tAn, tOr_, fAn, fOr_, fNo, fIf, f3c, f2, f1, fV, fC, gIx, gOrd, seqOf, lstOf, EV.boolOf, truOf, truS, L2.atI, sSet, gI2, hMod, hDiv, hSub, fN, g1, g2, gInt, aC, aN, sIxL, L2.ixN, sRet, gAdd, gEq, gNe, gLen, ar, sNil, sDrop, fM, gApp, gPopAt, isL, sPar, sPar3, gLstD, gLstL, gTupD, pures, gIsI, gIsI2, tagS, isT, scalD, PyData.eqv, sh, sh0, PyData.eqvAll, e1, hv]
    · refine leaf hd Z bx (by omega) ⟨Sx.refl b hd, rfl⟩ ?_
      unfold fTry
      cases p with
      | tuple xs =>
        cases xs with
        | cons x xs => exact absurd ⟨x, xs, rfl⟩ c
        | nil =>
          have sh0 : SeqAt.shaped (.tuple []) = true := by decide
          simp [mB, stS, sSeq, sIf, tb, tv, tNo, tAn, tOr_, fAn, fOr_, fNo, fIf, f3c, f2, f1, fV, fC, gIx, gOrd, seqOf, lstOf, EV.boolOf, truOf, truS, L2.atI, sSet, gI2, hMod, hDiv, hSub, fN, g1, g2, gInt, aC, aN, sIxL, L2.ixN, sRet, gAdd, gEq, gNe, gLen, ar, sNil, sDrop, fM, gApp, gPopAt, isL, sPar, sPar3, gLstD, gLstL, gTupD, pures, gIsI, gIsI2, tagS, isT, scalD, PyData.eqv, sh0, PyData.eqvAll]
      | dict _ => simp [fine] at hfi
      | _ => simp [mB, stS, sSeq, sIf, tb, tv, tNo, tAn, tOr_, fAn, fOr_, fNo, fIf, f3c, f2, f1, fV, fC, gIx, gOrd, seqOf, lstOf, EV.boolOf, truOf, truS, L2.atI, sSet, gI2, hMod, hDiv, hSub, fN, g1, g2, gInt, aC, aN, sIxL, L2.ixN, sRet, gAdd, gEq, gNe, gLen, ar, sNil, sDrop, fM, gApp, gPopAt, isL, sPar, sPar3, gLstD, gLstL, gTupD, pures, gIsI, gIsI2, tagS, isT, scalD, PyData.eqv]
end K10

set_option Elab.async false
set_option linter.all false
set_option maxRecDepth 100000
set_option maxHeartbeats 4000000
namespace K10
open PySem EV
def mH : List S → Hd → R S := mB 8 (sSeq (sTT 2 (tgsC (tgN 0) (tgsC (tgN 1) tgsN)) (aC (fN gTupD (aC (fC (.str "a")) (aC (fN gTupD aN) (aC (fN gTupD aN) aN)))) (aC (fN gTupD (aC (fC (.str "b")) (aC (fN gTupD (aC (fC (.str "a")) aN)) (aC (fN gTupD (aC (fN gTupD (aC (fN gTupD (aC (fC (.str "a")) (aC (fC (.str "c")) aN))) (aC (fC (.bool false)) aN))) aN)) aN)))) aN))) (sSeq (sSet 2 (fN gTupD (aC (fC (.str "c")) (aC (fN gTupD (aC (fC (.str "a")) (aC (fC (.str "b")) aN))) (aC (fN gTupD (aC (fN gTupD (aC (fN gTupD (aC (fC (.str "a")) aN)) (aC (fC (.bool true)) aN))) (aC (fN gTupD (aC (fN gTupD (aC (fC (.str "zzzzzzzz")) aN)) (aC (fC (.bool false)) aN))) aN))) aN))))) (sSeq (sSet 3 (fN gLstL (aC (fN gTupD aN) (aC (fN gTupD (aC (fV 0) aN)) (aC (fN gTupD (aC (fV 0) (aC (fV 1) aN))) (aC (fN gTupD (aC (fV 0) (aC (fV 1) (aC (fV 2) aN)))) (aC (fN gTupD (aC (fV 1) (aC (fV 0) aN))) (aC (fN gTupD (aC (fV 0) (aC (fV 0) aN))) (aC (fN gTupD (aC (fV 2) aN)) (aC (fN gTupD (aC (fV 0) (aC (fN gTupD (aC (fC (.str "a")) (aC (fN gTupD (aC (fC (.str "b")) aN)) (aC (fN gTupD aN) aN)))) aN))) (aC (fN gTupD (aC (fN gTupD (aC (fC (.str "")) (aC (fN gTupD aN) (aC (fN gTupD aN) aN)))) aN)) aN))))))))))) (sSeq (sSet 3 (f2 gCatL (fV 3) (fN gLstD (aC (fN gTupD (aC (fN gTupD (aC (fC (.str "abcdefghi")) (aC (fN gTupD aN) (aC (fN gTupD aN) aN)))) aN)) (aC (fN gTupD (aC (fN gTupD (aC (fC (.str "abcdefgh")) (aC (fN gTupD aN) (aC (fN gTupD aN) aN)))) aN)) (aC (fN gTupD (aC (fN gTupD (aC (fC (.str "A")) (aC (fN gTupD aN) (aC (fN gTupD aN) aN)))) aN)) (aC (fN gTupD (aC (fN gTupD (aC (fC (.str "a1")) (aC (fN gTupD aN) (aC (fN gTupD aN) aN)))) aN)) aN))))))) (sSeq (sSet 3 (f2 gCatL (fV 3) (fN gLstD (aC (fN gTupD (aC (fN gTupD (aC (fC (.str "a")) (aC (fN gTupD aN) (aC (fN gTupD aN) (aC (fN gTupD aN) aN))))) aN)) (aC (fN gTupD (aC (fN gTupD (aC (fC (.str "a")) (aC (fN gTupD aN) aN))) aN)) (aC (fN gTupD (aC (fN gTupD (aC (fC (.int 1)) (aC (fN gTupD aN) (aC (fN gTupD aN) aN)))) aN)) (aC (fN gTupD (aC (fN gTupD (aC (fC (.str "a")) (aC (fN gTupD (aC (fC (.str "a")) aN)) (aC (fN gTupD aN) aN)))) aN)) (aC (fN gTupD (aC (fN gTupD (aC (fC (.str "a")) (aC (fN gTupD (aC (fC (.str "c")) (aC (fC (.str "b")) aN))) (aC (fN gTupD aN) aN)))) aN)) aN)))))))) (sSeq (sSet 3 (f2 gCatL (fV 3) (fN gLstD (aC (fN gTupD (aC (fN gTupD (aC (fC (.str "a")) (aC (fN gTupD (aC (fC (.str "b")) (aC (fC (.str "b")) aN))) (aC (fN gTupD aN) aN)))) aN)) (aC (fN gTupD (aC (fN gTupD (aC (fC (.str "a")) (aC (fN gTupD (aC (fC (.str "B")) aN)) (aC (fN gTupD aN) aN)))) aN)) (aC (fN gTupD (aC (fN gTupD (aC (fC (.str "a")) (aC (fN gLstD aN) (aC (fN gTupD aN) aN)))) aN)) (aC (fN gTupD (aC (fN gTupD (aC (fC (.str "a")) (aC (fN gTupD (aC (fC (.str "")) aN)) (aC (fN gTupD aN) aN)))) aN)) aN))))))) (sSeq (sFor (srcE srcA (fN gLstD (aC (fN gTupD (aC (fN gTupD (aC (fN gTupD (aC (fC (.str "a")) aN)) (aC (fC (.bool false)) aN))) aN)) (aC (fN gTupD (aC (fN gTupD (aC (fN gTupD (aC (fC (.str "b")) (aC (fC (.str "b")) aN))) (aC (fC (.bool false)) aN))) aN)) (aC (fN gTupD (aC (fN gTupD (aC (fN gTupD aN) (aC (fC (.bool false)) aN))) aN)) (aC (fN gTupD (aC (fN gTupD (aC (fN gTupD (aC (fC (.str "b")) aN)) (aC (fC (.int 0)) aN))) aN)) (aC (fN gTupD (aC (fN gTupD (aC (fN gTupD (aC (fC (.str "b")) aN)) (aC (fC .none) aN))) aN)) aN))))))) (tgN 4) (sDrop (fM gApp (fV 3) (aC (fN gTupD (aC (fN gTupD (aC (fC (.str "a")) (aC (fN gTupD aN) (aC (fV 4) aN)))) aN)) aN)))) (sSeq (sFor (srcE srcA (fN gLstD (aC (fN gTupD (aC (fN gTupD (aC (fN gTupD (aC (fC (.str "b")) aN)) aN)) aN)) (aC (fN gTupD (aC (fN gTupD (aC (fC (.str "b")) (aC (fC (.bool true)) aN))) aN)) (aC (fN gTupD (aC (fN gTupD (aC (fN gLstD (aC (fC (.str "b")) aN)) (aC (fC (.bool true)) aN))) aN)) (aC (fN gLstD (aC (fN gTupD (aC (fN gTupD (aC (fC (.str "b")) aN)) (aC (fC (.bool true)) aN))) aN)) (aC (fN gTupD (aC (fC .none) aN)) (aC (fC .none) (aC (fN gTupD (aC (fN gTupD (aC (fC (.str "b")) aN)) (aC (fC (.bool true)) aN))) aN))))))))) (tgN 4) (sDrop (fM gApp (fV 3) (aC (fN gTupD (aC (fN gTupD (aC (fC (.str "a")) (aC (fN gTupD aN) (aC (fV 4) aN)))) aN)) aN)))) (sSeq (sSet 3 (f2 gCatL (fV 3) (fN gLstD (aC (fN gTupD (aC (fC .none) aN)) (aC (fN gTupD (aC (fN gTupD aN) aN)) (aC (fC .none) (aC (fC (.int 0)) (aC (fC (.str "")) (aC (fC (.str "a")) (aC (fC (.bool true)) (aC (fN gLstD aN) (aC (fN gLstD (aC (fV 0) aN)) (aC (fN gTupD (aC (fN gLstD (aC (fC (.str "a")) (aC (fN gTupD aN) (aC (fN gTupD aN) aN)))) aN)) (aC (fV 0) (aC (fN gTupD (aC (fV 0) (aC (fC .none) aN))) (aC (fN gTupD (aC (fN gTupD (aC (fC (.str "a")) (aC (fC (.str "b")) (aC (fN gTupD aN) aN)))) aN)) aN)))))))))))))))) (sSeq (sSet 3 (f2 gCatL (fV 3) (fN gLstD (aC (fN gTupD (aC (fN gTupD (aC (fC (.str "a")) (aC (fN gTupD aN) (aC (fN gTupD (aC (fN gTupD (aC (fN gTupD (aC (fC (.str "c")) (aC (fC (.str "b")) aN))) (aC (fC (.bool true)) aN))) (aC (fN gTupD (aC (fN gTupD (aC (fC (.str "b")) (aC (fC (.str "c")) aN))) (aC (fC (.bool true)) aN))) aN))) aN)))) aN)) (aC (fN gTupD (aC (fN gTupD (aC (fC (.str "a")) (aC (fN gTupD (aC (fC (.str "b")) aN)) (aC (fN gTupD (aC (fN gTupD (aC (fN gTupD (aC (fC (.str "b")) aN)) (aC (fC (.bool true)) aN))) aN)) aN)))) aN)) aN))))) (sSeq (sDrop (fM gApp (fV 3) (aC (fN gTupD (aC (fN gTupD (aC (fC (.str "a")) (aC (fN gTupD (aC (fC (.str "b")) (aC (fC (.str "c")) (aC (fC (.str "d")) (aC (fC (.str "e")) aN))))) (aC (fN gTupD (aC (fN gTupD (aC (fN gTupD (aC (fC (.str "b")) (aC (fC (.str "c")) (aC (fC (.str "d")) (aC (fC (.str "e")) aN))))) (aC (fC (.bool true)) aN))) (aC (fN gTupD (aC (fN gTupD (aC (fC (.str "x")) aN)) (aC (fC (.bool false)) aN))) (aC (fN gTupD (aC (fN gTupD (aC (fC (.str "y")) aN)) (aC (fC (.bool false)) aN))) aN)))) aN)))) aN)) aN))) (sSeq (sSet 3 (f2 gCatL (fV 3) (fComp [5] (srcE srcA (fN gTupD (aC (fC (.str "a\n")) (aC (fC (.str " a")) (aC (fC (.str "a ")) (aC (fC (.str "aA")) (aC (fC (.str "a-b")) (aC (fC (.str "a.")) (aC (fC (.str "abcdefgh\n")) aN))))))))) (tgN 5) tYesF (fN gTupD (aC (fN gTupD (aC (fV 5) (aC (fN gTupD aN) (aC (fN gTupD aN) aN)))) aN)) finF))) (sSeq (sFor (srcE srcA (fN gTupD (aC (fC (.str "b\n")) (aC (fC (.str "b ")) (aC (fC (.str "")) aN))))) (tgN 5) (sSet 3 (f2 gCatL (fV 3) (fN gLstD (aC (fN gTupD (aC (fN gTupD (aC (fC (.str "a")) (aC (fN gTupD (aC (fV 5) aN)) (aC (fN gTupD aN) aN)))) aN)) (aC (fN gTupD (aC (fN gTupD (aC (fC (.str "a")) (aC (fN gTupD aN) (aC (fN gTupD (aC (fN gTupD (aC (fN gTupD (aC (fV 5) aN)) (aC (fC (.bool true)) aN))) aN)) aN)))) aN)) aN)))))) (sSeq (sSet 6 (fC (.str "abcdefghijklmnopqrstuvwxyz"))) (sRet (f2 gCatF (fV 3) (fN gLstD (aC (fN (g1 gTuple) (aC (fComp [7] (srcE srcA (fV 6)) (tgN 7) tYesF (fN gTupD (aC (f2 gAdd (fV 7) (fC (.str "q"))) (aC (fN gTupD aN) (aC (fN gTupD aN) aN)))) finF) aN)) (aC (fN (g1 gTuple) (aC (fComp [7] (srcE srcA (f1 gRev (fV 6))) (tgN 7) tYesF (fN gTupD (aC (fV 7) (aC (fN gTupD aN) (aC (fN gTupD aN) aN)))) finF) aN)) aN)))))))))))))))))))
def handL : List PyData := match mH [] [] with
  | some (.ok (.d (.list ds)) _) => ds
  | _ => []
def chk (hd : Hd) : Option (List PyData × Hd) := match mH [] hd with
  | some (.ok (.d (.list ds)) h) => some (ds, h.take hd.length)
  | _ => none
theorem chk1 (a : O) : chk [a] = some (handL, [a]) := by kernel_rfl
theorem chk2 (a b : O) : chk [a, b] = some (handL, [a, b]) := by kernel_rfl
theorem chk3 (a b c : O) : chk [a, b, c] = some (handL, [a, b, c]) := by kernel_rfl
theorem handL_ok : handL.length = 65 ∧ handL.all (fun y => fine 60 y && decide (y.weight ≤ 1000) && decide (y.depth ≤ 30)) = true := by decide +kernel
end K10

set_option Elab.async false
set_option linter.all false
set_option maxRecDepth 100000
set_option maxHeartbeats 4000000
namespace K10
open PySem EV
theorem hand_ok {hd : Hd} (hf : Flat hd) (h1 : 1 ≤ hd.length) (h3 : hd.length ≤ 3) : m_L_by_hand [] hd = some (.ok (.d (.list handL)) hd) := by
  have e : chk hd = some (handL, hd) := by
    match hd, h1, h3 with
    | [a], _, _ => exact chk1 a
    | [a, b], _, _ => exact chk2 a b
    | [a, b, c], _, _ => exact chk3 a b c
  unfold chk at e
  split at e
  · rename_i ds h hm
    simp only [Option.some.injEq, Prod.mk.injEq] at e
    obtain ⟨rfl, e⟩ := e
    show mCut mH [] hd = _
    unfold mCut
    rw [hm]
    show (if clH hd.length (h.take hd.length) = true then _ else _) = _
    rw [e, if_pos (hf.cl _)]
    try rfl
  · cases e
def It (y : PyData) : Prop := fine 60 y = true ∧ y.weight ≤ 100000 ∧ y.depth ≤ 40
theorem handL_it : ∀ y ∈ handL, It y := fun y hy => by
  have := List.all_eq_true.mp handL_ok.2 y hy
  simp only [Bool.and_eq_true, decide_eq_true_eq] at this
  exact ⟨this.1.1, by omega, by omega⟩
theorem weightAll_le {c : Nat} : ∀ {ds : List PyData}, (∀ y ∈ ds, y.weight ≤ c) → PyData.weightAll ds ≤ (c + 1) * ds.length
  | [], _ => Nat.le_refl _
  | d :: ds, h => by
    have h1 := h d List.mem_cons_self
    have h2 := weightAll_le fun y hy => h y (List.mem_cons_of_mem _ hy)
    simp only [PyData.weightAll, List.length_cons, Nat.mul_add]
    omega
theorem nm_fine {d : PyData} (h : Nm d) : fine 13 d = true ∧ d.weight ≤ 4 := by
  obtain ⟨s, rfl, h1, h2⟩ := h
  exact ⟨by simp [fine, h1]; omega, by simp only [PyData.weight]; omega⟩
theorem nms_fine {ds : List PyData} (h : ∀ y ∈ ds, Nm y) : fineAll 13 ds = true ∧ PyData.weightAll ds ≤ 5 * ds.length :=
  ⟨fineAll_iff.mpr fun y hy => (nm_fine (h y hy)).1, weightAll_le fun y hy => (nm_fine (h y hy)).2⟩
theorem wish_fine {d : PyData} (h : WishP d) : fine 13 d = true ∧ d.weight ≤ 70 := by
  obtain ⟨_, k, rfl, os, rfl, h1, h2⟩ := h
  obtain ⟨a, b⟩ := nms_fine h1
  exact ⟨by simp [fine, fineAll, a]; omega, by simp only [PyData.weight, PyData.weightAll]; omega⟩
theorem row_fine {d : PyData} (h : RowP d) : fine 13 d = true ∧ d.weight ≤ 250 := by
  obtain ⟨nm, nd, ws, rfl, h1, h2, h3, h4, h5⟩ := h
  obtain ⟨a, b⟩ := nms_fine h2
  have c : fineAll 13 ws = true := fineAll_iff.mpr fun y hy => (wish_fine (h4 y hy)).1
  have e := weightAll_le fun y hy => (wish_fine (h4 y hy)).2
  obtain ⟨f, g⟩ := nm_fine h1
  exact ⟨by simp [fine, fineAll, a, c, f]; omega, by simp only [PyData.weight, PyData.weightAll]; omega⟩
theorem rows_fine {rows : List PyData} (h : ∀ r ∈ rows, RowP r) (hl : rows.length ≤ 10) : fine 13 (.tuple rows) = true ∧ PyData.weightAll rows ≤ 2510 ∧ PyData.depthAll rows ≤ 4 := by
  have c : fineAll 13 rows = true := fineAll_iff.mpr fun y hy => (row_fine (h y hy)).1
  have e := weightAll_le fun y hy => (row_fine (h y hy)).2
  exact ⟨by simp [fine, c]; omega, by omega, depthAll_le fun y hy => row_depth (h y hy)⟩
def six (rows : List PyData) : List PyData := [.tuple rows, deepL (.tuple rows), .list rows, .tuple rows.reverse, .tuple (cutL rows (some 1) none), .tuple (rows ++ cutL rows (some (-1)) none)]
theorem six_it {rows : List PyData} (h : ∀ r ∈ rows, RowP r) (hl : rows.length ≤ 10) : ∀ y ∈ six rows, It y := by
  obtain ⟨a, b, c⟩ := rows_fine h hl
  have a' := a
  simp only [fine, Bool.and_eq_true, decide_eq_true_eq] at a'
  have f60 := fines_mono (v := 60) (by decide) _ a'.2
  intro y hy
  simp only [six, List.mem_cons, List.not_mem_nil, or_false] at hy
  rcases hy with rfl | rfl | rfl | rfl | rfl | rfl
  · exact ⟨by simp [fine, f60]; omega, by simp only [PyData.weight]; omega, by simp only [PyData.depth]; omega⟩
  · obtain ⟨d1, d2, d3⟩ := deep_same (w := 60) (.tuple rows)
    exact ⟨by rw [d1]; simp [fine, f60]; omega, by rw [d2]; simp only [PyData.weight]; omega, by rw [d3]; simp only [PyData.depth]; omega⟩
  · exact ⟨by simp [fine, f60]; omega, by simp only [PyData.weight]; omega, by simp only [PyData.depth]; omega⟩
  · obtain ⟨d1, d2, d3⟩ := rev_meas (w := 60) (xs := rows)
    exact ⟨by simp [fine, d1, f60]; omega, by simp only [PyData.weight, d2]; omega, by simp only [PyData.depth, d3]; omega⟩
  · obtain ⟨d1, d2, d3, d4⟩ := cut_meas (some 1) none f60
    exact ⟨by simp [fine, d1]; omega, by simp only [PyData.weight]; omega, by simp only [PyData.depth]; omega⟩
  · obtain ⟨d1, d2, d3, d4⟩ := cut_meas (some (-1)) none f60
    exact ⟨by simp [fine, fineAll_app, d1, f60]; omega, by simp only [PyData.weight, weight_app]; omega, by simp only [PyData.depth, depth_app]; omega⟩
def moreL (nm : PyData) : List PyData := [.tuple [.str "a", .tuple [], .tuple []], .tuple [.tuple [.tuple [.str "a", .str "b"], .bool true]], .tuple [.tuple [.str "a"], .bool false], nm]
theorem moreL_ok {nm : PyData} (h : Nm nm) : ∀ y ∈ moreL nm, fine 13 y = true ∧ y.weight ≤ 100 ∧ y.depth ≤ 4 := by
  have q : [PyData.tuple [.str "a", .tuple [], .tuple []], .tuple [.tuple [.tuple [.str "a", .str "b"], .bool true]], .tuple [.tuple [.str "a"], .bool false]].all (fun y => fine 13 y && decide (y.weight ≤ 100) && decide (y.depth ≤ 4)) = true := by decide +kernel
  intro y hy
  simp only [moreL, List.mem_cons, List.not_mem_nil, or_false] at hy
  by_cases e : y = nm
  · subst e
    obtain ⟨a, b⟩ := nm_fine h
    exact ⟨a, by omega, by rw [nm_depth h]; decide⟩
  · have hm : y ∈ [PyData.tuple [.str "a", .tuple [], .tuple []], .tuple [.tuple [.tuple [.str "a", .str "b"], .bool true]], .tuple [.tuple [.str "a"], .bool false]] := by
      simp only [List.mem_cons, List.not_mem_nil, or_false]
      rcases hy with hy | hy | hy | hy
      · exact .inl hy
      · exact .inr (.inl hy)
      · exact .inr (.inr hy)
      · exact absurd hy e
    have := List.all_eq_true.mp q y hm
    simp only [Bool.and_eq_true, decide_eq_true_eq] at this
    exact ⟨this.1.1, this.1.2, this.2⟩
/-- the slots within right -/
structure Rs_ (b : Nat) (items : List PyData) (ss : Sd) : Prop where
  len : ss.length = 10
  s0 : ss[0]? = some (some (.ref b))
  s3 : ss[3]? = some (some (.d (.list items)))
def fN1 : FS := sSet 4 (fN (ar 3 m_L_world) (aC (fV 0) (aC (fN (ar 2 m_L_of) (aC (fV 0) (aC (fN gLstD (aC (fC (.int 1)) (aC (fC (.int 2)) (aC (fC (.int 4)) (aC (fC (.int 6)) (aC (fC (.int 10)) aN)))))) aN))) (aC (fC (.bool true)) aN))))
def fN2 : FS := sSet 3 (f2 gAdd (fV 3) (fN gLstD (aC (fV 4) (aC (fN (ar 1 (m_L_lists 16)) (aC (fV 4) aN)) (aC (fN (g1 gList) (aC (fV 4) aN)) (aC (f1 gRev (fV 4)) (aC (fSl (fV 4) (oS (fC (.int 1))) oN) (aC (f2 gAdd (fV 4) (fSl (fV 4) (oS (f1 gNeg (fC (.int 1)))) oN)) aN))))))))
def fN3 : FS := sSet 5 (fN gLstD (aC (fN gTupD (aC (fC (.str "a")) (aC (fN gTupD aN) (aC (fN gTupD aN) aN)))) (aC (fN gTupD (aC (fN gTupD (aC (fN gTupD (aC (fC (.str "a")) (aC (fC (.str "b")) aN))) (aC (fC (.bool true)) aN))) aN)) (aC (fN gTupD (aC (fN gTupD (aC (fC (.str "a")) aN)) (aC (fC (.bool false)) aN))) (aC (f2 gIx (f2 gIx (fV 4) (fC (.int 0))) (fC (.int 0))) aN)))))
def fN5 : FS := sSeq (sSet 7 (fN (ar 3 (m_L_bent 20)) (aC (fV 0) (aC (fV 4) (aC (fV 5) aN))))) (sSet 3 (f2 gAdd (fV 3) (fN gLstD (aC (fV 7) (aC (fN (ar 3 (m_L_bent 20)) (aC (fV 0) (aC (fV 7) (aC (fV 5) aN)))) aN)))))
def fN4 : FS := sFor (srcR1 (fC (.int 3))) (tgN 6) fN5
def fNet : FS := sSeq fN1 (sSeq fN2 (sSeq fN3 fN4))
theorem bend_ok {Z : Int} {b : Nat} {hd : Hd} {ss : Sd} {items rows : List PyData} {nm : PyData} (s : Rs_ b items ss) (bx : Bx Z b hd) (hZ : Z + 200 ≤ 1000000000) (hi : ∀ y ∈ items, It y) (hl : items.length ≤ 1000) (hr : ∀ r ∈ rows, RowP r) (hrl : rows.length ≤ 10) (hn : Nm nm)
    (s4 : ss[4]? = some (some (.d (.tuple rows)))) (s5 : ss[5]? = some (some (.d (.list (moreL nm))))) :
    ∃ ss' hd' items', fN5 ss hd = some (.ok (.nx ss') hd') ∧ Rs_ b items' ss' ∧ (∀ y ∈ items', It y) ∧ items'.length = items.length + 2 ∧ ss'[4]? = ss[4]? ∧ ss'[5]? = ss[5]? ∧ Bx (Z + 120) b hd' ∧ Sa b hd hd' := by
  obtain ⟨a, b1, c⟩ := rows_fine hr hrl
  have wt : (PyData.tuple rows).weight ≤ 2510 := by simp only [PyData.weight]; omega
  have dp : (PyData.tuple rows).depth ≤ 5 := by simp only [PyData.depth]; omega
  have hm := moreL_ok hn
  obtain ⟨y, h1, e1, bn1, bx1, sa1⟩ := bent_ok (w := 13) (b := b) (more := moreL nm) (by decide) (by decide) hm (by simp [moreL]) 20 (.tuple rows) Z hd a (by omega) (by omega) (by decide) bx (by omega)
  have hm2 : ∀ y ∈ moreL nm, fine 26 y = true ∧ y.weight ≤ 100 ∧ y.depth ≤ 4 := fun y hy => ⟨fine_mono (by decide) _ (hm y hy).1, (hm y hy).2⟩
  have fy : fine 26 y = true := bn1.fi
  have wy := bn1.wt
  have dy := bn1.dp
  obtain ⟨z, h2, e2, bn2, bx2, sa2⟩ := bent_ok (w := 26) (b := b) (more := moreL nm) (by decide) (by decide) hm2 (by simp [moreL]) 20 y (Z + 3 * (20 : Nat)) h1 fy (by omega) (by omega) (by decide) bx1 (by omega)
  have fz : fine 52 z = true := bn2.fi
  have wz := bn2.wt
  have dz := bn2.dp
  refine ⟨(ss.set 7 (some (.d y))).set 3 (some (.d (.list (items ++ [y, z])))), h2, items ++ [y, z], ?_, ⟨by rw [List.length_set, List.length_set]; exact s.len, by rw [List.getElem?_set_ne (by decide), List.getElem?_set_ne (by decide)]; exact s.s0, List.getElem?_set_self (by rw [List.length_set, s.len]; decide)⟩, fun x hx => ?_, by simp, by rw [List.getElem?_set_ne (by decide), List.getElem?_set_ne (by decide)], by rw [List.getElem?_set_ne (by decide), List.getElem?_set_ne (by decide)], bx2.mono (by omega), ⟨sa1.1.trans sa2.1, by rw [sa2.2, sa1.2]⟩⟩
  · have q1 : sSet 7 (fN (ar 3 (m_L_bent 20)) (aC (fV 0) (aC (fV 4) (aC (fV 5) aN)))) ss hd = some (.ok (.nx (ss.set 7 (some (.d y)))) h1) := by
      simp [sSet, fN, ar, aC, aN, fV, s.s0, s4, s5, e1]
    unfold fN5
    rw [seq_nx q1]
    have t0 : (ss.set 7 (some (S.d y)))[0]? = some (some (.ref b)) := by rw [List.getElem?_set_ne (by decide)]; exact s.s0
    have t3 : (ss.set 7 (some (S.d y)))[3]? = some (some (.d (.list items))) := by rw [List.getElem?_set_ne (by decide)]; exact s.s3
    have t5 : (ss.set 7 (some (S.d y)))[5]? = some (some (.d (.list (moreL nm)))) := by rw [List.getElem?_set_ne (by decide)]; exact s5
    have t7 : (ss.set 7 (some (S.d y)))[7]? = some (some (.d y)) := List.getElem?_set_self (by rw [s.len]; decide)
    have hz : items.length + 2 ≤ 16777216 := by omega
    simp [sSet, fN, ar, aC, aN, fV, t0, t3, t5, t7, e2, gLstD, pures, f2, gAdd, hz]
  · rcases List.mem_append.mp hx with hx | hx
    · exact hi x hx
    · simp only [List.mem_cons, List.not_mem_nil, or_false] at hx
      rcases hx with rfl | rfl
      · exact ⟨fine_mono (by decide) _ fy, by omega, by omega⟩
      · exact ⟨fine_mono (by decide) _ fz, by omega, by omega⟩
theorem net_ok {Z : Int} {b : Nat} {hd : Hd} {ss : Sd} {items : List PyData} (s : Rs_ b items ss) (bx : Bx Z b hd) (hZ : Z + 2000 ≤ 1000000000) (hi : ∀ y ∈ items, It y) (hl : items.length ≤ 500) :
    ∃ ss' hd' items', fNet ss hd = some (.ok (.nx ss') hd') ∧ Rs_ b items' ss' ∧ (∀ y ∈ items', It y) ∧ items'.length = items.length + 12 ∧ Bx (Z + 1000) b hd' ∧ Sa b hd hd' := by
  obtain ⟨x, h1, e1, hx, bx1, sa1⟩ := of_ok (ds := [.int 1, .int 2, .int 4, .int 6, .int 10]) bx (by omega) (by simp) (by decide)
  obtain ⟨v, hv0, hv, rfl⟩ : ∃ v : Nat, 1 ≤ v ∧ v ≤ 10 ∧ x = .int v := by
    simp only [List.mem_cons, List.not_mem_nil, or_false] at hx
    rcases hx with rfl | rfl | rfl | rfl | rfl <;> first | exact ⟨1, by decide, by decide, rfl⟩ | exact ⟨2, by decide, by decide, rfl⟩ | exact ⟨4, by decide, by decide, rfl⟩ | exact ⟨6, by decide, by decide, rfl⟩ | exact ⟨10, by decide, by decide, rfl⟩
  obtain ⟨rows, h2, e2, hrl, hr, bx2, sa2⟩ := world_ok (mu := true) bx1 (by omega) hv
  have hrl' : rows.length ≤ 10 := by omega
  obtain ⟨a, _, c⟩ := rows_fine hr hrl'
  have hf2 := bx2.1
  have el := lists_ok (hd := h2) hf2 16 (.tuple rows) a (by simp only [PyData.depth]; omega)
  obtain ⟨nm, hnm, er⟩ : ∃ nm, Nm nm ∧ (f2 gIx (f2 gIx (fun _ hd => some (.ok (S.d (.tuple rows)) hd)) (fC (.int 0))) (fC (.int 0)) : FE) ss h2 = some (.ok (.d nm) h2) := by
    cases rows with
    | nil => simp at hrl; omega
    | cons r rs =>
      obtain ⟨nm, nd, ws, rfl, h, _⟩ := hr r List.mem_cons_self
      exact ⟨nm, h, by simp [f2, fC, gIx, seqOf, L2.atI, L2.ixN]⟩
  -- the sequence
  generalize hs1 : ss.set 4 (some (S.d (.tuple rows))) = s1
  have S1 : Rs_ b items s1 := by rw [← hs1]; exact ⟨by rw [List.length_set]; exact s.len, by rw [List.getElem?_set_ne (by decide)]; exact s.s0, by rw [List.getElem?_set_ne (by decide)]; exact s.s3⟩
  have s14 : s1[4]? = some (some (.d (.tuple rows))) := by rw [← hs1]; exact List.getElem?_set_self (by rw [s.len]; decide)
  have q1 : fN1 ss hd = some (.ok (.nx s1) h2) := by
    unfold fN1
    simp [sSet, fN, ar, aC, aN, fV, fC, gLstD, pures, s.s0, e1, e2, hs1]
  generalize hs2 : s1.set 3 (some (S.d (.list (items ++ six rows)))) = s2
  have S2 : Rs_ b (items ++ six rows) s2 := by rw [← hs2]; exact ⟨by rw [List.length_set]; exact S1.len, by rw [List.getElem?_set_ne (by decide)]; exact S1.s0, List.getElem?_set_self (by rw [S1.len]; decide)⟩
  have s24 : s2[4]? = some (some (.d (.tuple rows))) := by rw [← hs2, List.getElem?_set_ne (by decide)]; exact s14
  have q2 : fN2 s1 h2 = some (.ok (.nx s2) h2) := by
    obtain ⟨_, _, _, l1⟩ := cut_meas (w := 13) (some (-1)) none (by simp only [fine, Bool.and_eq_true] at a; exact a.2 : fineAll 13 rows = true)
    have hz : rows.length + (cutL rows (some (-1)) none).length ≤ 16777216 := by omega
    have hz2 : items.length + 6 ≤ 16777216 := by omega
    unfold fN2
    simp [mB, stS, sSeq, sIf, tb, tv, tNo, tAn, tOr_, fAn, fOr_, fNo, fIf, f3c, f2, f1, fV, fC, gIx, gOrd, seqOf, lstOf, EV.boolOf, truOf, truS, L2.atI, sSet, gI2, hMod, hDiv, hSub, fN, g1, g2, gInt, aC, aN, sIxL, L2.ixN, sRet, gAdd, gEq, gNe, gLen, ar, sNil, sDrop, fM, gApp, gPopAt, isL, sPar, sPar3, gLstD, gLstL, gTupD, pures, gIsI, gIsI2, tagS, isT, scalD, PyData.eqv, s14, S1.s3, el, gList, pures_d, gRev, fSl, oS, oN, gNeg, gSl, hz, hz2]
    rw [← hs2]; rfl
  generalize hs3 : s2.set 5 (some (S.d (.list (moreL nm)))) = s3
  have S3 : Rs_ b (items ++ six rows) s3 := by rw [← hs3]; exact ⟨by rw [List.length_set]; exact S2.len, by rw [List.getElem?_set_ne (by decide)]; exact S2.s0, by rw [List.getElem?_set_ne (by decide)]; exact S2.s3⟩
  have s34 : s3[4]? = some (some (.d (.tuple rows))) := by rw [← hs3, List.getElem?_set_ne (by decide)]; exact s24
  have s35 : s3[5]? = some (some (.d (.list (moreL nm)))) := by rw [← hs3]; exact List.getElem?_set_self (by rw [S2.len]; decide)
  have q3 : fN3 s2 h2 = some (.ok (.nx s3) h2) := by
    have er2 : (f2 gIx (f2 gIx (fV 4) (fC (.int 0))) (fC (.int 0)) : FE) s2 h2 = some (.ok (.d nm) h2) := by
      have e0 : (fV 4 : FE) s2 h2 = some (.ok (S.d (.tuple rows)) h2) := by simp [fV, s24]
      have : (f2 gIx (f2 gIx (fV 4) (fC (.int 0))) (fC (.int 0)) : FE) s2 h2 = (f2 gIx (f2 gIx (fun _ hd => some (.ok (S.d (.tuple rows)) hd)) (fC (.int 0))) (fC (.int 0)) : FE) ss h2 := by
        unfold f2; rw [e0]; rfl
      rw [this]; exact er
    unfold fN3
    simp only [sSet, fN, aC, aN, fC, gLstD, gTupD, pures, bnd_ok, Option.map_some, List.length_cons, List.length_nil, Nat.reduceAdd, Nat.reduceLeDiff, if_true, er2, hs3.symm]
    rfl
  have it2 : ∀ y ∈ items ++ six rows, It y := fun y hy => by
    rcases List.mem_append.mp hy with hy | hy
    · exact hi y hy
    · exact six_it hr hrl' y hy
  have l6 : (items ++ six rows).length = items.length + 6 := by rw [List.length_append]; rfl
  obtain ⟨s4, h4, e4, items', g1, g2, g3, g4, g5, g6, g7⟩ := for_inv (t := tgN 6) (f := fN5) (fun i s' h' => ∃ items', Rs_ b items' s' ∧ (∀ y ∈ items', It y) ∧ items'.length = items.length + 6 + 2 * i ∧ s'[4]? = some (some (.d (.tuple rows))) ∧ s'[5]? = some (some (.d (.list (moreL nm)))) ∧ Bx (Z + 1 + 400 + 120 * i) b h' ∧ Sa b h2 h') (rng 3) 0 s3 h2
    ⟨_, S3, it2, by rw [l6], s34, s35, by simpa using bx2, ⟨Sx.refl b h2, rfl⟩⟩ (fun i x s' h' hx hi' ⟨it, a1, a2, a3, a4, a5, a6, a7⟩ => by
      rw [rng_len, Nat.zero_add] at hi'
      have R' : Rs_ b it (s'.set 6 (some x)) := ⟨by rw [List.length_set]; exact a1.len, by rw [List.getElem?_set_ne (by decide)]; exact a1.s0, by rw [List.getElem?_set_ne (by decide)]; exact a1.s3⟩
      obtain ⟨s5, h5, it5, b1, b2, b3, b4, b5, b6, b7, b8⟩ := bend_ok (rows := rows) (nm := nm) R' a6 (by omega) a2 (by omega) hr hrl' hnm (by rw [List.getElem?_set_ne (by decide)]; exact a4) (by rw [List.getElem?_set_ne (by decide)]; exact a5)
      refine ⟨s'.set 6 (some x), rfl, s5, h5, .inl b1, it5, b2, b3, by omega, by rw [b5, List.getElem?_set_ne (by decide)]; exact a4, by rw [b6, List.getElem?_set_ne (by decide)]; exact a5, ?_, ⟨a7.1.trans b8.1, by rw [b8.2, a7.2]⟩⟩
      have e : Z + 1 + 400 + 120 * ((i + 1 : Nat) : Int) = Z + 1 + 400 + 120 * i + 120 := by omega
      rw [e]; exact b7)
  rw [rng_len, Nat.zero_add] at g3 g6
  have q4 : fN4 s3 h2 = some (.ok (.nx s4) h4) := (for_it (by rfl)).trans e4
  refine ⟨s4, h4, items', ?_, g1, g2, by omega, g6.mono (by omega), ⟨(sa1.1.trans sa2.1).trans g7.1, by rw [g7.2, sa2.2, sa1.2]⟩⟩
  unfold fNet
  rw [seq_nx q1, seq_nx q2, seq_nx q3]
  exact q4
end K10

set_option Elab.async false
set_option linter.all false
set_option maxRecDepth 100000
set_option maxHeartbeats 4000000
namespace K10
open PySem EV
def fChk : FS := sSeq (sPar 8 9 (aC (fN (g1 gRepr) (aC (fV 7) aN)) (aC (fN (ar 1 m_L_is_whole) (aC (fV 7) aN)) aN))) (sIf (tOr_ (tNo (tv (fN (ar 2 (m_L_same 4)) (aC (fN gLstD (aC (fN (ar 1 m_P_is_world) (aC (fV 7) aN)) (aC (fKw 0 1 [0] 1 m_P_is_world aN (aC (fV 7) aN)) aN))) (aC (fN gLstD (aC (fV 9) (aC (fV 9) aN))) aN))))) (tb (f2 gNe (fN (g1 gRepr) (aC (fV 7) aN)) (fV 8)))) (sRet (fC (.bool false))) sNil)
theorem chk_ok {hd : Hd} {ss : Sd} {y : PyData} (hf : Flat hd) (hl : ss.length = 10) (hy : It y) (s7 : ss[7]? = some (some (.d y))) :
    ∃ ss', fChk ss hd = some (.ok (.nx ss') hd) ∧ ss'.length = 10 := by
  obtain ⟨h1, h2, h3⟩ := hy
  have e1 := repr_ok (hd := hd) h1 (by omega) (by omega)
  have e2 := whole_ok (w := 60) hf (by decide) h1
  have e3 := pworld_ok (w := 60) hf (by decide) h1
  have e4 := same_ok (hd := hd) hf (worldB y)
  refine ⟨(ss.set 8 (some (.d (.str y.shown)))).set 9 (some (.d (.bool (worldB y)))), ?_, by rw [List.length_set, List.length_set]; exact hl⟩
  have q1 : sPar 8 9 (aC (fN (g1 gRepr) (aC (fV 7) aN)) (aC (fN (ar 1 m_L_is_whole) (aC (fV 7) aN)) aN)) ss hd = some (.ok (.nx ((ss.set 8 (some (.d (.str y.shown)))).set 9 (some (.d (.bool (worldB y)))))) hd) := by
    simp [sPar, aC, aN, fN, g1, ar, fV, s7, e1, e2]
  unfold fChk
  rw [seq_nx q1]
  have t7 : ((ss.set 8 (some (S.d (.str y.shown)))).set 9 (some (S.d (.bool (worldB y)))))[7]? = some (some (.d y)) := by rw [List.getElem?_set_ne (by decide), List.getElem?_set_ne (by decide)]; exact s7
  have t8 : ((ss.set 8 (some (S.d (.str y.shown)))).set 9 (some (S.d (.bool (worldB y)))))[8]? = some (some (.d (.str y.shown))) := by rw [List.getElem?_set_ne (by decide), List.getElem?_set_self (by rw [hl]; decide)]
  have t9 : ((ss.set 8 (some (S.d (.str y.shown)))).set 9 (some (S.d (.bool (worldB y)))))[9]? = some (some (.d (.bool (worldB y)))) := List.getElem?_set_self (by rw [List.length_set, hl]; decide)
  simp [sIf, tOr_, tNo, tv, fN, ar, aC, aN, fV, t7, t8, t9, e3, fKw, kwPick, gLstD, pures, e4, truOf, truS, tb, f2, g1, e1, gNe, scalD, PyData.eqv, EV.boolOf, sNil]
def deep : Nat → PyData
  | 0 => .str "a"
  | n + 1 => .tuple [deep n]
theorem deep_it : It (deep 12) := ⟨by decide +kernel, by decide +kernel, by decide +kernel⟩
def fR1 : FS := sFor (srcR1 (fC (.int 12))) (tgN 2) (sSet 1 (fN gTupD (aC (fV 1) aN)))
def fR2 : FS := sSet 3 (f2 gAdd (fun _ hd => m_L_by_hand [] hd) (fN gLstD (aC (fV 1) aN)))
def fR3 : FS := sFor (srcR1 (fC (.int 8))) (tgN 2) fNet
def fR4 : FS := sFor (srcE srcA (fV 3)) (tgN 7) fChk
theorem right_eq : m_L_right = mCut (mB 10 (sSeq (sSet 1 (fC (.str "a"))) (sSeq fR1 (sSeq fR2 (sSeq fR3 (sSeq fR4 (sRet (fC (.bool true)))))))) ) := rfl
theorem fR1_ok (b : Nat) (hd : Hd) : fR1 [some (.ref b), some (.d (.str "a")), none, none, none, none, none, none, none, none] hd = some (.ok (.nx [some (.ref b), some (.d (deep 12)), some (.d (.int 11)), none, none, none, none, none, none, none]) hd) := by kernel_rfl
theorem right_ok {b : Nat} {hd : Hd} (bx : Bx 0 b hd) (hl : hd.length ≤ 3) : ∃ hd', m_L_right [.ref b] hd = some (.ok (.d (.bool true)) hd') ∧ Flat hd' ∧ hd'.length = hd.length := by
  have hb := bx.lt
  have eh := hand_ok bx.1 (by omega) hl
  have R0 : Rs_ b (handL ++ [deep 12]) [some (.ref b), some (.d (deep 12)), some (.d (.int 11)), some (.d (.list (handL ++ [deep 12]))), none, none, none, none, none, none] := ⟨rfl, rfl, rfl⟩
  have it0 : ∀ y ∈ handL ++ [deep 12], It y := fun y hy => by
    rcases List.mem_append.mp hy with hy | hy
    · exact handL_it y hy
    · rw [List.mem_singleton.mp hy]; exact deep_it
  have l0 : (handL ++ [deep 12]).length = 66 := by rw [List.length_append, handL_ok.1]; rfl
  obtain ⟨s1, h1, e1, items, g1, g2, g3, g4, g5⟩ := for_inv (t := tgN 2) (f := fNet) (fun i s' h' => ∃ items, Rs_ b items s' ∧ (∀ y ∈ items, It y) ∧ items.length = 66 + 12 * i ∧ Bx (0 + 1000 * i) b h' ∧ Sa b hd h') (rng 8) 0 _ hd
    ⟨_, R0, it0, l0, by simpa using bx, ⟨Sx.refl b hd, rfl⟩⟩ (fun i x s' h' hx hi ⟨it, a1, a2, a3, a4, a5⟩ => by
      rw [rng_len, Nat.zero_add] at hi
      have R' : Rs_ b it (s'.set 2 (some x)) := ⟨by rw [List.length_set]; exact a1.len, by rw [List.getElem?_set_ne (by decide)]; exact a1.s0, by rw [List.getElem?_set_ne (by decide)]; exact a1.s3⟩
      obtain ⟨s5, h5, it5, b1, b2, b3, b4, b5, b6⟩ := net_ok R' a4 (by omega) a2 (by omega)
      refine ⟨s'.set 2 (some x), rfl, s5, h5, .inl b1, it5, b2, b3, by omega, ?_, ⟨a5.1.trans b6.1, by rw [b6.2, a5.2]⟩⟩
      have e : (0 : Int) + 1000 * ((i + 1 : Nat) : Int) = 0 + 1000 * i + 1000 := by omega
      rw [e]; exact b5)
  obtain ⟨s2, h2, e2, c1, c2⟩ := for_inv (t := tgN 7) (f := fChk) (fun i s' h' => s'.length = 10 ∧ h' = h1) (items.map S.d) 0 s1 h1 ⟨g1.len, rfl⟩ (fun i x s' h' hx _ ⟨a1, a2⟩ => by
    obtain ⟨y, hy, rfl⟩ := List.mem_map.mp hx
    subst a2
    obtain ⟨s5, b1, b2⟩ := chk_ok (ss := s'.set 7 (some (.d y))) g4.1 (by rw [List.length_set]; exact a1) (g2 y hy) (List.getElem?_set_self (by rw [a1]; decide))
    exact ⟨s'.set 7 (some (.d y)), rfl, s5, _, .inl b1, b2, rfl⟩)
  subst c2
  have q2 : fR2 [some (.ref b), some (.d (deep 12)), some (.d (.int 11)), none, none, none, none, none, none, none] hd = some (.ok (.nx [some (.ref b), some (.d (deep 12)), some (.d (.int 11)), some (.d (.list (handL ++ [deep 12]))), none, none, none, none, none, none]) hd) := by
    have hz : handL.length + 1 ≤ 16777216 := by rw [handL_ok.1]; decide
    unfold fR2
    simp [sSet, f2, eh, fN, aC, aN, fV, gLstD, pures, gAdd, hz]
  have q3 : fR3 [some (.ref b), some (.d (deep 12)), some (.d (.int 11)), some (.d (.list (handL ++ [deep 12]))), none, none, none, none, none, none] hd = some (.ok (.nx s1) h2) := (for_it (by rfl)).trans e1
  have q4 : fR4 s1 h2 = some (.ok (.nx s2) h2) := by
    refine (for_it ?_).trans e2
    simp [srcE, fV, g1.s3, srcA, srcOf]
  have q : mB 10 (sSeq (sSet 1 (fC (.str "a"))) (sSeq fR1 (sSeq fR2 (sSeq fR3 (sSeq fR4 (sRet (fC (.bool true)))))))) [.ref b] hd = some (.ok (.d (.bool true)) h2) := by
    refine mB_rt ?_
    refine (seq_nx (s1 := [some (.ref b), some (.d (.str "a")), none, none, none, none, none, none, none, none]) (h1 := hd) rfl).trans ?_
    rw [seq_nx (fR1_ok b hd), seq_nx q2, seq_nx q3, seq_nx q4]
    rfl
  refine ⟨h2.take hd.length, by rw [right_eq]; exact cut_ok q g4.1, g4.1.take _, ?_⟩
  rw [List.length_take, g5.2]; exact Nat.min_self _
theorem box_ok {hd : Hd} {cs : List Int} {k : Nat} (hk : k < cs.length) (hc : cs.length ≤ 1000) : ∃ x y, m_L_box [.d (.list (cs.map .int)), .d (.int k)] hd = some (.ok (.ref hd.length) (hd ++ [bO x y 0])) := by
  have e0 : cs[k]? = some cs[k] := List.getElem?_eq_getElem hk
  generalize cs[k] = c at e0
  have hkl : (k : Int) < cs.length := by omega
  have e1 : ∀ a : Int, ∀ p : Bool, hMul a (if p = true then 1 else 0) = some (.int (a * (if p = true then 1 else 0))) := fun a p => hMul_r (by cases p <;> decide)
  have e2 : hMul 39373 (k : Int) = some (.int (39373 * k)) := hMul_l (by decide)
  have e3 : hPow 10 18 = some (.int 1000000000000000000) := by unfold hPow; rw [if_pos (by decide)]; rfl
  have e4 : ∀ a : Int, hMod a 2305843009213693951 = some (.int (a % 2305843009213693951)) := fun a => by unfold hMod; rw [if_pos (by decide)]
  refine ⟨(if c < 0 then -c else c) * (if decide (1000000000000000000 ≤ (if c < 0 then -c else c)) = true then 1 else 0), c % 2305843009213693951 + 39373 * k + 211, ?_⟩
  show mB 3 _ _ _ = _
  refine mB_rt ?_
  refine (seq_nx (s1 := [some (.d (.list (cs.map .int))), some (.d (.int k)), some (.d (.int c))]) (h1 := hd) ?_).trans ?_
  · simp [stS, sSet, fIf, tb, f2, fV, fN, g1, gLen, aC, aN, seqOf, gOrd, EV.boolOf, hkl, gIx, L2.atI, L2.ixN, e0, hk]
    exact (List.getElem?_eq_some_iff.mp e0).2
  · simp only [sRet, fN, gLstL, aC, aN, fV, fC, f2, gI2, List.getElem?_cons_succ, List.getElem?_cons_zero, bnd_ok, g1, gAbs, gOrd, gInt, e1, e2, e3, e4, gAdd, List.length_cons, List.length_nil, Nat.reduceAdd, Nat.reduceLeDiff, if_true]
    rfl
def fC1 : FS := sSet 2 (fOr_ (fN (g1 gListL) (aC (fSl (fV 0) oN (oS (fV 1))) aN)) (fN gLstL (aC (fC (.int 0)) aN)))
def fC2b : FS := sSeq (sSet 5 (f2 (gI2 hMod) (fN (g1 gInt) (aC (fV 3) aN)) (fV 1))) (sIxL (fV 2) (fV 5) (f2 gAdd (f2 gIx (fV 2) (fV 5)) (f2 (gI2 hMul) (fV 4) (f2 gAdd (fV 3) (fC (.int 2))))))
def fC2 : FS := sFor (srcEn (fSl (fV 0) (oS (fV 1)) (oS (fC (.int 63))))) (tgT 2 (tgsC (tgN 3) (tgsC (tgN 4) tgsN))) fC2b
theorem cells_eq : m_L_cells = mCut (mB 6 (sSeq fC1 (sSeq fC2 (sRet (fV 2))))) := rfl
/-- the pairs that enumerate gives -/
def enl (ms : List Int) : List S := (List.zip ((List.range ms.length).map fun (i : Nat) => PyData.int i) (ms.map .int)).map fun p => .d (.tuple [p.1, p.2])
theorem enl_mem {ms : List Int} {x : S} (h : x ∈ enl ms) : ∃ (i : Nat) (c : Int), i < ms.length ∧ x = .d (.tuple [.int i, .int c]) := by
  unfold enl at h
  obtain ⟨p, hp, rfl⟩ := List.mem_map.mp h
  have hz := List.of_mem_zip hp
  obtain ⟨i, hi, e1⟩ := List.mem_map.mp hz.1
  obtain ⟨c, hc, e2⟩ := List.mem_map.mp hz.2
  exact ⟨i, c, List.mem_range.mp hi, by rw [← e1, ← e2]⟩
theorem turn_ok {hd : Hd} {ns : List Int} {R k : Nat} {c : Int} {cs : List Int} {o5 : Option S} (hR : hd[R]? = some (.lst ((cs.map PyData.int).map .d))) (hc : cs.length = 3) (hk : k < 100) :
    ∃ cs' : List Int, fC2b [some (.scr ns), some (.d (.int 3)), some (.ref R), some (.d (.int k)), some (.d (.int c)), o5] hd = some (.ok (.nx [some (.scr ns), some (.d (.int 3)), some (.ref R), some (.d (.int k)), some (.d (.int c)), some (.d (.int (k % 3 : Nat)))]) (hd.set R (.lst ((cs'.map PyData.int).map .d)))) ∧ cs'.length = 3 := by
  have hj : k % 3 < cs.length := by omega
  have hj2 : ((k : Int) % 3) = ((k % 3 : Nat) : Int) := by omega
  have e1 : hMul c ((k : Int) + 2) = some (.int (c * (k + 2))) := hMul_r (by omega)
  refine ⟨cs.set (k % 3) (cs[k % 3] + c * (k + 2)), ?_, by rw [List.length_set]; exact hc⟩
  unfold fC2b
  refine (seq_nx (s1 := [some (.scr ns), some (.d (.int 3)), some (.ref R), some (.d (.int k)), some (.d (.int c)), some (.d (.int (k % 3 : Nat)))]) (h1 := hd) ?_).trans ?_
  · simp [sSet, f2, gI2, hMod, fN, g1, gInt, aC, aN, fV]
  · have hj3 : ((k % 3 : Nat) : Int) < cs.length := by omega
    have e5 : ((cs.map PyData.int).map S.d).set (k % 3) (.d (.int (cs[k % 3] + c * (k + 2)))) = ((cs.set (k % 3) (cs[k % 3] + c * (k + 2))).map PyData.int).map S.d := by
      rw [List.map_set, List.map_set]
    have e6 : L2.ixN ((cs.map PyData.int).map S.d).length ((k % 3 : Nat) : Int) = some (k % 3) := by
      unfold L2.ixN
      rw [if_pos (by omega), if_pos (by rw [List.length_map, List.length_map]; exact hj3)]
      rfl
    have e7 : ((cs.map PyData.int).map S.d)[k % 3]? = some (.d (.int cs[k % 3])) := by
      rw [List.getElem?_map, List.getElem?_map, List.getElem?_eq_getElem hj]; rfl
    simp only [sIxL, f2, gIx, fV, fC, seqOf, L2.atI, List.getElem?_cons_succ, List.getElem?_cons_zero, bnd_ok, hR, e6, e7, Option.bind_some, gI2, gAdd, e1, e5]
theorem cells_ok {ns : List Int} (hn : ns.length ≤ 63) : ∃ cs : List Int, m_L_cells [.scr ns, .d (.int 3)] [] = some (.ok (.d (.list (cs.map .int))) []) ∧ cs.length ≤ 3 := by
  have hcut : ∀ (R : Nat) (h : Hd) (cs : List Int), Flat h → h[R]? = some (.lst ((cs.map PyData.int).map .d)) → mB 6 (sSeq fC1 (sSeq fC2 (sRet (fV 2)))) [.scr ns, .d (.int 3)] [] = some (.ok (.ref R) h) → m_L_cells [.scr ns, .d (.int 3)] [] = some (.ok (.d (.list (cs.map .int))) []) := fun R h cs hf hR e => by
    rw [cells_eq]
    have q := cut_ref (hd := []) e (Nat.zero_le _) hR hf
    rw [q]
    simp
  have sl1 : fSl (fV 0) oN (oS (fV 1)) [some (.scr ns), some (.d (.int 3)), none, none, none, none] [] = some (.ok (.d (.list ((ns.take 3).map .int))) []) := by
    have e : cutL (ns.map PyData.int) none (some 3) = (ns.take 3).map .int := by
      unfold cutL
      show (List.drop (HT.sIx _ 0 none) _).take (HT.sIx _ _ (some ((3 : Nat) : Int)) - _) = _
      rw [HT.sIx_nat, HT.sIx_none, List.drop_zero, Nat.sub_zero, List.map_take, List.length_map]
      rcases Nat.le_total 3 ns.length with h | h
      · rw [Nat.min_eq_left h]
      · rw [Nat.min_eq_right h, List.take_of_length_le (by simp), List.take_of_length_le (by simpa using h)]
    have pe : pures (ns.map fun i => S.d (.int i)) = some (ns.map PyData.int) := by
      have := pures_d (ns.map PyData.int)
      rw [List.map_map] at this
      exact this
    simp [fSl, fV, oN, oS, gSl, lstOf, pe, e]
  have sl2 : ∀ s2 : Option S, ∀ h : Hd, srcEn (fSl (fV 0) (oS (fV 1)) (oS (fC (.int 63)))) [some (.scr ns), some (.d (.int 3)), s2, none, none, none] h = some (.ok (.it (enl (ns.drop 3))) h) := fun s2 h => by
    have e : cutL (ns.map PyData.int) (some 3) (some 63) = (ns.drop 3).map .int := by
      unfold cutL
      show (List.drop (HT.sIx _ 0 (some ((3 : Nat) : Int))) _).take (HT.sIx _ _ (some ((63 : Nat) : Int)) - HT.sIx _ 0 (some ((3 : Nat) : Int))) = _
      rw [HT.sIx_nat, HT.sIx_nat, List.length_map, Nat.min_eq_right hn]
      rcases Nat.le_total 3 ns.length with h | h
      · rw [Nat.min_eq_left h, List.map_drop]
        exact List.take_of_length_le (by rw [List.length_drop, List.length_map]; exact Nat.le_refl _)
      · rw [Nat.min_eq_right h, Nat.sub_self, List.take_zero, List.drop_eq_nil_of_le h]; rfl
    have pe : pures (ns.map fun i => S.d (.int i)) = some (ns.map PyData.int) := by
      have := pures_d (ns.map PyData.int)
      rw [List.map_map] at this
      exact this
    simp [srcEn, fSl, fV, oS, fC, gSl, lstOf, pe, e, enl]
  by_cases h0 : ns = []
  · subst h0
    refine ⟨[0], hcut 1 [.lst [], .lst [.d (.int 0)]] [0] ?_ rfl ?_, by decide⟩
    · intro o ho
      simp only [List.mem_cons, List.not_mem_nil, or_false] at ho
      rcases ho with rfl | rfl
      · exact ⟨[], rfl⟩
      · exact ⟨[.int 0], rfl⟩
    · rfl
  · have hne : ns.take 3 ≠ [] := by
      cases ns with
      | nil => exact absurd rfl h0
      | cons a b => simp
    have q1 : fC1 [some (.scr ns), some (.d (.int 3)), none, none, none, none] [] = some (.ok (.nx [some (.scr ns), some (.d (.int 3)), some (.ref 0), none, none, none]) [.lst (((ns.take 3).map PyData.int).map .d)]) := by
      have ne : (((ns.take 3).map PyData.int).map S.d).isEmpty = false := by
        cases ht : ns.take 3 with
        | nil => exact absurd ht hne
        | cons _ _ => rfl
      unfold fC1
      simp only [sSet, fOr_, fN, aC, sl1, bnd_ok, aN, g1, gListL, seqOf, List.length_nil, List.nil_append, truS, List.getElem?_cons_zero, ne, Bool.not_false]
      rfl
    have hfl : ∀ cs : List Int, Flat [.lst ((cs.map PyData.int).map .d)] := fun cs o ho => ⟨cs.map .int, by simpa using ho⟩
    by_cases h3 : ns.length ≤ 3
    · refine ⟨ns.take 3, hcut 0 [.lst (((ns.take 3).map PyData.int).map .d)] (ns.take 3) (hfl _) rfl ?_, by rw [List.length_take]; omega⟩
      refine mB_rt ?_
      refine (seq_nx q1).trans ?_
      have q2 : fC2 [some (.scr ns), some (.d (.int 3)), some (.ref 0), none, none, none] [.lst (((ns.take 3).map PyData.int).map .d)] = some (.ok (.nx [some (.scr ns), some (.d (.int 3)), some (.ref 0), none, none, none]) [.lst (((ns.take 3).map PyData.int).map .d)]) := by
        refine (for_it (sl2 _ _)).trans ?_
        rw [List.drop_eq_nil_of_le h3]
        rfl
      rw [seq_nx q2]
      rfl
    · have lt : (ns.take 3).length = 3 := by rw [List.length_take]; omega
      obtain ⟨s', h', e2, cs, o3, o4, o5, rfl, rfl, lc⟩ := for_inv (t := tgT 2 (tgsC (tgN 3) (tgsC (tgN 4) tgsN))) (f := fC2b) (fun i s' h' => ∃ (cs : List Int) (o3 o4 o5 : Option S), s' = [some (.scr ns), some (.d (.int 3)), some (.ref 0), o3, o4, o5] ∧ h' = [.lst ((cs.map PyData.int).map .d)] ∧ cs.length = 3) (enl (ns.drop 3)) 0 _ _
        ⟨ns.take 3, none, none, none, rfl, rfl, lt⟩ (fun i x s' h' hx _ ⟨cs, o3, o4, o5, hs, hh, lc⟩ => by
          obtain ⟨k, c, hk, rfl⟩ := enl_mem hx
          rw [List.length_drop] at hk
          subst hs hh
          obtain ⟨cs', e, lc'⟩ := turn_ok (hd := [.lst ((cs.map PyData.int).map .d)]) (ns := ns) (R := 0) (k := k) (c := c) (cs := cs) (o5 := o5) rfl lc (by omega)
          exact ⟨_, rfl, _, _, .inl e, cs', _, _, _, rfl, rfl, lc'⟩)
      refine ⟨cs, hcut 0 _ cs (hfl _) rfl ?_, by omega⟩
      refine mB_rt ?_
      refine (seq_nx q1).trans ?_
      have q2 : fC2 [some (.scr ns), some (.d (.int 3)), some (.ref 0), none, none, none] [.lst (((ns.take 3).map PyData.int).map .d)] = some (.ok (.nx [some (.scr ns), some (.d (.int 3)), some (.ref 0), o3, o4, o5]) [.lst ((cs.map PyData.int).map .d)]) := (for_it (sl2 _ _)).trans e2
      rw [seq_nx q2]
      rfl
theorem cmp_inv2 {vs : List Nat} {t : Tg} {te : FE} {ss : Sd} (I : Nat → Hd → Prop) (P : S → Prop) : ∀ (xs acc : List S) (i : Nat) (hd : Hd), I i hd → (∀ a ∈ acc, P a) →
    (∀ j x hd, x ∈ xs → j < i + xs.length → I j hd → ∃ ss1, t x (wip ss vs) = some ss1 ∧ ∃ y hd2, te ss1 hd = some (.ok y hd2) ∧ P y ∧ I (j + 1) hd2) →
    ∃ ys hd', cmpIt vs t tYesF te xs acc ss hd = some (.ok ys hd') ∧ (∀ y ∈ ys, P y) ∧ I (i + xs.length) hd'
  | [], acc, i, hd, h, ha, _ => ⟨acc, hd, rfl, ha, h⟩
  | x :: xs, acc, i, hd, h, ha, st => by
    obtain ⟨ss1, e1, y, hd2, e2, hy, h2⟩ := st i x hd List.mem_cons_self (by simp) h
    obtain ⟨ys, hd', e3, h3, h4⟩ := cmp_inv2 I P xs (acc ++ [y]) (i + 1) hd2 h2 (fun a h => by
      rcases List.mem_append.mp h with h | h
      · exact ha a h
      · rw [List.mem_singleton.mp h]; exact hy) fun j z h hz hj => st j z h (List.mem_cons_of_mem _ hz) (by simp; omega)
    refine ⟨ys, hd', ?_, h3, by rw [List.length_cons, Nat.add_comm xs.length, ← Nat.add_assoc]; exact h4⟩
    unfold cmpIt tYesF
    simp only [e1, bnd0_ok, if_true, e2]
    exact e3
theorem trues : ∀ {ys : List S}, (∀ y ∈ ys, y = .d (.bool true)) → ys = (ys.map fun _ => PyData.bool true).map S.d
  | [], _ => rfl
  | y :: ys, h => by
    rw [List.map_cons, List.map_cons, ← trues fun z hz => h z (List.mem_cons_of_mem _ hz), h y List.mem_cons_self]
theorem good : Good m_L_law := by
  intro ns hn
  obtain ⟨cs, ec, lc⟩ := cells_ok hn
  have hb : ∀ {hd : Hd} {x y : Int}, Flat hd → Bx 0 hd.length (hd ++ [bO x y 0]) := fun {hd x y} hf => ⟨hf.snoc [.int x, .int y, .int 0], x, y, 0, by simp, by decide, by decide⟩
  obtain ⟨ys, hd', eq, hys, hI⟩ := cmp_inv2 (vs := [2]) (t := tgN 2) (te := fN (ar 1 m_L_right) (aC (fN (ar 2 m_L_box) (aC (fV 1) (aC (fV 2) aN))) aN)) (ss := [some (.scr ns), some (.d (.list (cs.map .int))), none]) (fun i hd => Flat hd ∧ hd.length = i) (fun y => y = .d (.bool true)) (rng cs.length) [] 0 []
    ⟨fun o ho => by simp at ho, rfl⟩ (fun a ha => by simp at ha) (fun i x hd hx hi ⟨hf, hl⟩ => by
      rw [rng_len, Nat.zero_add] at hi
      obtain ⟨k, hk, rfl⟩ := rng_mem hx
      obtain ⟨x, y, e1⟩ := box_ok (hd := hd) hk (by omega)
      obtain ⟨h2, e2, f2', l2⟩ := right_ok (hb (x := x) (y := y) hf) (by rw [List.length_append]; simp; omega)
      refine ⟨_, rfl, .d (.bool true), h2, ?_, rfl, f2', by rw [l2, List.length_append, hl]; rfl⟩
      simp [fN, ar, aC, aN, fV, wip, e1, e2])
  have ez : -4611686018427387904 ≤ (cs.length : Int) ∧ (cs.length : Int) ≤ 16777216 := by omega
  refine ⟨hd'.take 0, cut_ok (h := hd') (hd := []) (mB_rt ?_) hI.1⟩
  refine (seq_nx (s1 := [some (.scr ns), some (.d (.list (cs.map .int))), none]) (h1 := []) ?_).trans ?_
  · simp [stS, sSet, fN, ar, aC, aN, fV, fC, ec]
  · have e3 : fComp [2] (srcR1 (fN (g1 gLen) (aC (fV 1) aN))) (tgN 2) tYesF (fN (ar 1 m_L_right) (aC (fN (ar 2 m_L_box) (aC (fV 1) (aC (fV 2) aN))) aN)) finF [some (.scr ns), some (.d (.list (cs.map .int))), none] [] = some (.ok (.d (.list (ys.map fun _ => PyData.bool true))) hd') := by
      have es : srcR1 (fN (g1 gLen) (aC (fV 1) aN)) [some (.scr ns), some (.d (.list (cs.map .int))), none] [] = some (.ok (.it (rng cs.length)) []) := by
        simp [srcR1, fN, g1, gLen, aC, aN, fV, seqOf, rng]
        omega
      unfold fComp
      rw [es]
      simp only [bnd_ok]
      rw [eq]
      simp only [bnd0_ok, finF]
      rw [trues hys, pures_d]
      simp
    have eb : bools (ys.map fun _ => PyData.bool true) = some (ys.map fun _ => true) := bools_map (fun _ => true) ys
    have ea : (ys.map fun _ => true).all id = true := by rw [List.all_map, List.all_eq_true]; intro _ _; rfl
    simp only [sRet, fN, aC, e3, bnd_ok, aN, g1, gAA, eb, ea]
end K10

open PySem PySem.W PyProof.Rows
set_option maxRecDepth 100000 in
set_option maxHeartbeats 0 in
theorem PySem.Challenge.cw_probed_k10_worlds_or_none_holds : PySem.Challenge.rw_probed_k10_worlds_or_none.Holds := by
  w_on; o_law; k_head; (case hw => w_witness2)
  k_fill
  refine K10.fin_ (l := PySem.Challenge.rw_probed_k10_worlds_or_none) K10.good rfl rfl rfl (fun w h Y => PySem.W.kIn_of Y) ?F
  case F =>
    intro w mg h KX G
    refine' Exists.imp (fun T hT => ⟨_, _, _, _, _, _, hT.1⟩) (K10.mk_ KX G ?a0 ?l0 ?c0 ?k0 ?a1 ?l1 ?c1 ?k1 ?a2 ?l2 ?c2 ?k2 ?a3 ?l3 ?c3 ?k3 ?a4 ?l4 ?c4 ?k4 ?a5 ?l5 ?c5 ?k5 ?a6 ?l6 ?c6 ?k6 ?a7 ?l7 ?c7 ?k7 ?a8 ?l8 ?c8 ?k8 ?a9 ?l9 ?c9 ?k9 ?a10 ?l10 ?c10 ?k10 ?a11 ?l11 ?c11 ?k11 ?a12 ?l12 ?c12 ?k12 ?a13 ?l13 ?c13 ?k13 ?a14 ?l14 ?c14 ?k14 ?a15 ?l15 ?c15 ?k15 ?a16 ?l16 ?c16 ?k16 ?a17 ?l17 ?c17 ?k17 ?a18 ?l18 ?c18 ?k18 ?a19 ?l19 ?c19 ?k19 ?a20 ?l20 ?c20 ?k20 ?a21 ?l21 ?c21 ?k21 ?a22 ?l22 ?c22 ?k22 ?a23 ?l23 ?c23 ?k23 ?z_abs ?z_all ?z_bool ?z_dict ?z_enumerate ?z_int ?z_isinstance ?z_len ?z_list ?z_min ?z_range ?z_repr ?z_set ?z_sorted ?z_str ?z_tuple ?z_zip ?g_DEVICE ?g_LETTERS ?g_LONGEST ?g_WISH)
    (case a0 => k_is); (case l0 => k_is); (case c0 => k_is); (case k0 => k_is)
    (case a1 => k_is); (case l1 => k_is); (case c1 => k_is); (case k1 => k_is)
    (case a2 => k_is); (case l2 => k_is); (case c2 => k_is); (case k2 => k_is)
    (case a3 => k_is); (case l3 => k_is); (case c3 => k_is); (case k3 => k_is)
    (case a4 => k_is); (case l4 => k_is); (case c4 => k_is); (case k4 => k_is)
    (case a5 => k_is); (case l5 => k_is); (case c5 => k_is); (case k5 => k_is)
    (case a6 => k_is); (case l6 => k_is); (case c6 => k_is); (case k6 => k_is)
    (case a7 => k_is); (case l7 => k_is); (case c7 => k_is); (case k7 => k_is)
    (case a8 => k_is); (case l8 => k_is); (case c8 => k_is); (case k8 => k_is)
    (case a9 => k_is); (case l9 => k_is); (case c9 => k_is); (case k9 => k_is)
    (case a10 => k_is); (case l10 => k_is); (case c10 => k_is); (case k10 => k_is)
    (case a11 => k_is); (case l11 => k_is); (case c11 => k_is); (case k11 => k_is)
    (case a12 => k_is); (case l12 => k_is); (case c12 => k_is); (case k12 => k_is)
    (case a13 => k_is); (case l13 => k_is); (case c13 => k_is); (case k13 => k_is)
    (case a14 => k_is); (case l14 => k_is); (case c14 => k_is); (case k14 => k_is)
    (case a15 => k_is); (case l15 => k_is); (case c15 => k_is); (case k15 => k_is)
    (case a16 => k_is); (case l16 => k_is); (case c16 => k_is); (case k16 => k_is)
    (case a17 => k_is); (case l17 => k_is); (case c17 => k_is); (case k17 => k_is)
    (case a18 => k_is); (case l18 => k_is); (case c18 => k_is); (case k18 => k_is)
    (case a19 => k_is); (case l19 => k_is); (case c19 => k_is); (case k19 => k_is)
    (case a20 => k_is); (case l20 => k_is); (case c20 => k_is); (case k20 => k_is)
    (case a21 => k_is); (case l21 => k_is); (case c21 => k_is); (case k21 => k_is)
    (case a22 => k_is); (case l22 => k_is); (case c22 => k_is); (case k22 => k_is)
    (case a23 => k_is); (case l23 => k_is); (case c23 => k_is); (case k23 => k_is)
    (case z_abs => k_is)
    (case z_all => k_is)
    (case z_bool => k_is)
    (case z_dict => k_is)
    (case z_enumerate => k_is)
    (case z_int => k_is)
    (case z_isinstance => k_is)
    (case z_len => k_is)
    (case z_list => k_is)
    (case z_min => k_is)
    (case z_range => k_is)
    (case z_repr => k_is)
    (case z_set => k_is)
    (case z_sorted => k_is)
    (case z_str => k_is)
    (case z_tuple => k_is)
    (case z_zip => k_is)
    (case g_DEVICE => k_is)
    (case g_LETTERS => k_is)
    (case g_LONGEST => k_is)
    (case g_WISH => k_is)
