import PyProof.Rows.All
import Wide.All
import OpenK.AllK
import Wide.FinOn
import HandS.ForMost
import HandS.IsInst
import HandS.Wide
import HandS.Conv
import HandS.Walk
import HandS.Exc
import HandS.Flow
import HandS.TupAny
import HandS.Zip
import HandS.Ends
import HandS.Words
import KE.SortData
import HandS.Small
import PySem.Challenge.RW_siegeworks_k82_whole_hours_and_hides
set_option Elab.async false
set_option linter.all false
set_option maxRecDepth 100000
set_option maxHeartbeats 4000000
set_option autoImplicit false
section
/-! SL: a layer of plain values over the hand layer -/
namespace SL
open PySem PySem.Spec PyProof.Rows L2
abbrev Fg := PySem.W.Frag

inductive PV where
  | non | bl (b : Bool) | int (i : Int) | str (x : Str) | ty (n : String) | hand
  | tup (l : List PV) | lst (l : List PV) | scr (l : List Int)
  | dK (l : List (Key × PV)) | dT (l : List (List Key × PV))
instance : Inhabited PV := ⟨.non⟩
inductive Er where
  | stuck | exc (c : Str)
abbrev HS := List PV
abbrev M := StateT HS (Except Er)
def stuck {α : Type} : M α := fun _ => .error .stuck
def liftO {α : Type} : Option α → M α
  | some a => pure a
  | none => stuck
theorem M.bind_ok {α β : Type} {x : M α} {f : α → M β} {h : HS} {r : β × HS} (e : (x >>= f) h = .ok r) : ∃ a h1, x h = .ok (a, h1) ∧ f a h1 = .ok r := by
  have e : (Except.bind (x h) fun p => f p.1 p.2) = .ok r := e
  cases q : x h with
  | error z => rw [q] at e; cases e
  | ok p => rw [q] at e; exact ⟨p.1, p.2, rfl, e⟩
theorem M.pure_ok {α : Type} {a : α} {h : HS} {r : α × HS} (e : (pure a : M α) h = .ok r) : r = (a, h) := by
  have e : Except.ok (a, h) = .ok r := e
  cases e; rfl
theorem M.stuck_ok {α : Type} {h : HS} {r : α × HS} (e : (stuck : M α) h = .ok r) : False := by cases e
theorem M.lift_ok {α : Type} {o : Option α} {h : HS} {r : α × HS} (e : (liftO o : M α) h = .ok r) : o = some r.1 ∧ r.2 = h := by
  cases o with
  | none => cases e
  | some a => have := M.pure_ok e; subst this; exact ⟨rfl, rfl⟩

/-! ### values in the heap -/
/-- the script: a list of ints that nobody changes -/
def SqS (K : Fg) (F : Addr → Prop) (H : Hp) (a : Addr) (xs : List V) : Prop :=
  (F a ∧ H a = some (.lst xs)) ∨ (∃ o, H a = some (.frz o (.lst xs))) ∨
    ∃ (o : Obj) (its : Array Value) (n : Nat), K.lookup a = some o ∧ o.cls = .type "list" ∧ o.dict = none ∧ o.data = .seq its n ∧ its.size ≤ sizeLine ∧ Vals xs its.toList
theorem SqS.l {K : Fg} {F : Addr → Prop} {H : Hp} {a : Addr} {xs : List V} (h : SqS K F H a xs) : SqL K H a xs := by
  rcases h with h | h | h
  · exact .inl (.inl h.2)
  · exact .inl (.inr h)
  · exact .inr h
section
variable (K : Fg) (ah : Option Addr) (F : Addr → Prop) (H : Hp)
mutual
inductive Rep : V → PV → Prop
  | non : Rep .non .non
  | bl (b : Bool) : Rep (.bl b) (.bl b)
  | int (i : Int) : Rep (.int i) (.int i)
  | str (x : Str) : Rep (.str x) (.str x)
  | ty (n : String) : Rep (.ty n) (.ty n)
  | hand {a : Addr} : ah = some a → Rep (.ref a) .hand
  | tup {a : Addr} {vs : List V} {ps : List PV} : H a = some (.tup vs) → vs.length ≤ sizeLine → Reps vs ps → Rep (.ref a) (.tup ps)
  | lst {a : Addr} {vs : List V} {ps : List PV} : F a → H a = some (.lst vs) → vs.length ≤ sizeLine → Reps vs ps → Rep (.ref a) (.lst ps)
  | scr {a : Addr} {ns : List Int} : SqS K F H a (ns.map V.int) → ns.length ≤ sizeLine → Rep (.ref a) (.scr ns)
  | dK {a : Addr} {kvs : List (Key × V)} {ps : List (Key × PV)} : F a → H a = some (.dK kvs) → kvs.length ≤ sizeLine → kvs.map (·.1) = ps.map (·.1) → Reps (kvs.map (·.2)) (ps.map (·.2)) → Rep (.ref a) (.dK ps)
  | dT {a : Addr} {kvs : List (List Key × V)} {ps : List (List Key × PV)} : F a → H a = some (.dT kvs) → kvs.length ≤ sizeLine → kvs.map (·.1) = ps.map (·.1) → Reps (kvs.map (·.2)) (ps.map (·.2)) → Rep (.ref a) (.dT ps)
inductive Reps : List V → List PV → Prop
  | nil : Reps [] []
  | cons {v : V} {p : PV} {vs : List V} {ps : List PV} : Rep v p → Reps vs ps → Reps (v :: vs) (p :: ps)
end
end

/-- what is frozen, and all tuples, stand -/
structure Kp (K : Fg) (F : Addr → Prop) (H : Hp) (F' : Addr → Prop) (H' : Hp) : Prop where
  mono : ∀ a, F a → F' a
  keep : ∀ a o, F a → H a = some o → H' a = some o
  tup : ∀ a xs, H a = some (.tup xs) → H' a = some (.tup xs)
  frz : ∀ a o u, H a = some (.frz o u) → H' a = some (.frz o u)
section
variable {K : Fg} {ah : Option Addr} {F F' F'' : Addr → Prop} {H H' H'' : Hp}
theorem Kp.refl : Kp K F H F H := ⟨fun _ h => h, fun _ _ _ h => h, fun _ _ h => h, fun _ _ _ h => h⟩
theorem Kp.trans (a : Kp K F H F' H') (b : Kp K F' H' F'' H'') : Kp K F H F'' H'' :=
  ⟨fun x h => b.mono x (a.mono x h), fun x o f h => b.keep x o (a.mono x f) (a.keep x o f h), fun x xs h => b.tup x xs (a.tup x xs h), fun x o u h => b.frz x o u (a.frz x o u h)⟩
theorem Kp.scr (k : Kp K F H F' H') {a : Addr} {xs : List V} (h : SqS K F H a xs) : SqS K F' H' a xs := by
  rcases h with h | ⟨o, h⟩ | h
  · exact .inl ⟨k.mono _ h.1, k.keep _ _ h.1 h.2⟩
  · exact .inr (.inl ⟨o, k.frz _ _ _ h⟩)
  · exact .inr (.inr h)
mutual
theorem Rep.mono (k : Kp K F H F' H') : ∀ {v : V} {p : PV}, Rep K ah F H v p → Rep K ah F' H' v p
  | _, _, .non => .non
  | _, _, .bl b => .bl b
  | _, _, .int i => .int i
  | _, _, .str x => .str x
  | _, _, .ty n => .ty n
  | _, _, .hand e => .hand e
  | _, _, .tup h z r => .tup (k.tup _ _ h) z (Reps.mono k r)
  | _, _, .lst f h z r => .lst (k.mono _ f) (k.keep _ _ f h) z (Reps.mono k r)
  | _, _, .scr h z => .scr (k.scr h) z
  | _, _, .dK f h z e r => .dK (k.mono _ f) (k.keep _ _ f h) z e (Reps.mono k r)
  | _, _, .dT f h z e r => .dT (k.mono _ f) (k.keep _ _ f h) z e (Reps.mono k r)
theorem Reps.mono (k : Kp K F H F' H') : ∀ {vs : List V} {ps : List PV}, Reps K ah F H vs ps → Reps K ah F' H' vs ps
  | _, _, .nil => .nil
  | _, _, .cons r t => .cons (Rep.mono k r) (Reps.mono k t)
end
theorem Reps.length : ∀ {vs : List V} {ps : List PV}, Reps K ah F H vs ps → vs.length = ps.length
  | _, _, .nil => rfl
  | _, _, .cons _ t => congrArg (· + 1) (Reps.length t)
theorem Reps.get : ∀ {vs : List V} {ps : List PV} {i : Nat} {p : PV}, Reps K ah F H vs ps → ps[i]? = some p → ∃ v, vs[i]? = some v ∧ Rep K ah F H v p
  | _, _, _, _, .nil, e => by simp at e
  | _, _, 0, _, .cons r _, e => by simp at e; subst e; exact ⟨_, rfl, r⟩
  | _, _, i + 1, p, .cons _ t, e => by
    obtain ⟨v, h1, h2⟩ := Reps.get (i := i) (p := p) t (by simpa using e)
    exact ⟨v, by simpa using h1, h2⟩
theorem Reps.getV : ∀ {vs : List V} {ps : List PV} {i : Nat} {v : V}, Reps K ah F H vs ps → vs[i]? = some v → ∃ p, ps[i]? = some p ∧ Rep K ah F H v p
  | _, _, _, _, .nil, e => by simp at e
  | _, _, 0, _, .cons r _, e => by simp at e; subst e; exact ⟨_, rfl, r⟩
  | _, _, i + 1, v, .cons _ t, e => by
    obtain ⟨p, h1, h2⟩ := Reps.getV (i := i) (v := v) t (by simpa using e)
    exact ⟨p, by simpa using h1, h2⟩
theorem Reps.append : ∀ {vs ws : List V} {ps qs : List PV}, Reps K ah F H vs ps → Reps K ah F H ws qs → Reps K ah F H (vs ++ ws) (ps ++ qs)
  | _, _, _, _, .nil, s => s
  | _, _, _, _, .cons r t, s => .cons r (Reps.append t s)
theorem Reps.take : ∀ {vs : List V} {ps : List PV} (n : Nat), Reps K ah F H vs ps → Reps K ah F H (vs.take n) (ps.take n)
  | _, _, 0, _ => .nil
  | _, _, _ + 1, .nil => .nil
  | _, _, n + 1, .cons r t => .cons r (Reps.take n t)
theorem Reps.drop : ∀ {vs : List V} {ps : List PV} (n : Nat), Reps K ah F H vs ps → Reps K ah F H (vs.drop n) (ps.drop n)
  | _, _, 0, r => r
  | _, _, _ + 1, .nil => .nil
  | _, _, n + 1, .cons _ t => Reps.drop n t
theorem Reps.set {x : V} {q : PV} (r : Rep K ah F H x q) : ∀ {vs : List V} {ps : List PV} (i : Nat), Reps K ah F H vs ps → Reps K ah F H (vs.set i x) (ps.set i q)
  | _, _, _, .nil => .nil
  | _, _, 0, .cons _ t => .cons r t
  | _, _, i + 1, .cons z t => .cons z (Reps.set r i t)
theorem Reps.ints : ∀ (ns : List Int), Reps K ah F H (ns.map V.int) (ns.map PV.int)
  | [] => .nil
  | n :: r => .cons (.int n) (Reps.ints r)
theorem Reps.dropLast {vs : List V} {ps : List PV} (r : Reps K ah F H vs ps) : Reps K ah F H vs.dropLast ps.dropLast := by
  rw [List.dropLast_eq_take, List.dropLast_eq_take, r.length]
  exact r.take _
theorem Reps.erase : ∀ {vs : List V} {ps : List PV} (i : Nat), Reps K ah F H vs ps → Reps K ah F H (vs.eraseIdx i) (ps.eraseIdx i)
  | _, _, _, .nil => .nil
  | _, _, 0, .cons _ t => t
  | _, _, i + 1, .cons z t => .cons z (Reps.erase i t)
theorem Reps.reverse {vs : List V} {ps : List PV} (r : Reps K ah F H vs ps) : Reps K ah F H vs.reverse ps.reverse := by
  induction r using Reps.rec (motive_1 := fun _ _ _ => True) with
  | nil => exact .nil
  | cons r t _ ih => rw [List.reverse_cons, List.reverse_cons]; exact Reps.append ih (.cons r .nil)
  | _ => trivial
end

/-! ### the law's hand -/
structure GI (K : Fg) (ah : Option Addr) (F : Addr → Prop) (H : Hp) (hs : HS) : Prop where
  fin : ∀ a, F a → H a ≠ none
  at_ : ∀ a, ah = some a → ¬ F a ∧ ∃ vs, H a = some (.lst vs) ∧ vs.length ≤ sizeLine ∧ Reps K ah F H vs hs
/-- an expression's step: the frozen grows by new things alone, all but the hand stands -/
structure Ext (K : Fg) (ah : Option Addr) (F : Addr → Prop) (H : Hp) (F' : Addr → Prop) (H' : Hp) : Prop where
  mono : ∀ a, F a → F' a
  new : ∀ a, F' a → F a ∨ H a = none
  keep : ∀ a o, ah ≠ some a → H a = some o → H' a = some o
section
variable {K : Fg} {ah : Option Addr} {F F' F'' : Addr → Prop} {H H' H'' : Hp} {hs : HS}
theorem GI.kp (g : GI K ah F H hs) (e : Ext K ah F H F' H') : Kp K F H F' H' := by
  refine ⟨e.mono, fun a o f h => e.keep a o (fun z => (g.at_ a z).1 f) h, fun a xs h => e.keep a _ (fun z => by
    obtain ⟨_, vs, r, _⟩ := g.at_ a z
    rw [h] at r; cases r) h, fun a o u h => e.keep a _ (fun z => by
    obtain ⟨_, vs, r, _⟩ := g.at_ a z
    rw [h] at r; cases r) h⟩
theorem Ext.refl : Ext K ah F H F H := ⟨fun _ h => h, fun _ h => .inl h, fun _ _ _ h => h⟩
theorem Ext.free (g : GI K ah F H hs) (e : Ext K ah F H F' H') {a : Addr} (h : H' a = none) (n : ah ≠ some a) : H a = none := by
  cases q : H a with
  | none => rfl
  | some o => rw [e.keep a o n q] at h; cases h
theorem Ext.trans {hs1 : HS} (g : GI K ah F H hs) (g' : GI K ah F' H' hs1) (a : Ext K ah F H F' H') (b : Ext K ah F' H' F'' H'') : Ext K ah F H F'' H'' := by
  refine ⟨fun x h => b.mono x (a.mono x h), fun x h => ?_, fun x o n h => b.keep x o n (a.keep x o n h)⟩
  rcases b.new x h with h | h
  · exact a.new x h
  · refine .inr (a.free g h fun z => ?_)
    obtain ⟨_, vs, r, _⟩ := g'.at_ x z
    rw [h] at r; cases r
/-- a new object laid, not frozen -/
theorem Ext.laid {p : Addr} {o : HO} (n : H p = none) : Ext K ah F H F (upd H p o) :=
  ⟨fun _ h => h, fun _ h => .inl h, fun a u _ h => by rw [upd_ne (ne_of_none h n)]; exact h⟩
/-- .. and frozen -/
theorem Ext.laidF {p : Addr} {o : HO} (n : H p = none) : Ext K ah F H (fun a => F a ∨ a = p) (upd H p o) :=
  ⟨fun _ h => .inl h, fun a h => h.elim .inl (fun e => .inr (e ▸ n)), fun a u _ h => by rw [upd_ne (ne_of_none h n)]; exact h⟩
theorem GI.kpL (g : GI K ah F H hs) {p : Addr} {o : HO} (n : H p = none) : Kp K F H F (upd H p o) := g.kp (Ext.laid n)
theorem GI.kpF (g : GI K ah F H hs) {p : Addr} {o : HO} (n : H p = none) : Kp K F H (fun a => F a ∨ a = p) (upd H p o) := g.kp (Ext.laidF n)
theorem GI.ne (g : GI K ah F H hs) {p : Addr} (n : H p = none) : ah ≠ some p := fun z => by
  obtain ⟨_, vs, r, _⟩ := g.at_ p z
  rw [n] at r; cases r
theorem GI.nf (g : GI K ah F H hs) {p : Addr} (n : H p = none) : ¬ F p := fun f => g.fin p f n
/-- an own thing frozen -/
theorem GI.frz (g : GI K ah F H hs) {a : Addr} {o : HO} (h : H a = some o) (n : ah ≠ some a) : GI K ah (fun b => F b ∨ b = a) H hs := by
  refine ⟨fun b f z => ?_, fun b e => ?_⟩
  · rcases f with f | f
    · exact g.fin b f z
    · rw [f, h] at z; cases z
  · obtain ⟨f, vs, h, z, r⟩ := g.at_ b e
    exact ⟨fun q => q.elim f fun q => n (q ▸ e), vs, h, z, r.mono ⟨fun _ h => .inl h, fun _ _ _ h => h, fun _ _ h => h, fun _ _ _ h => h⟩⟩
theorem GI.laid (g : GI K ah F H hs) {p : Addr} {o : HO} (n : H p = none) : GI K ah F (upd H p o) hs := by
  refine ⟨fun a f z => ?_, fun a e => ?_⟩
  · by_cases q : a = p
    · rw [q, upd_same] at z; cases z
    · rw [upd_ne q] at z; exact g.fin a f z
  · obtain ⟨f, vs, h, z, r⟩ := g.at_ a e
    exact ⟨f, vs, by rw [upd_ne (ne_of_none h n)]; exact h, z, r.mono (g.kpL n)⟩
end

/-! ### slots -/
inductive Slot where
  | un | fz (p : PV) | ow (p : PV)
abbrev Ev := List Slot
section
variable (K : Fg) (ah : Option Addr) (F : Addr → Prop) (H : Hp)
/-- a mutable thing of this frame's own -/
inductive Own (a : Addr) : PV → Prop
  | lst {vs : List V} {ps : List PV} : H a = some (.lst vs) → vs.length ≤ sizeLine → Reps K ah F H vs ps → Own a (.lst ps)
  | dK {kvs : List (Key × V)} {ps : List (Key × PV)} : H a = some (.dK kvs) → kvs.length ≤ sizeLine → kvs.map (·.1) = ps.map (·.1) → Reps K ah F H (kvs.map (·.2)) (ps.map (·.2)) → Own a (.dK ps)
  | dT {kvs : List (List Key × V)} {ps : List (List Key × PV)} : H a = some (.dT kvs) → kvs.length ≤ sizeLine → kvs.map (·.1) = ps.map (·.1) → Reps K ah F H (kvs.map (·.2)) (ps.map (·.2)) → Own a (.dT ps)
inductive SlotRep (N : Addr → Prop) : Option (Option V) → Slot → Prop
  | un (v : Option (Option V)) : SlotRep N v .un
  | fz {v : V} {p : PV} : Rep K ah F H v p → SlotRep N (some (some v)) (.fz p)
  | ow {a : Addr} {p : PV} : ¬ F a → ah ≠ some a → N a → Own K ah F H a p → SlotRep N (some (some (.ref a))) (.ow p)
/-- N: what an own thing's address is to be (new since the entry) -/
structure ER (N : Addr → Prop) (σ : L2.St) (ρ : Ev) : Prop where
  at_ : ∀ (i : Nat) (s : Slot), ρ[i]? = some s → SlotRep K ah F H N σ[i]? s
  apart : ∀ (i j : Nat) (p q : PV), i ≠ j → ρ[i]? = some (.ow p) → ρ[j]? = some (.ow q) → σ[i]? ≠ σ[j]?
  len : ρ.length = σ.length
end
section
variable {K : Fg} {ah : Option Addr} {F F' F'' : Addr → Prop} {H H' H'' : Hp} {hs : HS} {N : Addr → Prop} {σ : L2.St} {ρ : Ev} {a : Addr} {p : PV}
theorem Own.there (o : Own K ah F H a p) : ∃ u, H a = some u := by cases o <;> exact ⟨_, by assumption⟩
theorem Own.ext (g : GI K ah F H hs) (e : Ext K ah F H F' H') (n : ah ≠ some a) (o : Own K ah F H a p) : Own K ah F' H' a p := by
  cases o with
  | lst h z r => exact .lst (e.keep _ _ n h) z (r.mono (g.kp e))
  | dK h z k r => exact .dK (e.keep _ _ n h) z k (r.mono (g.kp e))
  | dT h z k r => exact .dT (e.keep _ _ n h) z k (r.mono (g.kp e))
theorem SlotRep.ext {v : Option (Option V)} {s : Slot} (g : GI K ah F H hs) (e : Ext K ah F H F' H') (r : SlotRep K ah F H N v s) : SlotRep K ah F' H' N v s := by
  cases r with
  | un => exact .un _
  | fz r => exact .fz (r.mono (g.kp e))
  | ow f n k o =>
    refine .ow (fun z => ?_) n k (o.ext g e n)
    rcases e.new _ z with z | z
    · exact f z
    · obtain ⟨u, h⟩ := o.there
      rw [z] at h; cases h
theorem ER.ext (g : GI K ah F H hs) (e : Ext K ah F H F' H') (r : ER K ah F H N σ ρ) : ER K ah F' H' N σ ρ := ⟨fun i s h => (r.at_ i s h).ext g e, r.apart, r.len⟩
theorem ER.get {i : Nat} {p : PV} (r : ER K ah F H N σ ρ) (h : ρ[i]? = some (.fz p)) : ∃ v, σ[i]? = some (some v) ∧ Rep K ah F H v p := by
  generalize e : σ[i]? = x
  have q := r.at_ i _ h
  rw [e] at q
  cases q with
  | fz r => exact ⟨_, rfl, r⟩
theorem ER.own {i : Nat} {p : PV} (r : ER K ah F H N σ ρ) (h : ρ[i]? = some (.ow p)) : ∃ a, σ[i]? = some (some (.ref a)) ∧ ¬ F a ∧ ah ≠ some a ∧ N a ∧ Own K ah F H a p := by
  generalize e : σ[i]? = x
  have q := r.at_ i _ h
  rw [e] at q
  cases q with
  | ow f n k o => exact ⟨_, rfl, f, n, k, o⟩
theorem ER.set {i : Nat} {v : V} {s : Slot} (r : ER K ah F H N σ ρ) (h : SlotRep K ah F H N (some (some v)) s) (d : ∀ q, s = .ow q → ∀ j t, j ≠ i → ρ[j]? = some (.ow t) → σ[j]? ≠ some (some v)) : ER K ah F H N (σ.set i (some v)) (ρ.set i s) := by
  by_cases hi : i < σ.length
  · have hi' : i < ρ.length := by rw [r.len]; exact hi
    refine ⟨fun j t e => ?_, fun j k p q ne e1 e2 => ?_, by rw [List.length_set, List.length_set]; exact r.len⟩
    · by_cases hj : i = j
      · subst hj
        rw [List.getElem?_set_self hi'] at e
        rw [List.getElem?_set_self hi]
        cases e; exact h
      · rw [List.getElem?_set_ne hj] at e ⊢
        exact r.at_ j t e
    · by_cases hj : i = j
      · subst hj
        rw [List.getElem?_set_self hi'] at e1
        rw [List.getElem?_set_ne ne] at e2
        rw [List.getElem?_set_self hi, List.getElem?_set_ne ne]
        cases e1
        exact (d _ rfl k q (Ne.symm ne) e2).symm
      · rw [List.getElem?_set_ne hj] at e1
        rw [List.getElem?_set_ne hj]
        by_cases hk : i = k
        · subst hk
          rw [List.getElem?_set_self hi'] at e2
          rw [List.getElem?_set_self hi]
          cases e2
          exact d _ rfl j p ne e1
        · rw [List.getElem?_set_ne hk] at e2
          rw [List.getElem?_set_ne hk]
          exact r.apart j k p q ne e1 e2
  · have e1 : σ.set i (some v) = σ := List.set_eq_of_length_le (by omega)
    have e2 : ρ.set i s = ρ := List.set_eq_of_length_le (by rw [r.len]; omega)
    rw [e1, e2]; exact r
theorem ER.setF {i : Nat} {v : V} {p : PV} (r : ER K ah F H N σ ρ) (h : Rep K ah F H v p) : ER K ah F H N (σ.set i (some v)) (ρ.set i (.fz p)) := r.set (.fz h) fun _ z => by cases z
theorem ER.unset {i : Nat} (r : ER K ah F H N σ ρ) : ER K ah F H N (σ.set i none) (ρ.set i .un) := by
  by_cases hi : i < σ.length
  · have hi' : i < ρ.length := by rw [r.len]; exact hi
    refine ⟨fun j t e => ?_, fun j k p q ne e1 e2 => ?_, by rw [List.length_set, List.length_set]; exact r.len⟩
    · by_cases hj : i = j
      · subst hj
        rw [List.getElem?_set_self hi'] at e
        cases e; exact .un _
      · rw [List.getElem?_set_ne hj] at e ⊢
        exact r.at_ j t e
    · by_cases hj : i = j
      · subst hj
        rw [List.getElem?_set_self hi'] at e1
        cases e1
      · by_cases hk : i = k
        · subst hk
          rw [List.getElem?_set_self hi'] at e2
          cases e2
        · rw [List.getElem?_set_ne hj] at e1
          rw [List.getElem?_set_ne hk] at e2
          rw [List.getElem?_set_ne hj, List.getElem?_set_ne hk]
          exact r.apart j k p q ne e1 e2
  · have e1 : σ.set i none = σ := List.set_eq_of_length_le (by omega)
    have e2 : ρ.set i .un = ρ := List.set_eq_of_length_le (by rw [r.len]; omega)
    rw [e1, e2]; exact r
/-- the frozen things, as an expression leaves them: an own thing frozen -/
theorem Ext.frz (n : H a = none) : Ext K ah F H (fun b => F b ∨ b = a) H := ⟨fun _ h => .inl h, fun b h => h.elim .inl fun e => .inr (e ▸ n), fun _ _ _ h => h⟩
def wipeE (ρ : Ev) : List Nat → Ev
  | [] => ρ
  | v :: vs => (wipeE ρ vs).set v .un
theorem ER.wipe (r : ER K ah F H N σ ρ) : ∀ vs : List Nat, ER K ah F H N (L2.wipe σ vs) (wipeE ρ vs)
  | [] => r
  | v :: vs => (ER.wipe r vs).unset
theorem Kp.frzn : Kp K F H (fun b => F b ∨ b = a) H := ⟨fun _ h => .inl h, fun _ _ _ h => h, fun _ _ h => h, fun _ _ _ h => h⟩
/-- an own thing that is frozen now -/
theorem Own.frzn (o : Own K ah F H a p) : Rep K ah (fun b => F b ∨ b = a) H (.ref a) p := by
  cases o with
  | lst h z r => exact .lst (.inr rfl) h z (r.mono .frzn)
  | dK h z k r => exact .dK (.inr rfl) h z k (r.mono .frzn)
  | dT h z k r => exact .dT (.inr rfl) h z k (r.mono .frzn)
theorem Rep.own {v : V} (f : F a) (o : Own K ah F H a p) : Rep K ah F H (.ref a) p := by
  cases o with
  | lst h z r => exact .lst f h z r
  | dK h z k r => exact .dK f h z k r
  | dT h z k r => exact .dT f h z k r
end
end SL

end
section
namespace SL
open PySem PySem.Spec PyProof.Rows L2
/-! ### judgements -/
abbrev EM := Ev → M PV
/-- what an own thing's address is to be: new since the entry -/
def tS (K : Fg) (g : EM) : TE := fun σ H Q => ∃ ah F N ρ hs p hs', GI K ah F H hs ∧ ER K ah F H N σ ρ ∧ g ρ hs = .ok (p, hs') ∧
  ∀ F' H' v, Ext K ah F H F' H' → GI K ah F' H' hs' → Rep K ah F' H' v p → Q v H'
/-- read where it stands, an own thing not frozen -/
def RepB (K : Fg) (ah : Option Addr) (F : Addr → Prop) (H : Hp) (σ : L2.St) (ρ : Ev) (v : V) (p : PV) : Prop := Rep K ah F H v p ∨ ∃ i : Nat, ρ[i]? = some (.ow p) ∧ σ[i]? = some (some v)
def tSB (K : Fg) (g : EM) : TE := fun σ H Q => ∃ ah F N ρ hs p hs', GI K ah F H hs ∧ ER K ah F H N σ ρ ∧ g ρ hs = .ok (p, hs') ∧
  ∀ F' H' v, Ext K ah F H F' H' → GI K ah F' H' hs' → RepB K ah F' H' σ ρ v p → Q v H'
/-- a new thing, not frozen -/
def tSF (K : Fg) (g : EM) : TE := fun σ H Q => ∃ ah F N ρ hs p hs', GI K ah F H hs ∧ ER K ah F H N σ ρ ∧ g ρ hs = .ok (p, hs') ∧
  ∀ F' H' a, Ext K ah F H F' H' → GI K ah F' H' hs' → H a = none → ¬ F' a → Own K ah F' H' a p → Q (.ref a) H'
def tST (K : Fg) (g : Ev → M Bool) : TT := fun σ H Q => ∃ ah F N ρ hs p hs', GI K ah F H hs ∧ ER K ah F H N σ ρ ∧ g ρ hs = .ok (p, hs') ∧
  ∀ F' H', Ext K ah F H F' H' → GI K ah F' H' hs' → Q p H'
def tSA (K : Fg) (g : Ev → M (List PV)) : TA := fun σ H Q => ∃ ah F N ρ hs p hs', GI K ah F H hs ∧ ER K ah F H N σ ρ ∧ g ρ hs = .ok (p, hs') ∧
  ∀ F' H' v, Ext K ah F H F' H' → GI K ah F' H' hs' → Reps K ah F' H' v p → Q v H'
/-- arguments read where they stand -/
inductive RepsB (K : Fg) (ah : Option Addr) (F : Addr → Prop) (H : Hp) (σ : L2.St) (ρ : Ev) : List V → List PV → Prop
  | nil : RepsB K ah F H σ ρ [] []
  | cons {v : V} {p : PV} {vs : List V} {ps : List PV} : RepB K ah F H σ ρ v p → RepsB K ah F H σ ρ vs ps → RepsB K ah F H σ ρ (v :: vs) (p :: ps)
def tSAB (K : Fg) (g : Ev → M (List PV)) : TA := fun σ H Q => ∃ ah F N ρ hs p hs', GI K ah F H hs ∧ ER K ah F H N σ ρ ∧ g ρ hs = .ok (p, hs') ∧
  ∀ F' H' v, Ext K ah F H F' H' → GI K ah F' H' hs' → RepsB K ah F' H' σ ρ v p → Q v H'
abbrev SE (X : Cx) (e : Expr) (g : EM) : Prop := PE X e (tS X.K g)
abbrev SB (X : Cx) (e : Expr) (g : EM) : Prop := PE X e (tSB X.K g)
abbrev SF (X : Cx) (e : Expr) (g : EM) : Prop := PE X e (tSF X.K g)
abbrev ST (X : Cx) (e : Expr) (g : Ev → M Bool) : Prop := PT X e (tST X.K g)
abbrev SA (X : Cx) (es : List Expr) (g : Ev → M (List PV)) : Prop := PA X es (tSA X.K g)
abbrev SAB (X : Cx) (es : List Expr) (g : Ev → M (List PV)) : Prop := PA X es (tSAB X.K g)

theorem PE.wk {X : Cx} {e : Expr} {t u : TE} (h : PE X e t) (w : ∀ σ H Q, u σ H Q → t σ H Q) : PE X e u := ⟨fun pins s σ H Q I q => h.run pins s σ H Q I (w σ H Q q)⟩
theorem PT.wk {X : Cx} {e : Expr} {t u : TT} (h : PT X e t) (w : ∀ σ H Q, u σ H Q → t σ H Q) : PT X e u := ⟨fun pins s σ H Q I q => h.run pins s σ H Q I (w σ H Q q)⟩
theorem PA.wk {X : Cx} {e : List Expr} {t u : TA} (h : PA X e t) (w : ∀ σ H Q, u σ H Q → t σ H Q) : PA X e u := ⟨fun pos pins s σ H Q I q => h.run pos pins s σ H Q I (w σ H Q q)⟩

/-- the content of a thing that is read -/
inductive Con (K : Fg) (ah : Option Addr) (F : Addr → Prop) (H : Hp) : V → PV → Prop
  | rep {v : V} {p : PV} : Rep K ah F H v p → Con K ah F H v p
  | own {a : Addr} {p : PV} : Own K ah F H a p → Con K ah F H (.ref a) p
section
variable {K : Fg} {ah : Option Addr} {F F' F'' : Addr → Prop} {H H' H'' : Hp} {hs : HS} {N : Addr → Prop} {σ : L2.St} {ρ : Ev} {a : Addr} {p : PV} {v : V} {vs : List V} {ps : List PV}
theorem RepB.con (E : ER K ah F H N σ ρ) (r : RepB K ah F H σ ρ v p) : Con K ah F H v p := by
  rcases r with r | ⟨i, h1, h2⟩
  · exact .rep r
  · obtain ⟨a, e, _, _, _, o⟩ := E.own h1
    rw [h2] at e; cases e
    exact .own o
theorem RepB.ext (g : GI K ah F H hs) (e : Ext K ah F H F' H') (r : RepB K ah F H σ ρ v p) : RepB K ah F' H' σ ρ v p := r.imp (Rep.mono (g.kp e)) id
theorem RepsB.ext (g : GI K ah F H hs) (e : Ext K ah F H F' H') (r : RepsB K ah F H σ ρ vs ps) : RepsB K ah F' H' σ ρ vs ps := by
  induction r with
  | nil => exact .nil
  | cons r _ ih => exact .cons (r.ext g e) ih
theorem Reps.b (r : Reps K ah F H vs ps) : RepsB K ah F H σ ρ vs ps := by
  induction r using Reps.rec (motive_1 := fun _ _ _ => True) with
  | nil => exact .nil
  | cons r t _ ih => exact .cons (.inl r) ih
  | _ => trivial
theorem Con.tup (c : Con K ah F H v (.tup ps)) : ∃ a vs, v = .ref a ∧ H a = some (.tup vs) ∧ vs.length ≤ sizeLine ∧ Reps K ah F H vs ps := by
  cases c with
  | rep r => cases r with | tup h z r => exact ⟨_, _, rfl, h, z, r⟩
  | own o => cases o
theorem Con.lst (c : Con K ah F H v (.lst ps)) : ∃ a vs, v = .ref a ∧ H a = some (.lst vs) ∧ vs.length ≤ sizeLine ∧ Reps K ah F H vs ps := by
  cases c with
  | rep r => cases r with | lst _ h z r => exact ⟨_, _, rfl, h, z, r⟩
  | own o => cases o with | lst h z r => exact ⟨_, _, rfl, h, z, r⟩
theorem Con.scr {ns : List Int} (c : Con K ah F H v (.scr ns)) : ∃ a, v = .ref a ∧ SqL K H a (ns.map V.int) := by
  cases c with
  | rep r => cases r with | scr h z => exact ⟨_, rfl, h.l⟩
  | own o => cases o
theorem Con.hand (g : GI K ah F H hs) (c : Con K ah F H v .hand) : ∃ a vs, v = .ref a ∧ ah = some a ∧ H a = some (.lst vs) ∧ vs.length ≤ sizeLine ∧ Reps K ah F H vs hs := by
  cases c with
  | rep r =>
    cases r with
    | hand e =>
      obtain ⟨_, vs, h, z, r⟩ := g.at_ _ e
      exact ⟨_, vs, rfl, e, h, z, r⟩
  | own o => cases o
theorem Con.int {i : Int} (c : Con K ah F H v (.int i)) : v = .int i := by
  cases c with
  | rep r => cases r; rfl
  | own o => cases o
theorem Con.str {i : Str} (c : Con K ah F H v (.str i)) : v = .str i := by
  cases c with
  | rep r => cases r; rfl
  | own o => cases o
theorem Con.bl {i : Bool} (c : Con K ah F H v (.bl i)) : v = .bl i := by
  cases c with
  | rep r => cases r; rfl
  | own o => cases o
theorem Con.non (c : Con K ah F H v .non) : v = .non := by
  cases c with
  | rep r => cases r; rfl
  | own o => cases o
/-- read as a list or a tuple -/
theorem Con.seq (c : Con K ah F H v p) : (∀ ps, p = .tup ps ∨ p = .lst ps → ∃ a vs, v = .ref a ∧ (SqL K H a vs ∨ SqT K H a vs) ∧ vs.length ≤ sizeLine ∧ Reps K ah F H vs ps) := by
  intro ps e
  rcases e with rfl | rfl
  · obtain ⟨a, vs, e, h, z, r⟩ := c.tup
    exact ⟨a, vs, e, .inr (.of h), z, r⟩
  · obtain ⟨a, vs, e, h, z, r⟩ := c.lst
    exact ⟨a, vs, e, .inl (.of h), z, r⟩
end

section
variable {X : Cx} {e a b c : Expr} {es : List Expr} {pos : Pos} {g ga gb gc : EM}
theorem SE.sb (h : SE X e g) : SB X e g := PE.wk h fun σ H Q ⟨ah, F, N, ρ, hs, p, hs', G, E, q, k⟩ => ⟨ah, F, N, ρ, hs, p, hs', G, E, q, fun F' H' v x y z => k F' H' v x y (.inl z)⟩
theorem SF.se (h : SF X e g) : SE X e g := PE.wk h fun σ H Q ⟨ah, F, N, ρ, hs, p, hs', G, E, q, k⟩ => by
  refine ⟨ah, F, N, ρ, hs, p, hs', G, E, q, fun F' H' a x y n nf o => ?_⟩
  obtain ⟨u, hu⟩ := o.there
  exact k (fun b => F' b ∨ b = a) H' (.ref a) ⟨fun b h => .inl (x.mono b h), fun b h => h.elim (x.new b) fun e => .inr (e ▸ n), x.keep⟩ (y.frz hu (G.ne n)) o.frzn

/-! ### names and constants -/
def slF : Option Slot → M PV
  | some (.fz p) => pure p
  | _ => stuck
def slB : Option Slot → M PV
  | some (.fz p) => pure p
  | some (.ow p) => pure p
  | _ => stuck
theorem slF_ok {o : Option Slot} {hs : HS} {r : PV × HS} (h : slF o hs = .ok r) : o = some (.fz r.1) ∧ r.2 = hs := by
  rcases o with _ | _ | p | p
  · cases h
  · cases h
  · cases M.pure_ok h; exact ⟨rfl, rfl⟩
  · cases h
theorem slB_ok {o : Option Slot} {hs : HS} {r : PV × HS} (h : slB o hs = .ok r) : (o = some (.fz r.1) ∨ o = some (.ow r.1)) ∧ r.2 = hs := by
  rcases o with _ | _ | p | p
  · cases h
  · cases h
  · cases M.pure_ok h; exact ⟨.inl rfl, rfl⟩
  · cases M.pure_ok h; exact ⟨.inr rfl, rfl⟩
def gVar (i : Nat) : EM := fun ρ => slF ρ[i]?
def gVarB (i : Nat) : EM := fun ρ => slB ρ[i]?
def gC (p : PV) : EM := fun _ => pure p
theorem se_var {i : Nat} {x : Str} (h : PE X (.Name x pos) (tVar i)) : SE X (.Name x pos) (gVar i) := PE.wk h fun σ H Q ⟨ah, F, N, ρ, hs, p, hs', G, E, q, k⟩ => by
  obtain ⟨e, e2⟩ := slF_ok q
  cases e2
  obtain ⟨v, e1, r⟩ := E.get e
  exact ⟨v, e1, k F H v .refl G r⟩
theorem sb_var {i : Nat} {x : Str} (h : PE X (.Name x pos) (tVar i)) : SB X (.Name x pos) (gVarB i) := PE.wk h fun σ H Q ⟨ah, F, N, ρ, hs, p, hs', G, E, q, k⟩ => by
  obtain ⟨e, e2⟩ := slB_ok q
  cases e2
  rcases e with e | e
  · obtain ⟨v, e1, r⟩ := E.get e
    exact ⟨v, e1, k F H v .refl G (.inl r)⟩
  · obtain ⟨a, e1, _⟩ := E.own e
    exact ⟨.ref a, e1, k F H _ .refl G (.inr ⟨i, e, e1⟩)⟩
/-- a constant -/
theorem se_c {v : V} {p : PV} (h : PE X e (tC v)) (r : ∀ ah F H, Rep X.K ah F H v p) : SE X e (gC p) := PE.wk h fun σ H Q ⟨ah, F, N, ρ, hs, p, hs', G, E, q, k⟩ => by
  cases M.pure_ok q
  exact k F H v .refl G (r _ _ _)
theorem se_int {i : Int} {j} : SE X (.Constant (.int i) j pos) (gC (.int i)) := se_c pe_int fun _ _ _ => .int i
theorem se_bl {i : Bool} {j} : SE X (.Constant (.bool i) j pos) (gC (.bl i)) := se_c pe_bl fun _ _ _ => .bl i
theorem se_str {i : Str} {j} : SE X (.Constant (.str i) j pos) (gC (.str i)) := se_c pe_str fun _ _ _ => .str i
theorem se_non {j} : SE X (.Constant .none j pos) (gC .non) := se_c pe_non fun _ _ _ => .non
/-- a module's constant -/
theorem se_gint {x : Str} {i : Int} {t : Tok} (hm : X.mg x = some (.int i t)) (hg : Gl X x) (hd : (x == ("__debug__" : Str)) = false := by decide) : SE X (.Name x pos) (gC (.int i)) := se_c (v := .int i) (pe_glob hg hm ⟨t, rfl⟩ hd) fun _ _ _ => .int i
theorem se_gstr {x y : Str} {t : Tok} (hm : X.mg x = some (.str y t)) (hg : Gl X x) (hd : (x == ("__debug__" : Str)) = false := by decide) : SE X (.Name x pos) (gC (.str y)) := se_c (v := .str y) (pe_glob hg hm ⟨t, rfl⟩ hd) fun _ _ _ => .str y

/-! ### two in a row -/
def gBin (f : PV → PV → M PV) (ga gb : EM) : EM := fun ρ => do
  let x ← ga ρ
  let y ← gb ρ
  f x y
/-- an operation on values: r is its reading -/
def OpS (X : Cx) (r : R2) (fp : PV → PV → M PV) : Prop := ∀ (ah : Option Addr) (F : Addr → Prop) (H : Hp) (hs hs' : HS) (x y : V) (p q z : PV) (Q : VK), GI X.K ah F H hs → Con X.K ah F H x p → Con X.K ah F H y q → fp p q hs = .ok (z, hs') →
  (∀ F' H' v, Ext X.K ah F H F' H' → GI X.K ah F' H' hs' → Rep X.K ah F' H' v z → Q v H') → r x y H Q
def OpF (X : Cx) (r : R2) (fp : PV → PV → M PV) : Prop := ∀ (ah : Option Addr) (F : Addr → Prop) (H : Hp) (hs hs' : HS) (x y : V) (p q z : PV) (Q : VK), GI X.K ah F H hs → Con X.K ah F H x p → Con X.K ah F H y q → fp p q hs = .ok (z, hs') →
  (∀ F' H' a, Ext X.K ah F H F' H' → GI X.K ah F' H' hs' → H a = none → ¬ F' a → Own X.K ah F' H' a z → Q (.ref a) H') → r x y H Q
theorem bin_w {r : R2} {fp : PV → PV → M PV} (ho : OpS X r fp) (σ : L2.St) (H : Hp) (Q : VK) (h : tS X.K (gBin fp ga gb) σ H Q) : tOp r (tSB X.K ga) (tSB X.K gb) σ H Q := by
  obtain ⟨ah, F, N, ρ, hs, p, hs', G, E, q, k⟩ := h
  obtain ⟨x, h1, q1, q⟩ := M.bind_ok q
  obtain ⟨y, h2, q2, q⟩ := M.bind_ok q
  refine ⟨ah, F, N, ρ, hs, x, h1, G, E, q1, fun F1 H1 v1 x1 G1 r1 => ?_⟩
  have E1 := E.ext G x1
  refine ⟨ah, F1, N, ρ, h1, y, h2, G1, E1, q2, fun F2 H2 v2 x2 G2 r2 => ?_⟩
  have E2 := E1.ext G1 x2
  have x12 := x1.trans G G1 x2
  exact ho ah F2 H2 h2 hs' v1 v2 x y p Q G2 ((r1.ext G1 x2).con E2) (r2.con E2) q fun F3 H3 v x3 G3 r3 => k F3 H3 v (x12.trans G G2 x3) G3 r3
theorem bin_f {r : R2} {fp : PV → PV → M PV} (ho : OpF X r fp) (σ : L2.St) (H : Hp) (Q : VK) (h : tSF X.K (gBin fp ga gb) σ H Q) : tOp r (tSB X.K ga) (tSB X.K gb) σ H Q := by
  obtain ⟨ah, F, N, ρ, hs, p, hs', G, E, q, k⟩ := h
  obtain ⟨x, h1, q1, q⟩ := M.bind_ok q
  obtain ⟨y, h2, q2, q⟩ := M.bind_ok q
  refine ⟨ah, F, N, ρ, hs, x, h1, G, E, q1, fun F1 H1 v1 x1 G1 r1 => ?_⟩
  have E1 := E.ext G x1
  refine ⟨ah, F1, N, ρ, h1, y, h2, G1, E1, q2, fun F2 H2 v2 x2 G2 r2 => ?_⟩
  have E2 := E1.ext G1 x2
  have x12 := x1.trans G G1 x2
  exact ho ah F2 H2 h2 hs' v1 v2 x y p Q G2 ((r1.ext G1 x2).con E2) (r2.con E2) q fun F3 H3 a x3 G3 n nf o => k F3 H3 a (x12.trans G G2 x3) G3 (x12.free G n (G2.ne n)) nf o
theorem se_op {op : Operator} {r : R2} {fp : PV → PV → M PV} (hr : OpR X (binaryOp op) r) (ho : OpS X r fp) (ha : SB X a ga) (hb : SB X b gb) : SE X (.BinOp a op b pos) (gBin fp ga gb) := PE.wk (pe_op hr ha hb) (bin_w ho)
theorem sf_op {op : Operator} {r : R2} {fp : PV → PV → M PV} (hr : OpR X (binaryOp op) r) (ho : OpF X r fp) (ha : SB X a ga) (hb : SB X b gb) : SF X (.BinOp a op b pos) (gBin fp ga gb) := PE.wk (pe_op hr ha hb) (bin_f ho)
theorem se_cmp {op : CmpOp} {r : R2} {fp : PV → PV → M PV} (hr : OpR X (compareOp op) r) (ho : OpS X r fp) (ha : SB X a ga) (hb : SB X b gb) (hm : behindInMarks op b = false) : SE X (.Compare a [op] [b] pos) (gBin fp ga gb) := PE.wk (pe_cmpR hr ha hb hm) (bin_w ho)
theorem OpS.or {r r' : R2} {f f' fp : PV → PV → M PV} (h : OpS X r f) (h' : OpS X r' f') (hf : ∀ p q hs z, fp p q hs = .ok z → f p q hs = .ok z ∨ f' p q hs = .ok z) : OpS X (fun x y H Q => r x y H Q ∨ r' x y H Q) fp :=
  fun ah F H hs hs' x y p q z Q G c d e k => (hf p q hs _ e).imp (fun e => h ah F H hs hs' x y p q z Q G c d e k) fun e => h' ah F H hs hs' x y p q z Q G c d e k
end
end SL

end
section
namespace SL
open PySem PySem.Spec PyProof.Rows L2
abbrev SZ : Nat := 16777216
theorem szE : sizeLine = SZ := sizeLine_eq
theorem OpF.s {X : Cx} {r : R2} {fp : PV → PV → M PV} (h : OpF X r fp) : OpS X r fp := fun ah F H hs hs' x y p q z Q G c d e k => by
  refine h ah F H hs hs' x y p q z Q G c d e fun F' H' a x y n nf o => ?_
  obtain ⟨u, hu⟩ := o.there
  exact k (fun b => F' b ∨ b = a) H' (.ref a) ⟨fun b h => .inl (x.mono b h), fun b h => h.elim (x.new b) fun e => .inr (e ▸ n), x.keep⟩ (y.frz hu (G.ne n)) o.frzn
/-! ### a new tuple, a new list -/
theorem new_tup {K : Fg} {ah : Option Addr} {F : Addr → Prop} {H : Hp} {hs : HS} {vs : List V} {ps : List PV} {Q : VK} {a : Addr} (G : GI K ah F H hs) (n : H a = none) (z : vs.length ≤ sizeLine) (r : Reps K ah F H vs ps)
    (k : ∀ F' H' v, Ext K ah F H F' H' → GI K ah F' H' hs → Rep K ah F' H' v (.tup ps) → Q v H') : Q (.ref a) (upd H a (.tup vs)) :=
  k F _ _ (.laid n) (G.laid n) (.tup upd_same z (r.mono (G.kpL n)))
theorem new_lst {K : Fg} {ah : Option Addr} {F : Addr → Prop} {H : Hp} {hs : HS} {vs : List V} {ps : List PV} {Q : VK} {a : Addr} (G : GI K ah F H hs) (n : H a = none) (z : vs.length ≤ sizeLine) (r : Reps K ah F H vs ps)
    (k : ∀ F' H' b, Ext K ah F H F' H' → GI K ah F' H' hs → H b = none → ¬ F' b → Own K ah F' H' b (.lst ps) → Q (.ref b) H') : Q (.ref a) (upd H a (.lst vs)) :=
  k F _ _ (.laid n) (G.laid n) n (G.nf n) (.lst upd_same z (r.mono (G.kpL n)))

/-! ### operators on values -/
def int2 (f : Int → Int → M PV) : PV → PV → M PV
  | .int i, .int j => f i j
  | _, _ => stuck
theorem int2_ok {f : Int → Int → M PV} {p q : PV} {hs : HS} {r : PV × HS} (h : int2 f p q hs = .ok r) : ∃ i j, p = .int i ∧ q = .int j ∧ f i j hs = .ok r := by
  unfold int2 at h
  split at h
  · exact ⟨_, _, rfl, rfl, h⟩
  · cases h
def guardM {α : Type} (c : Prop) [Decidable c] (x : M α) : M α := if c then x else stuck
theorem guard_ok {α : Type} {c : Prop} [Decidable c] {x : M α} {hs : HS} {r : α × HS} (h : guardM c x hs = .ok r) : c ∧ x hs = .ok r := by
  unfold guardM at h
  by_cases e : c
  · rw [if_pos e] at h; exact ⟨e, h⟩
  · rw [if_neg e] at h; cases h
section
variable {X : Cx}
theorem ops_int {g : Int → Int → Int} : OpS X (rI0 fun i j => .int (g i j)) (int2 fun i j => pure (.int (g i j))) := fun ah F H hs hs' x y p q z Q G c d e k => by
  obtain ⟨i, j, rfl, rfl, e⟩ := int2_ok e
  cases M.pure_ok e
  exact ⟨i, j, c.int, d.int, k F H _ .refl G (.int _)⟩
theorem ops_bl {g : Int → Int → Bool} : OpS X (rI0 fun i j => .bl (g i j)) (int2 fun i j => pure (.bl (g i j))) := fun ah F H hs hs' x y p q z Q G c d e k => by
  obtain ⟨i, j, rfl, rfl, e⟩ := int2_ok e
  cases M.pure_ok e
  exact ⟨i, j, c.int, d.int, k F H _ .refl G (.bl _)⟩
theorem ops_intC {C : Int → Int → Prop} {D : Int → Int → Prop} [∀ i j, Decidable (D i j)] {g : Int → Int → Int} (w : ∀ i j, D i j → C i j) : OpS X (rI C fun i j => .int (g i j)) (int2 fun i j => guardM (D i j) (pure (.int (g i j)))) := fun ah F H hs hs' x y p q z Q G c d e k => by
  obtain ⟨i, j, rfl, rfl, e⟩ := int2_ok e
  obtain ⟨hd, e⟩ := guard_ok e
  cases M.pure_ok e
  exact ⟨i, j, c.int, d.int, w i j hd, k F H _ .refl G (.int _)⟩
def pAdd : PV → PV → M PV
  | .int i, .int j => pure (.int (i + j))
  | .tup a, .tup b => guardM (a.length + b.length ≤ SZ) (pure (.tup (a ++ b)))
  | .lst a, .lst b => guardM (a.length + b.length ≤ SZ) (pure (.lst (a ++ b)))
  | _, _ => stuck
theorem ops_catT : OpS X (rCatA X.K) (fun p q => match p, q with | .tup a, .tup b => guardM (a.length + b.length ≤ SZ) (pure (.tup (a ++ b))) | _, _ => stuck) := fun ah F H hs hs' x y p q z Q G c d e k => by
  dsimp only at e
  split at e
  · obtain ⟨hl, e⟩ := guard_ok e
    cases M.pure_ok e
    rename_i a b
    obtain ⟨p1, vs, rfl, h1, z1, r1⟩ := c.tup
    obtain ⟨p2, ws, rfl, h2, z2, r2⟩ := d.tup
    have hl' : vs.length + ws.length ≤ sizeLine := by rw [r1.length, r2.length, szE]; exact hl
    refine ⟨p1, p2, vs, ws, rfl, rfl, .of h1, .of h2, hl', fun e => ?_, fun _ e => ?_, fun _ _ a n => ?_⟩
    · subst e
      cases r1
      exact k F H _ .refl G (.tup h2 z2 r2)
    · subst e
      cases r2
      rw [List.append_nil] at k
      exact k F H _ .refl G (.tup h1 z1 r1)
    · exact new_tup G n (by rw [List.length_append]; exact hl') (r1.append r2) k
  · cases e
theorem opf_catL : OpF X rCat (fun p q => match p, q with | .lst a, .lst b => guardM (a.length + b.length ≤ SZ) (pure (.lst (a ++ b))) | _, _ => stuck) := fun ah F H hs hs' x y p q z Q G c d e k => by
  dsimp only at e
  split at e
  · obtain ⟨hl, e⟩ := guard_ok e
    cases M.pure_ok e
    obtain ⟨p1, vs, rfl, h1, z1, r1⟩ := c.lst
    obtain ⟨p2, ws, rfl, h2, z2, r2⟩ := d.lst
    have hl' : vs.length + ws.length ≤ sizeLine := by rw [r1.length, r2.length, szE]; exact hl
    exact ⟨p1, p2, vs, ws, rfl, rfl, h1, h2, hl', fun a n => new_lst G n (by rw [List.length_append]; exact hl') (r1.append r2) k⟩
  · cases e
theorem ops_add : OpS X (fun x y H Q => (rI0 fun i j => .int (i + j)) x y H Q ∨ (fun x y H Q => rCatA X.K x y H Q ∨ rCat x y H Q) x y H Q) pAdd :=
  OpS.or (ops_int (g := fun i j => i + j)) (OpS.or (fp := fun p q => match p, q with | .tup a, .tup b => pAdd (.tup a) (.tup b) | .lst a, .lst b => pAdd (.lst a) (.lst b) | _, _ => stuck) ops_catT opf_catL.s fun p q hs z e => by
    split at e
    · exact .inl e
    · exact .inr e
    · cases e) fun p q hs z e => by
    unfold pAdd at e
    split at e
    · exact .inl e
    · exact .inr e
    · exact .inr e
    · cases e
theorem opr_add : OpR X (binaryOp .Add) (fun x y H Q => (rI0 fun i j => .int (i + j)) x y H Q ∨ (fun x y H Q => rCatA X.K x y H Q ∨ rCat x y H Q) x y H Q) := op_add.or (op_catA.or op_cat)
/-- xs + ys, a new list that is this frame's own -/
def pCat : PV → PV → M PV := fun p q => match p, q with | .lst a, .lst b => guardM (a.length + b.length ≤ SZ) (pure (.lst (a ++ b))) | _, _ => stuck
theorem opf_cat : OpF X rCat pCat := opf_catL
def pSub : PV → PV → M PV := int2 fun i j => pure (.int (i - j))
def pMul : PV → PV → M PV := int2 fun i j => guardM ((-(2 ^ 64) < i ∧ i < 2 ^ 64) ∨ (-(2 ^ 64) < j ∧ j < 2 ^ 64)) (pure (.int (i * j)))
def pDiv : PV → PV → M PV := int2 fun i j => guardM (0 < j ∧ j < 2 ^ 64) (pure (.int (i / j)))
def pMod : PV → PV → M PV := int2 fun i j => guardM (0 < j) (pure (.int (i % j)))
def pPow : PV → PV → M PV := int2 fun i j => guardM (0 ≤ j ∧ j ≤ 1000000 ∧ i.natAbs < 2 ^ 64) (pure (.int (i ^ j.toNat)))
def pShl : PV → PV → M PV := int2 fun i j => guardM (0 ≤ j ∧ j ≤ 1000000 ∧ i.natAbs < 2 ^ 64) (pure (.int (i * 2 ^ j.toNat)))
theorem ops_sub : OpS X (rI0 fun i j => .int (i - j)) pSub := ops_int
theorem ops_mul : OpS X (rI CMul fun i j => .int (i * j)) pMul := ops_intC fun _ _ h => h
theorem ops_div : OpS X (rI CDivW fun i j => .int (i / j)) pDiv := ops_intC fun i j h => wide_div (i := i) (b := 64) h.1 (by have := h.2; have := h.1; omega) (by decide) (by decide)
theorem ops_mod : OpS X (rI (fun _ j => 0 < j) fun i j => .int (i % j)) pMod := ops_intC fun _ _ h => h
theorem ops_pow : OpS X (rI CPow fun i j => .int (i ^ j.toNat)) pPow := ops_intC fun _ _ h => h
theorem ops_shl : OpS X (rI CPow fun i j => .int (i * 2 ^ j.toNat)) pShl := ops_intC fun _ _ h => h

/-! ### comparisons -/
def ints? : List PV → Option (List Int)
  | [] => some []
  | .int i :: r => (ints? r).map (i :: ·)
  | _ => none
theorem ints?_eq : ∀ {ps : List PV} {ns : List Int}, ints? ps = some ns → ps = ns.map PV.int
  | [], _, h => by cases h; rfl
  | p :: r, ns, h => by
    cases p with
    | int i =>
      have h : (ints? r).map (i :: ·) = some ns := h
      cases e : ints? r with
      | none => rw [e] at h; cases h
      | some ms =>
        rw [e] at h; cases h
        rw [ints?_eq e]; rfl
    | _ => cases h
theorem Reps.ints_of {K : Fg} {ah : Option Addr} {F : Addr → Prop} {H : Hp} : ∀ {vs : List V} {ns : List Int}, Reps K ah F H vs (ns.map PV.int) → vs = ns.map V.int
  | _, [], .nil => rfl
  | _, n :: r, .cons h t => by
    cases h
    rw [Reps.ints_of t]; rfl
def pLt : PV → PV → M PV
  | .int i, .int j => pure (.bl (decide (i < j)))
  | .tup a, .tup b => match ints? a, ints? b with
    | some ns, some ms => pure (.bl (HT.lexLt ns ms))
    | _, _ => stuck
  | _, _ => stuck
theorem ops_ltT : OpS X (rLtT X.K) (fun p q => match p, q with | .tup a, .tup b => pLt (.tup a) (.tup b) | _, _ => stuck) := fun ah F H hs hs' x y p q z Q G c d e k => by
  dsimp only at e
  split at e
  · rename_i a b
    unfold pLt at e
    dsimp only at e
    cases e1 : ints? a with
    | none => rw [e1] at e; cases e
    | some ns =>
      cases e2 : ints? b with
      | none => rw [e1, e2] at e; cases e
      | some ms =>
        rw [e1, e2] at e
        cases M.pure_ok e
        rw [ints?_eq e1] at c
        rw [ints?_eq e2] at d
        obtain ⟨p1, vs, rfl, h1, z1, r1⟩ := c.tup
        obtain ⟨p2, ws, rfl, h2, z2, r2⟩ := d.tup
        rw [r1.ints_of] at h1
        rw [r2.ints_of] at h2
        exact ⟨_, _, _, _, rfl, rfl, .of h1, .of h2, k F H _ .refl G (.bl _)⟩
  · cases e
theorem ops_lt : OpS X (fun x y H Q => (rI0 fun i j => .bl (decide (i < j))) x y H Q ∨ rLtT X.K x y H Q) pLt := OpS.or (ops_bl (g := fun i j => decide (i < j))) ops_ltT fun p q hs z e => by
  cases p with
  | int i => cases q with
    | int j => exact .inl e
    | _ => cases e
  | tup a => cases q with
    | tup b => exact .inr e
    | _ => cases e
  | _ => cases e
theorem opr_lt (hu : X.A.units < cLine) : OpR X (compareOp .Lt) (fun x y H Q => (rI0 fun i j => .bl (decide (i < j))) x y H Q ∨ rLtT X.K x y H Q) := op_lt.or (op_ltT hu)
def pLe : PV → PV → M PV := int2 fun i j => pure (.bl (decide (i ≤ j)))
def pGt : PV → PV → M PV := int2 fun i j => pure (.bl (decide (j < i)))
def pGe : PV → PV → M PV := int2 fun i j => pure (.bl (decide (j ≤ i)))
theorem ops_le : OpS X (rI0 fun i j => .bl (decide (i ≤ j))) pLe := ops_bl
theorem ops_gt : OpS X (rI0 fun i j => .bl (decide (j < i))) pGt := ops_bl
theorem ops_ge : OpS X (rI0 fun i j => .bl (decide (j ≤ i))) pGe := ops_bl

mutual
def toD : PV → Option PyData
  | .non => some .none
  | .bl b => some (.bool b)
  | .int i => some (.int i)
  | .str x => some (.str x)
  | .tup l => (toDs l).map .tuple
  | .lst l => (toDs l).map .list
  | _ => none
def toDs : List PV → Option (List PyData)
  | [] => some []
  | p :: r => match toD p, toDs r with
    | some d, some ds => some (d :: ds)
    | _, _ => none
end
mutual
theorem toD_rep {K : Fg} {ah : Option Addr} {F : Addr → Prop} {H : Hp} : ∀ {p : PV} {v : V} {d : PyData}, Rep K ah F H v p → toD p = some d → Dp K H v d
  | _, _, _, .non, h => by cases h; exact .non
  | _, _, _, .bl b, h => by cases h; exact .bl b
  | _, _, _, .int b, h => by cases h; exact .int b
  | _, _, _, .str b, h => by cases h; exact .str b
  | _, _, _, .ty n, h => by cases h
  | _, _, _, .hand _, h => by cases h
  | _, _, _, .scr _ _, h => by cases h
  | _, _, _, .dK _ _ _ _ _, h => by cases h
  | _, _, _, .dT _ _ _ _ _, h => by cases h
  | .tup l, _, d, .tup a z r, h => by
    rw [toD] at h
    cases e : toDs l with
    | none => rw [e] at h; cases h
    | some ds => rw [e] at h; cases h; exact .tup (.of a) (toDs_rep r e)
  | .lst l, _, d, .lst f a z r, h => by
    rw [toD] at h
    cases e : toDs l with
    | none => rw [e] at h; cases h
    | some ds => rw [e] at h; cases h; exact .lst (.of a) (toDs_rep r e)
theorem toDs_rep {K : Fg} {ah : Option Addr} {F : Addr → Prop} {H : Hp} : ∀ {ps : List PV} {vs : List V} {ds : List PyData}, Reps K ah F H vs ps → toDs ps = some ds → DpAll K H vs ds
  | _, _, _, .nil, h => by cases h; exact .nil
  | p :: ps, _, ds, .cons r t, h => by
    rw [toDs] at h
    cases e1 : toD p with
    | none => rw [e1] at h; cases h
    | some d =>
      cases e2 : toDs ps with
      | none => rw [e1, e2] at h; cases h
      | some ds => rw [e1, e2] at h; cases h; exact .cons (toD_rep r e1) (toDs_rep t e2)
end
theorem toD_con {K : Fg} {ah : Option Addr} {F : Addr → Prop} {H : Hp} {p : PV} {v : V} {d : PyData} (c : Con K ah F H v p) (h : toD p = some d) : Dp K H v d := by
  cases c with
  | rep r => exact toD_rep r h
  | own o =>
    cases o with
    | @lst vs ps a z r =>
      rw [toD] at h
      cases e : toDs ps with
      | none => rw [e] at h; cases h
      | some ds => rw [e] at h; cases h; exact .lst (.of a) (toDs_rep r e)
    | dK => cases h
    | dT => cases h
/-- == of data; the scalars apart -/
def pEqB (neg : Bool) : PV → PV → M PV
  | .int i, .int j => pure (.bl (neg ^^ (i == j)))
  | .str i, .str j => pure (.bl (neg ^^ (i == j)))
  | .bl i, .bl j => pure (.bl (neg ^^ (i == j)))
  | p, q => match toD p, toD q with
    | some d, some e => guardM (SeqAt.shaped d = true ∧ SeqAt.shaped e = true) (pure (.bl (neg ^^ PyData.eqv d e)))
    | _, _ => stuck
def pEq : PV → PV → M PV := pEqB false
def pNe : PV → PV → M PV := pEqB true
theorem ops_eqN (neg : Bool) : OpS X (fun x y H Q => (scal x y = true ∧ Q (.bl (neg ^^ decide (x = y))) H) ∨ ∃ d e, Dp X.K H x d ∧ Dp X.K H y e ∧ SeqAt.shaped d = true ∧ SeqAt.shaped e = true ∧ Q (.bl (neg ^^ PyData.eqv d e)) H) (pEqB neg) := fun ah F H hs hs' x y p q z Q G c d e k => by
  unfold pEqB at e
  split at e
  · cases M.pure_ok e
    refine .inl ?_
    rw [c.int, d.int]
    exact ⟨rfl, by rw [dec_int]; exact k F H _ .refl G (.bl _)⟩
  · cases M.pure_ok e
    refine .inl ?_
    rw [c.str, d.str]
    exact ⟨rfl, by rw [dec_str]; exact k F H _ .refl G (.bl _)⟩
  · cases M.pure_ok e
    refine .inl ?_
    rw [c.bl, d.bl]
    exact ⟨rfl, by rw [dec_bl]; exact k F H _ .refl G (.bl _)⟩
  · cases e1 : toD p with
    | none => rw [e1] at e; cases e
    | some d1 =>
      cases e2 : toD q with
      | none => rw [e1, e2] at e; cases e
      | some d2 =>
        rw [e1, e2] at e
        obtain ⟨⟨s1, s2⟩, e⟩ := guard_ok e
        cases M.pure_ok e
        exact .inr ⟨_, _, toD_con c e1, toD_con d e2, s1, s2, k F H _ .refl G (.bl _)⟩
theorem ops_eq : OpS X (fun x y H Q => rEq x y H Q ∨ rEqD X.K x y H Q) pEq := fun ah F H hs hs' x y p q z Q G c d e k => (ops_eqN false ah F H hs hs' x y p q z Q G c d e k).imp (fun ⟨h, q⟩ => ⟨h, by simpa using q⟩) fun ⟨d, e, h1, h2, h3, h4, q⟩ => ⟨d, e, h1, h2, h3, h4, by simpa using q⟩
theorem ops_ne : OpS X (fun x y H Q => rNe x y H Q ∨ rNeD X.K x y H Q) pNe := fun ah F H hs hs' x y p q z Q G c d e k => (ops_eqN true ah F H hs hs' x y p q z Q G c d e k).imp (fun ⟨h, q⟩ => ⟨h, by simpa using q⟩) fun ⟨d, e, h1, h2, h3, h4, q⟩ => ⟨d, e, h1, h2, h3, h4, by simpa using q⟩
theorem opr_eq (hu : X.A.units + 64 < cLine) : OpR X (compareOp .Eq) (fun x y H Q => rEq x y H Q ∨ rEqD X.K x y H Q) := op_eq.or (op_eqD hu)
theorem opr_ne (hu : X.A.units + 64 < cLine) : OpR X (compareOp .NotEq) (fun x y H Q => rNe x y H Q ∨ rNeD X.K x y H Q) := op_ne.or (op_neD hu)

def flatP : PV → Bool
  | .non | .bl _ | .int _ | .str _ => true
  | _ => false
def eqP : PV → PV → Bool
  | .non, .non => true
  | .bl a, .bl b => a == b
  | .bl a, .int b => (if a then 1 else 0) == b
  | .int a, .bl b => a == (if b then 1 else 0)
  | .int a, .int b => a == b
  | .str a, .str b => a == b
  | _, _ => false
theorem flat_rep {K : Fg} {ah : Option Addr} {F : Addr → Prop} {H : Hp} {v w : V} {p q : PV} (r : Rep K ah F H v p) (f : flatP p = true) (r' : Rep K ah F H w q) (f' : flatP q = true) : flatV v = true ∧ eqV v w = eqP p q := by
  cases p <;> first | (cases f; done) | skip
  all_goals cases r
  all_goals (cases q <;> first | (cases f'; done) | skip)
  all_goals cases r'
  all_goals exact ⟨rfl, rfl⟩
theorem flat_one {K : Fg} {ah : Option Addr} {F : Addr → Prop} {H : Hp} {v : V} {p : PV} (r : Rep K ah F H v p) (f : flatP p = true) : flatV v = true := by
  cases p <;> first | (cases f; done) | skip
  all_goals (cases r; rfl)
theorem flat_all {K : Fg} {ah : Option Addr} {F : Addr → Prop} {H : Hp} {w : V} {q : PV} (r' : Rep K ah F H w q) (f' : flatP q = true) : ∀ {vs : List V} {ps : List PV}, Reps K ah F H vs ps → ps.all flatP = true → vs.all flatV = true ∧ inV w vs = ps.any fun y => eqP y q
  | _, _, .nil, _ => ⟨rfl, rfl⟩
  | _, _, .cons r t, f => by
    rw [List.all_cons, Bool.and_eq_true] at f
    obtain ⟨h1, h2⟩ := flat_all r' f' t f.2
    obtain ⟨h3, h4⟩ := flat_rep r f.1 r' f'
    refine ⟨by rw [List.all_cons, h1, h3]; rfl, ?_⟩
    unfold inV at h2 ⊢
    rw [List.any_cons, List.any_cons, h2, h4]
def pInB (neg : Bool) (p : PV) : PV → M PV
  | .tup l => guardM (flatP p = true ∧ l.all flatP = true) (pure (.bl (neg ^^ l.any fun y => eqP y p)))
  | .lst l => guardM (flatP p = true ∧ l.all flatP = true) (pure (.bl (neg ^^ l.any fun y => eqP y p)))
  | _ => stuck
def pIn : PV → PV → M PV := pInB false
def pNotIn : PV → PV → M PV := pInB true
theorem flat_con {K : Fg} {ah : Option Addr} {F : Addr → Prop} {H : Hp} {v : V} {p : PV} (r : Con K ah F H v p) (f : flatP p = true) : Rep K ah F H v p := by
  cases r with
  | rep r => exact r
  | own o => cases o <;> cases f
theorem ops_in (neg : Bool) : OpS X (rIn X.K neg) (pInB neg) := fun ah F H hs hs' x y p q z Q G c d e k => by
  have fin : ∀ {a vs ps}, y = .ref a → (SqL X.K H a vs ∨ SqT X.K H a vs) → Reps X.K ah F H vs ps → guardM (flatP p = true ∧ ps.all flatP = true) (pure (PV.bl (neg ^^ ps.any fun y => eqP y p))) hs = .ok (z, hs') → rIn X.K neg x y H Q := by
    intro a vs ps ey hq r e
    obtain ⟨⟨f1, f2⟩, e⟩ := guard_ok e
    cases M.pure_ok e
    have rx := flat_con c f1
    obtain ⟨h1, h2⟩ := flat_all rx f1 r f2
    refine ⟨a, vs, ey, hq, flat_one rx f1, h1, ?_⟩
    have q := k F H _ .refl G (.bl _)
    rw [← h2] at q
    cases neg <;> simpa using q
  cases q with
  | tup l =>
    obtain ⟨a, vs, e1, h, _, r⟩ := d.tup
    exact fin e1 (.inr (.of h)) r e
  | lst l =>
    obtain ⟨a, vs, e1, h, _, r⟩ := d.lst
    exact fin e1 (.inl (.of h)) r e
  | _ => cases e
/-- is None, is not None -/
def isNon : PV → Bool
  | .non => true
  | _ => false
def pIsN (neg : Bool) (p : PV) : PV → M PV
  | .non => pure (.bl (neg ^^ isNon p))
  | _ => stuck
theorem isNon_con {K : Fg} {ah : Option Addr} {F : Addr → Prop} {H : Hp} {v : V} {p : PV} (r : Con K ah F H v p) : decide (v = .non) = isNon p := by
  cases r with
  | rep r => cases r <;> rfl
  | own o => cases o <;> rfl
theorem ops_isN : OpS X (fun x y H Q => y = .non ∧ Q (.bl (decide (x = .non))) H) (pIsN false) := fun ah F H hs hs' x y p q z Q G c d e k => by
  cases q <;> first | (cases e; done) | skip
  cases M.pure_ok e
  refine ⟨d.non, ?_⟩
  rw [isNon_con c]
  simpa using k F H _ .refl G (.bl _)
theorem ops_notN : OpS X (fun x y H Q => y = .non ∧ Q (.bl (!decide (x = .non))) H) (pIsN true) := fun ah F H hs hs' x y p q z Q G c d e k => by
  cases q <;> first | (cases e; done) | skip
  cases M.pure_ok e
  refine ⟨d.non, ?_⟩
  rw [isNon_con c]
  simpa using k F H _ .refl G (.bl _)
end
end SL

end
section
namespace SL
open PySem PySem.Spec PyProof.Rows L2
/-! ### tests -/
abbrev TM := Ev → M Bool
/-- a value's truth -/
def pTru : PV → M Bool
  | .non => pure false
  | .bl b => pure b
  | .int i => pure (i != 0)
  | .tup l => pure (!l.isEmpty)
  | .lst l => pure (!l.isEmpty)
  | .dK l => pure (!l.isEmpty)
  | _ => stuck
def gTru (g : EM) : TM := fun ρ => do
  let x ← g ρ
  pTru x
theorem isEmpty_reps {K : Fg} {ah : Option Addr} {F : Addr → Prop} {H : Hp} {vs : List V} {ps : List PV} (r : Reps K ah F H vs ps) : vs.isEmpty = ps.isEmpty := by cases r <;> rfl
theorem isEmpty_keys {κ α β : Type} {l : List (κ × α)} {m : List (κ × β)} (h : l.map (·.1) = m.map (·.1)) : l.isEmpty = m.isEmpty := by
  cases l <;> cases m <;> first | rfl | simp at h
theorem tru_con {K : Fg} {ah : Option Addr} {F : Addr → Prop} {H : Hp} {hs hs' : HS} {v : V} {p : PV} {b : Bool} (c : Con K ah F H v p) (h : pTru p hs = .ok (b, hs')) : TruV K v H b ∧ hs' = hs := by
  cases p with
  | non => cases M.pure_ok h; rw [c.non]; exact ⟨rfl, rfl⟩
  | bl i => cases M.pure_ok h; rw [c.bl]; exact ⟨rfl, rfl⟩
  | int i => cases M.pure_ok h; rw [c.int]; exact ⟨rfl, rfl⟩
  | tup l =>
    cases M.pure_ok h
    obtain ⟨a, vs, rfl, h, z, r⟩ := c.tup
    exact ⟨.inr (.inl ⟨vs, .of h, by rw [isEmpty_reps r]⟩), rfl⟩
  | lst l =>
    cases M.pure_ok h
    obtain ⟨a, vs, rfl, h, z, r⟩ := c.lst
    exact ⟨.inl ⟨vs, .of h, by rw [isEmpty_reps r]⟩, rfl⟩
  | dK l =>
    cases M.pure_ok h
    refine ⟨?_, rfl⟩
    cases c with
    | rep r => cases r with | dK f h z e r => exact .inr (.inr ⟨_, h, by rw [isEmpty_keys e]⟩)
    | own o => cases o with | dK h z e r => exact .inr (.inr ⟨_, h, by rw [isEmpty_keys e]⟩)
  | _ => cases h
section
variable {X : Cx} {e a b c : Expr} {es rest : List Expr} {pos : Pos} {g ga gb gc : EM} {ta tb : TM} {gs : Ev → M (List PV)}
theorem st_tru (h : SB X e g) (he : ∀ whole, isTrue e X.env whole = (do let v ← whole; standAt e.pos; holding [v] (truthy v)) := by intro _; rfl) : ST X e (gTru g) := PT.wk (pt_truth h he) fun σ H Q ⟨ah, F, N, ρ, hs, p, hs', G, E, q, k⟩ => by
  obtain ⟨x, h1, q1, q⟩ := M.bind_ok q
  refine ⟨ah, F, N, ρ, hs, x, h1, G, E, q1, fun F1 H1 v1 x1 G1 r1 => ?_⟩
  obtain ⟨t, e⟩ := tru_con (r1.con (E.ext G x1)) q
  subst e
  exact ⟨p, t, k F1 H1 x1 G1⟩
/-- a truth value, as a test -/
def asBl : PV → M Bool
  | .bl b => pure b
  | _ => stuck
theorem asBl_ok {p : PV} {hs : HS} {r : Bool × HS} (h : asBl p hs = .ok r) : p = .bl r.1 ∧ r.2 = hs := by
  cases p <;> first | (cases h; done) | skip
  cases M.pure_ok h
  exact ⟨rfl, rfl⟩
def gTB (g : EM) : TM := fun ρ => do
  let x ← g ρ
  asBl x
theorem tb_w {t : TE} (w : ∀ σ H Q, tS X.K g σ H Q → t σ H Q) (σ : L2.St) (H : Hp) (Q : Bool → Hp → Prop) (h : tST X.K (gTB g) σ H Q) : t σ H fun x H' => ∃ k, x = .bl k ∧ Q k H' := by
  obtain ⟨ah, F, N, ρ, hs, p, hs', G, E, q, k⟩ := h
  obtain ⟨x, h1, q1, q⟩ := M.bind_ok q
  obtain ⟨rfl, rfl⟩ := asBl_ok q
  refine w σ H _ ⟨ah, F, N, ρ, hs, _, _, G, E, q1, fun F1 H1 v1 x1 G1 r1 => ?_⟩
  cases r1
  exact ⟨p, rfl, k F1 H1 x1 G1⟩
theorem st_cmp {op : CmpOp} {r : R2} {fp : PV → PV → M PV} (hr : OpR X (compareOp op) r) (ho : OpS X r fp) (ha : SB X a ga) (hb : SB X b gb) (hm : behindInMarks op b = false) : ST X (.Compare a [op] [b] pos) (gTB (gBin fp ga gb)) := PT.wk (pt_cmpR hr ha hb hm) (tb_w (bin_w ho))
/-- a op b op' c -/
def gChain (f f' : PV → PV → M PV) (ga gb gc : EM) : EM := fun ρ => do
  let x ← ga ρ
  let y ← gb ρ
  let t ← f x y
  let k ← asBl t
  if k = true then (do let z ← gc ρ; f' y z) else pure (.bl false)
theorem chain_w {r r' : R2} {f f' : PV → PV → M PV} (ho : OpS X r f) (ho' : OpS X r' f') (σ : L2.St) (H : Hp) (Q : VK) (h : tS X.K (gChain f f' ga gb gc) σ H Q) : tChain r r' (tSB X.K ga) (tSB X.K gb) (tSB X.K gc) σ H Q := by
  obtain ⟨ah, F, N, ρ, hs, p, hs', G, E, q, k⟩ := h
  obtain ⟨x, h1, q1, q⟩ := M.bind_ok q
  obtain ⟨y, h2, q2, q⟩ := M.bind_ok q
  obtain ⟨t, h3, q3, q'⟩ := M.bind_ok q
  clear q
  obtain ⟨d, h4, q4, qz⟩ := M.bind_ok q'
  clear q'
  obtain ⟨rfl, rfl⟩ := asBl_ok q4
  refine ⟨ah, F, N, ρ, hs, x, h1, G, E, q1, fun F1 H1 v1 x1 G1 r1 => ?_⟩
  have E1 := E.ext G x1
  refine ⟨ah, F1, N, ρ, h1, y, h2, G1, E1, q2, fun F2 H2 v2 x2 G2 r2 => ?_⟩
  have E2 := E1.ext G1 x2
  have x12 := x1.trans G G1 x2
  refine ho ah F2 H2 h2 _ v1 v2 x y _ _ G2 ((r1.ext G1 x2).con E2) (r2.con E2) q3 fun F3 H3 v x3 G3 r3 => ?_
  cases r3
  refine ⟨d, rfl, ?_⟩
  have E3 := E2.ext G2 x3
  have x13 := x12.trans G G2 x3
  cases d with
  | false =>
    rw [if_neg Bool.false_ne_true] at qz ⊢
    cases M.pure_ok qz
    exact k F3 H3 _ x13 G3 (.bl _)
  | true =>
    rw [if_pos rfl] at qz ⊢
    obtain ⟨z, h5, q5, q⟩ := M.bind_ok qz
    refine ⟨ah, F3, N, ρ, _, z, h5, G3, E3, q5, fun F4 H4 v4 x4 G4 r4 => ?_⟩
    have E4 := E3.ext G3 x4
    exact ho' ah F4 H4 h5 hs' v2 v4 y z p Q G4 (((r2.ext G2 x3).ext G3 x4).con E4) (r4.con E4) q fun F5 H5 v x5 G5 r5 => k F5 H5 v ((x13.trans G G3 x4).trans G G4 x5) G5 r5
theorem se_chain {op op' : CmpOp} {r r' : R2} {f f' : PV → PV → M PV} (hr : OpR X (compareOp op) r) (hr' : OpR X (compareOp op') r') (ho : OpS X r f) (ho' : OpS X r' f') (ha : SB X a ga) (hb : SB X b gb) (hc : SB X c gc)
    (hm : lastMarks [op, op'] [b, c] = false := by with_unfolding_all rfl) : SE X (.Compare a [op, op'] [b, c] pos) (gChain f f' ga gb gc) := PE.wk (pe_chain hr hr' ha hb hc hm) (chain_w ho ho')
theorem st_chain {op op' : CmpOp} {r r' : R2} {f f' : PV → PV → M PV} (hr : OpR X (compareOp op) r) (hr' : OpR X (compareOp op') r') (ho : OpS X r f) (ho' : OpS X r' f') (ha : SB X a ga) (hb : SB X b gb) (hc : SB X c gc)
    (hm : lastMarks [op, op'] [b, c] = false := by with_unfolding_all rfl) : ST X (.Compare a [op, op'] [b, c] pos) (gTB (gChain f f' ga gb gc)) := PT.wk (pt_chain hr hr' ha hb hc hm) (tb_w (chain_w ho ho'))
/-! and, or, not -/
def gAndT (t u : TM) : TM := fun ρ => do
  let x ← t ρ
  if x = true then u ρ else pure false
def gOrT (t u : TM) : TM := fun ρ => do
  let x ← t ρ
  if x = true then pure true else u ρ
def gNotT (t : TM) : TM := fun ρ => do
  let x ← t ρ
  pure (!x)
abbrev SW (X : Cx) (e : Expr) (g : TM) : Prop := PW X e (tST X.K g)
theorem PW.wk {X : Cx} {e : Expr} {t u : TT} (h : PW X e t) (w : ∀ σ H Q, u σ H Q → t σ H Q) : PW X e u := ⟨fun wh pins s σ H Q I q => h.run wh pins s σ H Q I (w σ H Q q)⟩
theorem sw_and1 (h : ST X a ta) : SW X (.BoolOp .And [a] pos) ta := pw_and1 h
theorem sw_or1 (h : ST X a ta) : SW X (.BoolOp .Or [a] pos) ta := pw_or1 h
theorem sw_and (h : ST X a ta) (h' : SW X (.BoolOp .And (b :: rest) pos) tb) : SW X (.BoolOp .And (a :: b :: rest) pos) (gAndT ta tb) := PW.wk (pw_and h h') fun σ H Q ⟨ah, F, N, ρ, hs, p, hs', G, E, q, k⟩ => by
  obtain ⟨x, h1, q1, q⟩ := M.bind_ok q
  refine ⟨ah, F, N, ρ, hs, x, h1, G, E, q1, fun F1 H1 x1 G1 => ?_⟩
  cases x with
  | true => exact ⟨ah, F1, N, ρ, h1, p, hs', G1, E.ext G x1, q, fun F2 H2 x2 G2 => k F2 H2 (x1.trans G G1 x2) G2⟩
  | false => cases M.pure_ok q; exact k F1 H1 x1 G1
theorem sw_or (h : ST X a ta) (h' : SW X (.BoolOp .Or (b :: rest) pos) tb) : SW X (.BoolOp .Or (a :: b :: rest) pos) (gOrT ta tb) := PW.wk (pw_or h h') fun σ H Q ⟨ah, F, N, ρ, hs, p, hs', G, E, q, k⟩ => by
  obtain ⟨x, h1, q1, q⟩ := M.bind_ok q
  refine ⟨ah, F, N, ρ, hs, x, h1, G, E, q1, fun F1 H1 x1 G1 => ?_⟩
  cases x with
  | false => exact ⟨ah, F1, N, ρ, h1, p, hs', G1, E.ext G x1, q, fun F2 H2 x2 G2 => k F2 H2 (x1.trans G G1 x2) G2⟩
  | true => cases M.pure_ok q; exact k F1 H1 x1 G1
theorem st_w (h : SW X e ta) : ST X e ta := PW.pt h
theorem st_not (h : ST X a ta) : ST X (.UnaryOp .Not a pos) (gNotT ta) := PT.wk (pt_not h) fun σ H Q ⟨ah, F, N, ρ, hs, p, hs', G, E, q, k⟩ => by
  obtain ⟨x, h1, q1, q⟩ := M.bind_ok q
  cases M.pure_ok q
  exact ⟨ah, F, N, ρ, hs, x, _, G, E, q1, fun F1 H1 x1 G1 => k F1 H1 x1 G1⟩
/-- as values: all but the last a truth value -/
def gAnd (ga gb : EM) : EM := fun ρ => do
  let x ← ga ρ
  let k ← asBl x
  if k = true then gb ρ else pure (.bl false)
def gOr (ga gb : EM) : EM := fun ρ => do
  let x ← ga ρ
  let k ← asBl x
  if k = true then pure (.bl true) else gb ρ
def gNot (ga : EM) : EM := fun ρ => do
  let x ← ga ρ
  let k ← asBl x
  pure (.bl (!k))
theorem se_one {op} (h : SE X a ga) : SE X (.BoolOp op [a] pos) ga := pe_one h
theorem se_and (h : SE X a ga) (h' : SE X (.BoolOp .And (b :: rest) pos) gb) : SE X (.BoolOp .And (a :: b :: rest) pos) (gAnd ga gb) := PE.wk (pe_and h h') fun σ H Q ⟨ah, F, N, ρ, hs, p, hs', G, E, q, k⟩ => by
  obtain ⟨x, h1, q1, q⟩ := M.bind_ok q
  obtain ⟨d, h2, q2, q⟩ := M.bind_ok q
  obtain ⟨rfl, rfl⟩ := asBl_ok q2
  refine ⟨ah, F, N, ρ, hs, _, _, G, E, q1, fun F1 H1 v1 x1 G1 r1 => ?_⟩
  cases r1
  refine ⟨d, rfl, ?_⟩
  cases d with
  | true => exact ⟨ah, F1, N, ρ, _, p, hs', G1, E.ext G x1, q, fun F2 H2 v x2 G2 r2 => k F2 H2 v (x1.trans G G1 x2) G2 r2⟩
  | false => cases M.pure_ok q; exact k F1 H1 _ x1 G1 (.bl _)
theorem se_or (h : SE X a ga) (h' : SE X (.BoolOp .Or (b :: rest) pos) gb) : SE X (.BoolOp .Or (a :: b :: rest) pos) (gOr ga gb) := PE.wk (pe_or h h') fun σ H Q ⟨ah, F, N, ρ, hs, p, hs', G, E, q, k⟩ => by
  obtain ⟨x, h1, q1, q⟩ := M.bind_ok q
  obtain ⟨d, h2, q2, q⟩ := M.bind_ok q
  obtain ⟨rfl, rfl⟩ := asBl_ok q2
  refine ⟨ah, F, N, ρ, hs, _, _, G, E, q1, fun F1 H1 v1 x1 G1 r1 => ?_⟩
  cases r1
  refine ⟨d, rfl, ?_⟩
  cases d with
  | false => exact ⟨ah, F1, N, ρ, _, p, hs', G1, E.ext G x1, q, fun F2 H2 v x2 G2 r2 => k F2 H2 v (x1.trans G G1 x2) G2 r2⟩
  | true => cases M.pure_ok q; exact k F1 H1 _ x1 G1 (.bl _)
theorem se_not (h : SE X a ga) : SE X (.UnaryOp .Not a pos) (gNot ga) := PE.wk (pe_not h) fun σ H Q ⟨ah, F, N, ρ, hs, p, hs', G, E, q, k⟩ => by
  obtain ⟨x, h1, q1, q⟩ := M.bind_ok q
  obtain ⟨d, h2, q2, q⟩ := M.bind_ok q
  obtain ⟨rfl, rfl⟩ := asBl_ok q2
  cases M.pure_ok q
  refine ⟨ah, F, N, ρ, hs, _, _, G, E, q1, fun F1 H1 v1 x1 G1 r1 => ?_⟩
  cases r1
  exact ⟨d, rfl, k F1 H1 _ x1 G1 (.bl _)⟩
theorem se_neg (h : SE X a ga) : SE X (.UnaryOp .USub a pos) (fun ρ => do
    let x ← ga ρ
    match x with
    | .int i => pure (.int (-i))
    | _ => stuck) := PE.wk (pe_un un_neg h) fun σ H Q ⟨ah, F, N, ρ, hs, p, hs', G, E, q, k⟩ => by
  obtain ⟨x, h1, q1, q⟩ := M.bind_ok q
  cases x <;> first | (cases q; done) | skip
  cases M.pure_ok q
  refine ⟨ah, F, N, ρ, hs, _, _, G, E, q1, fun F1 H1 v1 x1 G1 r1 => ?_⟩
  cases r1
  exact ⟨_, rfl, k F1 H1 _ x1 G1 (.int _)⟩
/-- a if t else b -/
def gIf (t : TM) (ga gb : EM) : EM := fun ρ => do
  let x ← t ρ
  if x = true then ga ρ else gb ρ
theorem se_if (h : ST X c ta) (h1 : SE X a ga) (h2 : SE X b gb) : SE X (.IfExp c a b pos) (gIf ta ga gb) := PE.wk (pe_ifExp h h1 h2) fun σ H Q ⟨ah, F, N, ρ, hs, p, hs', G, E, q, k⟩ => by
  obtain ⟨x, h1, q1, q⟩ := M.bind_ok q
  refine ⟨ah, F, N, ρ, hs, x, h1, G, E, q1, fun F1 H1 x1 G1 => ?_⟩
  cases x with
  | true => exact ⟨ah, F1, N, ρ, h1, p, hs', G1, E.ext G x1, q, fun F2 H2 v x2 G2 r2 => k F2 H2 v (x1.trans G G1 x2) G2 r2⟩
  | false => exact ⟨ah, F1, N, ρ, h1, p, hs', G1, E.ext G x1, q, fun F2 H2 v x2 G2 r2 => k F2 H2 v (x1.trans G G1 x2) G2 r2⟩
/-! ### rows of expressions -/
def gNil : Ev → M (List PV) := fun _ => pure []
def gCons (g : EM) (gs : Ev → M (List PV)) : Ev → M (List PV) := fun ρ => do
  let x ← g ρ
  let xs ← gs ρ
  pure (x :: xs)
theorem sa_nil : SA X [] gNil := PA.wk pa_nil fun σ H Q ⟨ah, F, N, ρ, hs, p, hs', G, E, q, k⟩ => by
  cases M.pure_ok q
  exact k F H _ .refl G .nil
theorem sa_cons (h : SE X e g) (h' : SA X es gs) (hs : starEach (e :: es) X.env = (false, eval e X.env) :: starEach es X.env := by rfl) : SA X (e :: es) (gCons g gs) := PA.wk (pa_cons h h' hs) fun σ H Q ⟨ah, F, N, ρ, hs, p, hs', G, E, q, k⟩ => by
  obtain ⟨x, h1, q1, q⟩ := M.bind_ok q
  obtain ⟨y, h2, q2, q⟩ := M.bind_ok q
  cases M.pure_ok q
  exact ⟨ah, F, N, ρ, hs, x, h1, G, E, q1, fun F1 H1 v1 x1 G1 r1 => ⟨ah, F1, N, ρ, h1, y, _, G1, E.ext G x1, q2, fun F2 H2 v2 x2 G2 r2 => k F2 H2 _ (x1.trans G G1 x2) G2 (.cons (r1.mono (G1.kp x2)) r2)⟩⟩
theorem sab_nil : SAB X [] gNil := PA.wk pa_nil fun σ H Q ⟨ah, F, N, ρ, hs, p, hs', G, E, q, k⟩ => by
  cases M.pure_ok q
  exact k F H _ .refl G .nil
theorem sab_cons (h : SB X e g) (h' : SAB X es gs) (hs : starEach (e :: es) X.env = (false, eval e X.env) :: starEach es X.env := by rfl) : SAB X (e :: es) (gCons g gs) := PA.wk (pa_cons h h' hs) fun σ H Q ⟨ah, F, N, ρ, hs, p, hs', G, E, q, k⟩ => by
  obtain ⟨x, h1, q1, q⟩ := M.bind_ok q
  obtain ⟨y, h2, q2, q⟩ := M.bind_ok q
  cases M.pure_ok q
  exact ⟨ah, F, N, ρ, hs, x, h1, G, E, q1, fun F1 H1 v1 x1 G1 r1 => ⟨ah, F1, N, ρ, h1, y, _, G1, E.ext G x1, q2, fun F2 H2 v2 x2 G2 r2 => k F2 H2 _ (x1.trans G G1 x2) G2 (.cons (r1.ext G1 x2) r2)⟩⟩
def gTup (gs : Ev → M (List PV)) : EM := fun ρ => do
  let xs ← gs ρ
  guardM (xs.length ≤ SZ) (pure (.tup xs))
def gLst (gs : Ev → M (List PV)) : EM := fun ρ => do
  let xs ← gs ρ
  guardM (xs.length ≤ SZ) (pure (.lst xs))
theorem se_tup {k : Nat} (h : SA X es gs) : SE X (.Tuple es k pos) (gTup gs) := PE.wk (pe_tup h) fun σ H Q ⟨ah, F, N, ρ, hs, p, hs', G, E, q, k⟩ => by
  obtain ⟨x, h1, q1, q⟩ := M.bind_ok q
  obtain ⟨hz, q⟩ := guard_ok q
  cases M.pure_ok q
  refine ⟨ah, F, N, ρ, hs, x, _, G, E, q1, fun F1 H1 v1 x1 G1 r1 => ?_⟩
  have z : v1.length ≤ sizeLine := by rw [r1.length, szE]; exact hz
  exact ⟨z, fun a n => new_tup G1 n z r1 fun F2 H2 v x2 G2 r2 => k F2 H2 v (x1.trans G G1 x2) G2 r2⟩
theorem sf_lst (h : SA X es gs) : SF X (.List es pos) (gLst gs) := PE.wk (pe_lst h) fun σ H Q ⟨ah, F, N, ρ, hs, p, hs', G, E, q, k⟩ => by
  obtain ⟨x, h1, q1, q⟩ := M.bind_ok q
  obtain ⟨hz, q⟩ := guard_ok q
  cases M.pure_ok q
  refine ⟨ah, F, N, ρ, hs, x, _, G, E, q1, fun F1 H1 v1 x1 G1 r1 => ?_⟩
  have z : v1.length ≤ sizeLine := by rw [r1.length, szE]; exact hz
  exact ⟨z, fun a n => new_lst G1 n z r1 fun F2 H2 v x2 G2 n2 nf o => k F2 H2 v (x1.trans G G1 x2) G2 (x1.free G n2 (G1.ne n2)) nf o⟩
end
end SL

end
section
namespace SL
open PySem PySem.Spec PyProof.Rows L2
/-! ### subscripts -/
def pIx : PV → PV → M PV
  | .tup l, .int i => liftO (atI l i)
  | .lst l, .int i => liftO (atI l i)
  | .scr l, .int i => liftO ((atI l i).map .int)
  | .hand, .int i => do
    let h ← get
    liftO (atI h i)
  | _, _ => stuck
theorem atI_reps {K : Fg} {ah : Option Addr} {F : Addr → Prop} {H : Hp} {vs : List V} {ps : List PV} {i : Int} {p : PV} (r : Reps K ah F H vs ps) (h : atI ps i = some p) : ∃ v, atI vs i = some v ∧ Rep K ah F H v p := by
  unfold atI at h ⊢
  rw [r.length]
  cases e : ixN ps.length i with
  | none => rw [e] at h; cases h
  | some j =>
    rw [e] at h
    exact r.get h
theorem atI_map {α β : Type} {f : α → β} {l : List α} {i : Int} : atI (l.map f) i = (atI l i).map f := by
  unfold atI
  rw [List.length_map]
  cases e : ixN l.length i with
  | none => rfl
  | some j => show (l.map f)[j]? = (l[j]?).map f; rw [List.getElem?_map]
theorem M.get_ok {h : HS} {r : HS × HS} (e : (get : M HS) h = .ok r) : r = (h, h) := by
  have e : Except.ok (h, h) = .ok r := e
  cases e; rfl
theorem ops_ix {X : Cx} : OpS X (rIx X.K) pIx := fun ah F H hs hs' x y p q z Q G c d e k => by
  cases p with
  | tup l =>
    cases q <;> first | (cases e; done) | skip
    obtain ⟨e1, e2⟩ := M.lift_ok e
    cases e2
    obtain ⟨a, vs, rfl, h, _, r⟩ := c.tup
    obtain ⟨v, e3, r3⟩ := atI_reps r e1
    exact .inr (.inl ⟨a, vs, _, v, rfl, d.int, .of h, e3, k F H v .refl G r3⟩)
  | lst l =>
    cases q <;> first | (cases e; done) | skip
    obtain ⟨e1, e2⟩ := M.lift_ok e
    cases e2
    obtain ⟨a, vs, rfl, h, _, r⟩ := c.lst
    obtain ⟨v, e3, r3⟩ := atI_reps r e1
    exact .inl ⟨a, vs, _, v, rfl, d.int, .of h, e3, k F H v .refl G r3⟩
  | scr l =>
    cases q <;> first | (cases e; done) | skip
    obtain ⟨e1, e2⟩ := M.lift_ok e
    cases e2
    obtain ⟨a, rfl, h⟩ := c.scr
    rename_i i
    cases e3 : atI l i with
    | none => rw [e3] at e1; cases e1
    | some j =>
      rw [e3] at e1
      cases e1
      exact .inl ⟨a, _, _, .int j, rfl, d.int, h, by rw [atI_map, e3]; rfl, k F H _ .refl G (.int j)⟩
  | hand =>
    cases q <;> first | (cases e; done) | skip
    obtain ⟨h1, hs1, q1, e⟩ := M.bind_ok e
    cases M.get_ok q1
    obtain ⟨e1, e2⟩ := M.lift_ok e
    cases e2
    obtain ⟨a, vs, rfl, _, h, _, r⟩ := c.hand G
    obtain ⟨v, e3, r3⟩ := atI_reps r e1
    exact .inl ⟨a, vs, _, v, rfl, d.int, .of h, e3, k F H v .refl G r3⟩
  | _ => cases e
section
variable {X : Cx} {e a b c : Expr} {es rest : List Expr} {pos p2 : Pos} {g ga gb gc : EM} {gs : Ev → M (List PV)}
theorem se_ix (ha : SB X a ga) (hb : SB X b gb) (hs : PlainIx b) : SE X (.Subscript a b pos) (gBin pIx ga gb) := PE.wk (pe_ix ix_seq ha hb hs) (bin_w ops_ix)
/-! slices -/
abbrev OM := Ev → M (Option Int)
def tSO (K : Fg) (g : OM) : TO := fun σ H Q => ∃ ah F N ρ hs p hs', GI K ah F H hs ∧ ER K ah F H N σ ρ ∧ g ρ hs = .ok (p, hs') ∧
  ∀ F' H', Ext K ah F H F' H' → GI K ah F' H' hs' → Q p H'
abbrev SO (X : Cx) (e : Option Expr) (g : OM) : Prop := PO X e (tSO X.K g)
theorem PO.wk {X : Cx} {e : Option Expr} {t u : TO} (h : PO X e t) (w : ∀ σ H Q, u σ H Q → t σ H Q) : PO X e u := ⟨fun pins s σ H Q I q => h.run pins s σ H Q I (w σ H Q q)⟩
def oNone : OM := fun _ => pure none
def asInt : PV → M Int
  | .int i => pure i
  | _ => stuck
theorem asInt_ok {p : PV} {hs : HS} {r : Int × HS} (h : asInt p hs = .ok r) : p = .int r.1 ∧ r.2 = hs := by
  cases p <;> first | (cases h; done) | skip
  cases M.pure_ok h
  exact ⟨rfl, rfl⟩
def oSome (g : EM) : OM := fun ρ => do
  let x ← g ρ
  let i ← asInt x
  pure (some i)
theorem so_none : SO X none oNone := PO.wk po_none fun σ H Q ⟨ah, F, N, ρ, hs, p, hs', G, E, q, k⟩ => by
  cases M.pure_ok q
  exact k F H .refl G
theorem so_some (h : SB X e g) : SO X (some e) (oSome g) := PO.wk (po_some h) fun σ H Q ⟨ah, F, N, ρ, hs, p, hs', G, E, q, k⟩ => by
  obtain ⟨x, h1, q1, q⟩ := M.bind_ok q
  obtain ⟨i, h2, q2, q⟩ := M.bind_ok q
  obtain ⟨rfl, rfl⟩ := asInt_ok q2
  cases M.pure_ok q
  refine ⟨ah, F, N, ρ, hs, _, _, G, E, q1, fun F1 H1 v1 x1 G1 r1 => ?_⟩
  exact ⟨_, (r1.con (E.ext G x1)).int, k F1 H1 x1 G1⟩
def cut {α : Type} (xs : List α) (lo hi : Option Int) : List α := (xs.drop (HT.sIx xs.length 0 lo)).take (HT.sIx xs.length xs.length hi - HT.sIx xs.length 0 lo)
def pSl : PV → Option Int → Option Int → M PV
  | .tup l, lo, hi => pure (.tup (cut l lo hi))
  | .lst l, lo, hi => pure (.lst (cut l lo hi))
  | .scr l, lo, hi => pure (.lst ((cut l lo hi).map .int))
  | _, _, _ => stuck
def gSl (g : EM) (lo hi : OM) : EM := fun ρ => do
  let x ← g ρ
  let l ← lo ρ
  let h ← hi ρ
  pSl x l h
theorem cut_reps {K : Fg} {ah : Option Addr} {F : Addr → Prop} {H : Hp} {vs : List V} {ps : List PV} {lo hi : Option Int} (r : Reps K ah F H vs ps) : Reps K ah F H (cutV vs lo hi) (cut ps lo hi) := by
  unfold cutV cut
  rw [r.length]
  exact (r.drop _).take _
theorem cutV_map {α : Type} (f : α → V) (l : List α) (lo hi : Option Int) : cutV (l.map f) lo hi = (cut l lo hi).map f := by
  unfold cutV cut
  rw [List.length_map, List.map_take, List.map_drop]
theorem sl_w {ah : Option Addr} {F : Addr → Prop} {H : Hp} {hs hs' : HS} {v : V} {p z : PV} {lo hi : Option Int} {Q : VK} (G : GI X.K ah F H hs) (c : Con X.K ah F H v p) (e : pSl p lo hi hs = .ok (z, hs'))
    (k : ∀ F' H' v, Ext X.K ah F H F' H' → GI X.K ah F' H' hs' → Rep X.K ah F' H' v z → Q v H') : rSlA X.K v lo hi H Q ∨ rSlL X.K v lo hi H Q := by
  cases p with
  | tup l =>
    cases M.pure_ok e
    obtain ⟨a, vs, rfl, h, z, r⟩ := c.tup
    refine .inl ⟨a, vs, rfl, .of h, fun w => ?_, fun _ a n => ?_⟩
    · refine k F H _ .refl G ?_
      have e : cut l lo hi = l := by
        unfold cut
        rw [← r.length, w.1, w.2, Nat.sub_zero, List.drop_zero, r.length, List.take_length]
      rw [e]
      exact .tup h z r
    · exact new_tup G n (Nat.le_trans (cutV_length _ _ _) z) (cut_reps r) k
  | lst l =>
    cases M.pure_ok e
    obtain ⟨a, vs, rfl, h, z, r⟩ := c.lst
    refine .inr ⟨a, vs, rfl, .of h, fun a n => ?_⟩
    refine new_lst (Q := Q) G n (Nat.le_trans (cutV_length _ _ _) z) (cut_reps r) fun F2 H2 b x2 G2 n2 nf o => ?_
    obtain ⟨u, hu⟩ := o.there
    exact k (fun c => F2 c ∨ c = b) H2 (.ref b) ⟨fun c h => .inl (x2.mono c h), fun c h => h.elim (x2.new c) fun e => .inr (e ▸ n2), x2.keep⟩ (G2.frz hu (G.ne n2)) o.frzn
  | scr l =>
    cases M.pure_ok e
    obtain ⟨a, rfl, h⟩ := c.scr
    refine .inr ⟨a, _, rfl, h, fun a n => ?_⟩
    rw [cutV_map]
    have hz : ((cut l lo hi).map V.int).length ≤ sizeLine := by
      cases c with
      | rep r =>
        cases r with
        | scr _ z =>
          rw [List.length_map]
          refine Nat.le_trans ?_ z
          unfold cut
          rw [List.length_take, List.length_drop]
          omega
      | own o => cases o
    refine new_lst (Q := Q) G n hz (Reps.ints (cut l lo hi)) fun F2 H2 b x2 G2 n2 nf o => ?_
    obtain ⟨u, hu⟩ := o.there
    exact k (fun c => F2 c ∨ c = b) H2 (.ref b) ⟨fun c h => .inl (x2.mono c h), fun c h => h.elim (x2.new c) fun e => .inr (e ▸ n2), x2.keep⟩ (G2.frz hu (G.ne n2)) o.frzn
  | _ => cases e
theorem se_sl {lo hi : Option Expr} {gl gh : OM} (h : SB X e g) (hl : SO X lo gl) (hh : SO X hi gh) : SE X (.Subscript e (.Slice lo hi none p2) pos) (gSl g gl gh) := PE.wk (pe_slice (sl_tupA.or sl_list) h hl hh) fun σ H Q ⟨ah, F, N, ρ, hs, p, hs', G, E, q, k⟩ => by
  obtain ⟨x, h1, q1, q⟩ := M.bind_ok q
  obtain ⟨l, h2, q2, q⟩ := M.bind_ok q
  obtain ⟨u, h3, q3, q⟩ := M.bind_ok q
  refine ⟨ah, F, N, ρ, hs, x, h1, G, E, q1, fun F1 H1 v1 x1 G1 r1 => ?_⟩
  have E1 := E.ext G x1
  refine ⟨ah, F1, N, ρ, h1, l, h2, G1, E1, q2, fun F2 H2 x2 G2 => ?_⟩
  have E2 := E1.ext G1 x2
  refine ⟨ah, F2, N, ρ, h2, u, h3, G2, E2, q3, fun F3 H3 x3 G3 => ?_⟩
  have E3 := E2.ext G2 x3
  have x13 := (x1.trans G G1 x2).trans G G2 x3
  exact sl_w G3 (((r1.ext G1 x2).ext G2 x3).con E3) q fun F4 H4 v x4 G4 r4 => k F4 H4 v (x13.trans G G3 x4) G4 r4

/-! ### calls of builtins -/
inductive Cons (K : Fg) (ah : Option Addr) (F : Addr → Prop) (H : Hp) : List V → List PV → Prop
  | nil : Cons K ah F H [] []
  | cons {v : V} {p : PV} {vs : List V} {ps : List PV} : Con K ah F H v p → Cons K ah F H vs ps → Cons K ah F H (v :: vs) (p :: ps)
theorem RepsB.cons' {K : Fg} {ah : Option Addr} {F N : Addr → Prop} {H : Hp} {σ : L2.St} {ρ : Ev} {vs : List V} {ps : List PV} (E : ER K ah F H N σ ρ) (r : RepsB K ah F H σ ρ vs ps) : Cons K ah F H vs ps := by
  induction r with
  | nil => exact .nil
  | cons r _ ih => exact .cons (r.con E) ih
def CallS (X : Cx) (r : List V → Hp → VK → Prop) (fp : List PV → M PV) : Prop := ∀ (ah : Option Addr) (F : Addr → Prop) (H : Hp) (hs hs' : HS) (xs : List V) (ps : List PV) (z : PV) (Q : VK), GI X.K ah F H hs → Cons X.K ah F H xs ps → fp ps hs = .ok (z, hs') →
  (∀ F' H' v, Ext X.K ah F H F' H' → GI X.K ah F' H' hs' → Rep X.K ah F' H' v z → Q v H') → r xs H Q
def CallF (X : Cx) (r : List V → Hp → VK → Prop) (fp : List PV → M PV) : Prop := ∀ (ah : Option Addr) (F : Addr → Prop) (H : Hp) (hs hs' : HS) (xs : List V) (ps : List PV) (z : PV) (Q : VK), GI X.K ah F H hs → Cons X.K ah F H xs ps → fp ps hs = .ok (z, hs') →
  (∀ F' H' a, Ext X.K ah F H F' H' → GI X.K ah F' H' hs' → H a = none → ¬ F' a → Own X.K ah F' H' a z → Q (.ref a) H') → r xs H Q
def gB (fp : List PV → M PV) (gs : Ev → M (List PV)) : EM := fun ρ => do
  let xs ← gs ρ
  fp xs
theorem se_B {r : List V → Hp → VK → Prop} {fp : List PV → M PV} (ho : CallS X r fp) (h : PE X e (tCB r (tSAB X.K gs))) : SE X e (gB fp gs) := PE.wk h fun σ H Q ⟨ah, F, N, ρ, hs, p, hs', G, E, q, k⟩ => by
  obtain ⟨x, h1, q1, q⟩ := M.bind_ok q
  refine ⟨ah, F, N, ρ, hs, x, h1, G, E, q1, fun F1 H1 v1 x1 G1 r1 => ?_⟩
  exact ho ah F1 H1 h1 hs' v1 x p Q G1 (r1.cons' (E.ext G x1)) q fun F2 H2 v x2 G2 r2 => k F2 H2 v (x1.trans G G1 x2) G2 r2
theorem sf_B {r : List V → Hp → VK → Prop} {fp : List PV → M PV} (ho : CallF X r fp) (h : PE X e (tCB r (tSAB X.K gs))) : SF X e (gB fp gs) := PE.wk h fun σ H Q ⟨ah, F, N, ρ, hs, p, hs', G, E, q, k⟩ => by
  obtain ⟨x, h1, q1, q⟩ := M.bind_ok q
  refine ⟨ah, F, N, ρ, hs, x, h1, G, E, q1, fun F1 H1 v1 x1 G1 r1 => ?_⟩
  exact ho ah F1 H1 h1 hs' v1 x p Q G1 (r1.cons' (E.ext G x1)) q fun F2 H2 a x2 G2 n nf o => k F2 H2 a (x1.trans G G1 x2) G2 (x1.free G n (G1.ne n)) nf o

def pLen : List PV → M PV
  | [.tup l] => pure (.int l.length)
  | [.lst l] => pure (.int l.length)
  | [.scr l] => pure (.int l.length)
  | _ => stuck
theorem cs_len : CallS X (fun xs H Q => ∃ p ys, xs = [.ref p] ∧ (SqL X.K H p ys ∨ SqT X.K H p ys) ∧ Q (.int ys.length) H) pLen := fun ah F H hs hs' xs ps z Q G c e k => by
  unfold pLen at e
  split at e
  · cases M.pure_ok e
    cases c with | cons c t => cases t; obtain ⟨a, vs, rfl, h, _, r⟩ := c.tup; exact ⟨a, vs, rfl, .inr (.of h), by rw [r.length]; exact k F H _ .refl G (.int _)⟩
  · cases M.pure_ok e
    cases c with | cons c t => cases t; obtain ⟨a, vs, rfl, h, _, r⟩ := c.lst; exact ⟨a, vs, rfl, .inl (.of h), by rw [r.length]; exact k F H _ .refl G (.int _)⟩
  · cases M.pure_ok e
    cases c with | cons c t => cases t; obtain ⟨a, rfl, h⟩ := c.scr; exact ⟨a, _, rfl, .inl h, by rw [List.length_map]; exact k F H _ .refl G (.int _)⟩
  · cases e
def pAbs : List PV → M PV
  | [.int i] => pure (.int (if i < 0 then -i else i))
  | _ => stuck
theorem cs_abs : CallS X (fun xs H Q => ∃ i, xs = [.int i] ∧ Q (.int (if i < 0 then -i else i)) H) pAbs := fun ah F H hs hs' xs ps z Q G c e k => by
  unfold pAbs at e
  split at e
  · cases M.pure_ok e
    cases c with | cons c t => cases t; rw [c.int]; exact ⟨_, rfl, k F H _ .refl G (.int _)⟩
  · cases e
def pInt : List PV → M PV
  | [.int i] => pure (.int i)
  | [.bl b] => pure (.int (if b then 1 else 0))
  | _ => stuck
theorem cs_int : CallS X (fun xs H Q => (∃ i, xs = [.int i] ∧ Q (.int i) H) ∨ ∃ k, xs = [.bl k] ∧ Q (.int (if k then 1 else 0)) H) pInt := fun ah F H hs hs' xs ps z Q G c e k => by
  unfold pInt at e
  split at e
  · cases M.pure_ok e
    cases c with | cons c t => cases t; rw [c.int]; exact .inl ⟨_, rfl, k F H _ .refl G (.int _)⟩
  · cases M.pure_ok e
    cases c with | cons c t => cases t; rw [c.bl]; exact .inr ⟨_, rfl, k F H _ .refl G (.int _)⟩
  · cases e
def pMax2 : List PV → M PV
  | [.int i, .int j] => pure (.int (if j > i then j else i))
  | _ => stuck
def pMin2 : List PV → M PV
  | [.int i, .int j] => pure (.int (if j < i then j else i))
  | _ => stuck
theorem cs_max2 : CallS X (fun xs H Q => ∃ i j, xs = [.int i, .int j] ∧ Q (.int (if j > i then j else i)) H) pMax2 := fun ah F H hs hs' xs ps z Q G c e k => by
  unfold pMax2 at e
  split at e
  · cases M.pure_ok e
    cases c with | cons c t => cases t with | cons d t => cases t; rw [c.int, d.int]; exact ⟨_, _, rfl, k F H _ .refl G (.int _)⟩
  · cases e
theorem cs_min2 : CallS X (fun xs H Q => ∃ i j, xs = [.int i, .int j] ∧ Q (.int (if j < i then j else i)) H) pMin2 := fun ah F H hs hs' xs ps z Q G c e k => by
  unfold pMin2 at e
  split at e
  · cases M.pure_ok e
    cases c with | cons c t => cases t with | cons d t => cases t; rw [c.int, d.int]; exact ⟨_, _, rfl, k F H _ .refl G (.int _)⟩
  · cases e
def pTuple : List PV → M PV
  | [.tup l] => pure (.tup l)
  | [.lst l] => pure (.tup l)
  | _ => stuck
theorem cs_tuple : CallS X (fun xs H Q => ∃ p ys, xs = [.ref p] ∧ ((SqL X.K H p ys ∧ ∀ l, H l = none → Q (.ref l) (upd H l (.tup ys))) ∨ (SqT X.K H p ys ∧ Q (.ref p) H))) pTuple := fun ah F H hs hs' xs ps z Q G c e k => by
  unfold pTuple at e
  split at e
  · cases M.pure_ok e
    cases c with | cons c t => cases t; obtain ⟨a, vs, rfl, h, z, r⟩ := c.tup; exact ⟨a, vs, rfl, .inr ⟨.of h, k F H _ .refl G (.tup h z r)⟩⟩
  · cases M.pure_ok e
    cases c with | cons c t => cases t; obtain ⟨a, vs, rfl, h, z, r⟩ := c.lst; exact ⟨a, vs, rfl, .inl ⟨.of h, fun l n => new_tup G n z r k⟩⟩
  · cases e
def pList : List PV → M PV
  | [.tup l] => pure (.lst l)
  | [.lst l] => pure (.lst l)
  | _ => stuck
theorem cf_list : CallF X (fun xs H Q => ∃ p ys, xs = [.ref p] ∧ (SqL X.K H p ys ∨ SqT X.K H p ys) ∧ ∀ l, H l = none → Q (.ref l) (upd H l (.lst ys))) pList := fun ah F H hs hs' xs ps z Q G c e k => by
  unfold pList at e
  split at e
  · cases M.pure_ok e
    cases c with | cons c t => cases t; obtain ⟨a, vs, rfl, h, z, r⟩ := c.tup; exact ⟨a, vs, rfl, .inr (.of h), fun l n => new_lst G n z r k⟩
  · cases M.pure_ok e
    cases c with | cons c t => cases t; obtain ⟨a, vs, rfl, h, z, r⟩ := c.lst; exact ⟨a, vs, rfl, .inl (.of h), fun l n => new_lst G n z r k⟩
  · cases e
/-- all, any of a list of truth values -/
def bls? : List PV → Option (List Bool)
  | [] => some []
  | .bl i :: r => (bls? r).map (i :: ·)
  | _ => none
theorem bls?_eq : ∀ {ps : List PV} {ns : List Bool}, bls? ps = some ns → ps = ns.map PV.bl
  | [], _, h => by cases h; rfl
  | p :: r, ns, h => by
    cases p with
    | bl i =>
      have h : (bls? r).map (i :: ·) = some ns := h
      cases e : bls? r with
      | none => rw [e] at h; cases h
      | some ms =>
        rw [e] at h; cases h
        rw [bls?_eq e]; rfl
    | _ => cases h
theorem Reps.bls_of {K : Fg} {ah : Option Addr} {F : Addr → Prop} {H : Hp} : ∀ {vs : List V} {ns : List Bool}, Reps K ah F H vs (ns.map PV.bl) → vs = ns.map V.bl
  | _, [], .nil => rfl
  | _, n :: r, .cons h t => by
    cases h
    rw [Reps.bls_of t]; rfl
def pAll : List PV → M PV
  | [.lst l] => do
    let bs ← liftO (bls? l)
    pure (.bl (bs.all id))
  | _ => stuck
def pAny : List PV → M PV
  | [.lst l] => do
    let bs ← liftO (bls? l)
    pure (.bl (bs.any id))
  | _ => stuck
theorem cs_all : CallS X (rAll X.K) pAll := fun ah F H hs hs' xs ps z Q G c e k => by
  unfold pAll at e
  split at e
  · obtain ⟨bs, h1, q1, e'⟩ := M.bind_ok e
    obtain ⟨e1, e2⟩ := M.lift_ok q1
    cases e2
    cases M.pure_ok e'
    rw [bls?_eq e1] at c
    cases c with | cons c t => cases t; obtain ⟨a, vs, rfl, h, z, r⟩ := c.lst; rw [r.bls_of] at h; exact ⟨a, _, rfl, .of h, k F H _ .refl G (.bl _)⟩
  · cases e
theorem cs_any : CallS X (rAny X.K) pAny := fun ah F H hs hs' xs ps z Q G c e k => by
  unfold pAny at e
  split at e
  · obtain ⟨bs, h1, q1, e'⟩ := M.bind_ok e
    obtain ⟨e1, e2⟩ := M.lift_ok q1
    cases e2
    cases M.pure_ok e'
    rw [bls?_eq e1] at c
    cases c with | cons c t => cases t; obtain ⟨a, vs, rfl, h, z, r⟩ := c.lst; rw [r.bls_of] at h; exact ⟨a, _, rfl, .of h, k F H _ .refl G (.bl _)⟩
  · cases e
def pSum : List PV → M PV
  | [.lst l] => do
    let bs ← liftO (ints? l)
    pure (.int bs.sum)
  | _ => stuck
theorem cs_sum : CallS X (rSum X.K) pSum := fun ah F H hs hs' xs ps z Q G c e k => by
  unfold pSum at e
  split at e
  · obtain ⟨bs, h1, q1, e'⟩ := M.bind_ok e
    obtain ⟨e1, e2⟩ := M.lift_ok q1
    cases e2
    cases M.pure_ok e'
    rw [ints?_eq e1] at c
    cases c with | cons c t => cases t; obtain ⟨a, vs, rfl, h, z, r⟩ := c.lst; rw [r.ints_of] at h; exact ⟨a, _, rfl, .of h, k F H _ .refl G (.int _)⟩
  · cases e
/-! ### isinstance -/
inductive Cl where
  | int | bool | str | tuple | list | dict
def Cl.name : Cl → String
  | .int => "int" | .bool => "bool" | .str => "str" | .tuple => "tuple" | .list => "list" | .dict => "dict"
def tyN : PV → Option String
  | .non => some "NoneType"
  | .bl _ => some "bool"
  | .int _ => some "int"
  | .str _ => some "str"
  | .tup _ => some "tuple"
  | .lst _ => some "list"
  | .dK _ => some "dict"
  | .dT _ => some "dict"
  | _ => none
def isA : Cl → PV → Bool
  | .int, .int _ => true
  | .int, .bl _ => true
  | .bool, .bl _ => true
  | .str, .str _ => true
  | .tuple, .tup _ => true
  | .list, .lst _ => true
  | .dict, .dK _ => true
  | .dict, .dT _ => true
  | _, _ => false
theorem kit_isA {c : Cl} {p : PV} {n : String} (h : tyN p = some n) : kitB n c.name = some (isA c p) := by
  cases p <;> cases h <;> cases c <;> first | (show kitB _ _ = some true; decide +kernel) | (show kitB _ _ = some false; decide +kernel)
theorem tyX_con {K : Fg} {ah : Option Addr} {F : Addr → Prop} {H : Hp} {v : V} {p : PV} {n : String} (c : Con K ah F H v p) (h : tyN p = some n) : TyX K H v (.type n) := by
  cases c with
  | rep r =>
    cases r with
    | non => cases h; exact .base .non
    | bl b => cases h; exact .base (.bl b)
    | int b => cases h; exact .base (.int b)
    | str b => cases h; exact .base (.str b)
    | tup s z r => cases h; exact .base (.tup s)
    | lst f s z r => cases h; exact .base (.lst s)
    | dK f s z e r => cases h; exact .base (.dK s)
    | dT f s z e r => cases h; exact .base (.dT s)
    | _ => cases h
  | own o =>
    cases o with
    | lst s z r => cases h; exact .base (.lst s)
    | dK s z e r => cases h; exact .base (.dK s)
    | dT s z e r => cases h; exact .base (.dT s)
def isiP (cs : List Cl) : PV → M PV
  | .ty _ => stuck
  | .hand => stuck
  | .scr _ => stuck
  | x => pure (.bl (cs.any fun c => isA c x))
def gIsi (cs : List Cl) (g : EM) : EM := fun ρ => do
  let x ← g ρ
  isiP cs x
theorem isiP_ok {cs : List Cl} {x : PV} {hs : HS} {r : PV × HS} (h : isiP cs x hs = .ok r) : (∃ n, tyN x = some n) ∧ r = (.bl (cs.any fun c => isA c x), hs) := by
  cases x <;> first | (cases h; done) | exact ⟨⟨_, rfl⟩, M.pure_ok h⟩
theorem se_isi {c : Cl} {p pos : Pos} (ha : SB X a g) (hc : PE X b (tC (.ty c.name))) (hm : X.mg "isinstance" = none) (hg : Gl X "isinstance" := by rfl) (h1 : starEach [a, b] X.env = (false, eval a X.env) :: starEach [b] X.env := by rfl) (h2 : starEach [b] X.env = (false, eval b X.env) :: starEach [] X.env := by rfl)
    (hpl : (backTo pos (starEach [b] X.env)).any (·.1) = false := by rfl) : SE X (.Call (.Name "isinstance" p) [a, b] [] pos) (gIsi [c] g) := PE.wk (pe_callB call_isi hg hm (by decide +kernel) (pa_cons ha (pa_cons hc pa_nil h2) h1) (by decide) (by decide) h1 hpl) fun σ H Q ⟨ah, F, N, ρ, hs, p, hs', G, E, q, k⟩ => by
  obtain ⟨x, h1, q1, q⟩ := M.bind_ok q
  obtain ⟨⟨n, hn⟩, q⟩ := isiP_ok q
  cases q
  refine ⟨ah, F, N, ρ, hs, x, _, G, E, q1, fun F1 H1 v1 x1 G1 r1 => ?_⟩
  refine ⟨v1, _, _, _, _, rfl, .ty _, tyX_con (r1.con (E.ext G x1)) hn, kit_ty (kit_isA hn), ?_⟩
  have := k F1 H1 _ x1 G1 (.bl _)
  simpa using this
theorem kit_any {K : Fg} {p : PV} {n : String} (h : tyN p = some n) : ∀ cs : List Cl, PySem.W.kitAny K (.type n) (cs.map fun c => Value.type c.name) = some (cs.any fun c => isA c p)
  | [] => kitAny_nil
  | c :: cs => by
    refine kitAny_cons (b := isA c p) (kit_ty (kit_isA h)) (fun e => ?_) fun e => ?_
    · rw [List.any_cons, e, Bool.false_or]; exact kit_any h cs
    · rw [List.any_cons, e, Bool.true_or]
/-- isinstance(x, (T1, T2)) -/
theorem se_isi2 {c1 c2 : Cl} {b1 b2 : Expr} {kk : Nat} {p pos pt : Pos} (ha : SB X a g) (hc1 : PE X b1 (tC (.ty c1.name))) (hc2 : PE X b2 (tC (.ty c2.name))) (hm : X.mg "isinstance" = none) (hg : Gl X "isinstance" := by rfl)
    (h1 : starEach [a, .Tuple [b1, b2] kk pt] X.env = (false, eval a X.env) :: starEach [.Tuple [b1, b2] kk pt] X.env := by rfl) (h3 : starEach [b1, b2] X.env = (false, eval b1 X.env) :: starEach [b2] X.env := by rfl) (h4 : starEach [b2] X.env = (false, eval b2 X.env) :: starEach [] X.env := by rfl)
    (hpl : (backTo pos (starEach [.Tuple [b1, b2] kk pt] X.env)).any (·.1) = false := by rfl) : SE X (.Call (.Name "isinstance" p) [a, .Tuple [b1, b2] kk pt] [] pos) (gIsi [c1, c2] g) :=
  PE.wk (pe_callB call_isiT hg hm (by decide +kernel) (pa_cons ha (pa_cons (pe_tup (pa_cons hc1 (pa_cons hc2 pa_nil h4) h3)) pa_nil rfl) h1) (by decide) (by decide) h1 hpl) fun σ H Q ⟨ah, F, N, ρ, hs, p, hs', G, E, q, k⟩ => by
  obtain ⟨x, h1, q1, q⟩ := M.bind_ok q
  obtain ⟨⟨n, hn⟩, q⟩ := isiP_ok q
  cases q
  refine ⟨ah, F, N, ρ, hs, x, _, G, E, q1, fun F1 H1 v1 x1 G1 r1 => ?_⟩
  refine ⟨by rw [szE]; show 2 ≤ SZ; decide, fun a na => ?_⟩
  have x2 : Ext X.K ah F1 H1 F1 (upd H1 a (.tup [.ty c1.name, .ty c2.name])) := .laid na
  have G2 := G1.laid (o := .tup [.ty c1.name, .ty c2.name]) na
  refine ⟨v1, a, _, _, _, _, rfl, upd_same, .cons (.ty _) (.cons (.ty _) .nil), tyX_con ((r1.ext G1 x2).con ((E.ext G x1).ext G1 x2)) hn, kit_any hn [c1, c2], ?_⟩
  exact k F1 _ _ (x1.trans G G1 x2) G2 (.bl _)
end
end SL

end
section
namespace SL
open PySem PySem.Spec PyProof.Rows L2
/-! ### defs -/
def spM (K : Fg) (n : Nat) (m : List PV → M PV) : Sp := fun vs H Q _ => vs.length = n ∧ ∃ ah F ps hs p hs', GI K ah F H hs ∧ Reps K ah F H vs ps ∧ m ps hs = .ok (p, hs') ∧
  ∀ F' H' v, Ext K ah F H F' H' → GI K ah F' H' hs' → Rep K ah F' H' v p → Q v H'
/-- a def that the walk knows: by its name, n parameters, level k, the mirror m -/
def Known (P : Program) (w : World) (K : Fg) (mg : Str → Option Value) (base : Heap) (x : Str) (n k : Nat) (m : List PV → M PV) : Prop :=
  ∃ f fd ps, mg x = some (.ref f) ∧ PySem.W.keepIn K (.ref f) = true ∧ L2.Binds K fd ps [] ∧ FnOk P w K mg base CX0 k f fd ps (spM K n m)
section
variable {X : Cx} {e a b c : Expr} {es rest : List Expr} {p pos : Pos} {g ga gb gc : EM} {gs : Ev → M (List PV)} {x : Str} {n k : Nat} {m : List PV → M PV}
theorem len_sa (h : Nat → Prop) {ah : Option Addr} {F : Addr → Prop} {H : Hp} {vs : List V} {ps : List PV} (r : Reps X.K ah F H vs ps) : vs.length = ps.length := r.length
theorem se_call (h : Known X.prog X.w X.K X.mg X.base x n k m) (hr : Room k X.A) (ha : SA X (e :: es) gs) (hn : ∀ ρ hs ps hs', gs ρ hs = .ok (ps, hs') → ps.length = n) (hg : Gl X x := by rfl) (hdb : (x == ("__debug__" : Str)) = false := by decide)
    (he : starEach (e :: es) X.env = (false, eval e X.env) :: starEach es X.env := by rfl) (hpl : (backTo pos (starEach es X.env)).any (·.1) = false := by rfl) : SE X (.Call (.Name x p) (e :: es) [] pos) (gB m gs) := by
  obtain ⟨f, fd, ps, hm, hk, hb, F⟩ := h
  refine PE.wk (pe_call F hr hg hm hk hb .nil pass0 ha hdb he hpl) fun σ H Q ⟨ah, F, N, ρ, hs, p, hs', G, E, q, k⟩ => ?_
  obtain ⟨x, h1, q1, q⟩ := M.bind_ok q
  refine ⟨ah, F, N, ρ, hs, x, h1, G, E, q1, fun F1 H1 v1 x1 G1 r1 => ?_⟩
  refine ⟨?_, ah, F1, x, h1, p, hs', G1, ?_, q, fun F2 H2 v x2 G2 r2 => k F2 H2 v (x1.trans G G1 x2) G2 r2⟩
  · rw [List.append_nil, r1.length]; exact hn _ _ _ _ q1
  · rw [List.append_nil]; exact r1
theorem se_call0 (h : Known X.prog X.w X.K X.mg X.base x 0 k m) (hr : Room k X.A) (hg : Gl X x := by rfl) (hdb : (x == ("__debug__" : Str)) = false := by decide) : SE X (.Call (.Name x p) [] [] pos) (fun _ => m []) := by
  obtain ⟨f, fd, ps, hm, hk, hb, F⟩ := h
  refine PE.wk (pe_call0 F hr hg hm hk hb .nil pass0 hdb) fun σ H Q ⟨ah, F, N, ρ, hs, p, hs', G, E, q, k⟩ => ?_
  exact ⟨rfl, ah, F, [], hs, p, hs', G, .nil, q, k⟩
/-- how many a row of expressions gives -/
def Rows (gs : Ev → M (List PV)) (n : Nat) : Prop := ∀ ρ hs ps hs', gs ρ hs = .ok (ps, hs') → ps.length = n
theorem rows_nil : Rows gNil 0 := fun _ _ _ _ q => by cases M.pure_ok q; rfl
theorem rows_cons (h : Rows gs n) : Rows (gCons g gs) (n + 1) := fun _ _ _ _ q => by
  obtain ⟨x, h1, q1, q⟩ := M.bind_ok q
  obtain ⟨y, h2, q2, q⟩ := M.bind_ok q
  cases M.pure_ok q
  exact congrArg (· + 1) (h _ _ _ _ q2)
end

/-! ### targets -/
abbrev GM := PV → Ev → M Ev
abbrev GMs := List PV → Ev → M Ev
def tSG (K : Fg) (g : GM) (is : List Nat) : TG := fun v σ H Q => ∃ ah F N ρ hs p ρ' hs', GI K ah F H hs ∧ ER K ah F H N σ ρ ∧ Rep K ah F H v p ∧ g p ρ hs = .ok (ρ', hs') ∧
  ∀ σ', ER K ah F H N σ' ρ' → (∀ vs : List Nat, (∀ i ∈ is, i ∈ vs) → L2.wipe σ' vs = L2.wipe σ vs) → hs' = hs → Q σ' H
def tSGs (K : Fg) (g : GMs) (is : List Nat) : TGs := fun v σ H Q => ∃ ah F N ρ hs p ρ' hs', GI K ah F H hs ∧ ER K ah F H N σ ρ ∧ Reps K ah F H v p ∧ g p ρ hs = .ok (ρ', hs') ∧
  ∀ σ', ER K ah F H N σ' ρ' → (∀ vs : List Nat, (∀ i ∈ is, i ∈ vs) → L2.wipe σ' vs = L2.wipe σ vs) → hs' = hs → Q σ' H
abbrev SG (X : Cx) (e : Expr) (g : GM) (is : List Nat) : Prop := PG X e (tSG X.K g is)
abbrev SGs (X : Cx) (e : List Expr) (g : GMs) (is : List Nat) : Prop := PGs X e (tSGs X.K g is)
theorem PG.wk {X : Cx} {e : Expr} {t u : TG} (h : PG X e t) (w : ∀ v σ H Q, u v σ H Q → t v σ H Q) : PG X e u := ⟨fun pins s σ H v x Q I r q => h.run pins s σ H v x Q I r (w v σ H Q q)⟩
theorem PGs.wk {X : Cx} {e : List Expr} {t u : TGs} (h : PGs X e t) (w : ∀ v σ H Q, u v σ H Q → t v σ H Q) : PGs X e u := ⟨fun pins s σ H v x Q I r q => h.run pins s σ H v x Q I r (w v σ H Q q)⟩
def tgName (i : Nat) : GM := fun p ρ => pure (ρ.set i (.fz p))
theorem wipe_set {σ : L2.St} {i : Nat} {v : Option V} : ∀ {vs : List Nat}, i ∈ vs → L2.wipe (σ.set i v) vs = L2.wipe σ vs
  | j :: vs, h => by
    show (L2.wipe (σ.set i v) vs).set j none = (L2.wipe σ vs).set j none
    by_cases hj : i ∈ vs
    · rw [wipe_set hj]
    · have e : j = i := by
        rcases List.mem_cons.mp h with e | e
        · exact e.symm
        · exact absurd e hj
      subst e
      have : ∀ (σ : L2.St) (vs : List Nat), j ∉ vs → L2.wipe (σ.set j v) vs = (L2.wipe σ vs).set j v := by
        intro σ vs
        induction vs with
        | nil => intro _; rfl
        | cons k vs ih =>
          intro hk
          show (L2.wipe (σ.set j v) vs).set k none = ((L2.wipe σ vs).set k none).set j v
          rw [ih (fun z => hk (List.mem_cons_of_mem _ z)), List.set_comm]
          exact fun z => hk (z ▸ List.mem_cons_self)
      rw [this σ vs hj, List.set_set]
theorem sg_name {X : Cx} {i : Nat} {x : Str} {pos : Pos} (h : PG X (.Name x pos) (gName i)) : SG X (.Name x pos) (tgName i) [i] := PG.wk h fun v σ H Q ⟨ah, F, N, ρ, hs, p, ρ', hs', G, E, r, q, k⟩ => by
  cases M.pure_ok q
  exact k _ (E.setF r) (fun vs h => wipe_set (h i List.mem_cons_self)) rfl
def tgNil : GMs := fun ps ρ => match ps with
  | [] => pure ρ
  | _ => stuck
def tgCons (g : GM) (gs : GMs) : GMs := fun ps ρ => match ps with
  | p :: ps => do
    let ρ1 ← g p ρ
    gs ps ρ1
  | _ => stuck
theorem sgs_nil {X : Cx} : SGs X [] tgNil [] := PGs.wk pgs_nil fun v σ H Q ⟨ah, F, N, ρ, hs, p, ρ', hs', G, E, r, q, k⟩ => by
  cases r with
  | nil =>
    cases M.pure_ok q
    exact ⟨rfl, k _ E (fun _ _ => rfl) rfl⟩
  | cons => cases q
theorem sgs_cons {X : Cx} {e : Expr} {es : List Expr} {g : GM} {gs : GMs} {i1 i2 : List Nat} (h1 : SG X e g i1) (h2 : SGs X es gs i2) (hs : (assignEach (e :: es) X.env).map (·.2) = assign e X.env :: (assignEach es X.env).map (·.2) := by rfl) : SGs X (e :: es) (tgCons g gs) (i1 ++ i2) :=
  PGs.wk (pgs_cons h1 h2 hs) fun v σ H Q ⟨ah, F, N, ρ, hs, p, ρ', hs', G, E, r, q, k⟩ => by
    cases r with
    | nil => cases q
    | cons r rs =>
      obtain ⟨ρ1, h1, q1, q2⟩ := M.bind_ok q
      refine ⟨_, _, rfl, ah, F, N, ρ, hs, _, ρ1, h1, G, E, r, q1, fun σ1 E1 w1 e1 => ?_⟩
      subst e1
      refine ⟨ah, F, N, ρ1, _, _, ρ', hs', G, E1, rs, q2, fun σ2 E2 w2 e2 => ?_⟩
      exact k σ2 E2 (fun vs h => (w2 vs fun i hi => h i (List.mem_append_right _ hi)).trans (w1 vs fun i hi => h i (List.mem_append_left _ hi))) e2
def tgTup (n : Nat) (gs : GMs) : GM := fun p ρ => match p with
  | .tup l => guardM (l.length = n) (gs l ρ)
  | _ => stuck
theorem sg_tup {X : Cx} {es : List Expr} {k n : Nat} {pos : Pos} {gs : GMs} {is : List Nat} (hc : X.calm = true) (h : SGs X es gs is) (hn : (assignEach es X.env).length = n := by rfl) (hst : (assignEach es X.env).findIdx? (·.1) = none := by rfl) : SG X (.Tuple es k pos) (tgTup n gs) is :=
  PG.wk (pg_tup hc h hn hst) fun v σ H Q ⟨ah, F, N, ρ, hs, p, ρ', hs', G, E, r, q, k⟩ => by
    cases p <;> first | (cases q; done) | skip
    obtain ⟨e, q⟩ := guard_ok q
    cases r with
    | tup hq z r => exact ⟨_, _, rfl, .of hq, r.length.trans e, ah, F, N, ρ, hs, _, ρ', hs', G, E, r, q, k⟩

/-! ### walks -/
abbrev IM := Ev → M (List PV)
structure ItW (K : Fg) (ah : Option Addr) (F : Addr → Prop) (H : Hp) (J : It) (ps : List PV) : Prop where
  goes : ∀ i F1 H1, Kp K F H F1 H1 → i < ps.length → J.go i H1
  stops : ∀ F1 H1, Kp K F H F1 H1 → J.stop ps.length H1
  yields : ∀ i F1 H1 hs x H2, Kp K F H F1 H1 → GI K ah F1 H1 hs → i < ps.length → J.yld i H1 x H2 → ∃ p, ps[i]? = some p ∧ Ext K ah F1 H1 F1 H2 ∧ GI K ah F1 H2 hs ∧ Rep K ah F1 H2 x p
def tSI (K : Fg) (g : IM) : TI := fun σ H R => ∃ ah F N ρ hs ps hs', GI K ah F H hs ∧ ER K ah F H N σ ρ ∧ g ρ hs = .ok (ps, hs') ∧
  ∀ F' H' J, Ext K ah F H F' H' → GI K ah F' H' hs' → ItW K ah F' H' J ps → ps.length ≤ sizeLine → R J H'
abbrev SI (X : Cx) (tg e : Expr) (g : IM) : Prop := PI X tg e (tSI X.K g)
theorem PI.wk {X : Cx} {tg e : Expr} {t u : TI} (h : PI X tg e t) (w : ∀ σ H Q, u σ H Q → t σ H Q) : PI X tg e u := ⟨fun pins s σ H Q I q => h.run pins s σ H Q I (w σ H Q q)⟩
section
variable {K : Fg} {ah : Option Addr} {F : Addr → Prop} {H : Hp} {a : Addr} {vs : List V} {ps : List PV}
theorem itw_list (f : F a) (h : H a = some (.lst vs)) (r : Reps K ah F H vs ps) : ItW K ah F H (Itl K a) ps := by
  refine ⟨fun i F1 H1 kp hi => ?_, fun F1 H1 kp => ?_, fun i F1 H1 hs x H2 kp g hi y => ?_⟩
  · have h1 : i < vs.length := by rw [r.length]; exact hi
    exact ⟨vs, vs[i], .of (kp.keep _ _ f h), by simp [h1]⟩
  · exact ⟨vs, .of (kp.keep _ _ f h), by rw [r.length]; exact Nat.le_refl _⟩
  · obtain ⟨e, y⟩ := y
    subst e
    obtain ⟨p, h1, h2⟩ := (r.mono kp).getV (y vs (.of (kp.keep _ _ f h)))
    exact ⟨p, h1, .refl, g, h2⟩
theorem itw_tup (h : H a = some (.tup vs)) (r : Reps K ah F H vs ps) : ItW K ah F H (Itt K a) ps := by
  refine ⟨fun i F1 H1 kp hi => ?_, fun F1 H1 kp => ?_, fun i F1 H1 hs x H2 kp g hi y => ?_⟩
  · have h1 : i < vs.length := by rw [r.length]; exact hi
    exact ⟨vs, vs[i], SqT.of (kp.tup _ _ h), by simp [h1]⟩
  · exact ⟨vs, SqT.of (kp.tup _ _ h), by rw [r.length]; exact Nat.le_refl _⟩
  · obtain ⟨e, y⟩ := y
    subst e
    obtain ⟨p, h1, h2⟩ := (r.mono kp).getV (y vs (SqT.of (kp.tup _ _ h)))
    exact ⟨p, h1, .refl, g, h2⟩
theorem itw_range {lo : Int} {n : Nat} : ItW K ah F H (Itr lo n) ((List.range n).map fun (i : Nat) => PV.int (lo + i)) := by
  refine ⟨fun i F1 H1 kp hi => ?_, fun F1 H1 kp => ?_, fun i F1 H1 hs x H2 kp g hi y => ?_⟩
  · have h : i < n := by simpa using hi
    exact h
  · show n ≤ _
    simp
  · obtain ⟨e, y⟩ := y
    subst e y
    have hi : i < n := by simpa using hi
    exact ⟨.int (lo + i), by simp [hi], .refl, g, .int _⟩
end
/-- a list, a tuple -/
def iSeq (g : EM) : IM := fun ρ => do
  let x ← g ρ
  match x with
  | .tup l => pure l
  | .lst l => pure l
  | _ => stuck
def iSeqR (K : Fg) (tl : TE) : TI := fun σ H R => tl σ H fun x H1 => ∃ a, x = .ref a ∧ ((∃ xs, SqL K H1 a xs ∧ R (Itl K a) H1) ∨ (∃ xs, SqT K H1 a xs ∧ R (Itt K a) H1))
theorem pi_seq {X : Cx} {tg l : Expr} {tl : TE} (hl : PE X l tl) : PI X tg l (iSeqR X.K tl) := by
  refine ⟨fun pins s σ H R I h => ?_⟩
  refine thn (hl.run pins s σ H _ I h) fun v s1 ⟨x, H1, I1, r1, q1⟩ => ?_
  obtain ⟨a, e, q⟩ := q1
  subst e
  cases r1
  have fr : ∀ b, b ∈ [s1.heap.objs.size] → FpOk X pins H1 b := fun b hb => by
    have e : b = s1.heap.objs.size := by simpa using hb
    subst e
    exact I1.fpOk (Nat.le_refl _) (I1.hok.fresh (Nat.le_refl _))
  rcases q with ⟨xs, hq, q⟩ | ⟨xs, hq, q⟩
  · obtain ⟨its, rv, p, hz⟩ := I1.list hq
    refine wpAny_pyIter_list p.isList ?_
    exact ⟨s1.heap.objs.size, [s1.heap.objs.size], _, _, H1, rfl, I1.kept (t' := s1.toks) fun b o e => Heap.get?_push_of_some _ e, turn_list a _, ⟨_, Heap.get?_push_size _ rfl, rfl, rfl⟩, fr, q⟩
  · obtain ⟨its, rv, p, hz⟩ := I1.tuple hq
    refine wpAny_pyIter_tuple (show s1.heap.IsTuple a its.toArray from p) ?_
    exact ⟨s1.heap.objs.size, [s1.heap.objs.size], _, _, H1, rfl, I1.kept (t' := s1.toks) fun b o e => Heap.get?_push_of_some _ e, turn_tuple a _, ⟨_, Heap.get?_push_size _ rfl, rfl, rfl⟩, fr, q⟩
theorem si_seq {X : Cx} {tg e : Expr} {g : EM} (h : SE X e g) : SI X tg e (iSeq g) := PI.wk (pi_seq h) fun σ H R ⟨ah, F, N, ρ, hs, ps, hs', G, E, q, k⟩ => by
  obtain ⟨x, h1, q1, q⟩ := M.bind_ok q
  refine ⟨ah, F, N, ρ, hs, x, h1, G, E, q1, fun F1 H1 v1 x1 G1 r1 => ?_⟩
  cases x <;> first | (cases q; done) | skip
  · cases M.pure_ok q
    cases r1 with
    | tup h z r => exact ⟨_, rfl, .inr ⟨_, .of h, k F1 H1 _ x1 G1 (itw_tup h r) (by rw [← r.length]; exact z)⟩⟩
  · cases M.pure_ok q
    cases r1 with
    | lst f h z r => exact ⟨_, rfl, .inl ⟨_, .of h, k F1 H1 _ x1 G1 (itw_list f h r) (by rw [← r.length]; exact z)⟩⟩
def rng (lo : Int) (n : Nat) : List PV := (List.range n).map fun (i : Nat) => PV.int (lo + i)
/-- range(b), range(a, b) -/
def iRange (gs : Ev → M (List PV)) : IM := fun ρ => do
  let xs ← gs ρ
  match xs with
  | [.int j] => guardM (-(2 ^ 62) ≤ j ∧ j ≤ SZ) (pure (rng 0 j.toNat))
  | [.int i, .int j] => guardM (-(2 ^ 62) ≤ i ∧ i < 2 ^ 62 ∧ -(2 ^ 62) ≤ j ∧ j < 2 ^ 62 ∧ (j - i).toNat ≤ SZ) (pure (rng i (j - i).toNat))
  | _ => stuck
theorem si_range1 {X : Cx} {tg a : Expr} {gs : Ev → M (List PV)} {p pos : Pos} (hm : X.mg "range" = none) (ha : SA X [a] gs) (hg : Gl X "range" := by rfl) (hs : starEach [a] X.env = [(false, eval a X.env)] := by rfl) (hn : Rows gs 1) : SI X tg (.Call (.Name "range" p) [a] [] pos) (iRange gs) :=
  PI.wk (pi_range1 hg hm ha hs) fun σ H R ⟨ah, F, N, ρ, hs, ps, hs', G, E, q, k⟩ => by
    obtain ⟨x, h1, q1, q⟩ := M.bind_ok q
    refine ⟨ah, F, N, ρ, hs, x, h1, G, E, q1, fun F1 H1 v1 x1 G1 r1 => ?_⟩
    have hl := hn _ _ _ _ q1
    match x, hl with
    | [y], _ =>
      obtain ⟨j, rfl⟩ : ∃ j, y = .int j := by cases y <;> first | exact ⟨_, rfl⟩ | (cases q; done)
      obtain ⟨hb, q⟩ := guard_ok q
      cases M.pure_ok q
      cases r1 with
      | cons r t =>
        cases t
        cases r
        have h1 : j ≤ (SZ : Int) := hb.2
        have h2 : (SZ : Int) = 16777216 := rfl
        refine ⟨_, rfl, hb.1, by omega, k F1 H1 _ x1 G1 ?_ ?_⟩
        · exact itw_range
        · rw [szE]
          show (List.map _ _).length ≤ 16777216
          rw [List.length_map, List.length_range]
          omega
theorem si_range2 {X : Cx} {tg a b : Expr} {gs : Ev → M (List PV)} {p pos : Pos} (hm : X.mg "range" = none) (ha : SA X [a, b] gs) (hg : Gl X "range" := by rfl) (hs : starEach [a, b] X.env = [(false, eval a X.env), (false, eval b X.env)] := by rfl)
    (hs2 : starEach [b] X.env = [(false, eval b X.env)] := by rfl) (hn : Rows gs 2) : SI X tg (.Call (.Name "range" p) [a, b] [] pos) (iRange gs) :=
  PI.wk (pi_range2 hg hm ha hs hs2) fun σ H R ⟨ah, F, N, ρ, hs, ps, hs', G, E, q, k⟩ => by
    obtain ⟨x, h1, q1, q⟩ := M.bind_ok q
    refine ⟨ah, F, N, ρ, hs, x, h1, G, E, q1, fun F1 H1 v1 x1 G1 r1 => ?_⟩
    have hl := hn _ _ _ _ q1
    match x, hl with
    | [y, y2], _ =>
      cases y <;> first | (cases q; done) | skip
      cases y2 <;> first | (cases q; done) | skip
      obtain ⟨hb, q⟩ := guard_ok q
      cases M.pure_ok q
      cases r1 with
      | cons r t =>
        cases t with
        | cons r2 t =>
          cases t
          cases r
          cases r2
          refine ⟨_, _, rfl, ⟨hb.1, hb.2.1, hb.2.2.1, hb.2.2.2.1⟩, k F1 H1 _ x1 G1 ?_ ?_⟩
          · exact itw_range
          · rw [szE]
            show (List.map _ _).length ≤ _
            rw [List.length_map, List.length_range]
            exact hb.2.2.2.2
/-- zip(xs, ys): both lists, or both tuples -/
def iZip2 (ga gb : EM) : IM := fun ρ => do
  let x ← ga ρ
  let y ← gb ρ
  match x, y with
  | .tup l, .tup m => pure ((l.zip m).map fun t => .tup [t.1, t.2])
  | .lst l, .lst m => pure ((l.zip m).map fun t => .tup [t.1, t.2])
  | _, _ => stuck
theorem itw_pair {K : Fg} {ah : Option Addr} {F : Addr → Prop} {H : Hp} {J : It} {l m : List PV} (go : ∀ i F1 H1, Kp K F H F1 H1 → i < l.length → i < m.length → J.go i H1) (st : ∀ F1 H1, Kp K F H F1 H1 → J.stop (min l.length m.length) H1)
    (y : ∀ i F1 H1 x H2, Kp K F H F1 H1 → J.yld i H1 x H2 → ∃ T v w p q, x = .ref T ∧ H1 T = none ∧ H2 = upd H1 T (.tup [v, w]) ∧ l[i]? = some p ∧ m[i]? = some q ∧ Rep K ah F1 H1 v p ∧ Rep K ah F1 H1 w q) : ItW K ah F H J ((l.zip m).map fun t => .tup [t.1, t.2]) := by
  refine ⟨fun i F1 H1 kp hi => ?_, fun F1 H1 kp => ?_, fun i F1 H1 hs x H2 kp g hi yy => ?_⟩
  · rw [List.length_map, List.length_zip] at hi
    exact go i F1 H1 kp (by omega) (by omega)
  · rw [List.length_map, List.length_zip]
    exact st F1 H1 kp
  · obtain ⟨T, v, w, p, q, rfl, n, rfl, h1, h2, r1, r2⟩ := y i F1 H1 x H2 kp yy
    refine ⟨.tup [p, q], ?_, .laid n, g.laid n, .tup upd_same (by rw [szE]; show 2 ≤ SZ; decide) (.cons (r1.mono (g.kpL n)) (.cons (r2.mono (g.kpL n)) .nil))⟩
    rw [List.getElem?_map]
    have : (l.zip m)[i]? = some (p, q) := by
      rw [List.getElem?_zip_eq_some]
      exact ⟨h1, h2⟩
    rw [this]; rfl
theorem si_zip {X : Cx} {e e2 : Expr} {ga gb : EM} {p pos tpos : Pos} {elts : List Expr} {kk : Nat} (hm : X.mg "zip" = none) (ha : SE X e ga) (hb : SE X e2 gb) (hg : Gl X "zip" := by rfl)
    (hs : starEach [e, e2] X.env = (false, eval e X.env) :: starEach [e2] X.env := by rfl) (hs2 : starEach [e2] X.env = (false, eval e2 X.env) :: starEach [] X.env := by rfl) (hpl : (backTo pos (starEach [e2] X.env)).any (·.1) = false := by rfl) :
    SI X (.Tuple elts kk tpos) (.Call (.Name "zip" p) [e, e2] [] pos) (iZip2 ga gb) := PI.wk (RZ.pi_zipA hg hm (pa_cons ha (pa_cons hb pa_nil hs2) hs) hs hpl) fun σ H R ⟨ah, F, N, ρ, hs, ps, hs', G, E, q, k⟩ => by
  obtain ⟨x, h1, q1, q⟩ := M.bind_ok q
  obtain ⟨y, h2, q2, q⟩ := M.bind_ok q
  refine ⟨ah, F, N, ρ, hs, x, h1, G, E, q1, fun F1 H1 v1 x1 G1 r1 => ?_⟩
  refine ⟨ah, F1, N, ρ, h1, y, h2, G1, E.ext G x1, q2, fun F2 H2 v2 x2 G2 r2 => ?_⟩
  have r1 := r1.mono (G1.kp x2)
  have x12 := x1.trans G G1 x2
  have hlen : ∀ {l m : List PV} {n : Nat}, l.length ≤ n → ((l.zip m).map fun t => PV.tup [t.1, t.2]).length ≤ n := fun h => by
    rw [List.length_map, List.length_zip]; omega
  cases x <;> first | (cases q; done) | skip
  · cases y <;> first | (cases q; done) | skip
    cases M.pure_ok q
    cases r1 with
    | tup h z r =>
      cases r2 with
      | tup h' z' r' =>
        refine ⟨_, _, _, _, rfl, .inr ⟨.of h, .of h', k F2 H2 _ x12 G2 ?_ (hlen (by rw [← r.length]; exact z))⟩⟩
        refine itw_pair (fun i F3 H3 kp h1 h2 => ?_) (fun F3 H3 kp => ?_) fun i F3 H3 x H4 kp y => ?_
        · rw [← r.length] at h1; rw [← r'.length] at h2
          exact ⟨_, _, _, _, SqT.of (kp.tup _ _ h), SqT.of (kp.tup _ _ h'), List.getElem?_eq_getElem h1, List.getElem?_eq_getElem h2⟩
        · exact ⟨_, _, SqT.of (kp.tup _ _ h), SqT.of (kp.tup _ _ h'), by rw [r.length, r'.length]; omega⟩
        · obtain ⟨T, v, w, e1, n, e2, f1, f2⟩ := y
          obtain ⟨p1, g1, t1⟩ := (r.mono kp).getV (f1 _ (SqT.of (kp.tup _ _ h)))
          obtain ⟨p2, g2, t2⟩ := (r'.mono kp).getV (f2 _ (SqT.of (kp.tup _ _ h')))
          exact ⟨T, v, w, p1, p2, e1, n, e2, g1, g2, t1, t2⟩
  · cases y <;> first | (cases q; done) | skip
    cases M.pure_ok q
    cases r1 with
    | lst f h z r =>
      cases r2 with
      | lst f' h' z' r' =>
        refine ⟨_, _, _, _, rfl, .inl ⟨.of h, .of h', k F2 H2 _ x12 G2 ?_ (hlen (by rw [← r.length]; exact z))⟩⟩
        have s1 : ∀ {F3 H3}, Kp X.K F2 H2 F3 H3 → SqL X.K H3 _ _ := fun kp => .of (kp.keep _ _ f h)
        have s2 : ∀ {F3 H3}, Kp X.K F2 H2 F3 H3 → SqL X.K H3 _ _ := fun kp => .of (kp.keep _ _ f' h')
        refine itw_pair (fun i F3 H3 kp h1 h2 => ?_) (fun F3 H3 kp => ?_) fun i F3 H3 x H4 kp y => ?_
        · rw [← r.length] at h1; rw [← r'.length] at h2
          exact ⟨_, _, _, _, s1 kp, s2 kp, List.getElem?_eq_getElem h1, List.getElem?_eq_getElem h2⟩
        · exact ⟨_, _, s1 kp, s2 kp, by rw [r.length, r'.length]; omega⟩
        · obtain ⟨T, v, w, e1, n, e2, f1, f2⟩ := y
          obtain ⟨p1, g1, t1⟩ := (r.mono kp).getV (f1 _ (s1 kp))
          obtain ⟨p2, g2, t2⟩ := (r'.mono kp).getV (f2 _ (s2 kp))
          exact ⟨T, v, w, p1, p2, e1, n, e2, g1, g2, t1, t2⟩
/-- enumerate(xs), a list -/
def iEnum (ga : EM) : IM := fun ρ => do
  let x ← ga ρ
  match x with
  | .lst l => pure (((rng 0 l.length).zip l).map fun t => .tup [t.1, t.2])
  | _ => stuck
end SL

end
section
namespace SL
open PySem PySem.Spec PyProof.Rows L2
/-! ### list comprehensions -/
def lcF (gt : GM) (tt : TM) (ge : EM) (ρ : Ev) : List PV → M (List PV)
  | [] => pure []
  | p :: ps => do
    let ρ1 ← gt p ρ
    let b ← tt ρ1
    if b = true then (do
      let y ← ge ρ1
      let r ← lcF gt tt ge ρ ps
      pure (y :: r)) else lcF gt tt ge ρ ps
def gLc (gi : IM) (gt : GM) (tt : TM) (ge : EM) (vs : List Nat) : EM := fun ρ => do
  let ps ← gi ρ
  let r ← lcF gt tt ge (wipeE ρ vs) ps
  pure (.lst r)
def gYes : TM := fun _ => pure true
section
variable {K : Fg} {ah : Option Addr} {F F' : Addr → Prop} {H H' : Hp} {hs : HS} {D : Addr} {o : HO} {xs : List V}
def MutO : HO → Prop
  | .lst _ | .dK _ | .dT _ => True
  | _ => False
theorem Kp.ownO {u0 : HO} (d : H D = some u0) (m : MutO u0) (nf : ¬ F D) : Kp K F H F (upd H D o) := by
  refine ⟨fun _ h => h, fun a u f h => ?_, fun a ys h => ?_, fun a u v h => ?_⟩
  · rw [upd_ne (fun z : a = D => nf (by rw [← z]; exact f))]; exact h
  · rw [upd_ne (fun z => by rw [z, d] at h; cases h; exact m)]; exact h
  · rw [upd_ne (fun z => by rw [z, d] at h; cases h; exact m)]; exact h
theorem Kp.own (d : H D = some (.lst xs)) (nf : ¬ F D) : Kp K F H F (upd H D o) := .ownO d trivial nf
theorem GI.ownO {u0 : HO} (g : GI K ah F H hs) (d : H D = some u0) (m : MutO u0) (nf : ¬ F D) (n : ah ≠ some D) : GI K ah F (upd H D o) hs := by
  refine ⟨fun a f z => ?_, fun a e => ?_⟩
  · rw [upd_ne (fun z : a = D => nf (by rw [← z]; exact f))] at z; exact g.fin a f z
  · obtain ⟨f, vs, h, z, r⟩ := g.at_ a e
    exact ⟨f, vs, by rw [upd_ne (fun z : a = D => n (by rw [← z]; exact e))]; exact h, z, r.mono (.ownO d m nf)⟩
theorem GI.own (g : GI K ah F H hs) (d : H D = some (.lst xs)) (nf : ¬ F D) (n : ah ≠ some D) : GI K ah F (upd H D o) hs := g.ownO d trivial nf n
theorem wipe_wipe (σ : L2.St) : ∀ vs : List Nat, L2.wipe (L2.wipe σ vs) vs = L2.wipe σ vs := by
  have key : ∀ (ws vs : List Nat), (∀ i ∈ ws, i ∈ vs) → ∀ τ, L2.wipe (L2.wipe τ ws) vs = L2.wipe τ vs := by
    intro ws
    induction ws with
    | nil => intro vs _ τ; rfl
    | cons w ws ih =>
      intro vs h τ
      show L2.wipe ((L2.wipe τ ws).set w none) vs = L2.wipe τ vs
      rw [wipe_set (h w List.mem_cons_self)]
      exact ih vs (fun i hi => h i (List.mem_cons_of_mem _ hi)) τ
  intro vs
  exact key vs vs (fun _ h => h) σ
end
theorem lc_w {K : Fg} {gi : IM} {gt : GM} {tt : TM} {ge : EM} {is vs : List Nat} (hv : ∀ i ∈ is, i ∈ vs) (σ : L2.St) (H : Hp) (Q : VK) (h : tSF K (gLc gi gt tt ge vs) σ H Q) : tLc (tSI K gi) (tSG K gt is) (tST K tt) (tS K ge) vs σ H Q := by
  obtain ⟨ah, F, N, ρ, hs, p, hs', G, E, q, k⟩ := h
  obtain ⟨ps, h1, q1, q⟩ := M.bind_ok q
  obtain ⟨r, h2, q2, q⟩ := M.bind_ok q
  cases M.pure_ok q
  refine ⟨ah, F, N, ρ, hs, ps, h1, G, E, q1, fun F1 H1 J x1 G1 I1 zl D nD => ?_⟩
  have E1 := E.ext G x1
  have nD' : ah ≠ some D := G1.ne nD
  refine ⟨fun i m H2 => m = ps.length - i ∧ i ≤ ps.length ∧ ∃ F2 hs2 acc accP rest, Ext K ah F1 H1 F2 H2 ∧ GI K ah F2 H2 hs2 ∧ ¬ F2 D ∧ H2 D = some (.lst acc) ∧ acc.length ≤ i ∧ Reps K ah F2 H2 acc accP ∧
    lcF gt tt ge (wipeE ρ vs) (ps.drop i) hs2 = .ok (rest, hs') ∧ r = accP ++ rest, ⟨ps.length, by simp, Nat.zero_le _, F1, h1, [], [], r, .laid nD, G1.laid nD, G1.nf nD, upd_same, Nat.le_refl _, .nil, q2, rfl⟩, ?_⟩
  rintro i m H2 ⟨rfl, hi, F2, hs2, acc, accP, rest, x2, G2, nf, hD, ha, rA, q, er⟩
  have kp := G1.kp x2
  by_cases hlt : i < ps.length
  · refine .inr ⟨I1.goes i F2 H2 kp hlt, fun H3 => ∃ m', m' < ps.length - i ∧ m' = ps.length - (i + 1) ∧ i + 1 ≤ ps.length ∧ ∃ F2 hs2 acc accP rest, Ext K ah F1 H1 F2 H3 ∧ GI K ah F2 H3 hs2 ∧ ¬ F2 D ∧ H3 D = some (.lst acc) ∧ acc.length ≤ i + 1 ∧ Reps K ah F2 H3 acc accP ∧
      lcF gt tt ge (wipeE ρ vs) (ps.drop (i + 1)) hs2 = .ok (rest, hs') ∧ r = accP ++ rest, fun H3 z => z, fun x H3 y => ?_⟩
    obtain ⟨p, hp, x3, G3, rx⟩ := I1.yields i F2 H2 hs2 x H3 kp G2 hlt y
    have ed : ps.drop i = p :: ps.drop (i + 1) := by
      rw [List.drop_eq_getElem_cons hlt]
      rw [List.getElem?_eq_getElem hlt] at hp
      rw [Option.some.inj hp]
    rw [ed] at q
    obtain ⟨ρ1, h3, q3, qa⟩ := M.bind_ok q
    clear q
    have x13 := x2.trans G1 G2 x3
    have Ew : ER K ah F2 H3 N (L2.wipe σ vs) (wipeE ρ vs) := (E1.ext G1 x13).wipe vs
    refine ⟨ah, F2, N, _, hs2, p, ρ1, h3, G3, Ew, rx, q3, fun σ' E' w e => ⟨(w vs hv).trans (wipe_wipe σ vs), ?_⟩⟩
    subst e
    obtain ⟨b, h4, q4, q⟩ := M.bind_ok qa
    clear qa
    refine ⟨ah, F2, N, ρ1, _, b, h4, G3, E', q4, fun F4 H4 x4 G4 => ?_⟩
    have x14 := x13.trans G1 G3 x4
    have hD4 : H4 D = some (.lst acc) := x4.keep _ _ nD' (x3.keep _ _ nD' hD)
    have nf4 : ¬ F4 D := fun z => (x4.new _ z).elim nf fun z => by
      rw [x3.keep _ _ nD' hD] at z; cases z
    have rA4 := (rA.mono (G2.kp x3)).mono (G3.kp x4)
    cases b with
    | false =>
      rw [if_neg Bool.false_ne_true] at q
      exact iteF ⟨_, by omega, rfl, hlt, F4, h4, acc, accP, rest, x14, G4, nf4, hD4, by omega, rA4, q, er⟩
    | true =>
      rw [if_pos rfl] at q
      refine iteT ?_
      obtain ⟨y, h5, q5, q⟩ := M.bind_ok q
      obtain ⟨r', h6, q6, q⟩ := M.bind_ok q
      cases M.pure_ok q
      refine ⟨ah, F4, N, ρ1, h4, y, h5, G4, E'.ext G3 x4, q5, fun F5 H5 v x5 G5 r5 => ?_⟩
      have hD5 : H5 D = some (.lst acc) := x5.keep _ _ nD' hD4
      have nf5 : ¬ F5 D := fun z => (x5.new _ z).elim nf4 fun z => by
        rw [hD4] at z; cases z
      have rA5 := rA4.mono (G4.kp x5)
      have hz : acc.length < sizeLine := by omega
      have x15 := x14.trans G1 G4 x5
      refine ⟨acc, hD5, hz, _, by omega, rfl, hlt, F5, h5, acc ++ [v], accP ++ [y], r', ⟨x15.mono, x15.new, fun a u n h => ?_⟩, G5.own hD5 nf5 nD', nf5, upd_same, by rw [List.length_append]; show acc.length + 1 ≤ i + 1; omega, ?_, q6, by rw [er, List.append_assoc]; rfl⟩
      · rw [upd_ne (ne_of_none h nD)]; exact x15.keep a u n h
      · exact (rA5.append (.cons r5 .nil)).mono (.own hD5 nf5)
  · have e : i = ps.length := by omega
    subst e
    rw [List.drop_length] at q
    cases M.pure_ok q
    refine .inl ⟨I1.stops F2 H2 kp, ?_⟩
    rw [er, List.append_nil] at k
    exact k F2 H2 D (x1.trans G G1 x2) G2 (x1.free G nD nD') nf (.lst hD (Nat.le_trans ha zl) rA)
section
variable {X : Cx} {elt tg iter : Expr} {ifs : List Expr} {scope : Scope} {own : List (Str × Nat)} {pos : Pos} {gi : IM} {gt : GM} {tt : TM} {ge : EM} {is : List Nat}
abbrev STs (X : Cx) (ifs : List Expr) (g : TM) : Prop := PTs X ifs (tST X.K g)
theorem sts_nil : STs X [] gYes := ⟨fun pins s σ H Q I ⟨ah, F, N, ρ, hs, p, hs', G, E, q, k⟩ => by
  cases M.pure_ok q
  exact pts_nil.run pins s σ H Q I (k F H .refl G)⟩
theorem sts_one {c : Expr} {t : TM} (h : ST X c t) : STs X [c] t := pts_one h
theorem sf_lc (hN : X.N.Nodup) (ok : BlkOk X.N X.env.scope scope own) (hi : SI X tg iter gi)
    (hg : ∀ (s : Shared) (H : Hp) (C : Addr) (cl : List (Str × Addr)) (fp : List Addr), SG (X.blk s H scope (compEnvC scope cl C X.env) fp) tg gt is) (ht : ∀ (s : Shared) (H : Hp) (C : Addr) (cl : List (Str × Addr)) (fp : List Addr), STs (X.blk s H scope (compEnvC scope cl C X.env) fp) ifs tt)
    (he : ∀ (s : Shared) (H : Hp) (C : Addr) (cl : List (Str × Addr)) (fp : List Addr), SE (X.blk s H scope (compEnvC scope cl C X.env) fp) elt ge) (hc : X.calm = true := by rfl) (hv : ∀ i ∈ is, i ∈ own.map (·.2) := by decide) (hs : ∀ x, foldedSetIterable iter X.env x = pure x := by intro _; rfl) :
    SF X (.ListComp elt [⟨tg, iter, ifs, 0⟩] scope pos) (gLc gi gt tt ge (own.map (·.2))) := PE.wk (pe_lc hc hN hi ok hg ht he hs) (lc_w hv)
end
end SL

end
section
namespace SL
open PySem PySem.Spec PyProof.Rows L2
/-! ### statements -/
inductive Out where
  | nx (ρ : Ev) | rt (p : PV) | rtF (p : PV) | bk (ρ : Ev) | ct (ρ : Ev)
abbrev SM := Ev → M Out
structure SInv (K : Fg) (ah : Option Addr) (F0 : Addr → Prop) (H0 : Hp) (F : Addr → Prop) (H : Hp) (σ : L2.St) (ρ : Ev) (hs : HS) : Prop where
  g0 : ∃ hs0, GI K ah F0 H0 hs0
  ext : Ext K ah F0 H0 F H
  gi : GI K ah F H hs
  er : ER K ah F H (fun a => H0 a = none) σ ρ
section
variable {K : Fg} {ah : Option Addr} {F0 F F' : Addr → Prop} {H0 H H' : Hp} {σ : L2.St} {ρ : Ev} {hs hs' : HS} {a : Addr} {o : HO}
theorem SInv.step (I : SInv K ah F0 H0 F H σ ρ hs) (x : Ext K ah F H F' H') (G : GI K ah F' H' hs') : SInv K ah F0 H0 F' H' σ ρ hs' := by
  obtain ⟨h0, g0⟩ := I.g0
  exact ⟨⟨h0, g0⟩, I.ext.trans g0 I.gi x, G, I.er.ext I.gi x⟩
theorem SInv.new (I : SInv K ah F0 H0 F H σ ρ hs) (n : H a = none) : H0 a = none := by
  obtain ⟨h0, g0⟩ := I.g0
  exact I.ext.free g0 n (I.gi.ne n)
end
def Fin (K : Fg) (ah : Option Addr) (F0 : Addr → Prop) (H0 : Hp) (F : Addr → Prop) (H : Hp) (D : Ends) (hs' : HS) : Out → Prop
  | .nx ρ' => ∀ F' H' σ', SInv K ah F0 H0 F' H' σ' ρ' hs' → Kp K F H F' H' → D.nx σ' H'
  | .rt p => ∀ F' H' v, Ext K ah F0 H0 F' H' → GI K ah F' H' hs' → Rep K ah F' H' v p → D.rt v H'
  | .rtF p => ∀ F' H' a, Ext K ah F0 H0 F' H' → GI K ah F' H' hs' → H0 a = none → ¬ F' a → Own K ah F' H' a p → D.rt (.ref a) H'
  | .bk ρ' => ∀ F' H' σ', SInv K ah F0 H0 F' H' σ' ρ' hs' → Kp K F H F' H' → D.bk σ' H'
  | .ct ρ' => ∀ F' H' σ', SInv K ah F0 H0 F' H' σ' ρ' hs' → Kp K F H F' H' → D.ct σ' H'
def tSS (K : Fg) (g : SM) : TS := fun D σ H => ∃ ah F0 H0 F ρ hs out hs', SInv K ah F0 H0 F H σ ρ hs ∧ g ρ hs = .ok (out, hs') ∧ Fin K ah F0 H0 F H D hs' out
abbrev SS (X : Cx) (st : Stmt) (g : SM) : Prop := PS X st (tSS X.K g)
abbrev SSs (X : Cx) (st : List Stmt) (g : SM) : Prop := PSs X st (tSS X.K g)
theorem PS.wk {X : Cx} {e : Stmt} {t u : TS} (h : PS X e t) (w : ∀ D σ H, u D σ H → t D σ H) : PS X e u := ⟨fun pins s σ H D I q => h.run pins s σ H D I (w D σ H q)⟩
theorem PSs.wk {X : Cx} {e : List Stmt} {t u : TS} (h : PSs X e t) (w : ∀ D σ H, u D σ H → t D σ H) : PSs X e u := ⟨fun pins s σ H D I q => h.run pins s σ H D I (w D σ H q)⟩
theorem Fin.kp {K : Fg} {ah : Option Addr} {F0 F F1 : Addr → Prop} {H0 H H1 : Hp} {D : Ends} {hs : HS} {o : Out} (k : Kp K F H F1 H1) (f : Fin K ah F0 H0 F H D hs o) : Fin K ah F0 H0 F1 H1 D hs o := by
  cases o with
  | nx ρ => exact fun F' H' σ' I q => f F' H' σ' I (k.trans q)
  | rt p => exact f
  | rtF p => exact f
  | bk ρ => exact fun F' H' σ' I q => f F' H' σ' I (k.trans q)
  | ct ρ => exact fun F' H' σ' I q => f F' H' σ' I (k.trans q)
def sNx : SM := fun ρ => pure (.nx ρ)
/-- one behind the other -/
def sSeq (a b : SM) : SM := fun ρ => do
  let o ← a ρ
  match o with
  | .nx ρ' => b ρ'
  | o => pure o
section
variable {X : Cx} {st : Stmt} {rest : List Stmt} {e : Expr} {es : List Expr} {pos : Pos} {g ga gb : EM} {s1 s2 : SM} {t : TM}
theorem sss_nil : SSs X [] sNx := PSs.wk pss_nil fun D σ H ⟨ah, F0, H0, F, ρ, hs, out, hs', I, q, f⟩ => by
  cases M.pure_ok q
  exact f F H σ I .refl
theorem sss_cons (h1 : SS X st s1) (h2 : SSs X rest s2) : SSs X (st :: rest) (sSeq s1 s2) := PSs.wk (pss_cons h1 h2) fun D σ H ⟨ah, F0, H0, F, ρ, hs, out, hs', I, q, f⟩ => by
  obtain ⟨o, h1, q1, q⟩ := M.bind_ok q
  refine ⟨ah, F0, H0, F, ρ, hs, o, h1, I, q1, ?_⟩
  cases o with
  | nx ρ1 => exact fun F1 H1 σ1 I1 k1 => ⟨ah, F0, H0, F1, ρ1, h1, out, hs', I1, q, f.kp k1⟩
  | rt p => cases M.pure_ok q; exact f
  | rtF p => cases M.pure_ok q; exact f
  | bk ρ1 => cases M.pure_ok q; exact f
  | ct ρ1 => cases M.pure_ok q; exact f
theorem sss_one (h1 : SS X st s1) : SSs X [st] s1 := pss_one h1
/-- an own thing becomes a shared one -/
def frz1 (i : Nat) (ρ : Ev) : Ev := match ρ[i]? with
  | some (.ow p) => ρ.set i (.fz p)
  | _ => ρ
def sFrz (i : Nat) (s : SM) : SM := fun ρ => s (frz1 i ρ)
theorem frz_inv {K : Fg} {ah : Option Addr} {F0 F : Addr → Prop} {H0 H : Hp} {σ : L2.St} {ρ : Ev} {hs : HS} {i : Nat} (I : SInv K ah F0 H0 F H σ ρ hs) : ∃ F', SInv K ah F0 H0 F' H σ (frz1 i ρ) hs ∧ Kp K F H F' H := by
  unfold frz1
  split
  · rename_i p e
    obtain ⟨a, ea, nf, na, n0, o⟩ := I.er.own e
    obtain ⟨u, hu⟩ := o.there
    refine ⟨fun b => F b ∨ b = a, ⟨I.g0, ⟨fun b h => .inl (I.ext.mono b h), fun b h => h.elim (I.ext.new b) fun e => .inr (e ▸ n0), I.ext.keep⟩, I.gi.frz hu na, ?_⟩, .frzn⟩
    refine ⟨fun j s e1 => ?_, fun j k p q ne e1 e2 => ?_, by rw [List.length_set]; exact I.er.len⟩
    · by_cases hj : i = j
      · subst hj
        have hlt : i < ρ.length := (List.getElem?_eq_some_iff.mp e).1
        rw [List.getElem?_set_self hlt] at e1
        cases e1
        rw [ea]
        exact .fz o.frzn
      · rw [List.getElem?_set_ne hj] at e1
        have q := I.er.at_ j s e1
        generalize ew : σ[j]? = w at q
        cases q with
        | un => exact .un _
        | fz r => exact .fz (r.mono .frzn)
        | ow f n k o' =>
          rename_i b p'
          refine .ow (fun z => z.elim f fun z => ?_) n k ?_
          · exact I.er.apart i j _ _ hj e e1 (by rw [ea, ew, z])
          · cases o' with
            | lst h z r => exact .lst h z (r.mono .frzn)
            | dK h z k r => exact .dK h z k (r.mono .frzn)
            | dT h z k r => exact .dT h z k (r.mono .frzn)
    · by_cases hj : i = j
      · subst hj
        have hlt : i < ρ.length := (List.getElem?_eq_some_iff.mp e).1
        rw [List.getElem?_set_self hlt] at e1
        cases e1
      · by_cases hk : i = k
        · subst hk
          have hlt : i < ρ.length := (List.getElem?_eq_some_iff.mp e).1
          rw [List.getElem?_set_self hlt] at e2
          cases e2
        · rw [List.getElem?_set_ne hj] at e1
          rw [List.getElem?_set_ne hk] at e2
          exact I.er.apart j k p q ne e1 e2
  · exact ⟨F, I, .refl⟩
theorem sss_frz {sts : List Stmt} (i : Nat) (h : SSs X sts s1) : SSs X sts (sFrz i s1) := PSs.wk h fun D σ H ⟨ah, F0, H0, F, ρ, hs, out, hs', I, q, f⟩ => by
  obtain ⟨F', I', k⟩ := frz_inv (i := i) I
  exact ⟨ah, F0, H0, F', frz1 i ρ, hs, out, hs', I', q, f.kp k⟩
/-- target = e -/
def sAsg (g : EM) (t : GM) : SM := fun ρ => do
  let p ← g ρ
  let ρ' ← t p ρ
  pure (.nx ρ')
theorem asg_w {te : TE} {gt : GM} {is : List Nat} (w : ∀ σ H Q, tS X.K g σ H Q → te σ H Q) (D : Ends) (σ : L2.St) (H : Hp) (h : tSS X.K (sAsg g gt) D σ H) : tAsg te (tSG X.K gt is) D σ H := by
  obtain ⟨ah, F0, H0, F, ρ, hs, out, hs', I, q, f⟩ := h
  obtain ⟨p, h1, q1, q⟩ := M.bind_ok q
  obtain ⟨ρ1, h2, q2, q⟩ := M.bind_ok q
  cases M.pure_ok q
  refine w σ H _ ⟨ah, F, _, ρ, hs, p, h1, I.gi, I.er, q1, fun F1 H1 v x1 G1 r1 => ?_⟩
  have I1 := I.step x1 G1
  refine ⟨ah, F1, _, ρ, h1, p, ρ1, _, G1, I1.er, r1, q2, fun σ1 E1 _ e => ?_⟩
  subst e
  exact f F1 H1 σ1 ⟨I1.g0, I1.ext, G1, E1⟩ (I.gi.kp x1)
theorem ss_asg {tg : Expr} {gt : GM} {is : List Nat} (he : SE X e g) (hg : SG X tg gt is) (hs : swapsWithSole [tg] e pos.line X.env = pure false := by rfl) (hw : swappedStores [tg] e X.env = pure none := by rfl)
    (h1 : (assignEach [tg] X.env).map (·.2) = [assign tg X.env] := by rfl) : SS X (.Assign [tg] e pos) (sAsg g gt) := PS.wk (ps_asg he hg hs hw h1) (asg_w fun _ _ _ h => h)
/-- x = a new thing, the frame's own -/
def sOwn (g : EM) (i : Nat) : SM := fun ρ => do
  let p ← g ρ
  pure (.nx (ρ.set i (.ow p)))
theorem own_w {te : TE} {i : Nat} (w : ∀ σ H Q, tSF X.K g σ H Q → te σ H Q) (D : Ends) (σ : L2.St) (H : Hp) (h : tSS X.K (sOwn g i) D σ H) : tAsg te (gName i) D σ H := by
  obtain ⟨ah, F0, H0, F, ρ, hs, out, hs', I, q, f⟩ := h
  obtain ⟨p, h1, q1, q⟩ := M.bind_ok q
  cases M.pure_ok q
  refine w σ H _ ⟨ah, F, _, ρ, hs, p, _, I.gi, I.er, q1, fun F1 H1 a x1 G1 n nf o => ?_⟩
  have I1 := I.step x1 G1
  refine f F1 H1 _ ⟨I1.g0, I1.ext, G1, I1.er.set (.ow nf (I.gi.ne n) (I.new n) o) fun p' _ j t ne e1 e2 => ?_⟩ (I.gi.kp x1)
  obtain ⟨b, e3, _, _, _, o'⟩ := I.er.own e1
  obtain ⟨u, hu⟩ := o'.there
  rw [e2] at e3
  cases e3
  rw [n] at hu; cases hu
theorem ss_own {x : Str} {i : Nat} {p : Pos} (he : SF X e g) (hg : PG X (.Name x p) (gName i)) (hs : swapsWithSole [.Name x p] e pos.line X.env = pure false := by rfl) (hw : swappedStores [.Name x p] e X.env = pure none := by rfl)
    (h1 : (assignEach [.Name x p] X.env).map (·.2) = [assign (.Name x p) X.env] := by rfl) : SS X (.Assign [.Name x p] e pos) (sOwn g i) := PS.wk (ps_asg he hg hs hw h1) (own_w fun _ _ _ h => h)
/-- an expression alone -/
def sExpr (g : EM) : SM := fun ρ => do
  let _ ← g ρ
  pure (.nx ρ)
theorem ss_expr (he : SE X e g) (hs : swapsWith e none pos.line X.env = pure false := by rfl) : SS X (.Expr e pos) (sExpr g) := PS.wk (ps_expr he hs) fun D σ H ⟨ah, F0, H0, F, ρ, hs, out, hs', I, q, f⟩ => by
  obtain ⟨p, h1, q1, q⟩ := M.bind_ok q
  cases M.pure_ok q
  exact ⟨ah, F, _, ρ, hs, p, _, I.gi, I.er, q1, fun F1 H1 v x1 G1 r1 => f F1 H1 σ (I.step x1 G1) (I.gi.kp x1)⟩
def sRet (g : EM) : SM := fun ρ => do
  let p ← g ρ
  pure (.rt p)
def sRetF (g : EM) : SM := fun ρ => do
  let p ← g ρ
  pure (.rtF p)
theorem ss_ret (he : SE X e g) : SS X (.Return (some e) pos) (sRet g) := PS.wk (ps_ret he) fun D σ H ⟨ah, F0, H0, F, ρ, hs, out, hs', I, q, f⟩ => by
  obtain ⟨p, h1, q1, q⟩ := M.bind_ok q
  cases M.pure_ok q
  exact ⟨ah, F, _, ρ, hs, p, _, I.gi, I.er, q1, fun F1 H1 v x1 G1 r1 => f F1 H1 v (I.step x1 G1).ext G1 r1⟩
theorem ss_retF (he : SF X e g) : SS X (.Return (some e) pos) (sRetF g) := PS.wk (ps_ret he) fun D σ H ⟨ah, F0, H0, F, ρ, hs, out, hs', I, q, f⟩ => by
  obtain ⟨p, h1, q1, q⟩ := M.bind_ok q
  cases M.pure_ok q
  exact ⟨ah, F, _, ρ, hs, p, _, I.gi, I.er, q1, fun F1 H1 a x1 G1 n nf o => f F1 H1 a (I.step x1 G1).ext G1 (I.new n) nf o⟩
def sRetN : SM := fun _ => pure (.rt .non)
theorem ss_retN : SS X (.Return none pos) sRetN := PS.wk ps_retN fun D σ H ⟨ah, F0, H0, F, ρ, hs, out, hs', I, q, f⟩ => by
  cases M.pure_ok q
  exact f F H _ I.ext I.gi .non
theorem ss_pass : SS X (.Pass pos) sNx := PS.wk ps_pass fun D σ H ⟨ah, F0, H0, F, ρ, hs, out, hs', I, q, f⟩ => by
  cases M.pure_ok q
  exact f F H σ I .refl
def sBrk : SM := fun ρ => pure (.bk ρ)
def sCnt : SM := fun ρ => pure (.ct ρ)
theorem ss_break : SS X (.Break pos) sBrk := PS.wk ps_break fun D σ H ⟨ah, F0, H0, F, ρ, hs, out, hs', I, q, f⟩ => by
  cases M.pure_ok q
  exact f F H σ I .refl
theorem ss_continue : SS X (.Continue pos) sCnt := PS.wk ps_continue fun D σ H ⟨ah, F0, H0, F, ρ, hs, out, hs', I, q, f⟩ => by
  cases M.pure_ok q
  exact f F H σ I .refl
/-- what the walk never comes to -/
def sNever : SM := fun _ => stuck
theorem ss_never : SS X st sNever := PS.wk ps_never fun D σ H ⟨ah, F0, H0, F, ρ, hs, out, hs', I, q, f⟩ => by cases q
theorem sss_never {sts : List Stmt} : SSs X sts sNever := PSs.wk pss_never fun D σ H ⟨ah, F0, H0, F, ρ, hs, out, hs', I, q, f⟩ => by cases q
def sIf (t : TM) (a b : SM) : SM := fun ρ => do
  let c ← t ρ
  if c = true then a ρ else b ρ
theorem ss_if {c : Expr} {xs ys : List Stmt} (hc : ST X c t) (h1 : SSs X xs s1) (h2 : SSs X ys s2) : SS X (.If c xs ys pos) (sIf t s1 s2) := PS.wk (ps_if hc h1 h2) fun D σ H ⟨ah, F0, H0, F, ρ, hs, out, hs', I, q, f⟩ => by
  obtain ⟨b, h1, q1, q⟩ := M.bind_ok q
  refine ⟨ah, F, _, ρ, hs, b, h1, I.gi, I.er, q1, fun F1 H1 x1 G1 => ?_⟩
  cases b with
  | true => exact iteT ⟨ah, F0, H0, F1, ρ, h1, out, hs', I.step x1 G1, q, f.kp (I.gi.kp x1)⟩
  | false => exact iteF ⟨ah, F0, H0, F1, ρ, h1, out, hs', I.step x1 G1, q, f.kp (I.gi.kp x1)⟩

/-! ### loops -/
def forF (gt : GM) (gb : SM) : List PV → SM
  | [], ρ => pure (.nx ρ)
  | p :: ps, ρ => do
    let ρ1 ← gt p ρ
    let o ← gb ρ1
    match o with
    | .nx ρ' => forF gt gb ps ρ'
    | .ct ρ' => forF gt gb ps ρ'
    | .bk ρ' => pure (.nx ρ')
    | o => pure o
def sFor (gi : IM) (gt : GM) (gb : SM) : SM := fun ρ => do
  let ps ← gi ρ
  forF gt gb ps ρ
theorem for_w {K : Fg} {gi : IM} {gt : GM} {gb : SM} {is : List Nat} (D : Ends) (σ : L2.St) (H : Hp) (h : tSS K (sFor gi gt gb) D σ H) : tFor (tSI K gi) (tSG K gt is) (tSS K gb) D σ H := by
  obtain ⟨ah, F0, H0, F, ρ, hs, out, hs', I, q, f⟩ := h
  obtain ⟨ps, h1, q1, q⟩ := M.bind_ok q
  refine ⟨ah, F, _, ρ, hs, ps, h1, I.gi, I.er, q1, fun F1 H1 J x1 G1 I1 zl => ?_⟩
  have f1 := f.kp (I.gi.kp x1)
  refine ⟨fun i m σ2 H2 => m = ps.length - i ∧ i ≤ ps.length ∧ ∃ F2 ρ2 hs2, SInv K ah F0 H0 F2 H2 σ2 ρ2 hs2 ∧ Kp K F1 H1 F2 H2 ∧ forF gt gb (ps.drop i) ρ2 hs2 = .ok (out, hs'), ⟨ps.length, by simp, Nat.zero_le _, F1, ρ, h1, I.step x1 G1, .refl, q⟩, ?_⟩
  rintro i m σ2 H2 ⟨rfl, hi, F2, ρ2, hs2, I2, k2, q⟩
  by_cases hlt : i < ps.length
  · refine .inr ⟨I1.goes i F2 H2 k2 hlt, fun σ3 H3 => ∃ m', m' < ps.length - i ∧ m' = ps.length - (i + 1) ∧ i + 1 ≤ ps.length ∧ ∃ F2 ρ2 hs2, SInv K ah F0 H0 F2 H3 σ3 ρ2 hs2 ∧ Kp K F1 H1 F2 H3 ∧ forF gt gb (ps.drop (i + 1)) ρ2 hs2 = .ok (out, hs'), fun σ3 H3 z => z, fun x H3 y => ?_⟩
    obtain ⟨p, hp, x3, G3, rx⟩ := I1.yields i F2 H2 hs2 x H3 k2 I2.gi hlt y
    have ed : ps.drop i = p :: ps.drop (i + 1) := by
      rw [List.drop_eq_getElem_cons hlt]
      rw [List.getElem?_eq_getElem hlt] at hp
      rw [Option.some.inj hp]
    rw [ed] at q
    obtain ⟨ρ3, h3, q3, qa⟩ := M.bind_ok q
    obtain ⟨o, h4, q4, qb⟩ := M.bind_ok qa
    have I3 := I2.step x3 G3
    have k3 := k2.trans (I2.gi.kp x3)
    refine ⟨ah, F2, _, ρ2, hs2, p, ρ3, h3, G3, I3.er, rx, q3, fun σ4 E4 _ e => ?_⟩
    subst e
    have I4 : SInv K ah F0 H0 F2 H3 σ4 ρ3 h3 := ⟨I3.g0, I3.ext, G3, E4⟩
    refine ⟨ah, F0, H0, F2, ρ3, h3, o, h4, I4, q4, ?_⟩
    cases o with
    | nx ρ5 => exact fun F5 H5 σ5 I5 k5 => ⟨_, by omega, rfl, hlt, F5, ρ5, h4, I5, k3.trans k5, qb⟩
    | ct ρ5 => exact fun F5 H5 σ5 I5 k5 => ⟨_, by omega, rfl, hlt, F5, ρ5, h4, I5, k3.trans k5, qb⟩
    | bk ρ5 => cases M.pure_ok qb; exact fun F5 H5 σ5 I5 k5 => f1 F5 H5 σ5 I5 (k3.trans k5)
    | rt p5 => cases M.pure_ok qb; exact f1
    | rtF p5 => cases M.pure_ok qb; exact f1
  · have e : i = ps.length := by omega
    subst e
    rw [List.drop_length] at q
    cases M.pure_ok q
    exact .inl ⟨I1.stops F2 H2 k2, f1 F2 H2 σ2 I2 k2⟩
theorem ss_for {tg iter : Expr} {body : List Stmt} {gi : IM} {gt : GM} {gb : SM} {is : List Nat} (hp : PassesOwn (model X.prog X.w) X.A X.env X.xe) (hi : SI X tg iter gi) (hg : SG X tg gt is) (hb : SSs X body gb) (hc : X.calm = true := by rfl)
    (hs : ∀ x, foldedSetIterable iter X.env x = pure x := by intro _; rfl) : SS X (.For tg iter body [] pos) (sFor gi gt gb) := PS.wk (ps_for hp hc hi hg hb hs) for_w
def whF (c : TM) (gb : SM) : Nat → SM
  | 0, _ => stuck
  | n + 1, ρ => do
    let b ← c ρ
    if b = true then (do
      let o ← gb ρ
      match o with
      | .nx ρ' => whF c gb n ρ'
      | .ct ρ' => whF c gb n ρ'
      | .bk ρ' => pure (.nx ρ')
      | o => pure o) else pure (.nx ρ)
/-- at most n turns -/
def sWh (n : Nat) (c : TM) (gb : SM) : SM := whF c gb n
theorem wh_w {K : Fg} {n : Nat} {c : TM} {gb : SM} (D : Ends) (σ : L2.St) (H : Hp) (h : tSS K (sWh n c gb) D σ H) : tWhile (tST K c) (tSS K gb) D σ H := by
  obtain ⟨ah, F0, H0, F, ρ, hs, out, hs', I, q, f⟩ := h
  refine ⟨fun m σ2 H2 => ∃ F2 ρ2 hs2, SInv K ah F0 H0 F2 H2 σ2 ρ2 hs2 ∧ Kp K F H F2 H2 ∧ whF c gb m ρ2 hs2 = .ok (out, hs'), ⟨n, F, ρ, hs, I, .refl, q⟩, ?_⟩
  rintro m σ2 H2 ⟨F2, ρ2, hs2, I2, k2, q⟩
  cases m with
  | zero => cases q
  | succ m =>
    obtain ⟨b, h3, q3, qa⟩ := M.bind_ok q
    refine ⟨ah, F2, _, ρ2, hs2, b, h3, I2.gi, I2.er, q3, fun F3 H3 x3 G3 => ?_⟩
    have I3 := I2.step x3 G3
    have k3 := k2.trans (I2.gi.kp x3)
    cases b with
    | false =>
      cases M.pure_ok qa
      exact iteF (f F3 H3 σ2 I3 k3)
    | true =>
      refine iteT ⟨fun σ4 H4 => ∃ m', m' < m + 1 ∧ ∃ F2 ρ2 hs2, SInv K ah F0 H0 F2 H4 σ4 ρ2 hs2 ∧ Kp K F H F2 H4 ∧ whF c gb m' ρ2 hs2 = .ok (out, hs'), fun σ4 H4 z => z, ?_⟩
      obtain ⟨o, h4, q4, qb⟩ := M.bind_ok qa
      refine ⟨ah, F0, H0, F3, ρ2, h3, o, h4, I3, q4, ?_⟩
      cases o with
      | nx ρ5 => exact fun F5 H5 σ5 I5 k5 => ⟨m, Nat.lt_succ_self _, F5, ρ5, h4, I5, k3.trans k5, qb⟩
      | ct ρ5 => exact fun F5 H5 σ5 I5 k5 => ⟨m, Nat.lt_succ_self _, F5, ρ5, h4, I5, k3.trans k5, qb⟩
      | bk ρ5 => cases M.pure_ok qb; exact fun F5 H5 σ5 I5 k5 => f F5 H5 σ5 I5 (k3.trans k5)
      | rt p5 => cases M.pure_ok qb; exact f
      | rtF p5 => cases M.pure_ok qb; exact f
theorem ss_while {c : Expr} {body : List Stmt} {gb : SM} (n : Nat) (hp : PassesOwn (model X.prog X.w) X.A X.env X.xe) (hc : ST X c t) (hb : SSs X body gb) : SS X (.While c body [] pos) (sWh n t gb) := PS.wk (ps_while hp hc hb) wh_w
end

/-! ### a def -/
def ev0 (nl : Nat) (ps : List PV) : Ev := ps.map .fz ++ List.replicate (nl - ps.length) .un
/-- the mirror of a def: nl names, its body -/
def fnM (nl : Nat) (g : SM) : List PV → M PV := fun ps => do
  let o ← g (ev0 nl ps)
  match o with
  | .rt p => pure p
  | .nx _ => pure .non
  | _ => stuck
theorem er_start {K : Fg} {ah : Option Addr} {F N : Addr → Prop} {H : Hp} {Ns : List Str} {vs : List V} {ps : List PV} (r : Reps K ah F H vs ps) : ER K ah F H N (L2.start Ns vs) (ev0 Ns.length ps) := by
  unfold L2.start ev0
  rw [r.length]
  refine ⟨fun i s e => ?_, fun i j p q ne e1 e2 => ?_, by simp [r.length]⟩
  · by_cases hi : i < ps.length
    · rw [List.getElem?_append_left (by simpa using hi)] at e
      rw [List.getElem?_append_left (by simpa [r.length] using hi)]
      rw [List.getElem?_map] at e ⊢
      cases ep : ps[i]? with
      | none => rw [ep] at e; cases e
      | some p =>
        rw [ep] at e
        cases e
        obtain ⟨v, hv, rv⟩ := r.get ep
        rw [hv]
        exact .fz rv
    · rw [List.getElem?_append_right (by simpa using hi), List.getElem?_replicate] at e
      split at e
      · cases e; exact .un _
      · cases e
  · have no : ∀ {k : Nat} {p : PV}, (List.map Slot.fz ps ++ List.replicate (Ns.length - ps.length) Slot.un)[k]? = some (.ow p) → False := fun {k p} h => by
      by_cases hk : k < ps.length
      · rw [List.getElem?_append_left (by simpa using hk), List.getElem?_map] at h
        cases ep : ps[k]? with
        | none => rw [ep] at h; cases h
        | some p => rw [ep] at h; cases h
      · rw [List.getElem?_append_right (by simpa using hk), List.getElem?_replicate] at h
        split at h <;> cases h
    exact (no e1).elim
section
variable {P : Program} {w : World} {K : Fg} {mg : Str → Option Value} {base : Heap}
theorem ok_fn {x qual : Str} {st : Stmt} {f : Addr} {fd : FuncData} {Ns ps : List Str} {k : Nat} {g : SM} (Fu : Fun K x qual st f fd) (S : FnScope Ns ps (defScope st))
    (hb : ∀ (cdv : Value) (A : Around) (outer : List Env) (s : Shared) (H : Hp) (E : XK), Room k (A.deeper (envOfC qual (defScope st) s.heap.objs.size f cdv)) → SSs (cxOf CX0 P w K mg base Ns qual (defScope st) f cdv A outer s H E).nox (defBody st) g) :
    FnOk P w K mg base CX0 (k + 1) f fd ps (spM K ps.length (fnM Ns.length g)) := by
  refine Fu.ok S (fun vs H Q E h => h.1) fun cdv A outer s H vs Q E hr h => ⟨_, hb cdv A outer s H E hr, ?_⟩
  obtain ⟨hl, ah, F, qs, hs, p, hs', G, r, q, k⟩ := h
  obtain ⟨o, h1, q1, q⟩ := M.bind_ok q
  refine ⟨ah, F, H, F, ev0 Ns.length qs, hs, o, h1, ⟨⟨hs, G⟩, .refl, G, er_start r⟩, q1, ?_⟩
  cases o with
  | nx ρ => cases M.pure_ok q; exact fun F' H' σ' I' _ => k F' H' _ I'.ext I'.gi .non
  | rt p => cases M.pure_ok q; exact fun F' H' v x' G' r' => k F' H' v x' G' r'
  | _ => cases q
theorem known {x qual : Str} {st : Stmt} {f : Addr} {fd : FuncData} {Ns ps : List Str} {k n : Nat} {g : SM} (hm : mg x = some (.ref f)) (Fu : Fun K x qual st f fd) (b : L2.Binds K fd ps []) (S : FnScope Ns ps (defScope st)) (hn : ps.length = n)
    (hb : ∀ (cdv : Value) (A : Around) (outer : List Env) (s : Shared) (H : Hp) (E : XK), Room k (A.deeper (envOfC qual (defScope st) s.heap.objs.size f cdv)) → SSs (cxOf CX0 P w K mg base Ns qual (defScope st) f cdv A outer s H E).nox (defBody st) g) :
    Known P w K mg base x n (k + 1) (fnM Ns.length g) := ⟨f, fd, ps, hm, Fu.kp, b, by rw [← hn]; exact ok_fn Fu S hb⟩
end
end SL

end
section
namespace SL
open PySem PySem.Spec PyProof.Rows L2
theorem M.set_ok {x h : HS} {r : PUnit × HS} (e : (set x : M PUnit) h = .ok r) : r = (PUnit.unit, x) := by
  have e : Except.ok (PUnit.unit, x) = .ok r := e
  cases e; rfl
/-! ### own lists changed -/
def ownL : Option Slot → M (List PV)
  | some (.ow (.lst l)) => pure l
  | _ => stuck
theorem ownL_ok {o : Option Slot} {hs : HS} {r : List PV × HS} (h : ownL o hs = .ok r) : o = some (.ow (.lst r.1)) ∧ r.2 = hs := by
  unfold ownL at h
  split at h
  · cases M.pure_ok h; exact ⟨rfl, rfl⟩
  · cases h
section
variable {K : Fg} {ah : Option Addr} {F0 F F' : Addr → Prop} {H0 H H' : Hp} {σ : L2.St} {ρ : Ev} {hs hs' : HS} {a : Addr} {o : HO} {i : Nat} {p q : PV}
theorem ER.ownL {N : Addr → Prop} {l : List PV} (E : ER K ah F H N σ ρ) (e : ρ[i]? = some (.ow (.lst l))) : ∃ a vs, σ[i]? = some (some (.ref a)) ∧ ¬ F a ∧ ah ≠ some a ∧ N a ∧ H a = some (.lst vs) ∧ vs.length ≤ sizeLine ∧ Reps K ah F H vs l := by
  obtain ⟨a, h1, h2, h3, h4, o⟩ := E.own e
  cases o with
  | lst h z r => exact ⟨a, _, h1, h2, h3, h4, h, z, r⟩
theorem SInv.updO {u0 u : HO} {q0 : PV} (I : SInv K ah F0 H0 F H σ ρ hs) (e : ρ[i]? = some (.ow p)) (ea : σ[i]? = some (some (.ref a))) (nf : ¬ F a) (na : ah ≠ some a) (n0 : H0 a = none) (h : H a = some u0) (m : MutO u0) (ho : Kp K F H F (upd H a u) → Own K ah F (upd H a u) a q0) :
    SInv K ah F0 H0 F (upd H a u) σ (ρ.set i (.ow q0)) hs ∧ Kp K F H F (upd H a u) := by
  have kp : Kp K F H F (upd H a u) := .ownO h m nf
  refine ⟨⟨I.g0, ⟨I.ext.mono, I.ext.new, fun b u n q => by rw [upd_ne (ne_of_none q n0)]; exact I.ext.keep b u n q⟩, I.gi.ownO h m nf na, ?_⟩, kp⟩
  have hlt : i < ρ.length := (List.getElem?_eq_some_iff.mp e).1
  refine ⟨fun j s e1 => ?_, fun j k p q ne e1 e2 => ?_, by rw [List.length_set]; exact I.er.len⟩
  · by_cases hj : i = j
    · subst hj
      rw [List.getElem?_set_self hlt] at e1
      cases e1
      rw [ea]
      exact .ow nf na n0 (ho kp)
    · rw [List.getElem?_set_ne hj] at e1
      have q := I.er.at_ j s e1
      generalize ew : σ[j]? = w at q
      cases q with
      | un => exact .un _
      | fz r => exact .fz (r.mono kp)
      | ow f n k o' =>
        rename_i b p'
        have hb : b ≠ a := fun z => I.er.apart i j _ _ hj e e1 (by rw [ea, ew, z])
        refine .ow f n k ?_
        cases o' with
        | lst h z r => exact .lst (by rw [upd_ne hb]; exact h) z (r.mono kp)
        | dK h z k r => exact .dK (by rw [upd_ne hb]; exact h) z k (r.mono kp)
        | dT h z k r => exact .dT (by rw [upd_ne hb]; exact h) z k (r.mono kp)
  · have back : ∀ (j : Nat) (p : PV), (ρ.set i (.ow q0))[j]? = some (.ow p) → ∃ p', ρ[j]? = some (.ow p') := fun j p h => by
      by_cases hj : i = j
      · subst hj; exact ⟨_, e⟩
      · rw [List.getElem?_set_ne hj] at h; exact ⟨_, h⟩
    obtain ⟨p', f1⟩ := back j p e1
    obtain ⟨q', f2⟩ := back k q e2
    exact I.er.apart j k p' q' ne f1 f2
theorem SInv.updL {xs vs : List V} {ps : List PV} (I : SInv K ah F0 H0 F H σ ρ hs) (e : ρ[i]? = some (.ow p)) (ea : σ[i]? = some (some (.ref a))) (nf : ¬ F a) (na : ah ≠ some a) (n0 : H0 a = none) (h : H a = some (.lst xs)) (z : vs.length ≤ sizeLine) (r : Reps K ah F H vs ps) :
    SInv K ah F0 H0 F (upd H a (.lst vs)) σ (ρ.set i (.ow (.lst ps))) hs ∧ Kp K F H F (upd H a (.lst vs)) := I.updO e ea nf na n0 h trivial fun kp => .lst upd_same z (r.mono kp)
theorem tyV_lst {xs : List V} (h : H a = some (.lst xs)) : tyV K "list" (.ref a) H := .inl ⟨rfl, _, SqL.of h⟩
end
section
variable {X : Cx} {e ei : Expr} {x y : Str} {p p1 p2 p3 pos apos : Pos} {g gi : EM} {i j : Nat}
/-- x.append(e) -/
def sApp (i : Nat) (g : EM) : SM := fun ρ => do
  let l ← ownL ρ[i]?
  let p ← g ρ
  guardM (l.length < SZ) (pure (.nx (ρ.set i (.ow (.lst (l ++ [p]))))))
theorem app_w (D : Ends) (σ : L2.St) (H : Hp) (h : tSS X.K (sApp i g) D σ H) : tDrop (tBM X.K "list" rAppend (tVar i) (tCons (tS X.K g) tNil)) D σ H := by
  obtain ⟨ah, F0, H0, F, ρ, hs, out, hs', I, q, f⟩ := h
  obtain ⟨l, h1, q1, q⟩ := M.bind_ok q
  obtain ⟨p, h2, q2, q⟩ := M.bind_ok q
  obtain ⟨hz, q⟩ := guard_ok q
  cases M.pure_ok q
  obtain ⟨e, e'⟩ := ownL_ok q1
  subst e'
  obtain ⟨a, vs, ea, nf, na, n0, h, z, r⟩ := I.er.ownL e
  refine ⟨_, ea, tyV_lst h, ah, F, _, ρ, _, p, _, I.gi, I.er, q2, fun F1 H1 v x1 G1 r1 => ?_⟩
  have I1 := I.step x1 G1
  obtain ⟨a', vs', ea', nf1, na1, n01, h1, z1, rr⟩ := I1.er.ownL e
  rw [ea] at ea'
  cases ea'
  have hl : vs'.length < sizeLine := by rw [rr.length, szE]; exact hz
  obtain ⟨I2, k2⟩ := I1.updL (vs := vs' ++ [v]) (ps := l ++ [p]) e ea nf1 na1 n01 h1 (by rw [List.length_append]; exact hl) (rr.append (.cons r1 .nil))
  exact ⟨a, vs', v, rfl, rfl, h1, hl, f F1 _ σ I2 ((I.gi.kp x1).trans k2)⟩
/-- x.extend(e), e a list -/
def sExt (i : Nat) (g : EM) : SM := fun ρ => do
  let l ← ownL ρ[i]?
  let p ← g ρ
  match p with
  | .lst m => guardM (l.length + m.length ≤ SZ) (pure (.nx (ρ.set i (.ow (.lst (l ++ m))))))
  | _ => stuck
theorem ext_w (D : Ends) (σ : L2.St) (H : Hp) (h : tSS X.K (sExt i g) D σ H) : tDrop (tBM X.K "list" rExtend (tVar i) (tCons (tS X.K g) tNil)) D σ H := by
  obtain ⟨ah, F0, H0, F, ρ, hs, out, hs', I, q, f⟩ := h
  obtain ⟨l, h1, q1, q⟩ := M.bind_ok q
  obtain ⟨p, h2, q2, q⟩ := M.bind_ok q
  cases p <;> first | (cases q; done) | skip
  rename_i m
  obtain ⟨hz, q⟩ := guard_ok q
  cases M.pure_ok q
  obtain ⟨e, e'⟩ := ownL_ok q1
  subst e'
  obtain ⟨a, vs, ea, nf, na, n0, h, z, r⟩ := I.er.ownL e
  refine ⟨_, ea, tyV_lst h, ah, F, _, ρ, _, _, _, I.gi, I.er, q2, fun F1 H1 v x1 G1 r1 => ?_⟩
  have I1 := I.step x1 G1
  obtain ⟨a', vs', ea', nf1, na1, n01, h1, z1, rr⟩ := I1.er.ownL e
  rw [ea] at ea'
  cases ea'
  cases r1 with
  | @lst b ws _ fb hb zb rb =>
    have hl : vs'.length + ws.length ≤ sizeLine := by rw [rr.length, rb.length, szE]; exact hz
    obtain ⟨I2, k2⟩ := I1.updL (vs := vs' ++ _) (ps := l ++ m) e ea nf1 na1 n01 h1 (by rw [List.length_append]; exact hl) (rr.append rb)
    exact ⟨a, _, vs', _, rfl, rfl, h1, hb, hl, f F1 _ σ I2 ((I.gi.kp x1).trans k2)⟩
/-- x[i] = e -/
def sSet (i : Nat) (gi g : EM) : SM := fun ρ => do
  let p ← g ρ
  let l ← ownL ρ[i]?
  let y ← gi ρ
  let k ← asInt y
  let j ← liftO (ixN l.length k)
  pure (.nx (ρ.set i (.ow (.lst (l.set j p)))))
theorem set_w (D : Ends) (σ : L2.St) (H : Hp) (h : tSS X.K (sSet i gi g) D σ H) : tAsg (tS X.K g) (gSub (tVar i) (tS X.K gi) rSetL) D σ H := by
  obtain ⟨ah, F0, H0, F, ρ, hs, out, hs', I, q, f⟩ := h
  obtain ⟨p, h1, q1, q⟩ := M.bind_ok q
  obtain ⟨l, h2, q2, q⟩ := M.bind_ok q
  obtain ⟨y, h3, q3, q⟩ := M.bind_ok q
  obtain ⟨k, h4, q4, q⟩ := M.bind_ok q
  obtain ⟨j, h5, q5, q⟩ := M.bind_ok q
  cases M.pure_ok q
  obtain ⟨e, e'⟩ := ownL_ok q2
  subst e'
  obtain ⟨rfl, rfl⟩ := asInt_ok q4
  obtain ⟨ej, e'⟩ := M.lift_ok q5
  cases e'
  refine ⟨ah, F, _, ρ, _, p, _, I.gi, I.er, q1, fun F1 H1 v x1 G1 r1 => ?_⟩
  have I1 := I.step x1 G1
  obtain ⟨a, vs, ea, nf, na, n0, h, z, r⟩ := I1.er.ownL e
  refine ⟨_, ea, ah, F1, _, ρ, _, _, _, I1.gi, I1.er, q3, fun F2 H2 v2 x2 G2 r2 => ?_⟩
  have I2 := I1.step x2 G2
  obtain ⟨a', vs', ea', nf1, na1, n01, h1, z1, rr⟩ := I2.er.ownL e
  rw [ea] at ea'
  cases ea'
  cases r2
  obtain ⟨I3, k3⟩ := I2.updL (vs := vs'.set j v) (ps := l.set j p) e ea nf1 na1 n01 h1 (by rw [List.length_set]; exact z1) (rr.set (r1.mono (I1.gi.kp x2)) j)
  exact ⟨a, vs', _, j, rfl, rfl, h1, by rw [rr.length]; exact ej, f F2 _ σ I3 (((I.gi.kp x1).trans (I1.gi.kp x2)).trans k3)⟩
/-- hand[i] = e -/
def sSetH (go gi g : EM) : SM := fun ρ => do
  let p ← g ρ
  let o ← go ρ
  let y ← gi ρ
  let k ← asInt y
  match o with
  | .hand => do
    let h ← get
    let j ← liftO (ixN h.length k)
    set (h.set j p)
    pure (.nx ρ)
  | _ => stuck
theorem seth_w {go : EM} (D : Ends) (σ : L2.St) (H : Hp) (h : tSS X.K (sSetH go gi g) D σ H) : tAsg (tS X.K g) (gSub (tS X.K go) (tS X.K gi) rSetL) D σ H := by
  obtain ⟨ah, F0, H0, F, ρ, hs, out, hs', I, q, f⟩ := h
  obtain ⟨p, h1, q1, q⟩ := M.bind_ok q
  obtain ⟨o, h2, q2, q⟩ := M.bind_ok q
  obtain ⟨y, h3, q3, q⟩ := M.bind_ok q
  obtain ⟨k, h4, q4, qa⟩ := M.bind_ok q
  clear q
  obtain ⟨rfl, rfl⟩ := asInt_ok q4
  obtain rfl : o = .hand := by cases o <;> first | rfl | (cases qa; done)
  obtain ⟨hh, h6, q6, qb⟩ := M.bind_ok qa
  cases M.get_ok q6
  obtain ⟨j, h7, q7, qc⟩ := M.bind_ok qb
  obtain ⟨ej, e'⟩ := M.lift_ok q7
  cases e'
  obtain ⟨u, h8, q8, q⟩ := M.bind_ok qc
  cases M.set_ok q8
  cases M.pure_ok q
  refine ⟨ah, F, _, ρ, _, p, _, I.gi, I.er, q1, fun F1 H1 v x1 G1 r1 => ?_⟩
  have I1 := I.step x1 G1
  refine ⟨ah, F1, _, ρ, _, _, _, I1.gi, I1.er, q2, fun F2 H2 v2 x2 G2 r2 => ?_⟩
  have I2 := I1.step x2 G2
  refine ⟨ah, F2, _, ρ, _, _, _, I2.gi, I2.er, q3, fun F3 H3 v3 x3 G3 r3 => ?_⟩
  have I3 := I2.step x3 G3
  cases r3
  have k3 := ((I.gi.kp x1).trans (I1.gi.kp x2)).trans (I2.gi.kp x3)
  cases r2 with
  | hand eh =>
    rename_i a
    obtain ⟨nf, vs, h, z, r⟩ := G3.at_ a eh
    have kp : Kp X.K F3 H3 F3 (upd H3 a (.lst (vs.set j v))) := .own h nf
    refine ⟨a, vs, _, j, rfl, rfl, h, by rw [r.length]; exact ej, f F3 _ σ ⟨I3.g0, ⟨I3.ext.mono, I3.ext.new, fun b u n q => ?_⟩, ⟨fun b fb z => ?_, fun b eb => ?_⟩, ⟨fun i s e => ?_, I3.er.apart, I3.er.len⟩⟩ (k3.trans kp)⟩
    · rw [upd_ne (fun z => n (by rw [z]; exact eh))]; exact I3.ext.keep b u n q
    · rw [upd_ne (fun z : b = a => nf (by rw [← z]; exact fb))] at z; exact G3.fin b fb z
    · rw [eh] at eb
      cases eb
      exact ⟨nf, _, upd_same, by rw [List.length_set]; exact z, (r.set ((r1.mono (I1.gi.kp x2)).mono (I2.gi.kp x3)) j).mono kp⟩
    · have q := I3.er.at_ i s e
      generalize ew : σ[i]? = w at q
      cases q with
      | un => exact .un _
      | fz r => exact .fz (r.mono kp)
      | ow f n k o' =>
        rename_i b p'
        have hb : b ≠ a := fun z => n (by rw [z]; exact eh)
        refine .ow f n k ?_
        cases o' with
        | lst h z r => exact .lst (by rw [upd_ne hb]; exact h) z (r.mono kp)
        | dK h z k r => exact .dK (by rw [upd_ne hb]; exact h) z k (r.mono kp)
        | dT h z k r => exact .dT (by rw [upd_ne hb]; exact h) z k (r.mono kp)
/-- y = x.pop() -/
def sPop (i j : Nat) : SM := fun ρ => do
  let l ← ownL ρ[i]?
  let p ← liftO l[l.length - 1]?
  pure (.nx ((ρ.set i (.ow (.lst l.dropLast))).set j (.fz p)))
theorem pop_w (D : Ends) (σ : L2.St) (H : Hp) (h : tSS X.K (sPop i j) D σ H) : tAsg (tBM0 X.K "list" rPop (tVar i)) (gName j) D σ H := by
  obtain ⟨ah, F0, H0, F, ρ, hs, out, hs', I, q, f⟩ := h
  obtain ⟨l, h1, q1, q⟩ := M.bind_ok q
  obtain ⟨p, h2, q2, q⟩ := M.bind_ok q
  cases M.pure_ok q
  obtain ⟨e, e'⟩ := ownL_ok q1
  subst e'
  obtain ⟨ep, e'⟩ := M.lift_ok q2
  cases e'
  obtain ⟨a, vs, ea, nf, na, n0, h, z, r⟩ := I.er.ownL e
  obtain ⟨I2, k2⟩ := I.updL (vs := vs.dropLast) (ps := l.dropLast) e ea nf na n0 h (by rw [List.length_dropLast]; omega) r.dropLast
  obtain ⟨v, ev, rv⟩ := r.get ep
  refine ⟨_, ea, tyV_lst h, a, vs, v, rfl, rfl, h, by rw [r.length]; exact ev, ?_⟩
  exact f F _ _ ⟨I2.g0, I2.ext, I2.gi, I2.er.setF (rv.mono k2)⟩ k2
end
end SL

end
section
namespace SL
open PySem PySem.Spec PyProof.Rows L2
/-! ### a def that hands back a new thing -/
def spF (K : Fg) (n : Nat) (m : List PV → M PV) : Sp := fun vs H Q _ => vs.length = n ∧ ∃ ah F ps hs p hs', GI K ah F H hs ∧ Reps K ah F H vs ps ∧ m ps hs = .ok (p, hs') ∧
  ∀ F' H' a, Ext K ah F H F' H' → GI K ah F' H' hs' → H a = none → ¬ F' a → Own K ah F' H' a p → Q (.ref a) H'
def KnownF (P : Program) (w : World) (K : Fg) (mg : Str → Option Value) (base : Heap) (x : Str) (n k : Nat) (m : List PV → M PV) : Prop :=
  ∃ f fd ps, mg x = some (.ref f) ∧ PySem.W.keepIn K (.ref f) = true ∧ L2.Binds K fd ps [] ∧ FnOk P w K mg base CX0 k f fd ps (spF K n m)
def fnF (nl : Nat) (g : SM) : List PV → M PV := fun ps => do
  let o ← g (ev0 nl ps)
  match o with
  | .rtF p => pure p
  | _ => stuck
section
variable {X : Cx} {e a b c : Expr} {es rest : List Expr} {p pos : Pos} {g ga gb gc : EM} {gs : Ev → M (List PV)} {x : Str} {n k : Nat} {m : List PV → M PV}
theorem sf_call (h : KnownF X.prog X.w X.K X.mg X.base x n k m) (hr : Room k X.A) (ha : SA X (e :: es) gs) (hn : Rows gs n) (hg : Gl X x := by rfl) (hdb : (x == ("__debug__" : Str)) = false := by decide)
    (he : starEach (e :: es) X.env = (false, eval e X.env) :: starEach es X.env := by rfl) (hpl : (backTo pos (starEach es X.env)).any (·.1) = false := by rfl) : SF X (.Call (.Name x p) (e :: es) [] pos) (gB m gs) := by
  obtain ⟨f, fd, ps, hm, hk, hb, F⟩ := h
  refine PE.wk (pe_call F hr hg hm hk hb .nil pass0 ha hdb he hpl) fun σ H Q ⟨ah, F, N, ρ, hs, p, hs', G, E, q, k⟩ => ?_
  obtain ⟨x, h1, q1, q⟩ := M.bind_ok q
  refine ⟨ah, F, N, ρ, hs, x, h1, G, E, q1, fun F1 H1 v1 x1 G1 r1 => ?_⟩
  refine ⟨?_, ah, F1, x, h1, p, hs', G1, ?_, q, fun F2 H2 a x2 G2 n nf o => k F2 H2 a (x1.trans G G1 x2) G2 (x1.free G n (G1.ne n)) nf o⟩
  · rw [List.append_nil, r1.length]; exact hn _ _ _ _ q1
  · rw [List.append_nil]; exact r1
end
section
variable {P : Program} {w : World} {K : PySem.W.Frag} {mg : Str → Option Value} {base : Heap}
theorem ok_fnF {x qual : Str} {st : Stmt} {f : Addr} {fd : FuncData} {Ns ps : List Str} {k : Nat} {g : SM} (Fu : Fun K x qual st f fd) (S : FnScope Ns ps (defScope st))
    (hb : ∀ (cdv : Value) (A : Around) (outer : List Env) (s : Shared) (H : Hp) (E : XK), Room k (A.deeper (envOfC qual (defScope st) s.heap.objs.size f cdv)) → SSs (cxOf CX0 P w K mg base Ns qual (defScope st) f cdv A outer s H E).nox (defBody st) g) :
    FnOk P w K mg base CX0 (k + 1) f fd ps (spF K ps.length (fnF Ns.length g)) := by
  refine Fu.ok S (fun vs H Q E h => h.1) fun cdv A outer s H vs Q E hr h => ⟨_, hb cdv A outer s H E hr, ?_⟩
  obtain ⟨hl, ah, F, qs, hs, p, hs', G, r, q, k⟩ := h
  obtain ⟨o, h1, q1, q⟩ := M.bind_ok q
  refine ⟨ah, F, H, F, ev0 Ns.length qs, hs, o, h1, ⟨⟨hs, G⟩, .refl, G, er_start r⟩, q1, ?_⟩
  cases o with
  | rtF p => cases M.pure_ok q; exact fun F' H' a x' G' n nf o => k F' H' a x' G' n nf o
  | _ => cases q
theorem knownF {x qual : Str} {st : Stmt} {f : Addr} {fd : FuncData} {Ns ps : List Str} {k n : Nat} {g : SM} (hm : mg x = some (.ref f)) (Fu : Fun K x qual st f fd) (b : L2.Binds K fd ps []) (S : FnScope Ns ps (defScope st)) (hn : ps.length = n)
    (hb : ∀ (cdv : Value) (A : Around) (outer : List Env) (s : Shared) (H : Hp) (E : XK), Room k (A.deeper (envOfC qual (defScope st) s.heap.objs.size f cdv)) → SSs (cxOf CX0 P w K mg base Ns qual (defScope st) f cdv A outer s H E).nox (defBody st) g) :
    KnownF P w K mg base x n (k + 1) (fnF Ns.length g) := ⟨f, fd, ps, hm, Fu.kp, b, by rw [← hn]; exact ok_fnF Fu S hb⟩
end

/-! ### the law's hand comes -/
mutual
theorem Rep.hd {K : Fg} {ah : Option Addr} {F : Addr → Prop} {H : Hp} : ∀ {v : V} {p : PV}, Rep K none F H v p → Rep K ah F H v p
  | _, _, .non => .non
  | _, _, .bl b => .bl b
  | _, _, .int i => .int i
  | _, _, .str x => .str x
  | _, _, .ty n => .ty n
  | _, _, .hand e => by cases e
  | _, _, .tup h z r => .tup h z (Reps.hd r)
  | _, _, .lst f h z r => .lst f h z (Reps.hd r)
  | _, _, .scr h z => .scr h z
  | _, _, .dK f h z e r => .dK f h z e (Reps.hd r)
  | _, _, .dT f h z e r => .dT f h z e (Reps.hd r)
theorem Reps.hd {K : Fg} {ah : Option Addr} {F : Addr → Prop} {H : Hp} : ∀ {vs : List V} {ps : List PV}, Reps K none F H vs ps → Reps K ah F H vs ps
  | _, _, .nil => .nil
  | _, _, .cons r t => .cons (Rep.hd r) (Reps.hd t)
end
def noOwn (i : Nat) (ρ : Ev) : Bool := (List.range ρ.length).all fun j => j == i || match ρ[j]? with
  | some (.ow _) => false
  | _ => true
theorem noOwn_ok {i j : Nat} {ρ : Ev} {p : PV} (h : noOwn i ρ = true) (e : ρ[j]? = some (.ow p)) : j = i := by
  unfold noOwn at h
  rw [List.all_eq_true] at h
  have hlt : j < ρ.length := (List.getElem?_eq_some_iff.mp e).1
  have q := h j (List.mem_range.mpr hlt)
  rw [e] at q
  simpa using q
/-- slot i holds the hand from here on -/
def sHand (i : Nat) (g : SM) : SM := fun ρ => do
  let l ← ownL ρ[i]?
  guardM (noOwn i ρ = true) (do
    set l
    let o ← g (ρ.set i (.fz .hand))
    match o with
    | .rt (.bl b) => pure (.rt (.bl b))
    | _ => stuck)
/-- outside: no hand -/
def tSN (K : Fg) (g : SM) : TS := fun D σ H => ∃ F0 H0 F ρ hs out hs', SInv K none F0 H0 F H σ ρ hs ∧ g ρ hs = .ok (out, hs') ∧ Fin K none F0 H0 F H D hs' out
theorem sss_hand {X : Cx} {sts : List Stmt} {g : SM} (i : Nat) (h : SSs X sts g) : PSs X sts (tSN X.K (sHand i g)) := PSs.wk h fun D σ H ⟨F0, H0, F, ρ, hs, out, hs', I, q, f⟩ => by
  obtain ⟨l, h1, q1, qa⟩ := M.bind_ok q
  obtain ⟨hno, qb⟩ := guard_ok qa
  obtain ⟨u, h2, q2, qc⟩ := M.bind_ok qb
  cases M.set_ok q2
  obtain ⟨o, h3, q3, qd⟩ := M.bind_ok qc
  obtain ⟨e, e'⟩ := ownL_ok q1
  subst e'
  obtain ⟨a, vs, ea, nf, na, n0, h, z, r⟩ := I.er.ownL e
  have hlt : i < ρ.length := (List.getElem?_eq_some_iff.mp e).1
  have G1 : GI X.K (some a) F H l := ⟨I.gi.fin, fun b eb => by cases eb; exact ⟨nf, vs, h, z, r.hd⟩⟩
  have no : ∀ {j : Nat} {p : PV}, (ρ.set i (.fz .hand))[j]? = some (.ow p) → False := fun {j p} ej => by
    by_cases hj : i = j
    · subst hj
      rw [List.getElem?_set_self hlt] at ej; cases ej
    · rw [List.getElem?_set_ne hj] at ej
      exact hj (noOwn_ok hno ej).symm
  refine ⟨some a, F, H, F, ρ.set i (.fz .hand), l, o, h3, ⟨⟨l, G1⟩, .refl, G1, ⟨fun j s ej => ?_, fun j k p q ne e1 e2 => (no e1).elim, by rw [List.length_set]; exact I.er.len⟩⟩, q3, ?_⟩
  · by_cases hj : i = j
    · subst hj
      rw [List.getElem?_set_self hlt] at ej
      cases ej
      rw [ea]
      exact .fz (.hand rfl)
    · have ej' := ej
      rw [List.getElem?_set_ne hj] at ej
      have q := I.er.at_ j s ej
      generalize ew : σ[j]? = w at q
      cases q with
      | un => exact .un _
      | fz r => exact .fz r.hd
      | ow f n k o' => exact (no ej').elim
  · split at qd
    · cases M.pure_ok qd
      refine fun F' H' v x' G' r' => f F' H' v ⟨fun b fb => x'.mono b (I.ext.mono b fb), fun b fb => ?_, fun b u _ hb => ?_⟩ ⟨G'.fin, fun b eb => by cases eb⟩ ?_
      · rcases x'.new b fb with k | k
        · exact I.ext.new b k
        · exact .inr (I.new k)
      · refine x'.keep b u (fun z => ?_) (I.ext.keep b u (by simp) hb)
        cases z
        rw [n0] at hb; cases hb
      · cases r'; exact .bl _
    · cases qd
/-- the law -/
def spN (K : Fg) (m : List PV → M PV) : Sp := fun vs H Q _ => vs.length = 1 ∧ ∃ F ps p hs', GI K none F H [] ∧ Reps K none F H vs ps ∧ m ps [] = .ok (p, hs') ∧
  ∀ F' H' v, Ext K none F H F' H' → GI K none F' H' hs' → Rep K none F' H' v p → Q v H'
section
variable {P : Program} {w : World} {K : PySem.W.Frag} {mg : Str → Option Value} {base : Heap}
/-- the law's body: hand = .. ahead, then what is told by s2 -/
theorem ok_law {x qual : Str} {st s0 : Stmt} {sts : List Stmt} {f : Addr} {fd : FuncData} {Ns : List Str} {k : Nat} {g s2 : SM} (i : Nat) (Fu : Fun K x qual st f fd) (S : FnScope Ns ["script"] (defScope st)) (hd : defBody st = s0 :: sts)
    (h1 : ∀ (cdv : Value) (A : Around) (outer : List Env) (s : Shared) (H : Hp) (E : XK), Room k (A.deeper (envOfC qual (defScope st) s.heap.objs.size f cdv)) → SS (cxOf CX0 P w K mg base Ns qual (defScope st) f cdv A outer s H E).nox s0 g)
    (h2 : ∀ (cdv : Value) (A : Around) (outer : List Env) (s : Shared) (H : Hp) (E : XK), Room k (A.deeper (envOfC qual (defScope st) s.heap.objs.size f cdv)) → SSs (cxOf CX0 P w K mg base Ns qual (defScope st) f cdv A outer s H E).nox sts s2) :
    FnOk P w K mg base CX0 (k + 1) f fd ["script"] (spN K (fnM Ns.length (sSeq g (sHand i s2)))) := by
  refine Fu.ok S (fun vs H Q E h => h.1) fun cdv A outer s H vs Q E hr h => ⟨_, by rw [hd]; exact pss_cons (h1 cdv A outer s H E hr) (sss_hand i (h2 cdv A outer s H E hr)), ?_⟩
  obtain ⟨hl, F, qs, p, hs', G, r, q, k⟩ := h
  obtain ⟨o, h3, q1, q⟩ := M.bind_ok q
  obtain ⟨o1, h4, q2, q3⟩ := M.bind_ok q1
  refine ⟨none, F, H, F, ev0 Ns.length qs, [], o1, h4, ⟨⟨[], G⟩, .refl, G, er_start r⟩, q2, ?_⟩
  have fin : Fin K none F H F H { nx := fun _ H' => Q .non H', rt := Q } h3 o := by
    cases o with
    | nx ρ => cases M.pure_ok q; exact fun F' H' σ' I' _ => k F' H' _ I'.ext I'.gi .non
    | rt p => cases M.pure_ok q; exact fun F' H' v x' G' r' => k F' H' v x' G' r'
    | _ => cases q
  cases o1 with
  | nx ρ1 => exact fun F1 H1 σ1 I1 k1 => ⟨F, H, F1, ρ1, h4, o, h3, I1, q3, fin.kp k1⟩
  | rt p1 => cases M.pure_ok q3; exact fin
  | rtF p1 => cases M.pure_ok q3; exact fin
  | bk ρ1 => cases M.pure_ok q3; cases q
  | ct ρ1 => cases M.pure_ok q3; cases q
end
theorem law_sp {K : Fg} {m : List PV → M PV} {H : Hp} {a : Addr} {ns : List Int} {E : XK} (hl : ns.length ≤ 63) (hO : Only H) (hS : SqL K H a (ns.map V.int)) (hm : ∃ hs', m [.scr ns] [] = .ok (.bl true, hs')) : spN K m [.ref a] H (fun v _ => v = .bl true) E := by
  obtain ⟨hs', hm⟩ := hm
  refine ⟨rfl, fun _ => False, [.scr ns], .bl true, hs', ⟨fun _ f => f.elim, fun b e => by cases e⟩, .cons (.scr ?_ (by rw [szE]; show ns.length ≤ 16777216; omega)) .nil, hm, fun F' H' v _ _ r => by cases r; rfl⟩
  rcases hS with (h | h) | h
  · rcases hO a with z | ⟨o, xs, z⟩
    · rw [z] at h; cases h
    · rw [z] at h; cases h
  · exact .inr (.inl h)
  · exact .inr (.inr h)
end SL

end
section
namespace SL
open PySem PySem.Spec PyProof.Rows L2
def gNeg (ga : EM) : EM := fun ρ => do
    let x ← ga ρ
    match x with
    | .int i => pure (.int (-i))
    | _ => stuck
section
variable {X : Cx} {e a b c : Expr} {es rest : List Expr} {p p1 p2 p3 pos : Pos} {g ga gb gc gi : EM} {gs : Ev → M (List PV)} {x y : Str}
/-! ### builtins by name -/
theorem se_len (hm : X.mg "len" = none) (ha : SAB X (e :: es) gs) (hg : Gl X "len" := by rfl) (he : starEach (e :: es) X.env = (false, eval e X.env) :: starEach es X.env := by rfl) (hpl : (backTo pos (starEach es X.env)).any (·.1) = false := by rfl) : SE X (.Call (.Name "len" p) (e :: es) [] pos) (gB pLen gs) :=
  se_B cs_len (pe_callB call_len_seq hg hm PySem.boot_len ha (by decide) (by decide) he hpl)
theorem se_abs (hm : X.mg "abs" = none) (ha : SAB X (e :: es) gs) (hg : Gl X "abs" := by rfl) (he : starEach (e :: es) X.env = (false, eval e X.env) :: starEach es X.env := by rfl) (hpl : (backTo pos (starEach es X.env)).any (·.1) = false := by rfl) : SE X (.Call (.Name "abs" p) (e :: es) [] pos) (gB pAbs gs) :=
  se_B cs_abs (pe_callB call_abs hg hm (by decide +kernel) ha (by decide) (by decide) he hpl)
theorem se_intc (hm : X.mg "int" = none) (ha : SAB X (e :: es) gs) (hg : Gl X "int" := by rfl) (he : starEach (e :: es) X.env = (false, eval e X.env) :: starEach es X.env := by rfl) (hpl : (backTo pos (starEach es X.env)).any (·.1) = false := by rfl) : SE X (.Call (.Name "int" p) (e :: es) [] pos) (gB pInt gs) :=
  se_B cs_int (pe_callTy call_int1 hg hm (by decide +kernel) ha (by decide) (by decide) he hpl)
theorem se_tuplec (hm : X.mg "tuple" = none) (ha : SAB X (e :: es) gs) (hg : Gl X "tuple" := by rfl) (he : starEach (e :: es) X.env = (false, eval e X.env) :: starEach es X.env := by rfl) (hpl : (backTo pos (starEach es X.env)).any (·.1) = false := by rfl) : SE X (.Call (.Name "tuple" p) (e :: es) [] pos) (gB pTuple gs) :=
  se_B cs_tuple (pe_callTy call_tuple_of hg hm (by decide +kernel) ha (by decide) (by decide) he hpl)
theorem sf_listc (hm : X.mg "list" = none) (ha : SAB X (e :: es) gs) (hg : Gl X "list" := by rfl) (he : starEach (e :: es) X.env = (false, eval e X.env) :: starEach es X.env := by rfl) (hpl : (backTo pos (starEach es X.env)).any (·.1) = false := by rfl) : SF X (.Call (.Name "list" p) (e :: es) [] pos) (gB pList gs) :=
  sf_B cf_list (pe_callTy call_list_of hg hm (by decide +kernel) ha (by decide) (by decide) he hpl)
theorem se_all (hm : X.mg "all" = none) (ha : SAB X (e :: es) gs) (hc : X.calm = true := by rfl) (hg : Gl X "all" := by rfl) (he : starEach (e :: es) X.env = (false, eval e X.env) :: starEach es X.env := by rfl) (hpl : (backTo pos (starEach es X.env)).any (·.1) = false := by rfl) : SE X (.Call (.Name "all" p) (e :: es) [] pos) (gB pAll gs) :=
  se_B cs_all (pe_callB (cr_all hc) hg hm (by decide +kernel) ha (by decide) (by decide) he hpl)
theorem se_any (hm : X.mg "any" = none) (ha : SAB X (e :: es) gs) (hc : X.calm = true := by rfl) (hg : Gl X "any" := by rfl) (he : starEach (e :: es) X.env = (false, eval e X.env) :: starEach es X.env := by rfl) (hpl : (backTo pos (starEach es X.env)).any (·.1) = false := by rfl) : SE X (.Call (.Name "any" p) (e :: es) [] pos) (gB pAny gs) :=
  se_B cs_any (pe_callB (cr_any hc) hg hm (by decide +kernel) ha (by decide) (by decide) he hpl)
theorem se_sum (hm : X.mg "sum" = none) (ha : SAB X (e :: es) gs) (hc : X.calm = true := by rfl) (hg : Gl X "sum" := by rfl) (he : starEach (e :: es) X.env = (false, eval e X.env) :: starEach es X.env := by rfl) (hpl : (backTo pos (starEach es X.env)).any (·.1) = false := by rfl) : SE X (.Call (.Name "sum" p) (e :: es) [] pos) (gB pSum gs) :=
  se_B cs_sum (pe_callB (cr_sum hc) hg hm (by decide +kernel) ha (by decide) (by decide) he hpl)
theorem se_max2 (hm : X.mg "max" = none) (ha : SAB X (e :: es) gs) (hc : X.calm = true := by rfl) (hg : Gl X "max" := by rfl) (he : starEach (e :: es) X.env = (false, eval e X.env) :: starEach es X.env := by rfl) (hpl : (backTo pos (starEach es X.env)).any (·.1) = false := by rfl) : SE X (.Call (.Name "max" p) (e :: es) [] pos) (gB pMax2 gs) :=
  se_B cs_max2 (pe_callB (call_max2 hc) hg hm (by decide +kernel) ha (by decide) (by decide) he hpl)
theorem se_min2 (hm : X.mg "min" = none) (ha : SAB X (e :: es) gs) (hc : X.calm = true := by rfl) (hg : Gl X "min" := by rfl) (he : starEach (e :: es) X.env = (false, eval e X.env) :: starEach es X.env := by rfl) (hpl : (backTo pos (starEach es X.env)).any (·.1) = false := by rfl) : SE X (.Call (.Name "min" p) (e :: es) [] pos) (gB pMin2 gs) :=
  se_B cs_min2 (pe_callB (call_min2 hc) hg hm (by decide +kernel) ha (by decide) (by decide) he hpl)
/-- a built-in class named -/
theorem cl_int (hm : X.mg "int" = none) (hg : Gl X "int" := by rfl) : PE X (.Name "int" pos) (tC (.ty Cl.int.name)) := pe_bltn hg hm (u := .type "int") (by decide +kernel) rfl
theorem cl_bool (hm : X.mg "bool" = none) (hg : Gl X "bool" := by rfl) : PE X (.Name "bool" pos) (tC (.ty Cl.bool.name)) := pe_bltn hg hm (u := .type "bool") (by decide +kernel) rfl
theorem cl_str (hm : X.mg "str" = none) (hg : Gl X "str" := by rfl) : PE X (.Name "str" pos) (tC (.ty Cl.str.name)) := pe_bltn hg hm (u := .type "str") (by decide +kernel) rfl
theorem cl_tuple (hm : X.mg "tuple" = none) (hg : Gl X "tuple" := by rfl) : PE X (.Name "tuple" pos) (tC (.ty Cl.tuple.name)) := pe_bltn hg hm (u := .type "tuple") (by decide +kernel) rfl
theorem cl_list (hm : X.mg "list" = none) (hg : Gl X "list" := by rfl) : PE X (.Name "list" pos) (tC (.ty Cl.list.name)) := pe_bltn hg hm (u := .type "list") (by decide +kernel) rfl
theorem cl_dict (hm : X.mg "dict" = none) (hg : Gl X "dict" := by rfl) : PE X (.Name "dict" pos) (tC (.ty Cl.dict.name)) := pe_bltn hg hm (u := .type "dict") (by decide +kernel) rfl
/-- a module's constant -/
theorem se_ci {i : Int} (hm : ∃ t, X.mg x = some (.int i t)) (hg : Gl X x := by rfl) (hd : (x == ("__debug__" : Str)) = false := by decide) : SE X (.Name x pos) (gC (.int i)) := by
  obtain ⟨t, hm⟩ := hm
  exact se_gint hm hg hd
theorem se_cs {i : Str} (hm : ∃ t, X.mg x = some (.str i t)) (hg : Gl X x := by rfl) (hd : (x == ("__debug__" : Str)) = false := by decide) : SE X (.Name x pos) (gC (.str i)) := by
  obtain ⟨t, hm⟩ := hm
  exact se_gstr hm hg hd
/-! ### statements over own lists -/
theorem ss_app {i : Nat} (hx : PE X (.Name x p) (tVar i)) (he : SE X e g) (hs : swapsWith (.Call (.Attribute (.Name x p) "append" p1) [e] [] p2) none pos.line X.env = pure false := by rfl)
    (hbase : attributeBase (.Name x p) "append" X.env (eval (.Name x p) X.env) = eval (.Name x p) X.env := by rfl)
    (hfew : ((backTo p2 (starEach [e] X.env)).all (fun x => !x.1) && (backToKw p2 (keywordEach [] X.env)).all (fun x => x.1.isSome) && decide (([e] : List Expr).length + ([] : List Keyword).length + (if ([] : List Keyword).isEmpty then 0 else 1) < 30)) = true := by rfl)
    (hline : (p1.endLine == p2.line) = true := by rfl) (h1 : starEach [e] X.env = (false, eval e X.env) :: starEach [] X.env := by rfl) : SS X (.Expr (.Call (.Attribute (.Name x p) "append" p1) [e] [] p2) pos) (sApp i g) :=
  PS.wk (ps_expr (pe_bm PySem.F.plainAttrs_list PySem.F.slot_list_append PySem.F.type_list_append mt_append hx (pa_cons he pa_nil h1) hbase hfew hline h1) hs) app_w
theorem ss_ext {i : Nat} (hx : PE X (.Name x p) (tVar i)) (he : SE X e g) (hs : swapsWith (.Call (.Attribute (.Name x p) "extend" p1) [e] [] p2) none pos.line X.env = pure false := by rfl)
    (hbase : attributeBase (.Name x p) "extend" X.env (eval (.Name x p) X.env) = eval (.Name x p) X.env := by rfl)
    (hfew : ((backTo p2 (starEach [e] X.env)).all (fun x => !x.1) && (backToKw p2 (keywordEach [] X.env)).all (fun x => x.1.isSome) && decide (([e] : List Expr).length + ([] : List Keyword).length + (if ([] : List Keyword).isEmpty then 0 else 1) < 30)) = true := by rfl)
    (hline : (p1.endLine == p2.line) = true := by rfl) (h1 : starEach [e] X.env = (false, eval e X.env) :: starEach [] X.env := by rfl) : SS X (.Expr (.Call (.Attribute (.Name x p) "extend" p1) [e] [] p2) pos) (sExt i g) :=
  PS.wk (ps_expr (pe_bm PySem.F.plainAttrs_list PySem.F.slot_list_extend PySem.F.type_list_extend mt_extend hx (pa_cons he pa_nil h1) hbase hfew hline h1) hs) ext_w
theorem ss_pop {i j : Nat} (hx : PE X (.Name x p) (tVar i)) (hy : PG X (.Name y p3) (gName j)) (hbase : attributeBase (.Name x p) "pop" X.env (eval (.Name x p) X.env) = eval (.Name x p) X.env := by rfl) (hline : (p1.endLine == p2.line) = true := by rfl)
    (hs : swapsWithSole [.Name y p3] (.Call (.Attribute (.Name x p) "pop" p1) [] [] p2) pos.line X.env = pure false := by rfl) (hw : swappedStores [.Name y p3] (.Call (.Attribute (.Name x p) "pop" p1) [] [] p2) X.env = pure none := by rfl)
    (h1 : (assignEach [.Name y p3] X.env).map (·.2) = [assign (.Name y p3) X.env] := by rfl) : SS X (.Assign [.Name y p3] (.Call (.Attribute (.Name x p) "pop" p1) [] [] p2) pos) (sPop i j) :=
  PS.wk (ps_asg (pe_bm0 PySem.F.plainAttrs_list PySem.F.slot_list_pop PySem.F.type_list_pop mt_pop hx hbase hline) hy hs hw h1) pop_w
theorem ss_set {i : Nat} (hx : PE X (.Name x p) (tVar i)) (hi : SE X a gi) (he : SE X e g) (hs : swapsWithSole [.Subscript (.Name x p) a p1] e pos.line X.env = pure false := by rfl) (hw : swappedStores [.Subscript (.Name x p) a p1] e X.env = pure none := by rfl)
    (h1 : (assignEach [.Subscript (.Name x p) a p1] X.env).map (·.2) = [assign (.Subscript (.Name x p) a p1) X.env] := by rfl)
    (ha : ∀ v, assign (.Subscript (.Name x p) a p1) X.env v = (do
      let ov ← holding [v] (eval (.Name x p) X.env)
      let iv ← holding [v, ov] (eval a X.env)
      standAt p1
      holding [v, ov, iv] (setItem ov iv v)
      release [v, ov, iv] []) := by intro _; rfl) : SS X (.Assign [.Subscript (.Name x p) a p1] e pos) (sSet i gi g) := PS.wk (ps_asg he (pg_sub hx hi set_list ha) hs hw h1) set_w
theorem ss_seth {go : EM} (hx : SE X (.Name x p) go) (hi : SE X a gi) (he : SE X e g) (hs : swapsWithSole [.Subscript (.Name x p) a p1] e pos.line X.env = pure false := by rfl) (hw : swappedStores [.Subscript (.Name x p) a p1] e X.env = pure none := by rfl)
    (h1 : (assignEach [.Subscript (.Name x p) a p1] X.env).map (·.2) = [assign (.Subscript (.Name x p) a p1) X.env] := by rfl)
    (ha : ∀ v, assign (.Subscript (.Name x p) a p1) X.env v = (do
      let ov ← holding [v] (eval (.Name x p) X.env)
      let iv ← holding [v, ov] (eval a X.env)
      standAt p1
      holding [v, ov, iv] (setItem ov iv v)
      release [v, ov, iv] []) := by intro _; rfl) : SS X (.Assign [.Subscript (.Name x p) a p1] e pos) (sSetH go gi g) := PS.wk (ps_asg he (pg_sub hx hi set_list ha) hs hw h1) seth_w
/-- a, b = e1, e2: plain locals -/
def sPar (i j : Nat) (gs : Ev → M (List PV)) : SM := fun ρ => do
  let ps ← gs ρ
  match ps with
  | [p, q] => pure (.nx ((ρ.set i (.fz p)).set j (.fz q)))
  | _ => stuck
theorem ss_par {i j : Nat} {px py pt : Pos} {kt k2 : Nat} {pt2 : Pos} (hN : X.N.Nodup) (hi : X.N[i]? = some x) (hj : X.N[j]? = some y) (hij : i ≠ j)
    (hx : X.env.scope.names.lookup x = some .local) (hy : X.env.scope.names.lookup y = some .local) (ha : SA X [a, b] gs) (hn : Rows gs 2)
    (hw : swappedStores [.Tuple [.Name x px, .Name y py] kt pt] (.Tuple [a, b] k2 pt2) X.env = pure (some [x, y]))
    (hs : swapsWithSole [.Tuple [.Name x px, .Name y py] kt pt] (.Tuple [a, b] k2 pt2) pos.line X.env = pure false := by rfl) (hc : X.calm = true := by rfl) :
    SS X (.Assign [.Tuple [.Name x px, .Name y py] kt pt] (.Tuple [a, b] k2 pt2) pos) (sPar i j gs) := PS.wk (ps_par hc hN hi hj hij hx hy ha hw hs) fun D σ H ⟨ah, F0, H0, F, ρ, hs, out, hs', I, q, f⟩ => by
  obtain ⟨ps, h1, q1, q⟩ := M.bind_ok q
  have hl := hn _ _ _ _ q1
  match ps, hl with
  | [p, q'], _ =>
    cases M.pure_ok q
    refine ⟨ah, F, _, ρ, hs, _, _, I.gi, I.er, q1, fun F1 H1 v x1 G1 r1 => ?_⟩
    have I1 := I.step x1 G1
    cases r1 with
    | cons r t =>
      cases t with
      | cons r2 t =>
        cases t
        exact ⟨_, _, rfl, f F1 H1 _ ⟨I1.g0, I1.ext, G1, (I1.er.setF r).setF r2⟩ (I.gi.kp x1)⟩
/-- x = [comprehension], x a plain local: the two are one step -/
theorem ss_ownLc {i : Nat} {py spos : Pos} {elt tg iter : Expr} {ifs : List Expr} {scope : Scope} {own : List (Str × Nat)} {gi : IM} {gt : GM} {tt : TM} {ge : EM} {is : List Nat} (hN : X.N.Nodup) (ok : BlkOk X.N X.env.scope scope own)
    (hi : SI X tg iter gi) (hg : ∀ (s : Shared) (H : Hp) (C : Addr) (cl : List (Str × Addr)) (fp : List Addr), SG (X.blk s H scope (compEnvC scope cl C X.env) fp) tg gt is) (ht : ∀ (s : Shared) (H : Hp) (C : Addr) (cl : List (Str × Addr)) (fp : List Addr), STs (X.blk s H scope (compEnvC scope cl C X.env) fp) ifs tt)
    (he : ∀ (s : Shared) (H : Hp) (C : Addr) (cl : List (Str × Addr)) (fp : List Addr), SE (X.blk s H scope (compEnvC scope cl C X.env) fp) elt ge)
    (hy : X.N[i]? = some y) (hyl : X.env.scope.names.lookup y = some .local) (hsw : swapsWith (.ListComp elt [⟨tg, iter, ifs, 0⟩] scope pos) (some (.Name y py)) spos.line X.env = pure true) (hc : X.calm = true := by rfl) (hv : ∀ i ∈ is, i ∈ own.map (·.2) := by decide) (hs : ∀ x, foldedSetIterable iter X.env x = pure x := by intro _; rfl) :
    SS X (.Assign [.Name y py] (.ListComp elt [⟨tg, iter, ifs, 0⟩] scope pos) spos) (sOwn (gLc gi gt tt ge (own.map (·.2))) i) := PS.wk (ps_setLc hc hN hy hyl hsw hi ok hg ht he hs) (own_w (lc_w hv))
theorem sFz_w {te : TE} (w : ∀ σ H Q, tSF X.K g σ H Q → te σ H Q) (σ : L2.St) (H : Hp) (Q : VK) (h : tS X.K g σ H Q) : te σ H Q := by
  obtain ⟨ah, F, N, ρ, hs, p, hs', G, E, q, k⟩ := h
  refine w σ H Q ⟨ah, F, N, ρ, hs, p, hs', G, E, q, fun F' H' a x y n nf o => ?_⟩
  obtain ⟨u, hu⟩ := o.there
  exact k (fun b => F' b ∨ b = a) H' (.ref a) ⟨fun b h => .inl (x.mono b h), fun b h => h.elim (x.new b) fun e => .inr (e ▸ n), x.keep⟩ (y.frz hu (G.ne n)) o.frzn
theorem gname_w {te : TE} {i : Nat} (D : Ends) (σ : L2.St) (H : Hp) (w : ∀ σ H Q, tS X.K g σ H Q → te σ H Q) (h : tSS X.K (sAsg g (tgName i)) D σ H) : tAsg te (gName i) D σ H := by
  obtain ⟨ah, F0, H0, F, ρ, hs, out, hs', I, q, f⟩ := h
  obtain ⟨p, h1, q1, q⟩ := M.bind_ok q
  obtain ⟨ρ1, h2, q2, q⟩ := M.bind_ok q
  cases M.pure_ok q
  cases M.pure_ok q2
  refine w σ H _ ⟨ah, F, _, ρ, hs, p, _, I.gi, I.er, q1, fun F1 H1 v x1 G1 r1 => ?_⟩
  have I1 := I.step x1 G1
  exact f F1 H1 _ ⟨I1.g0, I1.ext, G1, I1.er.setF r1⟩ (I.gi.kp x1)
theorem ss_asgLc {i : Nat} {py spos : Pos} {elt tg iter : Expr} {ifs : List Expr} {scope : Scope} {own : List (Str × Nat)} {gi : IM} {gt : GM} {tt : TM} {ge : EM} {is : List Nat} (hN : X.N.Nodup) (ok : BlkOk X.N X.env.scope scope own)
    (hi : SI X tg iter gi) (hg : ∀ (s : Shared) (H : Hp) (C : Addr) (cl : List (Str × Addr)) (fp : List Addr), SG (X.blk s H scope (compEnvC scope cl C X.env) fp) tg gt is) (ht : ∀ (s : Shared) (H : Hp) (C : Addr) (cl : List (Str × Addr)) (fp : List Addr), STs (X.blk s H scope (compEnvC scope cl C X.env) fp) ifs tt)
    (he : ∀ (s : Shared) (H : Hp) (C : Addr) (cl : List (Str × Addr)) (fp : List Addr), SE (X.blk s H scope (compEnvC scope cl C X.env) fp) elt ge)
    (hy : X.N[i]? = some y) (hyl : X.env.scope.names.lookup y = some .local) (hsw : swapsWith (.ListComp elt [⟨tg, iter, ifs, 0⟩] scope pos) (some (.Name y py)) spos.line X.env = pure true) (hc : X.calm = true := by rfl) (hv : ∀ i ∈ is, i ∈ own.map (·.2) := by decide) (hs : ∀ x, foldedSetIterable iter X.env x = pure x := by intro _; rfl) :
    SS X (.Assign [.Name y py] (.ListComp elt [⟨tg, iter, ifs, 0⟩] scope pos) spos) (sAsg (gLc gi gt tt ge (own.map (·.2))) (tgName i)) := PS.wk (ps_setLc hc hN hy hyl hsw hi ok hg ht he hs) fun D σ H h => gname_w D σ H (sFz_w (lc_w hv)) h
end
/-- a def of the text as the top leaves it -/
def Fn (K : Fg) (mg : Str → Option Value) (x : Str) (st : Stmt) (ps : List Str) : Prop := ∃ f fd, mg x = some (.ref f) ∧ Fun K x x st f fd ∧ L2.Binds K fd ps []
end SL

end
section
namespace SL
open PySem PySem.Spec PyProof.Rows L2
/-! ### reckoning with mirrors -/
section
variable {α β : Type}
theorem stuck_bind (f : α → M β) : ((stuck : M α) >>= f) = stuck := rfl
theorem guardT {c : Prop} [Decidable c] {x : M α} (h : c) : guardM c x = x := if_pos h
theorem liftS (a : α) : (liftO (some a) : M α) = pure a := rfl
theorem liftN : (liftO (none : Option α) : M α) = stuck := rfl
/-- it ends well, and then Q -/
def Ok (x : M α) (Q : α → HS → Prop) (h : HS) : Prop := ∃ a h', x h = .ok (a, h') ∧ Q a h'
theorem Ok.bind {x : M α} {f : α → M β} {Q : β → HS → Prop} {h : HS} (k : Ok x (fun a h1 => Ok (f a) Q h1) h) : Ok (x >>= f) Q h := by
  obtain ⟨a, h1, e, b, h2, e2, q⟩ := k
  refine ⟨b, h2, ?_, q⟩
  show (Except.bind (x h) fun p => f p.1 p.2) = _
  rw [e]
  exact e2
theorem Ok.pure {a : α} {Q : α → HS → Prop} {h : HS} (q : Q a h) : Ok (pure a : M α) Q h := ⟨a, h, rfl, q⟩
theorem Ok.mono {x : M α} {Q R : α → HS → Prop} {h : HS} (k : Ok x Q h) (m : ∀ a h, Q a h → R a h) : Ok x R h := by
  obtain ⟨a, h1, e, q⟩ := k
  exact ⟨a, h1, e, m a h1 q⟩
theorem Ok.bind' {x : M α} {f : α → M β} {P : α → HS → Prop} {Q : β → HS → Prop} {h : HS} (k : Ok x P h) (m : ∀ a h1, P a h1 → Ok (f a) Q h1) : Ok (x >>= f) Q h := Ok.bind (k.mono m)
theorem Ok.get {Q : HS → HS → Prop} {h : HS} (q : Q h h) : Ok (MonadState.get : M HS) Q h := ⟨h, h, rfl, q⟩
theorem Ok.set {x : HS} {Q : PUnit → HS → Prop} {h : HS} (q : Q PUnit.unit x) : Ok (MonadStateOf.set x : M PUnit) Q h := ⟨_, x, rfl, q⟩
theorem Ok.of_eq {x y : M α} {Q : α → HS → Prop} {h : HS} (e : x = y) (k : Ok y Q h) : Ok x Q h := by rw [e]; exact k
end
/-! comprehensions -/
theorem lc_nil {gt : GM} {tt : TM} {ge : EM} {ρ : Ev} : lcF gt tt ge ρ [] = pure [] := rfl
/-- one that draws nothing -/
theorem lc_map {α : Type} {gt : GM} {tt : TM} {ge : EM} {ρ : Ev} {φ : α → PV} {ρ' : α → Ev} {c : α → Bool} {e : α → PV} : ∀ {l : List α}, (∀ x ∈ l, gt (φ x) ρ = pure (ρ' x) ∧ tt (ρ' x) = pure (c x) ∧ (c x = true → ge (ρ' x) = pure (e x))) →
    lcF gt tt ge ρ (l.map φ) = pure ((l.filter c).map e)
  | [], _ => rfl
  | x :: l, h => by
    obtain ⟨h1, h2, h3⟩ := h x List.mem_cons_self
    have ih := lc_map (l := l) fun y hy => h y (List.mem_cons_of_mem _ hy)
    rw [List.map_cons, lcF, h1, pure_bind, h2, pure_bind]
    cases hc : c x with
    | false =>
      rw [if_neg Bool.false_ne_true, ih, List.filter_cons_of_neg (by rw [hc]; exact Bool.false_ne_true)]
    | true =>
      rw [if_pos rfl, h3 hc, pure_bind, ih, pure_bind, List.filter_cons_of_pos hc]
      rfl
theorem lc_all {α : Type} {gt : GM} {ge : EM} {ρ : Ev} {φ : α → PV} {ρ' : α → Ev} {e : α → PV} {l : List α} (h : ∀ x ∈ l, gt (φ x) ρ = pure (ρ' x) ∧ ge (ρ' x) = pure (e x)) :
    lcF gt gYes ge ρ (l.map φ) = pure (l.map e) := by
  rw [lc_map (c := fun _ => true) (ρ' := ρ') (e := e) fun x hx => ⟨(h x hx).1, rfl, fun _ => (h x hx).2⟩, List.filter_eq_self.mpr (fun _ _ => rfl)]
/-- one that draws -/
theorem ok_lc {gt : GM} {ge : EM} {ρ : Ev} {I : HS → Prop} {R : PV → PV → Prop} : ∀ {ps : List PV} {h : HS}, I h → (∀ p ∈ ps, ∀ h, I h → ∃ ρ', gt p ρ = pure ρ' ∧ Ok (ge ρ') (fun y h' => R p y ∧ I h') h) →
    Ok (lcF gt gYes ge ρ ps) (fun ys h' => Paired R ps ys ∧ I h') h
  | [], h, hI, _ => Ok.pure ⟨.nil, hI⟩
  | p :: ps, h, hI, k => by
    obtain ⟨ρ', e, ok⟩ := k p List.mem_cons_self h hI
    rw [lcF, e, pure_bind]
    show Ok (pure true >>= _) _ h
    rw [pure_bind, if_pos rfl]
    refine ok.bind' fun y h1 ⟨hr, h1I⟩ => ?_
    refine (ok_lc h1I fun q hq => k q (List.mem_cons_of_mem _ hq)).bind' fun ys h2 ⟨hp, h2I⟩ => ?_
    exact Ok.pure ⟨.cons hr hp, h2I⟩
/-! loops -/
theorem forF_nil {gt : GM} {gb : SM} {ρ : Ev} : forF gt gb [] ρ = pure (.nx ρ) := rfl
theorem forF_cons {gt : GM} {gb : SM} {ρ : Ev} {p : PV} {ps : List PV} : forF gt gb (p :: ps) ρ = (gt p ρ >>= fun ρ1 => gb ρ1 >>= fun o => match o with
    | .nx ρ' => forF gt gb ps ρ'
    | .ct ρ' => forF gt gb ps ρ'
    | .bk ρ' => pure (.nx ρ')
    | o => pure o) := rfl
theorem ok_for {gt : GM} {gb : SM} {I : Ev → HS → Prop} : ∀ {ps : List PV} {ρ : Ev} {h : HS}, I ρ h → (∀ p ∈ ps, ∀ ρ h, I ρ h → Ok (gt p ρ >>= gb) (fun o h' => ∃ ρ', (o = .nx ρ' ∨ o = .ct ρ') ∧ I ρ' h') h) →
    Ok (forF gt gb ps ρ) (fun o h' => ∃ ρ', o = .nx ρ' ∧ I ρ' h') h
  | [], ρ, h, hI, _ => Ok.pure ⟨ρ, rfl, hI⟩
  | p :: ps, ρ, h, hI, k => by
    rw [forF, ← bind_assoc]
    refine (k p List.mem_cons_self ρ h hI).bind' fun o h1 ⟨ρ', e, h1I⟩ => ?_
    have ih := ok_for h1I fun q hq => k q (List.mem_cons_of_mem _ hq)
    rcases e with rfl | rfl
    · exact ih
    · exact ih
/-- a for that may leave: J holds between turns (with what is left), Q behind -/
theorem for_ind {gt : GM} {gb : SM} {J : List PV → Ev → HS → Prop} {Q : Out → HS → Prop} : ∀ {ps : List PV} {ρ : Ev} {h : HS}, J ps ρ h → (∀ ρ h, J [] ρ h → Q (.nx ρ) h) →
    (∀ p ps ρ h, J (p :: ps) ρ h → Ok (gt p ρ >>= gb) (fun o h' => match o with
      | .nx ρ' => J ps ρ' h'
      | .ct ρ' => J ps ρ' h'
      | .bk ρ' => Q (.nx ρ') h'
      | o => Q o h') h) → Ok (forF gt gb ps ρ) Q h
  | [], ρ, h, j, q, _ => Ok.pure (q ρ h j)
  | p :: ps, ρ, h, j, q, k => by
    rw [forF, ← bind_assoc]
    refine (k p ps ρ h j).bind' fun o h1 z => ?_
    cases o with
    | nx ρ' => exact for_ind z q k
    | ct ρ' => exact for_ind z q k
    | bk ρ' => exact Ok.pure z
    | rt p => exact Ok.pure z
    | rtF p => exact Ok.pure z
/-- a while by a measure -/
theorem wh_ind {c : TM} {gb : SM} {J : Nat → Ev → HS → Prop} {Q : Out → HS → Prop} : ∀ {n m : Nat} {ρ : Ev} {h : HS}, J m ρ h → m < n →
    (∀ m ρ h, J m ρ h → Ok (c ρ) (fun b h1 => if b = true then Ok (gb ρ) (fun o h' => match o with
      | .nx ρ' => ∃ m', m' < m ∧ J m' ρ' h'
      | .ct ρ' => ∃ m', m' < m ∧ J m' ρ' h'
      | .bk ρ' => Q (.nx ρ') h'
      | o => Q o h') h1 else Q (.nx ρ) h1) h) → Ok (whF c gb n ρ) Q h
  | 0, m, ρ, h, j, hm, k => absurd hm (Nat.not_lt_zero _)
  | n + 1, m, ρ, h, j, hm, k => by
    rw [whF]
    refine (k m ρ h j).bind' fun b h1 z => ?_
    cases b with
    | false => exact Ok.pure (by simpa using z)
    | true =>
      rw [if_pos rfl] at z ⊢
      refine z.bind' fun o h2 z => ?_
      cases o with
      | nx ρ' => obtain ⟨m', hm', j'⟩ := z; exact wh_ind j' (by omega) k
      | ct ρ' => obtain ⟨m', hm', j'⟩ := z; exact wh_ind j' (by omega) k
      | bk ρ' => exact Ok.pure z
      | rt p => exact Ok.pure z
      | rtF p => exact Ok.pure z
/-- what ends well without drawing is an equation -/
theorem eq_of_ok {α : Type} {x : M α} {a : α} (h : ∀ hs, Ok x (fun b h' => b = a ∧ h' = hs) hs) : x = pure a := by
  funext hs
  obtain ⟨b, h', e, rfl, rfl⟩ := h hs
  exact e
theorem ok_of_eq {α : Type} {x : M α} {a : α} {Q : α → HS → Prop} {h : HS} (e : x = pure a) (q : Q a h) : Ok x Q h := ⟨a, h, by rw [e]; rfl, q⟩
theorem fnM_eq {nl : Nat} {b : SM} {ps : List PV} {p : PV} (h : b (ev0 nl ps) = pure (.rt p)) : fnM nl b ps = pure p := by
  unfold fnM
  rw [h]
  rfl
end SL

end
section
namespace SL
open PySem PySem.Spec PyProof.Rows L2
/-! ### the mirrors' words unfolded by simp -/
section
variable {α β : Type} {Q : α → HS → Prop} {QB : β → HS → Prop} {h x : HS}
@[simp] theorem ok_pure {a : α} : Ok (pure a : M α) Q h ↔ Q a h := ⟨fun ⟨_, _, e, q⟩ => by cases M.pure_ok e; exact q, Ok.pure⟩
@[simp] theorem ok_get {f : HS → M β} : Ok ((get : M HS) >>= f) QB h ↔ Ok (f h) QB h := ⟨fun ⟨a, h1, e, q⟩ => ⟨a, h1, e, q⟩, fun ⟨a, h1, e, q⟩ => ⟨a, h1, e, q⟩⟩
@[simp] theorem ok_set {f : PUnit → M β} : Ok ((set x : M PUnit) >>= f) QB h ↔ Ok (f PUnit.unit) QB x := ⟨fun ⟨a, h1, e, q⟩ => ⟨a, h1, e, q⟩, fun ⟨a, h1, e, q⟩ => ⟨a, h1, e, q⟩⟩
@[simp] theorem ok_set' {Q : PUnit → HS → Prop} : Ok (set x : M PUnit) Q h ↔ Q PUnit.unit x := ⟨fun ⟨a, h1, e, q⟩ => by cases M.set_ok e; exact q, Ok.set⟩
@[simp] theorem ok_get' {Q : HS → HS → Prop} : Ok (get : M HS) Q h ↔ Q h h := ⟨fun ⟨a, h1, e, q⟩ => by cases M.get_ok e; exact q, Ok.get⟩
@[simp] theorem ok_map {f : α → β} {y : M α} : Ok (f <$> y) QB h ↔ Ok y (fun a h' => QB (f a) h') h := by
  rw [map_eq_pure_bind]
  refine ⟨fun ⟨b, h1, e, q⟩ => ?_, fun k => k.bind' fun a h1 q => Ok.pure q⟩
  obtain ⟨a, h2, e1, e2⟩ := M.bind_ok e
  cases M.pure_ok e2
  exact ⟨a, _, e1, q⟩
@[simp] theorem lift_some {a : α} : (liftO (some a) : M α) = pure a := rfl
@[simp] theorem guard_pos {c : Prop} [Decidable c] {y : M α} (e : c) : guardM c y = y := if_pos e
end
@[simp] theorem SZ_is : SZ = 16777216 := rfl
section
variable {i j : Nat} {ρ : Ev} {p q : PV} {ga gb gc : EM} {t u : TM} {gs : Ev → M (List PV)} {a b : SM} {f f' : PV → PV → M PV} {l m : List PV} {n k : Int} {bb : Bool} {gt : GM} {gts : GMs} {ps : List PV}
@[simp] theorem e_var : gVar i ρ = slF ρ[i]? := rfl
@[simp] theorem e_varB : gVarB i ρ = slB ρ[i]? := rfl
@[simp] theorem e_slF : slF (some (.fz p)) = pure p := rfl
@[simp] theorem e_slB : slB (some (.fz p)) = pure p := rfl
@[simp] theorem e_slBo : slB (some (.ow p)) = pure p := rfl
@[simp] theorem e_C : gC p ρ = pure p := rfl
@[simp] theorem e_bin : gBin f ga gb ρ = (ga ρ >>= fun x => gb ρ >>= fun y => f x y) := rfl
@[simp] theorem e_B {m : List PV → M PV} : gB m gs ρ = (gs ρ >>= m) := rfl
@[simp] theorem e_nil : gNil ρ = pure [] := rfl
@[simp] theorem e_cons : gCons ga gs ρ = (ga ρ >>= fun x => gs ρ >>= fun xs => pure (x :: xs)) := rfl
@[simp] theorem e_tup : gTup gs ρ = (gs ρ >>= fun xs => guardM (xs.length ≤ SZ) (pure (.tup xs))) := rfl
@[simp] theorem e_lst : gLst gs ρ = (gs ρ >>= fun xs => guardM (xs.length ≤ SZ) (pure (.lst xs))) := rfl
@[simp] theorem e_if : gIf t ga gb ρ = (t ρ >>= fun x => if x = true then ga ρ else gb ρ) := rfl
@[simp] theorem e_and : gAnd ga gb ρ = (ga ρ >>= fun x => asBl x >>= fun k => if k = true then gb ρ else pure (.bl false)) := rfl
@[simp] theorem e_or : gOr ga gb ρ = (ga ρ >>= fun x => asBl x >>= fun k => if k = true then pure (.bl true) else gb ρ) := rfl
@[simp] theorem e_not : gNot ga ρ = (ga ρ >>= fun x => asBl x >>= fun k => pure (.bl (!k))) := rfl
@[simp] theorem e_asBl : asBl (.bl bb) = pure bb := rfl
@[simp] theorem e_asInt : asInt (.int n) = pure n := rfl
@[simp] theorem e_TB : gTB ga ρ = (ga ρ >>= asBl) := rfl
@[simp] theorem e_Tru : gTru ga ρ = (ga ρ >>= pTru) := rfl
@[simp] theorem e_andT : gAndT t u ρ = (t ρ >>= fun x => if x = true then u ρ else pure false) := rfl
@[simp] theorem e_orT : gOrT t u ρ = (t ρ >>= fun x => if x = true then pure true else u ρ) := rfl
@[simp] theorem e_notT : gNotT t ρ = (t ρ >>= fun x => pure (!x)) := rfl
@[simp] theorem e_chain : gChain f f' ga gb gc ρ = (ga ρ >>= fun x => gb ρ >>= fun y => f x y >>= fun t => asBl t >>= fun k => if k = true then (gc ρ >>= fun z => f' y z) else pure (.bl false)) := rfl
@[simp] theorem e_isi {cs : List Cl} : gIsi cs ga ρ = (ga ρ >>= isiP cs) := rfl
@[simp] theorem isi_N {cs : List Cl} : isiP cs .non = pure (.bl false) := by
  show pure (PV.bl (cs.any fun c => isA c .non)) = _
  rw [show (cs.any fun c => isA c .non) = false by rw [List.any_eq_false]; intro c _; cases c <;> simp [isA]]
@[simp] theorem isi_B {cs : List Cl} : isiP cs (.bl bb) = pure (.bl (cs.any fun c => match c with | .int => true | .bool => true | _ => false)) := by
  show pure (PV.bl (cs.any fun c => isA c (.bl bb))) = _
  congr; funext c; cases c <;> rfl
@[simp] theorem isi_I {cs : List Cl} : isiP cs (.int n) = pure (.bl (cs.any fun c => match c with | .int => true | _ => false)) := by
  show pure (PV.bl (cs.any fun c => isA c (.int n))) = _
  congr; funext c; cases c <;> rfl
@[simp] theorem isi_S {x : Str} {cs : List Cl} : isiP cs (.str x) = pure (.bl (cs.any fun c => match c with | .str => true | _ => false)) := by
  show pure (PV.bl (cs.any fun c => isA c (.str x))) = _
  congr; funext c; cases c <;> rfl
@[simp] theorem isi_T {cs : List Cl} : isiP cs (.tup l) = pure (.bl (cs.any fun c => match c with | .tuple => true | _ => false)) := by
  show pure (PV.bl (cs.any fun c => isA c (.tup l))) = _
  congr; funext c; cases c <;> rfl
@[simp] theorem isi_L {cs : List Cl} : isiP cs (.lst l) = pure (.bl (cs.any fun c => match c with | .list => true | _ => false)) := by
  show pure (PV.bl (cs.any fun c => isA c (.lst l))) = _
  congr; funext c; cases c <;> rfl
@[simp] theorem isi_D {l : List (Key × PV)} {cs : List Cl} : isiP cs (.dK l) = pure (.bl (cs.any fun c => match c with | .dict => true | _ => false)) := by
  show pure (PV.bl (cs.any fun c => isA c (.dK l))) = _
  congr; funext c; cases c <;> rfl
@[simp] theorem isi_DT {l : List (List Key × PV)} {cs : List Cl} : isiP cs (.dT l) = pure (.bl (cs.any fun c => match c with | .dict => true | _ => false)) := by
  show pure (PV.bl (cs.any fun c => isA c (.dT l))) = _
  congr; funext c; cases c <;> rfl
@[simp] theorem e_neg : gNeg ga ρ = (ga ρ >>= fun x => match x with
    | .int i => pure (.int (-i))
    | _ => stuck) := rfl
@[simp] theorem e_sl {lo hi : OM} : gSl ga lo hi ρ = (ga ρ >>= fun x => lo ρ >>= fun l => hi ρ >>= fun h => pSl x l h) := rfl
@[simp] theorem e_oNone : oNone ρ = pure none := rfl
@[simp] theorem e_oSome : oSome ga ρ = (ga ρ >>= fun x => asInt x >>= fun i => pure (some i)) := rfl
@[simp] theorem e_seq : sSeq a b ρ = (a ρ >>= fun o => match o with
  | .nx ρ' => b ρ'
  | o => pure o) := rfl
@[simp] theorem e_sNx : sNx ρ = pure (.nx ρ) := rfl
@[simp] theorem e_ret : sRet ga ρ = (ga ρ >>= fun p => pure (.rt p)) := rfl
@[simp] theorem e_retF : sRetF ga ρ = (ga ρ >>= fun p => pure (.rtF p)) := rfl
@[simp] theorem e_retN : sRetN ρ = pure (.rt .non) := rfl
@[simp] theorem e_asg : sAsg ga gt ρ = (ga ρ >>= fun p => gt p ρ >>= fun ρ' => pure (.nx ρ')) := rfl
@[simp] theorem e_own : sOwn ga i ρ = (ga ρ >>= fun p => pure (.nx (ρ.set i (.ow p)))) := rfl
@[simp] theorem e_frz : sFrz i a ρ = a (frz1 i ρ) := rfl
@[simp] theorem e_expr : sExpr ga ρ = (ga ρ >>= fun _ => pure (.nx ρ)) := rfl
@[simp] theorem e_sif : sIf t a b ρ = (t ρ >>= fun c => if c = true then a ρ else b ρ) := rfl
@[simp] theorem e_brk : sBrk ρ = pure (.bk ρ) := rfl
@[simp] theorem e_cnt : sCnt ρ = pure (.ct ρ) := rfl
@[simp] theorem e_tname : tgName i p ρ = pure (ρ.set i (.fz p)) := rfl
@[simp] theorem e_tnil : tgNil [] ρ = pure ρ := rfl
@[simp] theorem e_tcons : tgCons gt gts (p :: ps) ρ = (gt p ρ >>= fun ρ1 => gts ps ρ1) := rfl
@[simp] theorem e_ttup : tgTup i gts (.tup l) ρ = guardM (l.length = i) (gts l ρ) := rfl
@[simp] theorem e_par : sPar i j gs ρ = (gs ρ >>= fun ps => match ps with
  | [p, q] => pure (.nx ((ρ.set i (.fz p)).set j (.fz q)))
  | _ => stuck) := rfl
@[simp] theorem e_seth {go : EM} : sSetH go gb ga ρ = (ga ρ >>= fun p => go ρ >>= fun o => gb ρ >>= fun y => asInt y >>= fun k => match o with
  | .hand => (get : M HS) >>= fun h => liftO (ixN h.length k) >>= fun j => (set (h.set j p) : M PUnit) >>= fun _ => pure (.nx ρ)
  | _ => stuck) := rfl
@[simp] theorem e_lc {gi : IM} {tt : TM} {ge : EM} {vs : List Nat} : gLc gi gt tt ge vs ρ = (gi ρ >>= fun ps => lcF gt tt ge (wipeE ρ vs) ps >>= fun r => pure (.lst r)) := rfl
@[simp] theorem e_sfor {gi : IM} {gb : SM} : sFor gi gt gb ρ = (gi ρ >>= fun ps => forF gt gb ps ρ) := rfl
@[simp] theorem e_seqT : iSeq ga ρ = (ga ρ >>= fun x => match x with
  | .tup l => pure l
  | .lst l => pure l
  | _ => stuck) := rfl
@[simp] theorem e_range : iRange gs ρ = (gs ρ >>= fun xs => match xs with
  | [.int j] => guardM (-(2 ^ 62) ≤ j ∧ j ≤ SZ) (pure (rng 0 j.toNat))
  | [.int i, .int j] => guardM (-(2 ^ 62) ≤ i ∧ i < 2 ^ 62 ∧ -(2 ^ 62) ≤ j ∧ j < 2 ^ 62 ∧ (j - i).toNat ≤ SZ) (pure (rng i (j - i).toNat))
  | _ => stuck) := rfl
@[simp] theorem e_zip : iZip2 ga gb ρ = (ga ρ >>= fun x => gb ρ >>= fun y => match x, y with
  | .tup l, .tup m => pure ((l.zip m).map fun t => .tup [t.1, t.2])
  | .lst l, .lst m => pure ((l.zip m).map fun t => .tup [t.1, t.2])
  | _, _ => stuck) := rfl
@[simp] theorem e_wipe0 : wipeE ρ [] = ρ := rfl
@[simp] theorem e_wipe1 {v : Nat} {vs : List Nat} : wipeE ρ (v :: vs) = (wipeE ρ vs).set v .un := rfl
/-! values -/
@[simp] theorem v_add : pAdd (.int n) (.int k) = pure (.int (n + k)) := rfl
@[simp] theorem v_addT : pAdd (.tup l) (.tup m) = guardM (l.length + m.length ≤ SZ) (pure (.tup (l ++ m))) := rfl
@[simp] theorem v_addL : pAdd (.lst l) (.lst m) = guardM (l.length + m.length ≤ SZ) (pure (.lst (l ++ m))) := rfl
@[simp] theorem v_cat : pCat (.lst l) (.lst m) = guardM (l.length + m.length ≤ SZ) (pure (.lst (l ++ m))) := rfl
@[simp] theorem v_sub : pSub (.int n) (.int k) = pure (.int (n - k)) := rfl
theorem v_mul : pMul (.int n) (.int k) = guardM ((-(2 ^ 64) < n ∧ n < 2 ^ 64) ∨ (-(2 ^ 64) < k ∧ k < 2 ^ 64)) (pure (.int (n * k))) := rfl
theorem v_div : pDiv (.int n) (.int k) = guardM (0 < k ∧ k < 2 ^ 64) (pure (.int (n / k))) := rfl
theorem v_mod : pMod (.int n) (.int k) = guardM (0 < k) (pure (.int (n % k))) := rfl
theorem v_pow : pPow (.int n) (.int k) = guardM (0 ≤ k ∧ k ≤ 1000000 ∧ n.natAbs < 2 ^ 64) (pure (.int (n ^ k.toNat))) := rfl
@[simp] theorem v_mulL (h : -(2 ^ 64) < n ∧ n < 2 ^ 64) : pMul (.int n) (.int k) = pure (.int (n * k)) := guard_pos (.inl h)
@[simp] theorem v_mulR (h : -(2 ^ 64) < k ∧ k < 2 ^ 64) : pMul (.int n) (.int k) = pure (.int (n * k)) := guard_pos (.inr h)
@[simp] theorem v_mulM {a b : Int} (h : 0 < b ∧ b < 2 ^ 64) : pMul (.int (a % b)) (.int k) = pure (.int (a % b * k)) :=
  guard_pos (.inl ⟨by have := Int.emod_nonneg a (b := b) (by omega); omega, by have := Int.emod_lt_of_pos a h.1; omega⟩)
@[simp] theorem v_divP (h : 0 < k) (h' : k < 2 ^ 64) : pDiv (.int n) (.int k) = pure (.int (n / k)) := guard_pos ⟨h, h'⟩
@[simp] theorem v_modP (h : 0 < k) : pMod (.int n) (.int k) = pure (.int (n % k)) := guard_pos h
@[simp] theorem v_powP (h : 0 ≤ k ∧ k ≤ 1000000 ∧ n.natAbs < 2 ^ 64) : pPow (.int n) (.int k) = pure (.int (n ^ k.toNat)) := guard_pos h
@[simp] theorem v_lt : pLt (.int n) (.int k) = pure (.bl (decide (n < k))) := rfl
@[simp] theorem v_le : pLe (.int n) (.int k) = pure (.bl (decide (n ≤ k))) := rfl
@[simp] theorem v_gt : pGt (.int n) (.int k) = pure (.bl (decide (k < n))) := rfl
@[simp] theorem v_ge : pGe (.int n) (.int k) = pure (.bl (decide (k ≤ n))) := rfl
@[simp] theorem v_eq : pEq (.int n) (.int k) = pure (.bl (n == k)) := by show pure (PV.bl (false ^^ (n == k))) = _; rw [Bool.false_xor]
@[simp] theorem v_eqS {x y : Str} : pEq (.str x) (.str y) = pure (.bl (x == y)) := by show pure (PV.bl (false ^^ (x == y))) = _; rw [Bool.false_xor]
@[simp] theorem v_eqB {x y : Bool} : pEq (.bl x) (.bl y) = pure (.bl (x == y)) := by show pure (PV.bl (false ^^ (x == y))) = _; rw [Bool.false_xor]
@[simp] theorem v_ne : pNe (.int n) (.int k) = pure (.bl (!(n == k))) := by show pure (PV.bl (true ^^ (n == k))) = _; rw [Bool.true_xor]
@[simp] theorem v_neS {x y : Str} : pNe (.str x) (.str y) = pure (.bl (!(x == y))) := by show pure (PV.bl (true ^^ (x == y))) = _; rw [Bool.true_xor]
@[simp] theorem v_neB {x y : Bool} : pNe (.bl x) (.bl y) = pure (.bl (!(x == y))) := by show pure (PV.bl (true ^^ (x == y))) = _; rw [Bool.true_xor]
@[simp] theorem v_isN : pIsN false p .non = pure (.bl (isNon p)) := by show pure (PV.bl (false ^^ isNon p)) = _; rw [Bool.false_xor]
@[simp] theorem v_notN : pIsN true p .non = pure (.bl (!isNon p)) := by show pure (PV.bl (true ^^ isNon p)) = _; rw [Bool.true_xor]
@[simp] theorem v_ixT : pIx (.tup l) (.int n) = liftO (atI l n) := rfl
@[simp] theorem v_ixL : pIx (.lst l) (.int n) = liftO (atI l n) := rfl
@[simp] theorem v_ixH : pIx .hand (.int n) = ((get : M HS) >>= fun h => liftO (atI h n)) := rfl
@[simp] theorem v_lenT : pLen [.tup l] = pure (.int l.length) := rfl
@[simp] theorem v_lenL : pLen [.lst l] = pure (.int l.length) := rfl
@[simp] theorem v_abs : pAbs [.int n] = pure (.int (if n < 0 then -n else n)) := rfl
@[simp] theorem v_int : pInt [.int n] = pure (.int n) := rfl
@[simp] theorem v_tupT : pTuple [.tup l] = pure (.tup l) := rfl
@[simp] theorem v_tupL : pTuple [.lst l] = pure (.tup l) := rfl
@[simp] theorem v_listT : pList [.tup l] = pure (.lst l) := rfl
@[simp] theorem v_listL : pList [.lst l] = pure (.lst l) := rfl
@[simp] theorem v_truN : pTru .non = pure false := rfl
@[simp] theorem v_truB : pTru (.bl bb) = pure bb := rfl
@[simp] theorem v_truI : pTru (.int n) = pure (n != 0) := rfl
@[simp] theorem v_truT : pTru (.tup l) = pure (!l.isEmpty) := rfl
@[simp] theorem v_truL : pTru (.lst l) = pure (!l.isEmpty) := rfl
@[simp] theorem v_max2 : pMax2 [.int n, .int k] = pure (.int (if k > n then k else n)) := rfl
@[simp] theorem v_min2 : pMin2 [.int n, .int k] = pure (.int (if k < n then k else n)) := rfl
@[simp] theorem v_slT {lo hi : Option Int} : pSl (.tup l) lo hi = pure (.tup (cut l lo hi)) := rfl
@[simp] theorem v_slL {lo hi : Option Int} : pSl (.lst l) lo hi = pure (.lst (cut l lo hi)) := rfl
theorem bls_map {α : Type} {f : α → Bool} : ∀ l : List α, bls? (l.map fun x => PV.bl (f x)) = some (l.map f)
  | [] => rfl
  | x :: l => by
    show (bls? (l.map fun x => PV.bl (f x))).map (f x :: ·) = _
    rw [bls_map l]; rfl
theorem ints_map {α : Type} {f : α → Int} : ∀ l : List α, ints? (l.map fun x => PV.int (f x)) = some (l.map f)
  | [] => rfl
  | x :: l => by
    show (ints? (l.map fun x => PV.int (f x))).map (f x :: ·) = _
    rw [ints_map l]; rfl
theorem v_all {α : Type} {f : α → Bool} {l : List α} : pAll [.lst (l.map fun x => PV.bl (f x))] = pure (.bl (l.all f)) := by
  show (liftO (bls? _) >>= fun bs => pure (PV.bl (bs.all id))) = _
  rw [bls_map, lift_some, pure_bind, List.all_map]; rfl
theorem v_any {α : Type} {f : α → Bool} {l : List α} : pAny [.lst (l.map fun x => PV.bl (f x))] = pure (.bl (l.any f)) := by
  show (liftO (bls? _) >>= fun bs => pure (PV.bl (bs.any id))) = _
  rw [bls_map, lift_some, pure_bind, List.any_map]; rfl
theorem v_sum {α : Type} {f : α → Int} {l : List α} : pSum [.lst (l.map fun x => PV.int (f x))] = pure (.int (l.map f).sum) := by
  show (liftO (ints? _) >>= fun bs => pure (PV.int bs.sum)) = _
  rw [ints_map, lift_some, pure_bind]
end
/-! walking through statements -/
theorem ok_seq {a b : SM} {ρ : Ev} {Q : Out → HS → Prop} {h : HS} (P : Ev → HS → Prop) (h1 : Ok (a ρ) (fun o h' => ∃ ρ', o = .nx ρ' ∧ P ρ' h') h) (h2 : ∀ ρ' h', P ρ' h' → Ok (b ρ') Q h') : Ok (sSeq a b ρ) Q h := by
  rw [e_seq]
  refine h1.bind' fun o h' ⟨ρ', e, p⟩ => ?_
  subst e
  exact h2 ρ' h' p
theorem ok_asg {g : EM} {i : Nat} {ρ : Ev} {P : Ev → HS → Prop} {h : HS} (k : Ok (g ρ) (fun p h' => P (ρ.set i (.fz p)) h') h) : Ok (sAsg g (tgName i) ρ) (fun o h' => ∃ ρ', o = .nx ρ' ∧ P ρ' h') h := by
  rw [e_asg]
  refine k.bind' fun p h' q => ?_
  rw [e_tname, pure_bind]
  exact Ok.pure ⟨_, rfl, q⟩
/-- x = e, then the rest: what e gives (R) is all that is kept of it -/
theorem ok_set_seq {g : EM} {i : Nat} {b : SM} {ρ : Ev} {Q : Out → HS → Prop} {h : HS} (R : PV → HS → Prop) (h1 : Ok (g ρ) R h) (h2 : ∀ p h', R p h' → Ok (b (ρ.set i (.fz p))) Q h') : Ok (sSeq (sAsg g (tgName i)) b ρ) Q h := by
  rw [e_seq, e_asg]
  simp only [e_tname, pure_bind, bind_assoc]
  exact h1.bind' fun p h' r => h2 p h' r
/-! indices -/
@[simp] theorem atI_0 {α : Type} {a : α} {l : List α} : atI (a :: l) 0 = some a := atI_nat (j := 0) rfl
@[simp] theorem atI_1 {α : Type} {a b : α} {l : List α} : atI (a :: b :: l) 1 = some b := atI_nat (j := 1) rfl
@[simp] theorem atI_2 {α : Type} {a b c : α} {l : List α} : atI (a :: b :: c :: l) 2 = some c := atI_nat (j := 2) rfl
@[simp] theorem atI_3 {α : Type} {a b c d : α} {l : List α} : atI (a :: b :: c :: d :: l) 3 = some d := atI_nat (j := 3) rfl
@[simp] theorem atI_4 {α : Type} {a b c d e : α} {l : List α} : atI (a :: b :: c :: d :: e :: l) 4 = some e := atI_nat (j := 4) rfl
theorem atI_lt {α : Type} {l : List α} {i : Int} (h0 : 0 ≤ i) (h1 : i < l.length) : atI l i = some (l[i.toNat]'(by omega)) := by
  obtain ⟨k, rfl⟩ : ∃ k : Nat, i = k := ⟨i.toNat, by omega⟩
  exact atI_nat (List.getElem?_eq_getElem (by omega))
@[simp] theorem ix_lit0 {n : Nat} : ixN (n + 1) 0 = some 0 := by unfold ixN; rw [if_pos (by omega), if_pos (by omega)]; rfl
@[simp] theorem ix_lit1 {n : Nat} : ixN (n + 1 + 1) 1 = some 1 := by unfold ixN; rw [if_pos (by omega), if_pos (by omega)]; rfl
@[simp] theorem ix_lit2 {n : Nat} : ixN (n + 1 + 1 + 1) 2 = some 2 := by unfold ixN; rw [if_pos (by omega), if_pos (by omega)]; rfl
@[simp] theorem ix_lit3 {n : Nat} : ixN (n + 1 + 1 + 1 + 1) 3 = some 3 := by unfold ixN; rw [if_pos (by omega), if_pos (by omega)]; rfl
@[simp] theorem ix_lit4 {n : Nat} : ixN (n + 1 + 1 + 1 + 1 + 1) 4 = some 4 := by unfold ixN; rw [if_pos (by omega), if_pos (by omega)]; rfl
/-- what a def makes of its body's end -/
def fin : Out → M PV
  | .rt p => pure p
  | .nx _ => pure .non
  | _ => stuck
@[simp] theorem fin_rt {p : PV} : fin (.rt p) = pure p := rfl
@[simp] theorem fin_nx {ρ : Ev} : fin (.nx ρ) = pure .non := rfl
theorem fn_u {nl : Nat} {b : SM} {ps : List PV} : fnM nl b ps = (b (ev0 nl ps) >>= fin) := by
  unfold fnM
  congr
def finF : Out → M PV
  | .rtF p => pure p
  | _ => stuck
@[simp] theorem finF_rt {p : PV} : finF (.rtF p) = pure p := rfl
theorem fnF_u {nl : Nat} {b : SM} {ps : List PV} : fnF nl b ps = (b (ev0 nl ps) >>= finF) := by
  unfold fnF
  congr
/-- the law: its hand, then the rest -/
theorem law_run {nl : Nat} {b0 b : SM} {ns : List Int} {l : HS} {ρ : Ev} (h0 : b0 (ev0 nl [.scr ns]) = pure (.nx ρ)) (hρ : ρ[1]? = some (.ow (.lst l))) (hn : noOwn 1 ρ = true)
    (h1 : Ok (b (ρ.set 1 (.fz .hand))) (fun o _ => o = .rt (.bl true)) l) : ∃ hs', fnM nl (sSeq b0 (sHand 1 b)) [.scr ns] [] = .ok (.bl true, hs') := by
  have key : Ok (fnM nl (sSeq b0 (sHand 1 b)) [.scr ns]) (fun p _ => p = .bl true) [] := by
    rw [fn_u, e_seq, h0, pure_bind]
    show Ok (sHand 1 b ρ >>= fin) _ _
    unfold sHand
    rw [hρ]
    show Ok (((pure l : M (List PV)) >>= fun l => guardM (noOwn 1 ρ = true) ((set l : M PUnit) >>= fun _ => b (ρ.set 1 (.fz .hand)) >>= fun o => match o with
      | .rt (.bl b) => pure (.rt (.bl b))
      | _ => stuck)) >>= fin) _ _
    rw [pure_bind, guard_pos hn, bind_assoc, ok_set, bind_assoc]
    refine h1.bind' fun o h e => ?_
    subst e
    simp
  obtain ⟨p, hs', e, rfl⟩ := key
  exact ⟨hs', e⟩
end SL

end
section
/-! SLo: sorted of data, a list or a tuple -/
namespace SLw
open PySem PySem.W PySem.Calls PyProof.Rows
section
variable {prog : Program} {w : World} {A : Around} {E : Value → Shared → Prop} {s : Shared}
theorem collect_tup {l : Addr} {vs : List Value} {Q : List Value → Shared → Prop} (hl : s.heap.IsTuple l vs.toArray) (hsz : vs.length ≤ sizeLine)
    (h : Q vs { s with heap := (s.heap.push (seqObj "list" #[] 0)).update s.heap.objs.size (Obj.mapSeq (· ++ vs.toArray)) }) : wpAny (model prog w) A (collect (.ref l)) Q E s := by
  obtain ⟨o, ho, hc, n, hd⟩ := id hl
  have h0 : (s.heap.push (seqObj "list" #[] 0)).get? s.heap.objs.size = some (seqObj "list" #[] 0) := Heap.get?_push_size _ rfl
  have h1 : (s.heap.push (seqObj "list" #[] 0)).get? l = some o := Heap.get?_push_of_some _ ho
  unfold collect
  refine wpAny_bind (wpAny_runValue (codeAny_builtin entry_proto_collect' ?_))
  show wpAny _ _ (do again (.builtin "list.__iadd__" ⟨[← newList [], .ref l], []⟩)) _ _ s
  refine wpAny_bind (wpAny_newList (wpAny_pure ⟨Code.quiet_builtin _ (by decide +kernel), codeAny_builtin entry_list_iadd' ?_⟩))
  show wpAny _ _ (Builtin.List.listExtendWith (.ref s.heap.objs.size) (.ref l) (.ref s.heap.objs.size)) _ _ { s with heap := s.heap.push (seqObj "list" #[] 0) }
  unfold Builtin.List.listExtendWith
  refine wpAny_bind (wpAny_typeOf (T := "tuple") ⟨o, h1, hc⟩ ?_)
  have e : (Value.type "tuple" == Value.type "tuple") = true := by rfl
  rw [if_pos (by rw [e]; simp)]
  refine wpAny_bind (listItems_at h1 hd ?_)
  refine wpAny_bind (listItems_at h0 rfl ?_)
  rw [if_neg (by simp)]
  refine wpAny_bind (listUpdate_at h0 rfl ?_ (Nat.zero_le _) (by show (#[] ++ vs.toArray).size ≤ sizeLine + 1; simp only [Array.size_append, List.size_toArray, List.length_nil]; omega))
  refine wpAny_pure ?_
  show wpAny (model prog w) A (do
      let o ← load s.heap.objs.size
      match o.data with
      | .seq xs _ => pure xs.toList
      | _ => unsupported "internal:collect") Q E { s with heap := (s.heap.push (seqObj "list" #[] 0)).update s.heap.objs.size (Obj.mapSeq (· ++ vs.toArray)) }
  refine wpAny_bind (wpAny_load (get?_update_seq h0 _) ?_)
  show wpAny _ _ (pure ((#[] : Array Value) ++ vs.toArray).toList) Q E _
  rw [show ((#[] : Array Value) ++ vs.toArray).toList = vs by simp]
  exact wpAny_pure h
/-- sorted(x) where x's items are collected so -/
theorem sorted_col {x : Value} {vs : List Value} {Q : Value → Shared → Prop} (hL : vs.length ≤ sizeLine)
    (col : ∀ (Q' : List Value → Shared → Prop) (E' : Value → Shared → Prop), Q' vs { s with heap := (s.heap.push (seqObj "list" #[] 0)).update s.heap.objs.size (Obj.mapSeq (· ++ vs.toArray)) } → wpAny (model prog w) A.in1 (collect x) Q' E' s)
    (body : ∀ E' : Value → Shared → Prop, wpAny (model prog w) A.in1.in1 (Builtin.«list.sort» ⟨[.ref (s.heap.objs.size + 1)], []⟩) (fun f s' => f = .done (.ret .none) ∧ Q (.ref (s.heap.objs.size + 1)) s') E' { s with heap := copyHeap s.heap vs }) :
    wpAny (model prog w) A (call (.builtin "sorted") [x]) Q E s := by
  refine call_function_entry kind_sorted plain_sorted entry_sorted (args_sorted1 _) ?_
  unfold Builtin.«sorted»
  refine wpAny_bind (m := checkCount "sorted" 1 1 _) (wpAny_pure ?_)
  refine wpAny_bind (col _ _ ?_)
  refine wpAny_bind (wpAny_newList ?_ hL)
  have hsz : ((s.heap.push (seqObj "list" #[] 0)).update s.heap.objs.size (Obj.mapSeq (· ++ vs.toArray))).objs.size = s.heap.objs.size + 1 := by
    rw [Heap.size_update, size_push']
  show wpAny _ _ _ _ _ { s with heap := copyHeap s.heap vs }
  rw [hsz]
  refine wpAny_bind (wpAny_holding (wpAny_call_entry_kw slot_list_sort ⟨_, copyHeap_at s.heap vs, rfl⟩ entry_list_sort ?body (args_list_sort _)))
  case body =>
    show wpAny (model prog w) A.in1.in1 (Builtin.«list.sort» ⟨[.ref (s.heap.objs.size + 1)], []⟩) _ _ _
    refine wpAny_mono (body _) (fun f s' hf => ?_) fun _ _ e => e
    obtain ⟨rfl, hq⟩ := hf
    exact ⟨_, rfl, wpAny_pure ⟨_, rfl, hq⟩⟩
variable {β : Type} {R : Value → β → Prop} {enc : β → PyData} {vs : List Value} {bs : List β}
theorem sorted_colD {x : Value} {Q : Value → Shared → Prop} (col : ∀ (Q' : List Value → Shared → Prop) (E' : Value → Shared → Prop), Q' vs { s with heap := (s.heap.push (seqObj "list" #[] 0)).update s.heap.objs.size (Obj.mapSeq (· ++ vs.toArray)) } → wpAny (model prog w) A.in1 (collect x) Q' E' s)
    (e : EachIs R vs bs) (er : EachIs (fun v b => ∃ as, Reads s.heap v (enc b) as) vs bs) (hal : AllAlike (bs.map enc)) (hk : Sortable (bs.map enc)) (hL : bs.length ≤ sizeLine)
    (hu : ∀ b, b ∈ bs → A.units + 2 + (enc b).depth < cLine) (h : ∀ out, out.length = bs.length → EachIs R out (bs.mergeSort (dataLe false enc)) → Q (.ref (s.heap.objs.size + 1)) { s with heap := sortedAll s.heap vs (List.toArray out) }) :
    wpAny (model prog w) A (call (.builtin "sorted") [x]) Q E s := by
  have er' : EachIs (fun v b => ∃ as, Reads (sortingHeap (copyHeap s.heap vs) (s.heap.objs.size + 1) vs) v (enc b) as) vs bs := er.mono fun _ _ ⟨as, r⟩ => ⟨as, PyProof.Rows.Reads.keeps (fun _ _ => sorting_copy_old) r⟩
  have hz : vs.length ≤ sizeLine := by rw [e.length]; exact hL
  have S := SortsAt.data (prog := prog) (w := w) (A := A.in1.in1) (s := { s with heap := sortingHeap (copyHeap s.heap vs) (s.heap.objs.size + 1) vs }) (each_map (R := fun v d => ∃ as, Reads (sortingHeap (copyHeap s.heap vs) (s.heap.objs.size + 1) vs) v d as) enc er') hal hk (bound_map hu)
  refine sorted_col hz col fun E' => list_sort_vals (s := { s with heap := copyHeap s.heap vs }) (copyHeap_at s.heap vs) S hz ⟨rfl, ?_⟩
  exact h _ (by rw [sortVals_length false rfl]; exact e.length) (sortVals_data false e er' hal)
end
end SLw
namespace L2
open PySem PySem.Spec PyProof.Rows
abbrev VD := V × PyData
theorem each_vd {s : Shared} {X : Cx} {pins : List (Addr × Obj)} {σ : L2.St} {H : Hp} (I : Inv X pins σ H s) : ∀ {bs : List VD} {us : List Value}, Vals (bs.map (·.1)) us → (∀ b ∈ bs, Dp X.K H b.1 b.2) →
    PySem.W.EachIs (fun u (b : VD) => RelV b.1 u) us bs ∧ PySem.W.EachIs (fun u (b : VD) => ∃ as, Reads s.heap u b.2 as) us bs
  | [], _, .nil, _ => ⟨.nil, .nil⟩
  | b :: bs, _, .cons r t, d => by
    obtain ⟨h1, h2⟩ := each_vd I t fun b h => d b (List.mem_cons_of_mem _ h)
    exact ⟨.cons r h1, .cons (Dp.reads I _ _ _ (d b List.mem_cons_self) r) h2⟩
theorem vals_each : ∀ {bs : List VD} {us : List Value}, PySem.W.EachIs (fun u (b : VD) => RelV b.1 u) us bs → Vals (bs.map (·.1)) us
  | [], _, .nil => .nil
  | _ :: _, _, .cons r t => .cons r (vals_each t)
/-- sorted(xs), data: a new list -/
def rSortedD (K : PySem.W.Frag) : List V → Hp → VK → Prop := fun xs H Q => ∃ (a : Addr) (bs : List VD), xs = [V.ref a] ∧ (SqL K H a (bs.map (·.1)) ∨ SqT K H a (bs.map (·.1))) ∧ (∀ b ∈ bs, Dp K H b.1 b.2) ∧ PySem.W.AllAlike (bs.map (·.2)) ∧ PySem.W.Sortable (bs.map (·.2)) ∧ (∀ b ∈ bs, b.2.depth ≤ 32) ∧
  ∀ p, H p = none → Q (.ref p) (upd H p (.lst ((bs.mergeSort (PySem.W.dataLe false (·.2))).map (·.1))))
theorem cr_sortedD {X : Cx} (hu : X.A.units + 64 < cLine) : CallR X (.builtin "sorted") (rSortedD X.K) := by
  intro pins s σ H vs us Q I r h
  obtain ⟨a, bs, rfl, hs, hd, ha, hk, hp, q⟩ := h
  obtain ⟨u, rfl, ru⟩ := vals1 r
  obtain rfl : u = Value.ref a := ru
  obtain ⟨its, rv, hz, col⟩ : ∃ its : List Value, Vals (bs.map (·.1)) its ∧ (bs.map (·.1)).length ≤ sizeLine ∧ ∀ (Q' : List Value → Shared → Prop) (E' : Value → Shared → Prop), Q' its { s with heap := (s.heap.push (seqObj "list" #[] 0)).update s.heap.objs.size (Obj.mapSeq (· ++ its.toArray)) } → wpAny (model X.prog X.w) X.A.in1 (collect (.ref a)) Q' E' s := by
    rcases hs with hs | hs
    · obtain ⟨its, rv, hl, hz⟩ := I.list hs
      exact ⟨its, rv, hz, fun Q' E' h => PyProof.Rows.collect_list hl.isList h (by rw [← rv.length]; exact hz)⟩
    · obtain ⟨its, rv, hl, hz⟩ := I.tuple hs
      exact ⟨its, rv, hz, fun Q' E' h => SLw.collect_tup hl (by rw [← rv.length]; exact hz) h⟩
  obtain ⟨e1, e2⟩ := each_vd I rv hd
  rw [List.length_map] at hz
  refine SLw.sorted_colD (enc := fun b : VD => b.2) col e1 e2 ha hk hz (fun b hb => by have := hp b hb; omega) fun out ho h1 => ?_
  have h2 := vals_each h1
  obtain ⟨ep, he'⟩ := PyProof.Rows.sortedAll_at s.heap its out.toArray
  have hlen : ((bs.mergeSort (PySem.W.dataLe false fun b : VD => b.2)).map (·.1)).length ≤ sizeLine := by rw [List.length_map, List.length_mergeSort]; exact hz
  exact ⟨.ref _, upd H (s.heap.objs.size + 1) (.lst ((bs.mergeSort (PySem.W.dataLe false fun b : VD => b.2)).map (·.1))), I.laid (t' := s.toks) (fun _ _ => PyProof.Rows.sortedAll_old) (Nat.le_succ _) ⟨hlen, out, ep, h2, he'⟩, rfl, q _ (I.hok.fresh (Nat.le_succ _))⟩
end L2
namespace SL
open PySem PySem.Spec PyProof.Rows L2
/-! ### the mirror -/
def isTup1 : PyData → Bool
  | .tuple (_ :: _) => true
  | _ => false
def noTup : PyData → Bool
  | .tuple _ | .none => false
  | _ => true
def alikeB (ds : List PyData) : Bool := ds.all fun d => ds.all fun e => PySem.W.alike d e
def sortB (ds : List PyData) : Bool := ds.all isTup1 || ds.all noTup
theorem alikeB_ok {ds : List PyData} (h : alikeB ds = true) : PySem.W.AllAlike ds := fun d hd e he => List.all_eq_true.mp (List.all_eq_true.mp h d hd) e he
theorem sortB_ok {ds : List PyData} (h : sortB ds = true) : PySem.W.Sortable ds := by
  rcases Bool.or_eq_true_iff.mp h with h | h
  · refine .inl fun d hd => ?_
    have := List.all_eq_true.mp h d hd
    unfold isTup1 at this
    split at this
    · exact ⟨_, _, rfl⟩
    · cases this
  · refine .inr fun d hd => ?_
    have := List.all_eq_true.mp h d hd
    unfold noTup at this
    split at this
    · cases this
    · cases this
    · rename_i h1 h2
      exact ⟨h2, h1⟩
def sorts (l : List PV) (ds : List PyData) : List PV := ((l.zip ds).mergeSort (PySem.W.dataLe false (·.2))).map (·.1)
def sortP (l : List PV) : M PV := match toDs l with
  | some ds => guardM (alikeB ds = true ∧ sortB ds = true ∧ (ds.all fun d => decide (d.depth ≤ 32)) = true) (pure (.lst (sorts l ds)))
  | none => stuck
def pSorted : List PV → M PV
  | [.tup l] => sortP l
  | [.lst l] => sortP l
  | _ => stuck
theorem mergeSort_map' {α β : Type} (f : α → β) (le : β → β → Bool) (l : List α) : (l.mergeSort fun a b => le (f a) (f b)).map f = (l.map f).mergeSort le := by
  exact List.map_mergeSort (f := f) (fun a _ b _ => rfl)
theorem zip3 {α β γ : Type} : ∀ {a : List α} {b : List β} {c : List γ}, a.length = b.length → b.length = c.length → ((a.zip (b.zip c)).map fun t => (t.1, t.2.2)) = a.zip c ∧ ((a.zip (b.zip c)).map fun t => t.2) = b.zip c ∧ ((a.zip c).map (·.1)) = a
  | [], [], [], _, _ => ⟨rfl, rfl, rfl⟩
  | x :: a, y :: b, z :: c, h1, h2 => by
    obtain ⟨e1, e2, e3⟩ := zip3 (a := a) (b := b) (c := c) (by simpa using h1) (by simpa using h2)
    exact ⟨by simp only [List.zip_cons_cons, List.map_cons, e1], by simp only [List.zip_cons_cons, List.map_cons, e2], by simp only [List.zip_cons_cons, List.map_cons, e3]⟩
theorem reps_zip {K : Fg} {ah : Option Addr} {F : Addr → Prop} {H : Hp} : ∀ {vs : List V} {ps : List PV}, Reps K ah F H vs ps → ∀ t ∈ vs.zip ps, Rep K ah F H t.1 t.2
  | _, _, .nil, t, h => by simp at h
  | _, _, .cons r q, t, h => by
    rcases List.mem_cons.mp h with e | h
    · rw [e]; exact r
    · exact reps_zip q t h
theorem zip_reps {K : Fg} {ah : Option Addr} {F : Addr → Prop} {H : Hp} : ∀ {ts : List (V × PV)}, (∀ t ∈ ts, Rep K ah F H t.1 t.2) → Reps K ah F H (ts.map (·.1)) (ts.map (·.2))
  | [], _ => .nil
  | t :: ts, h => .cons (h t List.mem_cons_self) (zip_reps fun t ht => h t (List.mem_cons_of_mem _ ht))
theorem toDs_len : ∀ {l : List PV} {ds : List PyData}, toDs l = some ds → l.length = ds.length
  | [], _, h => by cases h; rfl
  | p :: r, ds, h => by
    rw [toDs] at h
    cases e1 : toD p with
    | none => rw [e1] at h; cases h
    | some d =>
      cases e2 : toDs r with
      | none => rw [e1, e2] at h; cases h
      | some ds => rw [e1, e2] at h; cases h; exact congrArg (· + 1) (toDs_len e2)
theorem dp_zip {K : Fg} {H : Hp} : ∀ {vs : List V} {ds : List PyData}, DpAll K H vs ds → ∀ t ∈ vs.zip ds, Dp K H t.1 t.2
  | _, _, .nil, t, h => by simp at h
  | _, _, .cons r q, t, h => by
    rcases List.mem_cons.mp h with e | h
    · rw [e]; exact r
    · exact dp_zip q t h
theorem sort_reps {K : Fg} {ah : Option Addr} {F : Addr → Prop} {H : Hp} {vs : List V} {ps : List PV} {ds : List PyData} (r : Reps K ah F H vs ps) (h : ps.length = ds.length) : Reps K ah F H (((vs.zip ds).mergeSort (PySem.W.dataLe false (·.2))).map (·.1)) (sorts ps ds) := by
  obtain ⟨e1, e2, _⟩ := zip3 r.length h
  unfold sorts
  obtain ⟨Z, hZ⟩ : ∃ Z, Z = vs.zip (ps.zip ds) := ⟨_, rfl⟩
  rw [← hZ] at e1 e2
  rw [← e1, ← e2]
  have m1 := mergeSort_map' (fun t : V × PV × PyData => (t.1, t.2.2)) (PySem.W.dataLe false (·.2)) Z
  have m2 := mergeSort_map' (fun t : V × PV × PyData => t.2) (PySem.W.dataLe false (·.2)) Z
  rw [← m1, ← m2, List.map_map, List.map_map]
  have hm : ∀ t ∈ (Z.mergeSort fun a b => PySem.W.dataLe false (fun b : PV × PyData => b.2) a.2 b.2), Rep K ah F H t.1 t.2.1 := fun t ht => by
    have h1 : t ∈ vs.zip (ps.zip ds) := hZ ▸ List.mem_mergeSort.mp ht
    obtain ⟨i, hi⟩ := List.getElem?_of_mem h1
    obtain ⟨h2, h3⟩ := List.getElem?_zip_eq_some.mp hi
    obtain ⟨h4, h5⟩ := List.getElem?_zip_eq_some.mp h3
    obtain ⟨v, h6, h7⟩ := r.get h4
    rw [h2] at h6
    cases h6
    exact h7
  have := zip_reps (ts := ((Z.mergeSort fun a b => PySem.W.dataLe false (fun b : PV × PyData => b.2) a.2 b.2)).map fun t => (t.1, t.2.1)) (K := K) (ah := ah) (F := F) (H := H) (by
    intro t ht
    obtain ⟨u, hu, rfl⟩ := List.mem_map.mp ht
    exact hm u hu)
  rw [List.map_map, List.map_map] at this
  exact this
section
variable {X : Cx}
theorem cf_sorted : CallF X (rSortedD X.K) pSorted := fun ah F H hs hs' xs ps z Q G c e k => by
  have fin : ∀ {a vs l}, xs = [.ref a] → (SqL X.K H a vs ∨ SqT X.K H a vs) → Reps X.K ah F H vs l → vs.length ≤ sizeLine → sortP l hs = .ok (z, hs') → rSortedD X.K xs H Q := by
    intro a vs l ex hq r hz e
    unfold sortP at e
    cases hd : toDs l with
    | none => rw [hd] at e; cases e
    | some ds =>
      rw [hd] at e
      obtain ⟨⟨g1, g2, g3⟩, e⟩ := guard_ok e
      cases M.pure_ok e
      have hl := toDs_len hd
      have hv : vs.length = ds.length := r.length.trans hl
      have e3 : (vs.zip ds).map (·.1) = vs := List.map_fst_zip (by omega)
      have e4 : (vs.zip ds).map (·.2) = ds := List.map_snd_zip (by omega)
      refine ⟨a, vs.zip ds, ex, by rw [e3]; exact hq, dp_zip (toDs_rep r hd), by rw [e4]; exact alikeB_ok g1, by rw [e4]; exact sortB_ok g2, fun b hb => ?_, fun p n => ?_⟩
      · have := List.all_eq_true.mp g3 b.2 (by rw [← e4]; exact List.mem_map_of_mem hb)
        exact of_decide_eq_true this
      · exact new_lst G n (by rw [List.length_map, List.length_mergeSort, List.length_zip]; omega) (sort_reps r hl) k
  unfold pSorted at e
  split at e
  · cases c with | cons c t => cases t; obtain ⟨a, vs, rfl, h, z, r⟩ := c.tup; exact fin rfl (.inr (.of h)) r z e
  · cases c with | cons c t => cases t; obtain ⟨a, vs, rfl, h, z, r⟩ := c.lst; exact fin rfl (.inl (.of h)) r z e
  · cases e
variable {e : Expr} {es : List Expr} {p pos : Pos} {gs : Ev → M (List PV)}
theorem sf_sorted (hu : X.A.units + 64 < cLine) (hm : X.mg "sorted" = none) (ha : SAB X (e :: es) gs) (hg : Gl X "sorted" := by rfl) (he : starEach (e :: es) X.env = (false, eval e X.env) :: starEach es X.env := by rfl) (hpl : (backTo pos (starEach es X.env)).any (·.1) = false := by rfl) : SF X (.Call (.Name "sorted" p) (e :: es) [] pos) (gB pSorted gs) :=
  sf_B cf_sorted (pe_callB (cr_sortedD hu) hg hm (by decide +kernel) ha (by decide) (by decide) he hpl)
end
/-! ### what it is -/
theorem sorts_mem {l : List PV} {ds : List PyData} (h : l.length = ds.length) {p : PV} : p ∈ sorts l ds ↔ p ∈ l := by
  unfold sorts
  have e : l = (l.zip ds).map (·.1) := (List.map_fst_zip (by omega)).symm
  constructor
  · intro hp
    obtain ⟨t, ht, rfl⟩ := List.mem_map.mp hp
    rw [e]
    exact List.mem_map_of_mem (List.mem_mergeSort.mp ht)
  · intro hp
    rw [e] at hp
    obtain ⟨t, ht, rfl⟩ := List.mem_map.mp hp
    exact List.mem_map_of_mem (List.mem_mergeSort.mpr ht)
theorem sorts_perm {l : List PV} {ds : List PyData} (h : l.length = ds.length) : (sorts l ds).Perm l := by
  unfold sorts
  have e : l = (l.zip ds).map (·.1) := (List.map_fst_zip (by omega)).symm
  conv => rhs; rw [e]
  exact (List.mergeSort_perm _ _).map _
theorem toDs_ints : ∀ (ns : List Int), toDs (ns.map PV.int) = some (ns.map .int)
  | [] => rfl
  | n :: r => by rw [List.map_cons, toDs, toDs_ints r]; rfl
theorem sorts_ints (ns : List Int) : sorts (ns.map PV.int) (ns.map PyData.int) = (ns.mergeSort fun a b => decide (a ≤ b)).map PV.int := by
  unfold sorts
  have e : (ns.map PV.int).zip (ns.map PyData.int) = ns.map fun n => (PV.int n, PyData.int n) := by
    induction ns with
    | nil => rfl
    | cons n r ih => rw [List.map_cons, List.map_cons, List.zip_cons_cons, ih, List.map_cons]
  rw [e, ← mergeSort_map' (fun n : Int => (PV.int n, PyData.int n)) (PySem.W.dataLe false (·.2)) ns, List.map_map]
  have := PySem.W.dataLe_int (β := Int) id
  have e2 : (fun a b : Int => PySem.W.dataLe false (fun x : PV × PyData => x.2) (PV.int a, PyData.int a) (PV.int b, PyData.int b)) = fun a b => decide (a ≤ b) := this
  rw [e2]
  rfl
theorem alikeB_ints (ns : List Int) : alikeB (ns.map PyData.int) = true := by
  unfold alikeB
  refine List.all_eq_true.mpr fun d hd => List.all_eq_true.mpr fun e he => ?_
  obtain ⟨a, _, rfl⟩ := List.mem_map.mp hd
  obtain ⟨b, _, rfl⟩ := List.mem_map.mp he
  rfl
theorem sortP_ints (ns : List Int) : sortP (ns.map PV.int) = pure (.lst ((ns.mergeSort fun a b => decide (a ≤ b)).map PV.int)) := by
  unfold sortP
  rw [toDs_ints]
  show guardM _ _ = _
  rw [guard_pos, sorts_ints]
  refine ⟨alikeB_ints ns, ?_, List.all_eq_true.mpr fun d hd => ?_⟩
  · unfold sortB
    rw [Bool.or_eq_true]
    refine .inr (List.all_eq_true.mpr fun d hd => ?_)
    obtain ⟨a, _, rfl⟩ := List.mem_map.mp hd
    rfl
  · obtain ⟨a, _, rfl⟩ := List.mem_map.mp hd
    rfl
end SL

end
section
/-! SLp: more reasoning about mirrors: loops that ask all, that find, that fold; comprehensions whose tests draw; ints in rows -/
namespace SL
open PySem PySem.Spec PyProof.Rows L2
def iT (A : List Int) : PV := .tup (A.map PV.int)
def iL (A : List Int) : PV := .lst (A.map PV.int)
theorem rng0 (n : Nat) : rng 0 n = (List.range n).map fun (i : Nat) => PV.int i := by
  unfold rng
  congr
  funext i
  rw [Int.zero_add]
section
variable {α : Type}
/-- for x in ..: if not t: return False -/
theorem forall_loop {f : Slot → Ev} {i : Nat} (hf : ∀ s p, (f s).set i (.fz p) = f (.fz p)) {t : TM} {c : α → Bool} {φ : α → PV} {v : PV} : ∀ {l : List α}, (∀ x ∈ l, t (f (.fz (φ x))) = pure (c x)) → ∀ s, ∃ s', forF (tgName i) (sIf t (sRet (gC v)) sNx) (l.map φ) (f s) = pure (if (l.all fun x => !c x) = true then .nx (f s') else .rt v)
  | [], _, s => ⟨s, rfl⟩
  | x :: l, h, s => by
    obtain ⟨s', ih⟩ := forall_loop (v := v) hf (l := l) (fun y hy => h y (List.mem_cons_of_mem _ hy)) (.fz (φ x))
    have hx := h x List.mem_cons_self
    refine ⟨s', ?_⟩
    rw [List.map_cons, forF_cons, e_tname, pure_bind, hf, e_sif, hx, pure_bind]
    cases hc : c x with
    | true => simp [hc]
    | false => simp [hc, ih]
theorem forall_loopN {f : Slot → Ev} {i : Nat} (hf : ∀ s p, (f s).set i (.fz p) = f (.fz p)) {t : TM} {c : α → Bool} {φ : α → PV} {v : PV} {l : List α} (h : ∀ x ∈ l, t (f (.fz (φ x))) = pure (c x)) (s : Slot) : ∃ s', forF (tgName i) (sIf (gNotT t) (sRet (gC v)) sNx) (l.map φ) (f s) = pure (if l.all c = true then .nx (f s') else .rt v) := by
  obtain ⟨s', e⟩ := forall_loop (v := v) hf (t := gNotT t) (c := fun x => !c x) (φ := φ) (l := l) (fun x hx => by
    show (t (f (.fz (φ x))) >>= fun x => pure (!x)) = _
    rw [h x hx, pure_bind]) s
  refine ⟨s', ?_⟩
  rw [e]
  congr 2
  simp only [Bool.not_not]
/-- for x in ..: if t: return g -/
theorem find_loop {f : Slot → Ev} {i : Nat} (hf : ∀ s p, (f s).set i (.fz p) = f (.fz p)) {t : TM} {g : EM} {c : α → Bool} {φ e : α → PV} : ∀ {l : List α}, (∀ x ∈ l, t (f (.fz (φ x))) = pure (c x) ∧ (c x = true → g (f (.fz (φ x))) = pure (e x))) → ∀ s, ∃ s', forF (tgName i) (sIf t (sRet g) sNx) (l.map φ) (f s) = pure (match l.find? c with | some x => .rt (e x) | none => .nx (f s'))
  | [], _, s => ⟨s, rfl⟩
  | x :: l, h, s => by
    obtain ⟨s', ih⟩ := find_loop hf (l := l) (fun y hy => h y (List.mem_cons_of_mem _ hy)) (.fz (φ x))
    obtain ⟨hx, hg⟩ := h x List.mem_cons_self
    refine ⟨s', ?_⟩
    rw [List.map_cons, forF_cons, e_tname, pure_bind, hf, e_sif, hx, pure_bind]
    cases hc : c x with
    | true => simp [hc, hg hc]
    | false => simp [hc, ih]
/-- a loop that only goes on: what it makes is a fold -/
theorem fold_loop {β : Type} {st : β → Slot → Ev} {gt : GM} {gb : SM} {g : β → α → β} {φ : α → PV} : ∀ {l : List α} {a : β}, (∀ pre x suf, l = pre ++ x :: suf → ∀ s, ∃ s', (gt (φ x) (st (pre.foldl g a) s) >>= gb) = pure (.nx (st (g (pre.foldl g a) x) s'))) →
    ∀ s, ∃ s', forF gt gb (l.map φ) (st a s) = pure (.nx (st (l.foldl g a) s'))
  | [], a, _, s => ⟨s, rfl⟩
  | x :: l, a, h, s => by
    obtain ⟨s1, e1⟩ := h [] x l rfl s
    obtain ⟨s', ih⟩ := fold_loop (l := l) (a := g a x) (fun pre y suf e s => h (x :: pre) y suf (by rw [e]; rfl) s) s1
    refine ⟨s', ?_⟩
    rw [List.foldl_nil] at e1
    rw [List.map_cons, forF, ← bind_assoc, e1, pure_bind]
    exact ih
/-- a comprehension whose test draws -/
theorem ok_lcT {gt : GM} {tt : TM} {ge : EM} {ρ : Ev} {I : HS → Prop} {φ e : α → PV} : ∀ {l : List α} {h : HS}, I h → (∀ x ∈ l, ∀ h, I h → ∃ ρ', gt (φ x) ρ = pure ρ' ∧ Ok (tt ρ') (fun _ h' => I h') h ∧ ge ρ' = pure (e x)) →
    Ok (lcF gt tt ge ρ (l.map φ)) (fun ys h' => ∃ m : List α, m.Sublist l ∧ ys = m.map e ∧ I h') h
  | [], h, hI, _ => Ok.pure ⟨[], .refl _, rfl, hI⟩
  | x :: l, h, hI, k => by
    obtain ⟨ρ', e1, ok, e2⟩ := k x List.mem_cons_self h hI
    rw [List.map_cons, lcF, e1, pure_bind]
    refine ok.bind' fun b h1 h1I => ?_
    have ih := ok_lcT h1I fun q hq => k q (List.mem_cons_of_mem _ hq)
    cases b with
    | false =>
      rw [if_neg Bool.false_ne_true]
      exact ih.mono fun ys h2 ⟨m, hm, e, hI⟩ => ⟨m, hm.cons _, e, hI⟩
    | true =>
      rw [if_pos rfl, e2, pure_bind]
      refine ih.bind' fun ys h2 ⟨m, hm, e, hI⟩ => ?_
      exact Ok.pure ⟨x :: m, hm.cons₂ _, by rw [e]; rfl, hI⟩
end
theorem any_int (A : List Int) (a : Int) : ((A.map PV.int).any fun y => eqP y (.int a)) = decide (a ∈ A) := by
  induction A with
  | nil => rfl
  | cons x l ih =>
    rw [List.map_cons, List.any_cons, ih]
    show ((x == a) || decide (a ∈ l)) = _
    by_cases h : x = a
    · subst h; simp
    · have h' : ¬ a = x := fun e => h e.symm
      simp [h, h']
theorem flat_ints (A : List Int) : (A.map PV.int).all flatP = true := by
  rw [List.all_map]
  exact List.all_eq_true.mpr fun _ _ => rfl
theorem v_inI {A : List Int} {a : Int} : pIn (.int a) (.tup (A.map PV.int)) = pure (.bl (decide (a ∈ A))) := by
  show guardM _ (pure (PV.bl (false ^^ _))) = _
  rw [guard_pos ⟨rfl, flat_ints A⟩, any_int, Bool.false_xor]
theorem v_inIL {A : List Int} {a : Int} : pIn (.int a) (.lst (A.map PV.int)) = pure (.bl (decide (a ∈ A))) := by
  show guardM _ (pure (PV.bl (false ^^ _))) = _
  rw [guard_pos ⟨rfl, flat_ints A⟩, any_int, Bool.false_xor]
theorem v_ninI {A : List Int} {a : Int} : pNotIn (.int a) (.tup (A.map PV.int)) = pure (.bl (!decide (a ∈ A))) := by
  show guardM _ (pure (PV.bl (true ^^ _))) = _
  rw [guard_pos ⟨rfl, flat_ints A⟩, any_int, Bool.true_xor]
theorem v_ninIL {A : List Int} {a : Int} : pNotIn (.int a) (.lst (A.map PV.int)) = pure (.bl (!decide (a ∈ A))) := by
  show guardM _ (pure (PV.bl (true ^^ _))) = _
  rw [guard_pos ⟨rfl, flat_ints A⟩, any_int, Bool.true_xor]
theorem cut1 {α : Type} (l : List α) : cut l (some 1) none = l.drop 1 := by
  unfold cut HT.sIx
  cases l with
  | nil => rfl
  | cons x l => simp
theorem zip_next {α : Type} {r : α → α → Prop} : ∀ {l : List α}, l.Pairwise r → ∀ t ∈ l.zip (l.drop 1), r t.1 t.2
  | [], _, t, h => by simp at h
  | [x], _, t, h => by simp at h
  | x :: y :: l, p, t, h => by
    rw [List.pairwise_cons] at p
    have h : t ∈ (x, y) :: (y :: l).zip l := h
    rcases List.mem_cons.mp h with e | h
    · rw [e]; exact p.1 y List.mem_cons_self
    · exact zip_next (l := y :: l) p.2 t h
/-- a row of numbers from 0 on that ascend, below n -/
structure LotOk (n : Nat) (A : List Int) : Prop where
  bd : ∀ a ∈ A, 0 ≤ a ∧ a < n
  asc : A.Pairwise (· < ·)
theorem range_asc (n : Nat) : ((List.range n).map fun (i : Nat) => (i : Int)).Pairwise (· < ·) := by
  rw [List.pairwise_map]
  exact List.pairwise_lt_range.imp fun h => by omega
theorem LotOk.of_sub {n : Nat} {m : List Nat} (h : m.Sublist (List.range n)) : LotOk n (m.map fun (i : Nat) => (i : Int)) :=
  ⟨fun a ha => by
    obtain ⟨x, hx, rfl⟩ := List.mem_map.mp ha
    have := List.mem_range.mp (h.mem hx)
    omega, (range_asc n).sublist (h.map _)⟩
theorem LotOk.len {n : Nat} {m : List Nat} (h : m.Sublist (List.range n)) : m.length ≤ n := by
  have := h.length_le
  simpa using this
end SL

end
section
/-! SLq: dicts: keys ints and texts, or tuples of these -/
namespace SL
open PySem PySem.Spec PyProof.Rows L2
def keyP : PV → Option Key
  | .int i => some (.inl i)
  | .str x => some (.inr x)
  | _ => none
def keysP : List PV → Option (List Key)
  | [] => some []
  | p :: r => match keyP p, keysP r with
    | some k, some ks => some (k :: ks)
    | _, _ => none
section
variable {κ : Type} [DecidableEq κ]
def dGet (l : List (κ × PV)) (k : κ) : Option PV := (l.find? fun kv => decide (kv.1 = k)).map (·.2)
def dPut (l : List (κ × PV)) (k : κ) (v : PV) : List (κ × PV) :=
  if (l.any fun kv => decide (kv.1 = k)) = true then l.map (fun kv => if kv.1 = k then (kv.1, v) else kv) else l ++ [(k, v)]
end
section
variable {K : Fg} {ah : Option Addr} {F : Addr → Prop} {H : Hp}
theorem keyP_con {v : V} {p : PV} {k : Key} (c : Con K ah F H v p) (h : keyP p = some k) : v = kV k := by
  cases p <;> first | (cases h; done) | skip
  · cases h; exact c.int
  · cases h; exact c.str
theorem keysP_reps : ∀ {vs : List V} {ps : List PV} {ks : List Key}, Reps K ah F H vs ps → keysP ps = some ks → vs = ks.map kV
  | _, _, _, .nil, h => by cases h; rfl
  | _, p :: ps, ks, .cons r t, h => by
    rw [keysP] at h
    cases e1 : keyP p with
    | none => rw [e1] at h; cases h
    | some k =>
      cases e2 : keysP ps with
      | none => rw [e1, e2] at h; cases h
      | some m =>
        rw [e1, e2] at h; cases h
        rw [keyP_con (.rep r) e1, keysP_reps t e2]; rfl
variable {κ : Type} [DecidableEq κ]
theorem get_some : ∀ {kvs : List (κ × V)} {ps : List (κ × PV)} {k : κ} {p : PV}, kvs.map (·.1) = ps.map (·.1) → Reps K ah F H (kvs.map (·.2)) (ps.map (·.2)) → dGet ps k = some p → ∃ v, valV kvs k = some v ∧ Rep K ah F H v p
  | [], [], k, p, _, _, h => by cases h
  | kv :: kvs, q :: ps, k, p, e, r, h => by
    rw [List.map_cons, List.map_cons] at e r
    cases r with
    | cons r t =>
      have e1 : kv.1 = q.1 := (List.cons.inj e).1
      by_cases hk : q.1 = k
      · have h' : dGet (q :: ps) k = some q.2 := by simp [dGet, List.find?_cons, hk]
        rw [h'] at h
        cases h
        exact ⟨kv.2, valV_pos (e1.trans hk), r⟩
      · have h' : dGet (q :: ps) k = dGet ps k := by simp [dGet, List.find?_cons, hk]
        rw [h'] at h
        obtain ⟨v, h1, h2⟩ := get_some (List.cons.inj e).2 t h
        exact ⟨v, by rw [valV_neg (fun z => hk (e1.symm.trans z))]; exact h1, h2⟩
theorem get_is : ∀ {kvs : List (κ × V)} {ps : List (κ × PV)} {k : κ}, kvs.map (·.1) = ps.map (·.1) → (valV kvs k).isSome = (dGet ps k).isSome
  | [], [], k, _ => rfl
  | kv :: kvs, q :: ps, k, e => by
    rw [List.map_cons, List.map_cons] at e
    have e1 : kv.1 = q.1 := (List.cons.inj e).1
    by_cases hk : q.1 = k
    · have h' : dGet (q :: ps) k = some q.2 := by simp [dGet, List.find?_cons, hk]
      rw [h', valV_pos (e1.trans hk)]; rfl
    · have h' : dGet (q :: ps) k = dGet ps k := by simp [dGet, List.find?_cons, hk]
      rw [h', valV_neg (fun z => hk (e1.symm.trans z))]
      exact get_is (List.cons.inj e).2
theorem any_key {α β : Type} : ∀ {kvs : List (κ × α)} {ps : List (κ × β)} {k : κ}, kvs.map (·.1) = ps.map (·.1) → (kvs.any fun kv => decide (kv.1 = k)) = ps.any fun kv => decide (kv.1 = k)
  | [], [], _, _ => rfl
  | kv :: kvs, q :: ps, k, e => by
    rw [List.map_cons, List.map_cons] at e
    rw [List.any_cons, List.any_cons, any_key (List.cons.inj e).2, (List.cons.inj e).1]
theorem put_map : ∀ {kvs : List (κ × V)} {ps : List (κ × PV)} {k : κ} {v : V} {p : PV}, kvs.map (·.1) = ps.map (·.1) → Reps K ah F H (kvs.map (·.2)) (ps.map (·.2)) → Rep K ah F H v p →
    (kvs.map fun kv => if kv.1 = k then (kv.1, v) else kv).map (·.1) = (ps.map fun kv => if kv.1 = k then (kv.1, p) else kv).map (·.1) ∧ Reps K ah F H ((kvs.map fun kv => if kv.1 = k then (kv.1, v) else kv).map (·.2)) ((ps.map fun kv => if kv.1 = k then (kv.1, p) else kv).map (·.2))
  | [], [], _, _, _, _, _, _ => ⟨rfl, .nil⟩
  | kv :: kvs, q :: ps, k, v, p, e, r, rv => by
    rw [List.map_cons, List.map_cons] at e r
    cases r with
    | cons r t =>
      obtain ⟨i1, i2⟩ := put_map (k := k) (List.cons.inj e).2 t rv
      have e1 : kv.1 = q.1 := (List.cons.inj e).1
      rw [List.map_cons, List.map_cons, List.map_cons, List.map_cons, List.map_cons, List.map_cons]
      by_cases hk : q.1 = k
      · rw [if_pos hk, if_pos (e1.trans hk)]
        exact ⟨by rw [i1]; exact congrArg (· :: _) e1, .cons rv i2⟩
      · rw [if_neg hk, if_neg (fun z => hk (e1.symm.trans z))]
        exact ⟨by rw [i1]; exact congrArg (· :: _) e1, .cons r i2⟩
theorem put_rel {kvs : List (κ × V)} {ps : List (κ × PV)} {k : κ} {v : V} {p : PV} (e : kvs.map (·.1) = ps.map (·.1)) (r : Reps K ah F H (kvs.map (·.2)) (ps.map (·.2))) (rv : Rep K ah F H v p) :
    (putK kvs k v).map (·.1) = (dPut ps k p).map (·.1) ∧ Reps K ah F H ((putK kvs k v).map (·.2)) ((dPut ps k p).map (·.2)) := by
  unfold putK dPut
  rw [any_key e]
  by_cases h : (ps.any fun kv => decide (kv.1 = k)) = true
  · rw [if_pos h, if_pos h]
    exact put_map e r rv
  · rw [if_neg h, if_neg h]
    rw [List.map_append, List.map_append, List.map_append, List.map_append, e]
    exact ⟨rfl, r.append (.cons rv .nil)⟩
theorem Con.dK {v : V} {l : List (Key × PV)} (c : Con K ah F H v (.dK l)) : ∃ a kvs, v = .ref a ∧ H a = some (.dK kvs) ∧ kvs.length ≤ sizeLine ∧ kvs.map (·.1) = l.map (·.1) ∧ Reps K ah F H (kvs.map (·.2)) (l.map (·.2)) := by
  cases c with
  | rep r => cases r with | dK f h z e r => exact ⟨_, _, rfl, h, z, e, r⟩
  | own o => cases o with | dK h z e r => exact ⟨_, _, rfl, h, z, e, r⟩
theorem Con.dT {v : V} {l : List (List Key × PV)} (c : Con K ah F H v (.dT l)) : ∃ a kvs, v = .ref a ∧ H a = some (.dT kvs) ∧ kvs.length ≤ sizeLine ∧ kvs.map (·.1) = l.map (·.1) ∧ Reps K ah F H (kvs.map (·.2)) (l.map (·.2)) := by
  cases c with
  | rep r => cases r with | dT f h z e r => exact ⟨_, _, rfl, h, z, e, r⟩
  | own o => cases o with | dT h z e r => exact ⟨_, _, rfl, h, z, e, r⟩
end
/-! ### d[k] -/
theorem ix_dict {X : Cx} (hu : X.A.units + 1 < cLine) : IxR X (fun x y H Q => ∃ a v, x = .ref a ∧ DGet H a y (some v) ∧ Q v H) := by
  intro value slice pins s σ H x y v u Q I rx ry h hs
  obtain ⟨a, z, rfl, g, q⟩ := h
  cases rx
  exact PyProof.Rows.tail_any (dict_typeIs I g) PySem.F.slot_dict_getitem.lookup (d_getItem hu I g ry fun w' s3 I3 rw' => ⟨z, H, I3, rw', q⟩) hs
def pIxD : PV → PV → M PV
  | .dK l, q => liftO (keyP q) >>= fun k => liftO (dGet l k)
  | .dT l, .tup ks => liftO (keysP ks) >>= fun k => liftO (dGet l k)
  | p, q => pIx p q
theorem dget_con {K : Fg} {ah : Option Addr} {F : Addr → Prop} {H : Hp} {x y : V} {l : List (Key × PV)} {q z : PV} {k : Key} (c : Con K ah F H x (.dK l)) (d : Con K ah F H y q) (ek : keyP q = some k) (e : dGet l k = some z) : ∃ a v, x = .ref a ∧ DGet H a y (some v) ∧ Rep K ah F H v z := by
  obtain ⟨a, kvs, rfl, h, _, e1, r⟩ := c.dK
  obtain ⟨v, h1, h2⟩ := get_some e1 r e
  refine ⟨a, v, rfl, ?_, h2⟩
  rw [keyP_con d ek, ← h1]
  exact DGet.k h
theorem dgetT_con {K : Fg} {ah : Option Addr} {F : Addr → Prop} {H : Hp} {x y : V} {l : List (List Key × PV)} {q : List PV} {z : PV} {k : List Key} (c : Con K ah F H x (.dT l)) (d : Con K ah F H y (.tup q)) (ek : keysP q = some k) (e : dGet l k = some z) : ∃ a v, x = .ref a ∧ DGet H a y (some v) ∧ Rep K ah F H v z := by
  obtain ⟨a, kvs, rfl, h, _, e1, r⟩ := c.dT
  obtain ⟨v, h1, h2⟩ := get_some e1 r e
  obtain ⟨b, vs, rfl, hb, _, rb⟩ := d.tup
  rw [keysP_reps rb ek] at hb
  refine ⟨a, v, rfl, ?_, h2⟩
  rw [← h1]
  exact DGet.t h hb
section
variable {X : Cx}
theorem ops_ixD : OpS X (fun x y H Q => rIx X.K x y H Q ∨ ∃ a v, x = .ref a ∧ DGet H a y (some v) ∧ Q v H) pIxD := fun ah F H hs hs' x y p q z Q G c d e k => by
  unfold pIxD at e
  split at e
  · obtain ⟨kk, h1, q1, q2⟩ := M.bind_ok e
    obtain ⟨e1, e2⟩ := M.lift_ok q1
    obtain ⟨e3, e4⟩ := M.lift_ok q2
    cases e2
    cases e4
    obtain ⟨a, v, ex, g, rv⟩ := dget_con c d e1 e3
    exact .inr ⟨a, v, ex, g, k F H v .refl G rv⟩
  · obtain ⟨kk, h1, q1, q2⟩ := M.bind_ok e
    obtain ⟨e1, e2⟩ := M.lift_ok q1
    obtain ⟨e3, e4⟩ := M.lift_ok q2
    cases e2
    cases e4
    obtain ⟨a, v, ex, g, rv⟩ := dgetT_con c d e1 e3
    exact .inr ⟨a, v, ex, g, k F H v .refl G rv⟩
  · exact .inl (ops_ix ah F H hs hs' x y _ _ z Q G c d e k)
/-! ### k in d -/
def pInD (neg : Bool) : PV → PV → M PV
  | q, .dK l => liftO (keyP q) >>= fun k => pure (.bl (neg ^^ (dGet l k).isSome))
  | .tup ks, .dT l => liftO (keysP ks) >>= fun k => pure (.bl (neg ^^ (dGet l k).isSome))
  | p, q => pInB neg p q
def rInDct (neg : Bool) : R2 := fun y x H Q => ∃ a o, x = .ref a ∧ DGet H a y o ∧ Q (.bl (neg ^^ o.isSome)) H
theorem op_inDct (hu : X.A.units + 1 < cLine) : OpR X (compareOp .In) (rInDct false) := by
  intro pins s σ H x y v u Q I rx ry h
  obtain ⟨a, o, rfl, g, q⟩ := h
  cases ry
  exact d_in hu I g rx fun s1 I1 => ⟨.bl o.isSome, H, I1, rfl, by simpa using q⟩
theorem op_notInDct (hu : X.A.units + 1 < cLine) : OpR X (compareOp .NotIn) (rInDct true) := by
  intro pins s σ H x y v u Q I rx ry h
  obtain ⟨a, o, rfl, g, q⟩ := h
  cases ry
  exact d_notIn hu I g rx fun s1 I1 => ⟨.bl (!o.isSome), H, I1, rfl, by simpa using q⟩
theorem ops_inD (neg : Bool) : OpS X (fun x y H Q => rIn X.K neg x y H Q ∨ rInDct neg x y H Q) (pInD neg) := fun ah F H hs hs' x y p q z Q G c d e k => by
  unfold pInD at e
  split at e
  · obtain ⟨kk, h1, q1, q2⟩ := M.bind_ok e
    obtain ⟨e1, e2⟩ := M.lift_ok q1
    cases e2
    cases M.pure_ok q2
    obtain ⟨a, kvs, rfl, h, _, e3, r⟩ := d.dK
    refine .inr ⟨a, valV kvs kk, rfl, ?_, by rw [get_is e3]; exact k F H _ .refl G (.bl _)⟩
    rw [keyP_con c e1]
    exact DGet.k h
  · obtain ⟨kk, h1, q1, q2⟩ := M.bind_ok e
    obtain ⟨e1, e2⟩ := M.lift_ok q1
    cases e2
    cases M.pure_ok q2
    obtain ⟨a, kvs, rfl, h, _, e3, r⟩ := d.dT
    obtain ⟨b, vs, rfl, hb, _, rb⟩ := c.tup
    rw [keysP_reps rb e1] at hb
    exact .inr ⟨a, valV kvs kk, rfl, DGet.t h hb, by rw [get_is e3]; exact k F H _ .refl G (.bl _)⟩
  · exact .inl (ops_in neg ah F H hs hs' x y _ _ z Q G c d e k)
theorem opr_inD (hu : X.A.units + 1 < cLine) : OpR X (compareOp .In) (fun x y H Q => rIn X.K false x y H Q ∨ rInDct false x y H Q) := op_in_seq.or (op_inDct hu)
theorem opr_notInD (hu : X.A.units + 1 < cLine) : OpR X (compareOp .NotIn) (fun x y H Q => rIn X.K true x y H Q ∨ rInDct true x y H Q) := op_notIn_seq.or (op_notInDct hu)
/-! ### {} -/
def gNewK : EM := fun _ => pure (.dK [])
def gNewT : EM := fun _ => pure (.dT [])
variable {e a b c : Expr} {p p1 p2 pos : Pos} {g ga gb gi : EM} {x : Str}
theorem sf_newK : SF X (.Dict [] [] pos) gNewK := PE.wk pe_dnewK fun σ H Q ⟨ah, F, N, ρ, hs, p, hs', G, E, q, k⟩ => by
  cases M.pure_ok q
  exact fun a n => k F _ a (.laid n) (G.laid n) n (G.nf n) (.dK upd_same (Nat.zero_le _) rfl .nil)
theorem sf_newT : SF X (.Dict [] [] pos) gNewT := PE.wk pe_dnewT fun σ H Q ⟨ah, F, N, ρ, hs, p, hs', G, E, q, k⟩ => by
  cases M.pure_ok q
  exact fun a n => k F _ a (.laid n) (G.laid n) n (G.nf n) (.dT upd_same (Nat.zero_le _) rfl .nil)
theorem se_ixD (hu : X.A.units + 1 < cLine) (ha : SB X a ga) (hb : SB X b gb) (hs : PlainIx b) : SE X (.Subscript a b pos) (gBin pIxD ga gb) := PE.wk (pe_ix (ix_seq.or (ix_dict hu)) ha hb hs) (bin_w ops_ixD)
/-! ### d[k] = v, d of this frame's own -/
def putP : Option Slot → PV → PV → M PV
  | some (.ow (.dK l)), y, p => liftO (keyP y) >>= fun k => guardM (l.length < SZ) (pure (.dK (dPut l k p)))
  | some (.ow (.dT l)), .tup ks, p => liftO (keysP ks) >>= fun k => guardM (l.length < SZ) (pure (.dT (dPut l k p)))
  | _, _, _ => stuck
def sSetD (i : Nat) (gi g : EM) : SM := fun ρ => do
  let p ← g ρ
  let y ← gi ρ
  let q ← putP ρ[i]? y p
  pure (.nx (ρ.set i (.ow q)))
theorem putP_ok {o : Option Slot} {y p : PV} {hs : HS} {r : PV × HS} (h : putP o y p hs = .ok r) : r.2 = hs ∧ ((∃ l k, o = some (.ow (.dK l)) ∧ keyP y = some k ∧ l.length < SZ ∧ r.1 = .dK (dPut l k p)) ∨ ∃ l ks k, o = some (.ow (.dT l)) ∧ y = .tup ks ∧ keysP ks = some k ∧ l.length < SZ ∧ r.1 = .dT (dPut l k p)) := by
  unfold putP at h
  split at h
  · obtain ⟨kk, h3, q3, q⟩ := M.bind_ok h
    obtain ⟨ek, e4⟩ := M.lift_ok q3
    obtain ⟨hz, q⟩ := guard_ok q
    cases M.pure_ok q
    cases e4
    exact ⟨rfl, .inl ⟨_, _, rfl, ek, hz, rfl⟩⟩
  · obtain ⟨kk, h3, q3, q⟩ := M.bind_ok h
    obtain ⟨ek, e4⟩ := M.lift_ok q3
    obtain ⟨hz, q⟩ := guard_ok q
    cases M.pure_ok q
    cases e4
    exact ⟨rfl, .inr ⟨_, _, _, rfl, rfl, ek, hz, rfl⟩⟩
  · cases h
theorem dput_w {i : Nat} (D : Ends) (σ : L2.St) (H : Hp) (h : tSS X.K (sSetD i gi g) D σ H) : tAsg (tS X.K g) (gSub (tVar i) (tS X.K gi) rSetD) D σ H := by
  obtain ⟨ah, F0, H0, F, ρ, hs, out, hs', I, q, f⟩ := h
  obtain ⟨p, h1, q1, q⟩ := M.bind_ok q
  obtain ⟨y, h2, q2, q⟩ := M.bind_ok q
  obtain ⟨u, h3, q3, q⟩ := M.bind_ok q
  cases M.pure_ok q
  obtain ⟨eh, gt⟩ := putP_ok q3
  cases eh
  have gt' : ∃ l, ρ[i]? = some (.ow l) := by
    rcases gt with ⟨l, k, e, _⟩ | ⟨l, ks, k, e, _⟩
    · exact ⟨_, e⟩
    · exact ⟨_, e⟩
  obtain ⟨l, e⟩ := gt'
  refine ⟨ah, F, _, ρ, _, p, _, I.gi, I.er, q1, fun F1 H1 v x1 G1 r1 => ?_⟩
  have I1 := I.step x1 G1
  obtain ⟨a, ea, _⟩ := I1.er.own e
  refine ⟨_, ea, ah, F1, _, ρ, _, _, _, I1.gi, I1.er, q2, fun F2 H2 v2 x2 G2 r2 => ?_⟩
  have I2 := I1.step x2 G2
  obtain ⟨a', ea', nf, na, n0, o⟩ := I2.er.own e
  rw [ea] at ea'
  cases ea'
  have rv := r1.mono (I1.gi.kp x2)
  rcases gt with ⟨l', kk, e', ek, hz, eu⟩ | ⟨l', ks, kk, e', ey, ek, hz, eu⟩
  · rw [e] at e'
    cases e'
    cases eu
    cases o with
    | @dK kvs _ hh z k r =>
      obtain ⟨p1, p2⟩ := put_rel (k := kk) k r rv
      have hl : kvs.length < sizeLine := by
        have := congrArg List.length k
        rw [List.length_map, List.length_map] at this
        rw [this, szE]; exact hz
      obtain ⟨I3, k3⟩ := I2.updO (u := .dK (putK kvs kk v)) (q0 := .dK (dPut l' kk p)) e ea nf na n0 hh trivial fun kp => .dK upd_same (by have := length_putK kvs kk v; omega) p1 (p2.mono kp)
      refine ⟨a, _, rfl, ?_, f F2 _ σ I3 (((I.gi.kp x1).trans (I1.gi.kp x2)).trans k3)⟩
      rw [keyP_con (.rep r2) ek]
      exact DPut.k hh hl
  · rw [e] at e'
    cases e'
    cases eu
    cases ey
    cases o with
    | @dT kvs _ hh z k r =>
      obtain ⟨p1, p2⟩ := put_rel (k := kk) k r rv
      have hl : kvs.length < sizeLine := by
        have := congrArg List.length k
        rw [List.length_map, List.length_map] at this
        rw [this, szE]; exact hz
      obtain ⟨I3, k3⟩ := I2.updO (u := .dT (putK kvs kk v)) (q0 := .dT (dPut l' kk p)) e ea nf na n0 hh trivial fun kp => .dT upd_same (by have := length_putK kvs kk v; omega) p1 (p2.mono kp)
      cases r2 with
      | tup hb zb rb =>
        rw [keysP_reps rb ek] at hb
        exact ⟨a, _, rfl, DPut.t hh hb hl, f F2 _ σ I3 (((I.gi.kp x1).trans (I1.gi.kp x2)).trans k3)⟩
theorem ss_setD {i : Nat} (hu : X.A.units + 1 < cLine) (hx : PE X (.Name x p) (tVar i)) (hi : SE X a gi) (he : SE X e g) (hs : swapsWithSole [.Subscript (.Name x p) a p1] e pos.line X.env = pure false := by rfl) (hw : swappedStores [.Subscript (.Name x p) a p1] e X.env = pure none := by rfl)
    (h1 : (assignEach [.Subscript (.Name x p) a p1] X.env).map (·.2) = [assign (.Subscript (.Name x p) a p1) X.env] := by rfl)
    (ha : ∀ v, assign (.Subscript (.Name x p) a p1) X.env v = (do
      let ov ← holding [v] (eval (.Name x p) X.env)
      let iv ← holding [v, ov] (eval a X.env)
      standAt p1
      holding [v, ov, iv] (setItem ov iv v)
      release [v, ov, iv] []) := by intro _; rfl) : SS X (.Assign [.Subscript (.Name x p) a p1] e pos) (sSetD i gi g) := PS.wk (ps_asg he (pg_sub hx hi (set_dict hu) ha) hs hw h1) dput_w
end
end SL

end
section
/-! SLr: walks: range down, enumerate -/
namespace SL
open PySem PySem.Spec PyProof.Rows L2
def down (lo : Int) (n : Nat) : List PV := (List.range n).map fun (i : Nat) => PV.int (lo - i)
def iDown (gs : Ev → M (List PV)) : IM := fun ρ => do
  let xs ← gs ρ
  match xs with
  | [.int i, .int j, .int c] => guardM (c = -1 ∧ -(2 ^ 62) ≤ i ∧ i < 2 ^ 62 ∧ -(2 ^ 62) ≤ j ∧ j < 2 ^ 62 ∧ (i - j).toNat ≤ SZ) (pure (down i (i - j).toNat))
  | _ => stuck
section
variable {K : Fg} {ah : Option Addr} {F : Addr → Prop} {H : Hp} {a : Addr} {vs : List V} {ps : List PV}
theorem itw_down {lo : Int} {n : Nat} : ItW K ah F H (Itc lo (-1) n) (down lo n) := by
  refine ⟨fun i F1 H1 kp hi => ?_, fun F1 H1 kp => ?_, fun i F1 H1 hs x H2 kp g hi y => ?_⟩
  · have h : i < n := by simpa [down] using hi
    exact h
  · show n ≤ _
    simp [down]
  · obtain ⟨e, y⟩ := y
    subst e y
    have hi : i < n := by simpa [down] using hi
    refine ⟨.int (lo - i), by simp [down, hi], .refl, g, ?_⟩
    have e : lo + (i : Int) * (-1) = lo - i := by omega
    rw [e]
    exact .int _
theorem itw_enum (f : F a) (h : H a = some (.lst vs)) (r : Reps K ah F H vs ps) : ItW K ah F H (Ite K a) (((rng 0 ps.length).zip ps).map fun t => .tup [t.1, t.2]) := by
  have hl : (((rng 0 ps.length).zip ps).map fun t : PV × PV => PV.tup [t.1, t.2]).length = ps.length := by simp [rng]
  refine ⟨fun i F1 H1 kp hi => ?_, fun F1 H1 kp => ?_, fun i F1 H1 hs x H2 kp g hi y => ?_⟩
  · rw [hl] at hi
    have h1 : i < vs.length := by rw [r.length]; exact hi
    exact ⟨vs, vs[i], .of (kp.keep _ _ f h), by simp [h1]⟩
  · exact ⟨vs, .of (kp.keep _ _ f h), by rw [hl, r.length]; exact Nat.le_refl _⟩
  · rw [hl] at hi
    obtain ⟨T, x', rfl, n, rfl, y⟩ := y
    obtain ⟨p, h1, h2⟩ := (r.mono kp).getV (y vs (.of (kp.keep _ _ f h)))
    refine ⟨.tup [.int i, p], ?_, .laid n, g.laid n, .tup upd_same (by rw [szE]; show 2 ≤ SZ; decide) (.cons (.int _) (.cons (h2.mono (g.kpL n)) .nil))⟩
    rw [List.getElem?_map]
    have : ((rng 0 ps.length).zip ps)[i]? = some (.int i, p) := by
      rw [List.getElem?_zip_eq_some]
      exact ⟨by simp [rng, hi], h1⟩
    rw [this]; rfl
end
theorem si_down {X : Cx} {tg a b c : Expr} {gs : Ev → M (List PV)} {p pos : Pos} (hm : X.mg "range" = none) (ha : SA X [a, b, c] gs) (hg : Gl X "range" := by rfl) (hs : starEach [a, b, c] X.env = (false, eval a X.env) :: starEach [b, c] X.env := by rfl) (hpl : (backTo pos (starEach [b, c] X.env)).any (·.1) = false := by rfl) (hn : Rows gs 3) :
    SI X tg (.Call (.Name "range" p) [a, b, c] [] pos) (iDown gs) :=
  PI.wk (pi_range3 hg hm ha hs hpl) fun σ H R ⟨ah, F, N, ρ, hs, ps, hs', G, E, q, k⟩ => by
    obtain ⟨x, h1, q1, q⟩ := M.bind_ok q
    refine ⟨ah, F, N, ρ, hs, x, h1, G, E, q1, fun F1 H1 v1 x1 G1 r1 => ?_⟩
    have hl := hn _ _ _ _ q1
    match x, hl with
    | [y, y2, y3], _ =>
      cases y <;> first | (cases q; done) | skip
      cases y2 <;> first | (cases q; done) | skip
      cases y3 <;> first | (cases q; done) | skip
      obtain ⟨hb, q⟩ := guard_ok q
      cases M.pure_ok q
      cases r1 with
      | cons r t =>
        cases t with
        | cons r2 t =>
          cases t with
          | cons r3 t =>
            cases t
            cases r
            cases r2
            cases r3
            obtain ⟨rfl, b1, b2, b3, b4, b5⟩ := hb
            refine ⟨_, _, _, _, rfl, RgC.neg b1 b2 b3 b4, k F1 H1 _ x1 G1 itw_down ?_⟩
            rw [szE]
            show (List.map _ _).length ≤ _
            rw [List.length_map, List.length_range]
            exact b5
def iEnumL (gs : Ev → M (List PV)) : IM := fun ρ => do
  let xs ← gs ρ
  match xs with
  | [.lst l] => pure (((rng 0 l.length).zip l).map fun t => .tup [t.1, t.2])
  | _ => stuck
theorem si_enum {X : Cx} {e : Expr} {gs : Ev → M (List PV)} {p pos tpos : Pos} {elts : List Expr} {kk : Nat} (hm : X.mg "enumerate" = none) (ha : SA X [e] gs) (hg : Gl X "enumerate" := by rfl) (hs : starEach [e] X.env = [(false, eval e X.env)] := by rfl) (hn : Rows gs 1) :
    SI X (.Tuple elts kk tpos) (.Call (.Name "enumerate" p) [e] [] pos) (iEnumL gs) :=
  PI.wk (pi_enum hg hm ha hs) fun σ H R ⟨ah, F, N, ρ, hs, ps, hs', G, E, q, k⟩ => by
    obtain ⟨x, h1, q1, q⟩ := M.bind_ok q
    refine ⟨ah, F, N, ρ, hs, x, h1, G, E, q1, fun F1 H1 v1 x1 G1 r1 => ?_⟩
    have hl := hn _ _ _ _ q1
    match x, hl with
    | [y], _ =>
      cases y <;> first | (cases q; done) | skip
      cases M.pure_ok q
      cases r1 with
      | cons r t =>
        cases t
        cases r with
        | lst f h z r =>
          refine ⟨_, _, rfl, .of h, k F1 H1 _ x1 G1 (itw_enum f h r) ?_⟩
          rw [List.length_map, List.length_zip]
          have := r.length
          omega
end SL
namespace SL
theorem hu1 {n : Nat} (h : n + 64 < PySem.cLine) : n + 1 < PySem.cLine := by omega
end SL

end
section
namespace SLP
open PySem PySem.Spec PyProof.Rows L2 SL
/-! the text -/
def topS (i : Nat) : Stmt := PySem.Challenge.pw_siegeworks_k82_whole_hours_and_hides.main.body.getD i (.Pass ⟨0, 0, 0, 0⟩)
/-- is_integer -/
abbrev s_is_integer : Stmt := topS 1
abbrev n_is_integer : List Str := ["thing"]
theorem sc_is_integer : FnScope n_is_integer ["thing"] (defScope s_is_integer) := ⟨rfl, rfl, rfl, by decide +kernel, rfl, by decide +kernel, by decide +kernel⟩
/-- is_within -/
abbrev s_is_within : Stmt := topS 2
abbrev n_is_within : List Str := ["thing", "low", "high"]
theorem sc_is_within : FnScope n_is_within ["thing", "low", "high"] (defScope s_is_within) := ⟨rfl, rfl, rfl, by decide +kernel, rfl, by decide +kernel, by decide +kernel⟩
/-- is_sized -/
abbrev s_is_sized : Stmt := topS 3
abbrev n_is_sized : List Str := ["thing", "low", "high"]
theorem sc_is_sized : FnScope n_is_sized ["thing", "low", "high"] (defScope s_is_sized) := ⟨rfl, rfl, rfl, by decide +kernel, rfl, by decide +kernel, by decide +kernel⟩
/-- is_lot -/
abbrev s_is_lot : Stmt := topS 4
abbrev n_is_lot : List Str := ["thing", "many", "one", "other"]
theorem sc_is_lot : FnScope n_is_lot ["thing", "many"] (defScope s_is_lot) := ⟨rfl, rfl, rfl, by decide +kernel, rfl, by decide +kernel, by decide +kernel⟩
/-- all_lots -/
abbrev s_all_lots : Stmt := topS 5
abbrev n_all_lots : List Str := ["some", "found", "one", "size", "lot"]
theorem sc_all_lots : FnScope n_all_lots ["some"] (defScope s_all_lots) := ⟨rfl, rfl, rfl, by decide +kernel, rfl, by decide +kernel, by decide +kernel⟩
/-- is_river -/
abbrev s_is_river : Stmt := topS 18
abbrev n_is_river : List Str := ["thing"]
theorem sc_is_river : FnScope n_is_river ["thing"] (defScope s_is_river) := ⟨rfl, rfl, rfl, by decide +kernel, rfl, by decide +kernel, by decide +kernel⟩
/-- check_river -/
abbrev s_check_river : Stmt := topS 19
abbrev n_check_river : List Str := ["thing"]
theorem sc_check_river : FnScope n_check_river ["thing"] (defScope s_check_river) := ⟨rfl, rfl, rfl, by decide +kernel, rfl, by decide +kernel, by decide +kernel⟩
/-- is_through -/
abbrev s_is_through : Stmt := topS 20
abbrev n_is_through : List Str := ["river", "stand"]
theorem sc_is_through : FnScope n_is_through ["river", "stand"] (defScope s_is_through) := ⟨rfl, rfl, rfl, by decide +kernel, rfl, by decide +kernel, by decide +kernel⟩
/-- is_over -/
abbrev s_is_over : Stmt := topS 21
abbrev n_is_over : List Str := ["river", "stand"]
theorem sc_is_over : FnScope n_is_over ["river", "stand"] (defScope s_is_over) := ⟨rfl, rfl, rfl, by decide +kernel, rfl, by decide +kernel, by decide +kernel⟩
/-- raw_moves -/
abbrev s_raw_moves : Stmt := topS 22
abbrev n_raw_moves : List Str := ["river", "stand", "here", "far", "place"]
theorem sc_raw_moves : FnScope n_raw_moves ["river", "stand"] (defScope s_raw_moves) := ⟨rfl, rfl, rfl, by decide +kernel, rfl, by decide +kernel, by decide +kernel⟩
/-- raw_behind -/
abbrev s_raw_behind : Stmt := topS 23
abbrev n_raw_behind : List Str := ["stand", "place", "hour", "boat", "watch", "whose"]
theorem sc_raw_behind : FnScope n_raw_behind ["stand", "place"] (defScope s_raw_behind) := ⟨rfl, rfl, rfl, by decide +kernel, rfl, by decide +kernel, by decide +kernel⟩
/-- through_stands -/
abbrev s_through_stands : Stmt := topS 24
abbrev n_through_stands : List Str := ["river", "found", "hour", "n", "hides", "hours", "reach", "whose", "boat", "watch", "stand", "there", "place"]
theorem sc_through_stands : FnScope n_through_stands ["river"] (defScope s_through_stands) := ⟨rfl, rfl, rfl, by decide +kernel, rfl, by decide +kernel, by decide +kernel⟩
/-- check_place -/
abbrev s_check_place : Stmt := topS 25
abbrev n_check_place : List Str := ["river", "place"]
theorem sc_check_place : FnScope n_check_place ["river", "place"] (defScope s_check_place) := ⟨rfl, rfl, rfl, by decide +kernel, rfl, by decide +kernel, by decide +kernel⟩
/-- least_hours_for -/
abbrev s_least_hours_for : Stmt := topS 26
abbrev n_least_hours_for : List Str := ["river", "watch", "hours", "there"]
theorem sc_least_hours_for : FnScope n_least_hours_for ["river", "watch"] (defScope s_least_hours_for) := ⟨rfl, rfl, rfl, by decide +kernel, rfl, by decide +kernel, by decide +kernel⟩
/-- raw_barring -/
abbrev s_raw_barring : Stmt := topS 27
abbrev n_raw_barring : List Str := ["river", "known", "watch"]
theorem sc_raw_barring : FnScope n_raw_barring ["river"] (defScope s_raw_barring) := ⟨rfl, rfl, rfl, by decide +kernel, rfl, by decide +kernel, by decide +kernel⟩
/-- barring_places -/
abbrev s_barring_places : Stmt := topS 28
abbrev n_barring_places : List Str := ["river"]
theorem sc_barring_places : FnScope n_barring_places ["river"] (defScope s_barring_places) := ⟨rfl, rfl, rfl, by decide +kernel, rfl, by decide +kernel, by decide +kernel⟩
/-- raw_hides -/
abbrev s_raw_hides : Stmt := topS 29
abbrev n_raw_hides : List Str := ["river", "hides"]
theorem sc_raw_hides : FnScope n_raw_hides ["river", "hides"] (defScope s_raw_hides) := ⟨rfl, rfl, rfl, by decide +kernel, rfl, by decide +kernel, by decide +kernel⟩
/-- most_hides -/
abbrev s_most_hides : Stmt := topS 30
abbrev n_most_hides : List Str := ["river", "left", "lot", "place"]
theorem sc_most_hides : FnScope n_most_hides ["river"] (defScope s_most_hides) := ⟨rfl, rfl, rfl, by decide +kernel, rfl, by decide +kernel, by decide +kernel⟩
/-- with_hides -/
abbrev s_with_hides : Stmt := topS 31
abbrev n_with_hides : List Str := ["river", "hides"]
theorem sc_with_hides : FnScope n_with_hides ["river", "hides"] (defScope s_with_hides) := ⟨rfl, rfl, rfl, by decide +kernel, rfl, by decide +kernel, by decide +kernel⟩
/-- _law_hand -/
abbrev s__law_hand : Stmt := topS 33
abbrev n__law_hand : List Str := ["script", "cells", "cell"]
theorem sc__law_hand : FnScope n__law_hand ["script"] (defScope s__law_hand) := ⟨rfl, rfl, rfl, by decide +kernel, rfl, by decide +kernel, by decide +kernel⟩
/-- _law_draw -/
abbrev s__law_draw : Stmt := topS 34
abbrev n__law_draw : List Str := ["hand", "many", "number", "cell", "figure"]
theorem sc__law_draw : FnScope n__law_draw ["hand", "many"] (defScope s__law_draw) := ⟨rfl, rfl, rfl, by decide +kernel, rfl, by decide +kernel, by decide +kernel⟩
/-- _law_river -/
abbrev s__law_river : Stmt := topS 35
abbrev n__law_river : List Str := ["hand", "places", "most", "n", "hides", "place"]
theorem sc__law_river : FnScope n__law_river ["hand", "places", "most"] (defScope s__law_river) := ⟨rfl, rfl, rfl, by decide +kernel, rfl, by decide +kernel, by decide +kernel⟩
/-- _law_end -/
abbrev s__law_end : Stmt := topS 36
abbrev n__law_end : List Str := ["river", "stand", "n", "hides", "hours", "reach", "hour", "boat", "watch", "whose"]
theorem sc__law_end : FnScope n__law_end ["river", "stand"] (defScope s__law_end) := ⟨rfl, rfl, rfl, by decide +kernel, rfl, by decide +kernel, by decide +kernel⟩
/-- _law_moves -/
abbrev s__law_moves : Stmt := topS 37
abbrev n__law_moves : List Str := ["river", "stand", "n", "hides", "hours", "reach", "here", "far", "place"]
theorem sc__law_moves : FnScope n__law_moves ["river", "stand"] (defScope s__law_moves) := ⟨rfl, rfl, rfl, by decide +kernel, rfl, by decide +kernel, by decide +kernel⟩
/-- _law_next -/
abbrev s__law_next : Stmt := topS 38
abbrev n__law_next : List Str := ["stand", "place", "hour", "boat", "watch", "whose"]
theorem sc__law_next : FnScope n__law_next ["stand", "place"] (defScope s__law_next) := ⟨rfl, rfl, rfl, by decide +kernel, rfl, by decide +kernel, by decide +kernel⟩
/-- _law_wins -/
abbrev s__law_wins : Stmt := topS 39
abbrev n__law_wins : List Str := ["river", "found", "hour", "n", "hides", "hours", "reach", "whose", "boat", "watch", "stand", "some", "place"]
theorem sc__law_wins : FnScope n__law_wins ["river"] (defScope s__law_wins) := ⟨rfl, rfl, rfl, by decide +kernel, rfl, by decide +kernel, by decide +kernel⟩
/-- _law_is -/
abbrev s__law_is : Stmt := topS 40
abbrev n__law_is : List Str := ["told", "due", "key", "one", "two"]
theorem sc__law_is : FnScope n__law_is ["told", "due"] (defScope s__law_is) := ⟨rfl, rfl, rfl, by decide +kernel, rfl, by decide +kernel, by decide +kernel⟩
/-- _law_barring -/
abbrev s__law_barring : Stmt := topS 41
abbrev n__law_barring : List Str := ["river", "wins", "watch"]
theorem sc__law_barring : FnScope n__law_barring ["river"] (defScope s__law_barring) := ⟨rfl, rfl, rfl, by decide +kernel, rfl, by decide +kernel, by decide +kernel⟩
/-- _law_lots -/
abbrev s__law_lots : Stmt := topS 42
abbrev n__law_lots : List Str := ["some", "found", "one", "size", "lot"]
theorem sc__law_lots : FnScope n__law_lots ["some"] (defScope s__law_lots) := ⟨rfl, rfl, rfl, by decide +kernel, rfl, by decide +kernel, by decide +kernel⟩
/-- law -/
abbrev s_law : Stmt := topS 43
abbrev n_law : List Str := ["script", "hand", "turn", "river", "many", "bars", "best", "lot", "more", "n", "hides", "hours", "reach", "watch", "least", "there", "place"]
theorem sc_law : FnScope n_law ["script"] (defScope s_law) := ⟨rfl, rfl, rfl, by decide +kernel, rfl, by decide +kernel, by decide +kernel⟩
structure Tp (K : Fg) (mg : Str → Option Value) : Prop where
  b_abs : mg "abs" = none
  b_all : mg "all" = none
  b_any : mg "any" = none
  b_bool : mg "bool" = none
  b_dict : mg "dict" = none
  b_int : mg "int" = none
  b_isinstance : mg "isinstance" = none
  b_len : mg "len" = none
  b_list : mg "list" = none
  b_range : mg "range" = none
  b_sorted : mg "sorted" = none
  b_str : mg "str" = none
  b_tuple : mg "tuple" = none
  b_zip : mg "zip" = none
  c_MOST_PLACES : ∃ t, mg "MOST_PLACES" = some (.int 7 t)
  c_LEAST_PLACES : ∃ t, mg "LEAST_PLACES" = some (.int 2 t)
  c_MOST_HOURS : ∃ t, mg "MOST_HOURS" = some (.int 12 t)
  c_MOST_REACH : ∃ t, mg "MOST_REACH" = some (.int 2 t)
  c_BOAT : ∃ t, mg "BOAT" = some (.str "boat" t)
  c_WATCH : ∃ t, mg "WATCH" = some (.str "watch" t)
  f_is_integer : Fn K mg "is_integer" s_is_integer ["thing"]
  f_is_within : Fn K mg "is_within" s_is_within ["thing", "low", "high"]
  f_is_sized : Fn K mg "is_sized" s_is_sized ["thing", "low", "high"]
  f_is_lot : Fn K mg "is_lot" s_is_lot ["thing", "many"]
  f_all_lots : Fn K mg "all_lots" s_all_lots ["some"]
  f_is_river : Fn K mg "is_river" s_is_river ["thing"]
  f_check_river : Fn K mg "check_river" s_check_river ["thing"]
  f_is_through : Fn K mg "is_through" s_is_through ["river", "stand"]
  f_is_over : Fn K mg "is_over" s_is_over ["river", "stand"]
  f_raw_moves : Fn K mg "raw_moves" s_raw_moves ["river", "stand"]
  f_raw_behind : Fn K mg "raw_behind" s_raw_behind ["stand", "place"]
  f_through_stands : Fn K mg "through_stands" s_through_stands ["river"]
  f_check_place : Fn K mg "check_place" s_check_place ["river", "place"]
  f_least_hours_for : Fn K mg "least_hours_for" s_least_hours_for ["river", "watch"]
  f_raw_barring : Fn K mg "raw_barring" s_raw_barring ["river"]
  f_barring_places : Fn K mg "barring_places" s_barring_places ["river"]
  f_raw_hides : Fn K mg "raw_hides" s_raw_hides ["river", "hides"]
  f_most_hides : Fn K mg "most_hides" s_most_hides ["river"]
  f_with_hides : Fn K mg "with_hides" s_with_hides ["river", "hides"]
  f__law_hand : Fn K mg "_law_hand" s__law_hand ["script"]
  f__law_draw : Fn K mg "_law_draw" s__law_draw ["hand", "many"]
  f__law_river : Fn K mg "_law_river" s__law_river ["hand", "places", "most"]
  f__law_end : Fn K mg "_law_end" s__law_end ["river", "stand"]
  f__law_moves : Fn K mg "_law_moves" s__law_moves ["river", "stand"]
  f__law_next : Fn K mg "_law_next" s__law_next ["stand", "place"]
  f__law_wins : Fn K mg "_law_wins" s__law_wins ["river"]
  f__law_is : Fn K mg "_law_is" s__law_is ["told", "due"]
  f__law_barring : Fn K mg "_law_barring" s__law_barring ["river"]
  f__law_lots : Fn K mg "_law_lots" s__law_lots ["some"]
section
variable {P : Program} {w : World} {K : Fg} {mg : Str → Option Value} {base : Heap}
def b_is_integer : SM := (sRet (gAnd (gIsi [.int] (gVarB 0)) (gNot (gIsi [.bool] (gVarB 0)))))
def m_is_integer : List PV → M PV := fnM 1 b_is_integer
theorem u_is_integer (a0 : PV) : m_is_integer [a0] = (b_is_integer [.fz a0] >>= fin) := fn_u
theorem k_is_integer (T : Tp K mg) : Known P w K mg base "is_integer" 1 1 m_is_integer := by
  obtain ⟨f, fd, hm, Fu, b⟩ := T.f_is_integer
  exact known (k := 0) hm Fu b sc_is_integer rfl fun cdv A outer s H E hr =>
  (sss_one (by exact (ss_ret (se_and (se_isi (c := .int) (sb_var (pv 0)) (cl_int T.b_int) T.b_isinstance) (se_one (se_not (se_isi (c := .bool) (sb_var (pv 0)) (cl_bool T.b_bool) T.b_isinstance)))))))
def b_is_within : SM := (sRet (gAnd (gB m_is_integer (gCons (gVar 0) gNil)) (gChain pLe pLe (gVarB 1) (gVarB 0) (gVarB 2))))
def m_is_within : List PV → M PV := fnM 3 b_is_within
theorem u_is_within (a0 a1 a2 : PV) : m_is_within [a0, a1, a2] = (b_is_within [.fz a0, .fz a1, .fz a2] >>= fin) := fn_u
theorem k_is_within (T : Tp K mg) : Known P w K mg base "is_within" 3 2 m_is_within := by
  obtain ⟨f, fd, hm, Fu, b⟩ := T.f_is_within
  exact known (k := 1) hm Fu b sc_is_within rfl fun cdv A outer s H E hr =>
  (sss_one (by exact (ss_ret (se_and (se_call (k_is_integer T) (hr.mono (by decide)) (sa_cons (se_var (pv 0)) sa_nil) (rows_cons rows_nil)) (se_one (se_chain op_le op_le ops_le ops_le (sb_var (pv 1)) (sb_var (pv 0)) (sb_var (pv 2))))))))
def b_is_sized : SM := (sRet (gAnd (gIsi [.tuple] (gVarB 0)) (gChain pLe pLe (gVarB 1) (gB pLen (gCons (gVarB 0) gNil)) (gVarB 2))))
def m_is_sized : List PV → M PV := fnM 3 b_is_sized
theorem u_is_sized (a0 a1 a2 : PV) : m_is_sized [a0, a1, a2] = (b_is_sized [.fz a0, .fz a1, .fz a2] >>= fin) := fn_u
theorem k_is_sized (T : Tp K mg) : Known P w K mg base "is_sized" 3 1 m_is_sized := by
  obtain ⟨f, fd, hm, Fu, b⟩ := T.f_is_sized
  exact known (k := 0) hm Fu b sc_is_sized rfl fun cdv A outer s H E hr =>
  (sss_one (by exact (ss_ret (se_and (se_isi (c := .tuple) (sb_var (pv 0)) (cl_tuple T.b_tuple) T.b_isinstance) (se_one (se_chain op_le op_le ops_le ops_le (sb_var (pv 1)) (SE.sb (se_len T.b_len (sab_cons (sb_var (pv 0)) sab_nil))) (sb_var (pv 2))))))))
def b_is_lot : SM := (sSeq (sIf (gOrT (gNotT (gTru (gIsi [.tuple] (gVarB 0)))) (gNotT (gTru (gB pAll (gCons (gLc (iSeq (gVar 0)) (tgName 2) gYes (gB m_is_within (gCons (gVar 2) (gCons (gC (.int 0)) (gCons (gBin pSub (gVarB 1) (gC (.int 1))) gNil)))) [2]) gNil))))) (sRet (gC (.bl false))) sNx)
  (sRet (gB pAll (gCons (gLc (iZip2 (gVar 0) (gSl (gVarB 0) (oSome (gC (.int 1))) oNone)) (tgTup 2 (tgCons (tgName 2) (tgCons (tgName 3) tgNil))) gYes (gBin pLt (gVarB 2) (gVarB 3)) [2, 3]) gNil))))
def m_is_lot : List PV → M PV := fnM 4 b_is_lot
theorem u_is_lot (a0 a1 : PV) : m_is_lot [a0, a1] = (b_is_lot [.fz a0, .fz a1, .un, .un] >>= fin) := fn_u
theorem k_is_lot (T : Tp K mg) : Known P w K mg base "is_lot" 2 3 m_is_lot := by
  obtain ⟨f, fd, hm, Fu, b⟩ := T.f_is_lot
  exact known (k := 2) hm Fu b sc_is_lot rfl fun cdv A outer s H E hr =>
  (sss_cons (by exact (ss_if (st_w (sw_or (st_not (st_tru (SE.sb (se_isi (c := .tuple) (sb_var (pv 0)) (cl_tuple T.b_tuple) T.b_isinstance)))) (sw_or1 (st_not (st_tru (SE.sb (se_all T.b_all (sab_cons (SE.sb (SF.se (sf_lc (own := [("one", 2)]) (is := [2]) sc_is_lot.nd (blkOk_by (N := n_is_lot) (sc := (defScope s_is_lot)) (by decide +kernel)) (si_seq (se_var (pv 0))) (fun _ _ _ _ _ => (sg_name (pg_name (i := 2) sc_is_lot.nd rfl (by first | exact Or.inl rfl | exact Or.inr rfl)))) (fun _ _ _ _ _ => sts_nil) (fun _ _ _ _ _ => (se_call (k_is_within T) (hr.mono (by decide)) (sa_cons (se_var (pv 2)) (sa_cons se_int (sa_cons (se_op op_sub ops_sub (sb_var (pv 1)) (SE.sb se_int)) sa_nil))) (rows_cons (rows_cons (rows_cons rows_nil)))))))) sab_nil)))))))) (sss_one (by exact (ss_ret se_bl))) sss_nil))
  (sss_one (by exact (ss_ret (se_all T.b_all (sab_cons (SE.sb (SF.se (sf_lc (own := [("one", 2), ("other", 3)]) (is := [2, 3]) sc_is_lot.nd (blkOk_by (N := n_is_lot) (sc := (defScope s_is_lot)) (by decide +kernel)) (si_zip T.b_zip (se_var (pv 0)) (se_sl (sb_var (pv 0)) (so_some (SE.sb se_int)) so_none)) (fun _ _ _ _ _ => (sg_tup rfl (sgs_cons (sg_name (pg_name (i := 2) sc_is_lot.nd rfl (by first | exact Or.inl rfl | exact Or.inr rfl))) (sgs_cons (sg_name (pg_name (i := 3) sc_is_lot.nd rfl (by first | exact Or.inl rfl | exact Or.inr rfl))) sgs_nil)))) (fun _ _ _ _ _ => sts_nil) (fun _ _ _ _ _ => (se_cmp (opr_lt hr.units0) ops_lt (sb_var (pv 2)) (sb_var (pv 3)) (nomark _)))))) sab_nil))))))
def b_all_lots : SM := (sSeq (sAsg (gLst (gCons (gTup gNil) gNil)) (tgName 1))
  (sSeq (sFor (iSeq (gVar 0)) (tgName 2) (sAsg (gBin pAdd (gVarB 1) (gLc (iSeq (gVar 1)) (tgName 4) gYes (gBin pAdd (gVarB 4) (gTup (gCons (gVar 2) gNil))) [4])) (tgName 1)))
  (sRet (gLc (iSeq (gB pSorted (gCons (gLc (iSeq (gVar 1)) (tgName 4) gYes (gTup (gCons (gB pLen (gCons (gVarB 4) gNil)) (gCons (gVar 4) gNil))) [4]) gNil))) (tgTup 2 (tgCons (tgName 3) (tgCons (tgName 4) tgNil))) gYes (gVar 4) [3, 4]))))
def m_all_lots : List PV → M PV := fnM 5 b_all_lots
theorem u_all_lots (a0 : PV) : m_all_lots [a0] = (b_all_lots [.fz a0, .un, .un, .un, .un] >>= fin) := fn_u
theorem k_all_lots (T : Tp K mg) : Known P w K mg base "all_lots" 1 1 m_all_lots := by
  obtain ⟨f, fd, hm, Fu, b⟩ := T.f_all_lots
  exact known (k := 0) hm Fu b sc_all_lots rfl fun cdv A outer s H E hr =>
  (sss_cons (by exact (ss_asg (SF.se (sf_lst (sa_cons (se_tup sa_nil) sa_nil))) (sg_name (pg_name (i := 1) sc_all_lots.nd rfl (by first | exact Or.inl rfl | exact Or.inr rfl)))))
  (sss_cons (by exact (ss_for PassesOwn.never (si_seq (se_var (pv 0))) (sg_name (pg_name (i := 2) sc_all_lots.nd rfl (by first | exact Or.inl rfl | exact Or.inr rfl))) (sss_one (by exact (ss_asg (se_op opr_add ops_add (sb_var (pv 1)) (SE.sb (SF.se (sf_lc (own := [("lot", 4)]) (is := [4]) sc_all_lots.nd (blkOk_by (N := n_all_lots) (sc := (defScope s_all_lots)) (by decide +kernel)) (si_seq (se_var (pv 1))) (fun _ _ _ _ _ => (sg_name (pg_name (i := 4) sc_all_lots.nd rfl (by first | exact Or.inl rfl | exact Or.inr rfl)))) (fun _ _ _ _ _ => sts_nil) (fun _ _ _ _ _ => (se_op opr_add ops_add (sb_var (pv 4)) (SE.sb (se_tup (sa_cons (se_var (pv 2)) sa_nil))))))))) (sg_name (pg_name (i := 1) sc_all_lots.nd rfl (by first | exact Or.inl rfl | exact Or.inr rfl))))))))
  (sss_one (by exact (ss_ret (SF.se (sf_lc (own := [("size", 3), ("lot", 4)]) (is := [3, 4]) sc_all_lots.nd (blkOk_by (N := n_all_lots) (sc := (defScope s_all_lots)) (by decide +kernel)) (si_seq (SF.se (sf_sorted hr.units T.b_sorted (sab_cons (SE.sb (SF.se (sf_lc (own := [("lot", 4)]) (is := [4]) sc_all_lots.nd (blkOk_by (N := n_all_lots) (sc := (defScope s_all_lots)) (by decide +kernel)) (si_seq (se_var (pv 1))) (fun _ _ _ _ _ => (sg_name (pg_name (i := 4) sc_all_lots.nd rfl (by first | exact Or.inl rfl | exact Or.inr rfl)))) (fun _ _ _ _ _ => sts_nil) (fun _ _ _ _ _ => (se_tup (sa_cons (se_len T.b_len (sab_cons (sb_var (pv 4)) sab_nil)) (sa_cons (se_var (pv 4)) sa_nil))))))) sab_nil)))) (fun _ _ _ _ _ => (sg_tup rfl (sgs_cons (sg_name (pg_name (i := 3) sc_all_lots.nd rfl (by first | exact Or.inl rfl | exact Or.inr rfl))) (sgs_cons (sg_name (pg_name (i := 4) sc_all_lots.nd rfl (by first | exact Or.inl rfl | exact Or.inr rfl))) sgs_nil)))) (fun _ _ _ _ _ => sts_nil) (fun _ _ _ _ _ => (se_var (pv 4))))))))))
def b_is_river : SM := (sSeq (sIf (gOrT (gNotT (gTru (gB m_is_sized (gCons (gVar 0) (gCons (gC (.int 4)) (gCons (gC (.int 4)) gNil)))))) (gNotT (gTru (gB m_is_within (gCons (gBin pIx (gVarB 0) (gC (.int 0))) (gCons (gC (.int 2)) (gCons (gC (.int 7)) gNil))))))) (sRet (gC (.bl false))) sNx)
  (sSeq (sIf (gNotT (gTru (gB m_is_lot (gCons (gBin pIx (gVarB 0) (gC (.int 1))) (gCons (gBin pIx (gVarB 0) (gC (.int 0))) gNil))))) (sRet (gC (.bl false))) sNx)
  (sRet (gAnd (gB m_is_within (gCons (gBin pIx (gVarB 0) (gC (.int 2))) (gCons (gC (.int 1)) (gCons (gC (.int 12)) gNil)))) (gB m_is_within (gCons (gBin pIx (gVarB 0) (gC (.int 3))) (gCons (gC (.int 1)) (gCons (gC (.int 2)) gNil))))))))
def m_is_river : List PV → M PV := fnM 1 b_is_river
theorem u_is_river (a0 : PV) : m_is_river [a0] = (b_is_river [.fz a0] >>= fin) := fn_u
theorem k_is_river (T : Tp K mg) : Known P w K mg base "is_river" 1 4 m_is_river := by
  obtain ⟨f, fd, hm, Fu, b⟩ := T.f_is_river
  exact known (k := 3) hm Fu b sc_is_river rfl fun cdv A outer s H E hr =>
  (sss_cons (by exact (ss_if (st_w (sw_or (st_not (st_tru (SE.sb (se_call (k_is_sized T) (hr.mono (by decide)) (sa_cons (se_var (pv 0)) (sa_cons se_int (sa_cons se_int sa_nil))) (rows_cons (rows_cons (rows_cons rows_nil))))))) (sw_or1 (st_not (st_tru (SE.sb (se_call (k_is_within T) (hr.mono (by decide)) (sa_cons (se_ix (sb_var (pv 0)) (SE.sb se_int) (fun _ _ => rfl)) (sa_cons (se_ci T.c_LEAST_PLACES) (sa_cons (se_ci T.c_MOST_PLACES) sa_nil))) (rows_cons (rows_cons (rows_cons rows_nil)))))))))) (sss_one (by exact (ss_ret se_bl))) sss_nil))
  (sss_cons (by exact (ss_if (st_not (st_tru (SE.sb (se_call (k_is_lot T) (hr.mono (by decide)) (sa_cons (se_ix (sb_var (pv 0)) (SE.sb se_int) (fun _ _ => rfl)) (sa_cons (se_ix (sb_var (pv 0)) (SE.sb se_int) (fun _ _ => rfl)) sa_nil)) (rows_cons (rows_cons rows_nil)))))) (sss_one (by exact (ss_ret se_bl))) sss_nil))
  (sss_one (by exact (ss_ret (se_and (se_call (k_is_within T) (hr.mono (by decide)) (sa_cons (se_ix (sb_var (pv 0)) (SE.sb se_int) (fun _ _ => rfl)) (sa_cons se_int (sa_cons (se_ci T.c_MOST_HOURS) sa_nil))) (rows_cons (rows_cons (rows_cons rows_nil)))) (se_one (se_call (k_is_within T) (hr.mono (by decide)) (sa_cons (se_ix (sb_var (pv 0)) (SE.sb se_int) (fun _ _ => rfl)) (sa_cons se_int (sa_cons (se_ci T.c_MOST_REACH) sa_nil))) (rows_cons (rows_cons (rows_cons rows_nil)))))))))))
def b_check_river : SM := (sIf (gNotT (gTru (gB m_is_river (gCons (gVar 0) gNil)))) sNever sNx)
def m_check_river : List PV → M PV := fnM 1 b_check_river
theorem u_check_river (a0 : PV) : m_check_river [a0] = (b_check_river [.fz a0] >>= fin) := fn_u
theorem k_check_river (T : Tp K mg) : Known P w K mg base "check_river" 1 5 m_check_river := by
  obtain ⟨f, fd, hm, Fu, b⟩ := T.f_check_river
  exact known (k := 4) hm Fu b sc_check_river rfl fun cdv A outer s H E hr =>
  (sss_one (by exact (ss_if (st_not (st_tru (SE.sb (se_call (k_is_river T) (hr.mono (by decide)) (sa_cons (se_var (pv 0)) sa_nil) (rows_cons rows_nil))))) (sss_one (by exact ss_never)) sss_nil)))
def b_is_through : SM := (sRet (gAnd (gBin pLt (gBin pIx (gVarB 1) (gC (.int 0))) (gBin pIx (gVarB 0) (gC (.int 2)))) (gAnd (gBin pEq (gBin pIx (gVarB 1) (gC (.int 1))) (gBin pSub (gBin pIx (gVarB 0) (gC (.int 0))) (gC (.int 1)))) (gBin pNe (gBin pIx (gVarB 1) (gC (.int 2))) (gBin pIx (gVarB 1) (gC (.int 1)))))))
def m_is_through : List PV → M PV := fnM 2 b_is_through
theorem u_is_through (a0 a1 : PV) : m_is_through [a0, a1] = (b_is_through [.fz a0, .fz a1] >>= fin) := fn_u
theorem k_is_through (T : Tp K mg) : Known P w K mg base "is_through" 2 1 m_is_through := by
  obtain ⟨f, fd, hm, Fu, b⟩ := T.f_is_through
  exact known (k := 0) hm Fu b sc_is_through rfl fun cdv A outer s H E hr =>
  (sss_one (by exact (ss_ret (se_and (se_cmp (opr_lt hr.units0) ops_lt (SE.sb (se_ix (sb_var (pv 1)) (SE.sb se_int) (fun _ _ => rfl))) (SE.sb (se_ix (sb_var (pv 0)) (SE.sb se_int) (fun _ _ => rfl))) (nomark _)) (se_and (se_cmp (opr_eq hr.units) ops_eq (SE.sb (se_ix (sb_var (pv 1)) (SE.sb se_int) (fun _ _ => rfl))) (SE.sb (se_op op_sub ops_sub (SE.sb (se_ix (sb_var (pv 0)) (SE.sb se_int) (fun _ _ => rfl))) (SE.sb se_int))) (nomark _)) (se_one (se_cmp (opr_ne hr.units) ops_ne (SE.sb (se_ix (sb_var (pv 1)) (SE.sb se_int) (fun _ _ => rfl))) (SE.sb (se_ix (sb_var (pv 1)) (SE.sb se_int) (fun _ _ => rfl))) (nomark _))))))))
def b_is_over : SM := (sSeq (sIf (gTru (gB m_is_through (gCons (gVar 0) (gCons (gVar 1) gNil)))) (sRet (gC (.bl true))) sNx)
  (sRet (gOr (gAnd (gBin pEq (gBin pIx (gVarB 1) (gC (.int 1))) (gBin pIx (gVarB 1) (gC (.int 2)))) (gBin pNotIn (gBin pIx (gVarB 1) (gC (.int 1))) (gBin pIx (gVarB 0) (gC (.int 1))))) (gBin pEq (gBin pIx (gVarB 1) (gC (.int 0))) (gBin pIx (gVarB 0) (gC (.int 2)))))))
def m_is_over : List PV → M PV := fnM 2 b_is_over
theorem u_is_over (a0 a1 : PV) : m_is_over [a0, a1] = (b_is_over [.fz a0, .fz a1] >>= fin) := fn_u
theorem k_is_over (T : Tp K mg) : Known P w K mg base "is_over" 2 2 m_is_over := by
  obtain ⟨f, fd, hm, Fu, b⟩ := T.f_is_over
  exact known (k := 1) hm Fu b sc_is_over rfl fun cdv A outer s H E hr =>
  (sss_cons (by exact (ss_if (st_tru (SE.sb (se_call (k_is_through T) (hr.mono (by decide)) (sa_cons (se_var (pv 0)) (sa_cons (se_var (pv 1)) sa_nil)) (rows_cons (rows_cons rows_nil))))) (sss_one (by exact (ss_ret se_bl))) sss_nil))
  (sss_one (by exact (ss_ret (se_or (se_and (se_cmp (opr_eq hr.units) ops_eq (SE.sb (se_ix (sb_var (pv 1)) (SE.sb se_int) (fun _ _ => rfl))) (SE.sb (se_ix (sb_var (pv 1)) (SE.sb se_int) (fun _ _ => rfl))) (nomark _)) (se_one (se_cmp op_notIn_seq (ops_in true) (SE.sb (se_ix (sb_var (pv 1)) (SE.sb se_int) (fun _ _ => rfl))) (SE.sb (se_ix (sb_var (pv 0)) (SE.sb se_int) (fun _ _ => rfl))) (by rfl)))) (se_one (se_cmp (opr_eq hr.units) ops_eq (SE.sb (se_ix (sb_var (pv 1)) (SE.sb se_int) (fun _ _ => rfl))) (SE.sb (se_ix (sb_var (pv 0)) (SE.sb se_int) (fun _ _ => rfl))) (nomark _))))))))
def b_raw_moves : SM := (sSeq (sIf (gTru (gB m_is_over (gCons (gVar 0) (gCons (gVar 1) gNil)))) (sRet (gLst gNil)) sNx)
  (sSeq (sAsg (gIf (gTB (gBin pEq (gBin pIx (gVarB 1) (gC (.int 3))) (gC (.str "boat")))) (gTup (gCons (gBin pIx (gVarB 1) (gC (.int 1))) (gCons (gC (.int 1)) gNil))) (gTup (gCons (gBin pIx (gVarB 1) (gC (.int 2))) (gCons (gBin pIx (gVarB 0) (gC (.int 3))) gNil)))) (tgTup 2 (tgCons (tgName 2) (tgCons (tgName 3) tgNil))))
  (sRet (gLc (iRange (gCons (gBin pIx (gVarB 0) (gC (.int 0))) gNil)) (tgName 4) (gTB (gBin pLe (gB pAbs (gCons (gBin pSub (gVarB 4) (gVarB 2)) gNil)) (gVarB 3))) (gVar 4) [4]))))
def m_raw_moves : List PV → M PV := fnM 5 b_raw_moves
theorem u_raw_moves (a0 a1 : PV) : m_raw_moves [a0, a1] = (b_raw_moves [.fz a0, .fz a1, .un, .un, .un] >>= fin) := fn_u
theorem k_raw_moves (T : Tp K mg) : Known P w K mg base "raw_moves" 2 3 m_raw_moves := by
  obtain ⟨f, fd, hm, Fu, b⟩ := T.f_raw_moves
  exact known (k := 2) hm Fu b sc_raw_moves rfl fun cdv A outer s H E hr =>
  (sss_cons (by exact (ss_if (st_tru (SE.sb (se_call (k_is_over T) (hr.mono (by decide)) (sa_cons (se_var (pv 0)) (sa_cons (se_var (pv 1)) sa_nil)) (rows_cons (rows_cons rows_nil))))) (sss_one (by exact (ss_ret (SF.se (sf_lst sa_nil))))) sss_nil))
  (sss_cons (by exact (ss_asg (se_if (st_cmp (opr_eq hr.units) ops_eq (SE.sb (se_ix (sb_var (pv 1)) (SE.sb se_int) (fun _ _ => rfl))) (SE.sb (se_cs T.c_BOAT)) (nomark _)) (se_tup (sa_cons (se_ix (sb_var (pv 1)) (SE.sb se_int) (fun _ _ => rfl)) (sa_cons se_int sa_nil))) (se_tup (sa_cons (se_ix (sb_var (pv 1)) (SE.sb se_int) (fun _ _ => rfl)) (sa_cons (se_ix (sb_var (pv 0)) (SE.sb se_int) (fun _ _ => rfl)) sa_nil)))) (sg_tup rfl (sgs_cons (sg_name (pg_name (i := 2) sc_raw_moves.nd rfl (by first | exact Or.inl rfl | exact Or.inr rfl))) (sgs_cons (sg_name (pg_name (i := 3) sc_raw_moves.nd rfl (by first | exact Or.inl rfl | exact Or.inr rfl))) sgs_nil)))))
  (sss_one (by exact (ss_ret (SF.se (sf_lc (own := [("place", 4)]) (is := [4]) sc_raw_moves.nd (blkOk_by (N := n_raw_moves) (sc := (defScope s_raw_moves)) (by decide +kernel)) (si_range1 T.b_range (sa_cons (se_ix (sb_var (pv 0)) (SE.sb se_int) (fun _ _ => rfl)) sa_nil) (hn := (rows_cons rows_nil))) (fun _ _ _ _ _ => (sg_name (pg_name (i := 4) sc_raw_moves.nd rfl (by first | exact Or.inl rfl | exact Or.inr rfl)))) (fun _ _ _ _ _ => (sts_one (st_cmp op_le ops_le (SE.sb (se_abs T.b_abs (sab_cons (SE.sb (se_op op_sub ops_sub (sb_var (pv 4)) (sb_var (pv 2)))) sab_nil))) (sb_var (pv 3)) (nomark _)))) (fun _ _ _ _ _ => (se_var (pv 4))))))))))
def b_raw_behind : SM := (sSeq (sAsg (gVar 0) (tgTup 4 (tgCons (tgName 2) (tgCons (tgName 3) (tgCons (tgName 4) (tgCons (tgName 5) tgNil))))))
  (sRet (gIf (gTB (gBin pEq (gVarB 5) (gC (.str "boat")))) (gTup (gCons (gVar 2) (gCons (gVar 1) (gCons (gVar 4) (gCons (gC (.str "watch")) gNil))))) (gTup (gCons (gBin pAdd (gVarB 2) (gC (.int 1))) (gCons (gVar 3) (gCons (gVar 1) (gCons (gC (.str "boat")) gNil))))))))
def m_raw_behind : List PV → M PV := fnM 6 b_raw_behind
theorem u_raw_behind (a0 a1 : PV) : m_raw_behind [a0, a1] = (b_raw_behind [.fz a0, .fz a1, .un, .un, .un, .un] >>= fin) := fn_u
theorem k_raw_behind (T : Tp K mg) : Known P w K mg base "raw_behind" 2 1 m_raw_behind := by
  obtain ⟨f, fd, hm, Fu, b⟩ := T.f_raw_behind
  exact known (k := 0) hm Fu b sc_raw_behind rfl fun cdv A outer s H E hr =>
  (sss_cons (by exact (ss_asg (se_var (pv 0)) (sg_tup rfl (sgs_cons (sg_name (pg_name (i := 2) sc_raw_behind.nd rfl (by first | exact Or.inl rfl | exact Or.inr rfl))) (sgs_cons (sg_name (pg_name (i := 3) sc_raw_behind.nd rfl (by first | exact Or.inl rfl | exact Or.inr rfl))) (sgs_cons (sg_name (pg_name (i := 4) sc_raw_behind.nd rfl (by first | exact Or.inl rfl | exact Or.inr rfl))) (sgs_cons (sg_name (pg_name (i := 5) sc_raw_behind.nd rfl (by first | exact Or.inl rfl | exact Or.inr rfl))) sgs_nil)))))))
  (sss_one (by exact (ss_ret (se_if (st_cmp (opr_eq hr.units) ops_eq (sb_var (pv 5)) (SE.sb (se_cs T.c_BOAT)) (nomark _)) (se_tup (sa_cons (se_var (pv 2)) (sa_cons (se_var (pv 1)) (sa_cons (se_var (pv 4)) (sa_cons (se_cs T.c_WATCH) sa_nil))))) (se_tup (sa_cons (se_op opr_add ops_add (sb_var (pv 2)) (SE.sb se_int)) (sa_cons (se_var (pv 3)) (sa_cons (se_var (pv 1)) (sa_cons (se_cs T.c_BOAT) sa_nil))))))))))
def b_through_stands : SM := (sSeq (sAsg (gVar 0) (tgTup 4 (tgCons (tgName 3) (tgCons (tgName 4) (tgCons (tgName 5) (tgCons (tgName 6) tgNil))))))
  (sSeq (sOwn gNewT 1)
  (sSeq (sFor (iDown (gCons (gVar 5) (gCons (gNeg (gC (.int 1))) (gCons (gNeg (gC (.int 1))) gNil)))) (tgName 2) (sFor (iSeq (gTup (gCons (gC (.str "watch")) (gCons (gC (.str "boat")) gNil)))) (tgName 7) (sFor (iRange (gCons (gVar 3) gNil)) (tgName 8) (sFor (iRange (gCons (gVar 3) gNil)) (tgName 9) (sSeq (sAsg (gTup (gCons (gVar 2) (gCons (gVar 8) (gCons (gVar 9) (gCons (gVar 7) gNil))))) (tgName 10))
  (sSeq (sAsg (gLc (iSeq (gB m_raw_moves (gCons (gVar 0) (gCons (gVar 10) gNil)))) (tgName 12) gYes (gBin pIxD (gVarB 1) (gB m_raw_behind (gCons (gVar 10) (gCons (gVar 12) gNil)))) [12]) (tgName 11))
  (sIf (gNotT (gTru (gVarB 11))) (sSetD 1 (gVar 10) (gB m_is_through (gCons (gVar 0) (gCons (gVar 10) gNil)))) (sSetD 1 (gVar 10) (gIf (gTB (gBin pEq (gVarB 7) (gC (.str "boat")))) (gB pAny (gCons (gVarB 11) gNil)) (gB pAll (gCons (gVarB 11) gNil)))))))))))
  (sFrz 1 (sRet (gVar 1))))))
def m_through_stands : List PV → M PV := fnM 13 b_through_stands
theorem u_through_stands (a0 : PV) : m_through_stands [a0] = (b_through_stands [.fz a0, .un, .un, .un, .un, .un, .un, .un, .un, .un, .un, .un, .un] >>= fin) := fn_u
theorem k_through_stands (T : Tp K mg) : Known P w K mg base "through_stands" 1 4 m_through_stands := by
  obtain ⟨f, fd, hm, Fu, b⟩ := T.f_through_stands
  exact known (k := 3) hm Fu b sc_through_stands rfl fun cdv A outer s H E hr =>
  (sss_cons (by exact (ss_asg (se_var (pv 0)) (sg_tup rfl (sgs_cons (sg_name (pg_name (i := 3) sc_through_stands.nd rfl (by first | exact Or.inl rfl | exact Or.inr rfl))) (sgs_cons (sg_name (pg_name (i := 4) sc_through_stands.nd rfl (by first | exact Or.inl rfl | exact Or.inr rfl))) (sgs_cons (sg_name (pg_name (i := 5) sc_through_stands.nd rfl (by first | exact Or.inl rfl | exact Or.inr rfl))) (sgs_cons (sg_name (pg_name (i := 6) sc_through_stands.nd rfl (by first | exact Or.inl rfl | exact Or.inr rfl))) sgs_nil)))))))
  (sss_cons (by exact (ss_own (i := 1) sf_newT (pg_name (i := 1) sc_through_stands.nd rfl (by first | exact Or.inl rfl | exact Or.inr rfl))))
  (sss_cons (by exact (ss_for PassesOwn.never (si_down T.b_range (sa_cons (se_var (pv 5)) (sa_cons (se_neg se_int) (sa_cons (se_neg se_int) sa_nil))) (hn := (rows_cons (rows_cons (rows_cons rows_nil))))) (sg_name (pg_name (i := 2) sc_through_stands.nd rfl (by first | exact Or.inl rfl | exact Or.inr rfl))) (sss_one (by exact (ss_for PassesOwn.never (si_seq (se_tup (sa_cons (se_cs T.c_WATCH) (sa_cons (se_cs T.c_BOAT) sa_nil)))) (sg_name (pg_name (i := 7) sc_through_stands.nd rfl (by first | exact Or.inl rfl | exact Or.inr rfl))) (sss_one (by exact (ss_for PassesOwn.never (si_range1 T.b_range (sa_cons (se_var (pv 3)) sa_nil) (hn := (rows_cons rows_nil))) (sg_name (pg_name (i := 8) sc_through_stands.nd rfl (by first | exact Or.inl rfl | exact Or.inr rfl))) (sss_one (by exact (ss_for PassesOwn.never (si_range1 T.b_range (sa_cons (se_var (pv 3)) sa_nil) (hn := (rows_cons rows_nil))) (sg_name (pg_name (i := 9) sc_through_stands.nd rfl (by first | exact Or.inl rfl | exact Or.inr rfl))) (sss_cons (by exact (ss_asg (se_tup (sa_cons (se_var (pv 2)) (sa_cons (se_var (pv 8)) (sa_cons (se_var (pv 9)) (sa_cons (se_var (pv 7)) sa_nil))))) (sg_name (pg_name (i := 10) sc_through_stands.nd rfl (by first | exact Or.inl rfl | exact Or.inr rfl)))))
  (sss_cons (by exact (ss_asgLc (i := 11) (own := [("place", 12)]) (is := [12]) sc_through_stands.nd (blkOk_by (N := n_through_stands) (sc := (defScope s_through_stands)) (by decide +kernel)) (si_seq (se_call (k_raw_moves T) (hr.mono (by decide)) (sa_cons (se_var (pv 0)) (sa_cons (se_var (pv 10)) sa_nil)) (rows_cons (rows_cons rows_nil)))) (fun _ _ _ _ _ => (sg_name (pg_name (i := 12) sc_through_stands.nd rfl (by first | exact Or.inl rfl | exact Or.inr rfl)))) (fun _ _ _ _ _ => sts_nil) (fun _ _ _ _ _ => (se_ixD (hu1 hr.units) (sb_var (pv 1)) (SE.sb (se_call (k_raw_behind T) (hr.mono (by decide)) (sa_cons (se_var (pv 10)) (sa_cons (se_var (pv 12)) sa_nil)) (rows_cons (rows_cons rows_nil)))) (fun _ _ => rfl))) rfl rfl (sw_true rfl rfl rfl (by decide +kernel))))
  (sss_one (by exact (ss_if (st_not (st_tru (sb_var (pv 11)))) (sss_one (by exact (ss_setD (i := 1) (hu1 hr.units) (pv 1) (se_var (pv 10)) (se_call (k_is_through T) (hr.mono (by decide)) (sa_cons (se_var (pv 0)) (sa_cons (se_var (pv 10)) sa_nil)) (rows_cons (rows_cons rows_nil)))))) (sss_one (by exact (ss_setD (i := 1) (hu1 hr.units) (pv 1) (se_var (pv 10)) (se_if (st_cmp (opr_eq hr.units) ops_eq (sb_var (pv 7)) (SE.sb (se_cs T.c_BOAT)) (nomark _)) (se_any T.b_any (sab_cons (sb_var (pv 11)) sab_nil)) (se_all T.b_all (sab_cons (sb_var (pv 11)) sab_nil))))))))))))))))))))))
  (sss_frz 1 (sss_one (by exact (ss_ret (se_var (pv 1)))))))))
def b_check_place : SM := (sSeq (sExpr (gB m_check_river (gCons (gVar 0) gNil)))
  (sIf (gNotT (gTru (gB m_is_within (gCons (gVar 1) (gCons (gC (.int 0)) (gCons (gBin pSub (gBin pIx (gVarB 0) (gC (.int 0))) (gC (.int 1))) gNil)))))) sNever sNx))
def m_check_place : List PV → M PV := fnM 2 b_check_place
theorem u_check_place (a0 a1 : PV) : m_check_place [a0, a1] = (b_check_place [.fz a0, .fz a1] >>= fin) := fn_u
theorem k_check_place (T : Tp K mg) : Known P w K mg base "check_place" 2 6 m_check_place := by
  obtain ⟨f, fd, hm, Fu, b⟩ := T.f_check_place
  exact known (k := 5) hm Fu b sc_check_place rfl fun cdv A outer s H E hr =>
  (sss_cons (by exact (ss_expr (se_call (k_check_river T) (hr.mono (by decide)) (sa_cons (se_var (pv 0)) sa_nil) (rows_cons rows_nil))))
  (sss_one (by exact (ss_if (st_not (st_tru (SE.sb (se_call (k_is_within T) (hr.mono (by decide)) (sa_cons (se_var (pv 1)) (sa_cons se_int (sa_cons (se_op op_sub ops_sub (SE.sb (se_ix (sb_var (pv 0)) (SE.sb se_int) (fun _ _ => rfl))) (SE.sb se_int)) sa_nil))) (rows_cons (rows_cons (rows_cons rows_nil))))))) (sss_one (by exact ss_never)) sss_nil))))
def b_least_hours_for : SM := (sSeq (sExpr (gB m_check_place (gCons (gVar 0) (gCons (gVar 1) gNil))))
  (sSeq (sFor (iRange (gCons (gC (.int 1)) (gCons (gBin pAdd (gBin pIx (gVarB 0) (gC (.int 2))) (gC (.int 1))) gNil))) (tgName 2) (sSeq (sAsg (gTup (gCons (gBin pIx (gVarB 0) (gC (.int 0))) (gCons (gBin pIx (gVarB 0) (gC (.int 1))) (gCons (gVar 2) (gCons (gBin pIx (gVarB 0) (gC (.int 3))) gNil))))) (tgName 3))
  (sIf (gTru (gBin pIxD (gB m_through_stands (gCons (gVar 3) gNil)) (gTup (gCons (gC (.int 0)) (gCons (gC (.int 0)) (gCons (gVar 1) (gCons (gC (.str "boat")) gNil))))))) (sRet (gVar 2)) sNx)))
  (sRet (gC .non))))
def m_least_hours_for : List PV → M PV := fnM 4 b_least_hours_for
theorem u_least_hours_for (a0 a1 : PV) : m_least_hours_for [a0, a1] = (b_least_hours_for [.fz a0, .fz a1, .un, .un] >>= fin) := fn_u
theorem k_least_hours_for (T : Tp K mg) : Known P w K mg base "least_hours_for" 2 7 m_least_hours_for := by
  obtain ⟨f, fd, hm, Fu, b⟩ := T.f_least_hours_for
  exact known (k := 6) hm Fu b sc_least_hours_for rfl fun cdv A outer s H E hr =>
  (sss_cons (by exact (ss_expr (se_call (k_check_place T) (hr.mono (by decide)) (sa_cons (se_var (pv 0)) (sa_cons (se_var (pv 1)) sa_nil)) (rows_cons (rows_cons rows_nil)))))
  (sss_cons (by exact (ss_for PassesOwn.never (si_range2 T.b_range (sa_cons se_int (sa_cons (se_op opr_add ops_add (SE.sb (se_ix (sb_var (pv 0)) (SE.sb se_int) (fun _ _ => rfl))) (SE.sb se_int)) sa_nil)) (hn := (rows_cons (rows_cons rows_nil)))) (sg_name (pg_name (i := 2) sc_least_hours_for.nd rfl (by first | exact Or.inl rfl | exact Or.inr rfl))) (sss_cons (by exact (ss_asg (se_tup (sa_cons (se_ix (sb_var (pv 0)) (SE.sb se_int) (fun _ _ => rfl)) (sa_cons (se_ix (sb_var (pv 0)) (SE.sb se_int) (fun _ _ => rfl)) (sa_cons (se_var (pv 2)) (sa_cons (se_ix (sb_var (pv 0)) (SE.sb se_int) (fun _ _ => rfl)) sa_nil))))) (sg_name (pg_name (i := 3) sc_least_hours_for.nd rfl (by first | exact Or.inl rfl | exact Or.inr rfl)))))
  (sss_one (by exact (ss_if (st_tru (SE.sb (se_ixD (hu1 hr.units) (SE.sb (se_call (k_through_stands T) (hr.mono (by decide)) (sa_cons (se_var (pv 3)) sa_nil) (rows_cons rows_nil))) (SE.sb (se_tup (sa_cons se_int (sa_cons se_int (sa_cons (se_var (pv 1)) (sa_cons (se_cs T.c_BOAT) sa_nil)))))) (fun _ _ => rfl)))) (sss_one (by exact (ss_ret (se_var (pv 2))))) sss_nil))))))
  (sss_one (by exact (ss_ret se_non)))))
def b_raw_barring : SM := (sSeq (sAsg (gB m_through_stands (gCons (gVar 0) gNil)) (tgName 1))
  (sRet (gLc (iRange (gCons (gBin pIx (gVarB 0) (gC (.int 0))) gNil)) (tgName 2) (gNotT (gTru (gBin pIxD (gVarB 1) (gTup (gCons (gC (.int 0)) (gCons (gC (.int 0)) (gCons (gVar 2) (gCons (gC (.str "boat")) gNil)))))))) (gVar 2) [2])))
def m_raw_barring : List PV → M PV := fnM 3 b_raw_barring
theorem u_raw_barring (a0 : PV) : m_raw_barring [a0] = (b_raw_barring [.fz a0, .un, .un] >>= fin) := fn_u
theorem k_raw_barring (T : Tp K mg) : Known P w K mg base "raw_barring" 1 5 m_raw_barring := by
  obtain ⟨f, fd, hm, Fu, b⟩ := T.f_raw_barring
  exact known (k := 4) hm Fu b sc_raw_barring rfl fun cdv A outer s H E hr =>
  (sss_cons (by exact (ss_asg (se_call (k_through_stands T) (hr.mono (by decide)) (sa_cons (se_var (pv 0)) sa_nil) (rows_cons rows_nil)) (sg_name (pg_name (i := 1) sc_raw_barring.nd rfl (by first | exact Or.inl rfl | exact Or.inr rfl)))))
  (sss_one (by exact (ss_ret (SF.se (sf_lc (own := [("watch", 2)]) (is := [2]) sc_raw_barring.nd (blkOk_by (N := n_raw_barring) (sc := (defScope s_raw_barring)) (by decide +kernel)) (si_range1 T.b_range (sa_cons (se_ix (sb_var (pv 0)) (SE.sb se_int) (fun _ _ => rfl)) sa_nil) (hn := (rows_cons rows_nil))) (fun _ _ _ _ _ => (sg_name (pg_name (i := 2) sc_raw_barring.nd rfl (by first | exact Or.inl rfl | exact Or.inr rfl)))) (fun _ _ _ _ _ => (sts_one (st_not (st_tru (SE.sb (se_ixD (hu1 hr.units) (sb_var (pv 1)) (SE.sb (se_tup (sa_cons se_int (sa_cons se_int (sa_cons (se_var (pv 2)) (sa_cons (se_cs T.c_BOAT) sa_nil)))))) (fun _ _ => rfl))))))) (fun _ _ _ _ _ => (se_var (pv 2)))))))))
def b_barring_places : SM := (sSeq (sExpr (gB m_check_river (gCons (gVar 0) gNil)))
  (sRet (gB pTuple (gCons (gB m_raw_barring (gCons (gVar 0) gNil)) gNil))))
def m_barring_places : List PV → M PV := fnM 1 b_barring_places
theorem u_barring_places (a0 : PV) : m_barring_places [a0] = (b_barring_places [.fz a0] >>= fin) := fn_u
theorem k_barring_places (T : Tp K mg) : Known P w K mg base "barring_places" 1 6 m_barring_places := by
  obtain ⟨f, fd, hm, Fu, b⟩ := T.f_barring_places
  exact known (k := 5) hm Fu b sc_barring_places rfl fun cdv A outer s H E hr =>
  (sss_cons (by exact (ss_expr (se_call (k_check_river T) (hr.mono (by decide)) (sa_cons (se_var (pv 0)) sa_nil) (rows_cons rows_nil))))
  (sss_one (by exact (ss_ret (se_tuplec T.b_tuple (sab_cons (SE.sb (se_call (k_raw_barring T) (hr.mono (by decide)) (sa_cons (se_var (pv 0)) sa_nil) (rows_cons rows_nil))) sab_nil))))))
def b_raw_hides : SM := (sRet (gBin pAdd (gTup (gCons (gBin pIx (gVarB 0) (gC (.int 0))) (gCons (gB pTuple (gCons (gB pSorted (gCons (gVarB 1) gNil)) gNil)) gNil))) (gSl (gVarB 0) (oSome (gC (.int 2))) oNone)))
def m_raw_hides : List PV → M PV := fnM 2 b_raw_hides
theorem u_raw_hides (a0 a1 : PV) : m_raw_hides [a0, a1] = (b_raw_hides [.fz a0, .fz a1] >>= fin) := fn_u
theorem k_raw_hides (T : Tp K mg) : Known P w K mg base "raw_hides" 2 1 m_raw_hides := by
  obtain ⟨f, fd, hm, Fu, b⟩ := T.f_raw_hides
  exact known (k := 0) hm Fu b sc_raw_hides rfl fun cdv A outer s H E hr =>
  (sss_one (by exact (ss_ret (se_op opr_add ops_add (SE.sb (se_tup (sa_cons (se_ix (sb_var (pv 0)) (SE.sb se_int) (fun _ _ => rfl)) (sa_cons (se_tuplec T.b_tuple (sab_cons (SE.sb (SF.se (sf_sorted hr.units T.b_sorted (sab_cons (sb_var (pv 1)) sab_nil)))) sab_nil)) sa_nil)))) (SE.sb (se_sl (sb_var (pv 0)) (so_some (SE.sb se_int)) so_none))))))
def b_most_hides : SM := (sSeq (sExpr (gB m_check_river (gCons (gVar 0) gNil)))
  (sSeq (sAsg (gLc (iRange (gCons (gBin pIx (gVarB 0) (gC (.int 0))) gNil)) (tgName 3) (gTB (gBin pNotIn (gVarB 3) (gBin pIx (gVarB 0) (gC (.int 1))))) (gVar 3) [3]) (tgName 1))
  (sSeq (sFor (iSeq (gB m_all_lots (gCons (gVar 1) gNil))) (tgName 2) (sIf (gNotT (gTru (gB m_raw_barring (gCons (gB m_raw_hides (gCons (gVar 0) (gCons (gBin pAdd (gBin pIx (gVarB 0) (gC (.int 1))) (gVarB 2)) gNil))) gNil)))) (sRet (gTup (gCons (gB pLen (gCons (gVarB 2) gNil)) (gCons (gVar 2) gNil)))) sNx))
  (sRet (gC .non)))))
def m_most_hides : List PV → M PV := fnM 4 b_most_hides
theorem u_most_hides (a0 : PV) : m_most_hides [a0] = (b_most_hides [.fz a0, .un, .un, .un] >>= fin) := fn_u
theorem k_most_hides (T : Tp K mg) : Known P w K mg base "most_hides" 1 6 m_most_hides := by
  obtain ⟨f, fd, hm, Fu, b⟩ := T.f_most_hides
  exact known (k := 5) hm Fu b sc_most_hides rfl fun cdv A outer s H E hr =>
  (sss_cons (by exact (ss_expr (se_call (k_check_river T) (hr.mono (by decide)) (sa_cons (se_var (pv 0)) sa_nil) (rows_cons rows_nil))))
  (sss_cons (by exact (ss_asgLc (i := 1) (own := [("place", 3)]) (is := [3]) sc_most_hides.nd (blkOk_by (N := n_most_hides) (sc := (defScope s_most_hides)) (by decide +kernel)) (si_range1 T.b_range (sa_cons (se_ix (sb_var (pv 0)) (SE.sb se_int) (fun _ _ => rfl)) sa_nil) (hn := (rows_cons rows_nil))) (fun _ _ _ _ _ => (sg_name (pg_name (i := 3) sc_most_hides.nd rfl (by first | exact Or.inl rfl | exact Or.inr rfl)))) (fun _ _ _ _ _ => (sts_one (st_cmp op_notIn_seq (ops_in true) (sb_var (pv 3)) (SE.sb (se_ix (sb_var (pv 0)) (SE.sb se_int) (fun _ _ => rfl))) (by rfl)))) (fun _ _ _ _ _ => (se_var (pv 3))) rfl rfl (sw_true rfl rfl rfl (by decide +kernel))))
  (sss_cons (by exact (ss_for PassesOwn.never (si_seq (se_call (k_all_lots T) (hr.mono (by decide)) (sa_cons (se_var (pv 1)) sa_nil) (rows_cons rows_nil))) (sg_name (pg_name (i := 2) sc_most_hides.nd rfl (by first | exact Or.inl rfl | exact Or.inr rfl))) (sss_one (by exact (ss_if (st_not (st_tru (SE.sb (se_call (k_raw_barring T) (hr.mono (by decide)) (sa_cons (se_call (k_raw_hides T) (hr.mono (by decide)) (sa_cons (se_var (pv 0)) (sa_cons (se_op opr_add ops_add (SE.sb (se_ix (sb_var (pv 0)) (SE.sb se_int) (fun _ _ => rfl))) (sb_var (pv 2))) sa_nil)) (rows_cons (rows_cons rows_nil))) sa_nil) (rows_cons rows_nil))))) (sss_one (by exact (ss_ret (se_tup (sa_cons (se_len T.b_len (sab_cons (sb_var (pv 2)) sab_nil)) (sa_cons (se_var (pv 2)) sa_nil)))))) sss_nil)))))
  (sss_one (by exact (ss_ret se_non))))))
def b_with_hides : SM := (sSeq (sExpr (gB m_check_river (gCons (gVar 0) gNil)))
  (sSeq (sIf (gNotT (gTru (gB m_is_lot (gCons (gVar 1) (gCons (gBin pIx (gVarB 0) (gC (.int 0))) gNil))))) sNever sNx)
  (sRet (gB m_raw_hides (gCons (gVar 0) (gCons (gVar 1) gNil))))))
def m_with_hides : List PV → M PV := fnM 2 b_with_hides
theorem u_with_hides (a0 a1 : PV) : m_with_hides [a0, a1] = (b_with_hides [.fz a0, .fz a1] >>= fin) := fn_u
theorem k_with_hides (T : Tp K mg) : Known P w K mg base "with_hides" 2 6 m_with_hides := by
  obtain ⟨f, fd, hm, Fu, b⟩ := T.f_with_hides
  exact known (k := 5) hm Fu b sc_with_hides rfl fun cdv A outer s H E hr =>
  (sss_cons (by exact (ss_expr (se_call (k_check_river T) (hr.mono (by decide)) (sa_cons (se_var (pv 0)) sa_nil) (rows_cons rows_nil))))
  (sss_cons (by exact (ss_if (st_not (st_tru (SE.sb (se_call (k_is_lot T) (hr.mono (by decide)) (sa_cons (se_var (pv 1)) (sa_cons (se_ix (sb_var (pv 0)) (SE.sb se_int) (fun _ _ => rfl)) sa_nil)) (rows_cons (rows_cons rows_nil)))))) (sss_one (by exact ss_never)) sss_nil))
  (sss_one (by exact (ss_ret (se_call (k_raw_hides T) (hr.mono (by decide)) (sa_cons (se_var (pv 0)) (sa_cons (se_var (pv 1)) sa_nil)) (rows_cons (rows_cons rows_nil))))))))
def b__law_hand : SM := (sSeq (sAsg (gLc (iSeq (gSl (gVarB 0) oNone (oSome (gC (.int 63))))) (tgName 2) gYes (gB pAbs (gCons (gB pInt (gCons (gVarB 2) gNil)) gNil)) [2]) (tgName 1))
  (sRetF (gLst (gCons (gVar 1) (gCons (gC (.int 0)) (gCons (gC (.int 0)) (gCons (gBin pAdd (gC (.int 97)) (gBin pMul (gC (.int 5)) (gB pLen (gCons (gVarB 1) gNil)))) (gCons (gC (.int 0)) gNil))))))))
def m__law_hand : List PV → M PV := fnF 3 b__law_hand
theorem u__law_hand (a0 : PV) : m__law_hand [a0] = (b__law_hand [.fz a0, .un, .un] >>= finF) := fnF_u
theorem k__law_hand (T : Tp K mg) : KnownF P w K mg base "_law_hand" 1 1 m__law_hand := by
  obtain ⟨f, fd, hm, Fu, b⟩ := T.f__law_hand
  exact knownF (k := 0) hm Fu b sc__law_hand rfl fun cdv A outer s H E hr =>
  (sss_cons (by exact (ss_asgLc (i := 1) (own := [("cell", 2)]) (is := [2]) sc__law_hand.nd (blkOk_by (N := n__law_hand) (sc := (defScope s__law_hand)) (by decide +kernel)) (si_seq (se_sl (sb_var (pv 0)) so_none (so_some (SE.sb se_int)))) (fun _ _ _ _ _ => (sg_name (pg_name (i := 2) sc__law_hand.nd rfl (by first | exact Or.inl rfl | exact Or.inr rfl)))) (fun _ _ _ _ _ => sts_nil) (fun _ _ _ _ _ => (se_abs T.b_abs (sab_cons (SE.sb (se_intc T.b_int (sab_cons (sb_var (pv 2)) sab_nil))) sab_nil))) rfl rfl (sw_true rfl rfl rfl (by decide +kernel))))
  (sss_one (by exact (ss_retF (sf_lst (sa_cons (se_var (pv 1)) (sa_cons se_int (sa_cons se_int (sa_cons (se_op opr_add ops_add (SE.sb se_int) (SE.sb (se_op op_mul ops_mul (SE.sb se_int) (SE.sb (se_len T.b_len (sab_cons (sb_var (pv 1)) sab_nil)))))) (sa_cons se_int sa_nil))))))))))
def b__law_draw : SM := (sSeq (sIf (gAndT (gTB (gBin pEq (gBin pIx (gVarB 0) (gC (.int 2))) (gC (.int 0)))) (gTB (gBin pLt (gBin pIx (gVarB 0) (gC (.int 1))) (gB pLen (gCons (gBin pIx (gVarB 0) (gC (.int 0))) gNil))))) (sSeq (sAsg (gBin pIx (gBin pIx (gVarB 0) (gC (.int 0))) (gBin pIx (gVarB 0) (gC (.int 1)))) (tgName 3))
  (sSeq (sSetH (gVar 0) (gC (.int 1)) (gBin pAdd (gBin pIx (gVarB 0) (gC (.int 1))) (gC (.int 1))))
  (sSeq (sSetH (gVar 0) (gC (.int 3)) (gBin pMod (gB pInt (gCons (gBin pAdd (gBin pAdd (gBin pMul (gBin pIx (gVarB 0) (gC (.int 3))) (gC (.int 48271))) (gVarB 3)) (gC (.int 31))) gNil)) (gC (.int 2147483647))))
  (sIf (gTB (gBin pGe (gVarB 3) (gBin pPow (gC (.int 10)) (gC (.int 18))))) (sSetH (gVar 0) (gC (.int 2)) (gVar 3)) sNx)))) sNx)
  (sSeq (sIf (gTB (gBin pGt (gBin pIx (gVarB 0) (gC (.int 2))) (gC (.int 0)))) (sSeq (sAsg (gBin pMod (gB pInt (gCons (gBin pIx (gVarB 0) (gC (.int 2))) gNil)) (gVarB 1)) (tgName 4))
  (sSeq (sSetH (gVar 0) (gC (.int 2)) (gBin pDiv (gBin pIx (gVarB 0) (gC (.int 2))) (gVarB 1)))
  (sRet (gVar 4)))) sNx)
  (sSeq (sSetH (gVar 0) (gC (.int 4)) (gBin pAdd (gBin pIx (gVarB 0) (gC (.int 4))) (gC (.int 1))))
  (sSeq (sAsg (gBin pMod (gB pInt (gCons (gBin pMul (gB pInt (gCons (gBin pAdd (gBin pIx (gVarB 0) (gC (.int 3))) (gBin pMul (gC (.int 6151)) (gBin pIx (gVarB 0) (gC (.int 4))))) gNil)) (gC (.int 40692))) gNil)) (gC (.int 2147483399))) (tgName 2))
  (sSeq (sAsg (gBin pMod (gB pInt (gCons (gBin pMul (gVarB 2) (gBin pAdd (gBin pDiv (gVarB 2) (gC (.int 1223))) (gC (.int 52027)))) gNil)) (gC (.int 2147483629))) (tgName 2))
  (sSeq (sAsg (gBin pMod (gB pInt (gCons (gBin pMul (gVarB 2) (gBin pAdd (gBin pDiv (gVarB 2) (gC (.int 2671))) (gC (.int 69621)))) gNil)) (gC (.int 2147483647))) (tgName 2))
  (sRet (gBin pMod (gB pInt (gCons (gBin pDiv (gVarB 2) (gC (.int 32))) gNil)) (gVarB 1)))))))))
def m__law_draw : List PV → M PV := fnM 5 b__law_draw
theorem u__law_draw (a0 a1 : PV) : m__law_draw [a0, a1] = (b__law_draw [.fz a0, .fz a1, .un, .un, .un] >>= fin) := fn_u
theorem k__law_draw (T : Tp K mg) : Known P w K mg base "_law_draw" 2 1 m__law_draw := by
  obtain ⟨f, fd, hm, Fu, b⟩ := T.f__law_draw
  exact known (k := 0) hm Fu b sc__law_draw rfl fun cdv A outer s H E hr =>
  (sss_cons (by exact (ss_if (st_w (sw_and (st_cmp (opr_eq hr.units) ops_eq (SE.sb (se_ix (sb_var (pv 0)) (SE.sb se_int) (fun _ _ => rfl))) (SE.sb se_int) (nomark _)) (sw_and1 (st_cmp (opr_lt hr.units0) ops_lt (SE.sb (se_ix (sb_var (pv 0)) (SE.sb se_int) (fun _ _ => rfl))) (SE.sb (se_len T.b_len (sab_cons (SE.sb (se_ix (sb_var (pv 0)) (SE.sb se_int) (fun _ _ => rfl))) sab_nil))) (nomark _))))) (sss_cons (by exact (ss_asg (se_ix (SE.sb (se_ix (sb_var (pv 0)) (SE.sb se_int) (fun _ _ => rfl))) (SE.sb (se_ix (sb_var (pv 0)) (SE.sb se_int) (fun _ _ => rfl))) (fun _ _ => rfl)) (sg_name (pg_name (i := 3) sc__law_draw.nd rfl (by first | exact Or.inl rfl | exact Or.inr rfl)))))
  (sss_cons (by exact (ss_seth (se_var (pv 0)) se_int (se_op opr_add ops_add (SE.sb (se_ix (sb_var (pv 0)) (SE.sb se_int) (fun _ _ => rfl))) (SE.sb se_int))))
  (sss_cons (by exact (ss_seth (se_var (pv 0)) se_int (se_op op_mod ops_mod (SE.sb (se_intc T.b_int (sab_cons (SE.sb (se_op opr_add ops_add (SE.sb (se_op opr_add ops_add (SE.sb (se_op op_mul ops_mul (SE.sb (se_ix (sb_var (pv 0)) (SE.sb se_int) (fun _ _ => rfl))) (SE.sb se_int))) (sb_var (pv 3)))) (SE.sb se_int))) sab_nil))) (SE.sb se_int))))
  (sss_one (by exact (ss_if (st_cmp op_ge ops_ge (sb_var (pv 3)) (SE.sb (se_op op_pow ops_pow (SE.sb se_int) (SE.sb se_int))) (nomark _)) (sss_one (by exact (ss_seth (se_var (pv 0)) se_int (se_var (pv 3))))) sss_nil)))))) sss_nil))
  (sss_cons (by exact (ss_if (st_cmp op_gt ops_gt (SE.sb (se_ix (sb_var (pv 0)) (SE.sb se_int) (fun _ _ => rfl))) (SE.sb se_int) (nomark _)) (sss_cons (by exact (ss_asg (se_op op_mod ops_mod (SE.sb (se_intc T.b_int (sab_cons (SE.sb (se_ix (sb_var (pv 0)) (SE.sb se_int) (fun _ _ => rfl))) sab_nil))) (sb_var (pv 1))) (sg_name (pg_name (i := 4) sc__law_draw.nd rfl (by first | exact Or.inl rfl | exact Or.inr rfl)))))
  (sss_cons (by exact (ss_seth (se_var (pv 0)) se_int (se_op op_fdivW ops_div (SE.sb (se_ix (sb_var (pv 0)) (SE.sb se_int) (fun _ _ => rfl))) (sb_var (pv 1)))))
  (sss_one (by exact (ss_ret (se_var (pv 4))))))) sss_nil))
  (sss_cons (by exact (ss_seth (se_var (pv 0)) se_int (se_op opr_add ops_add (SE.sb (se_ix (sb_var (pv 0)) (SE.sb se_int) (fun _ _ => rfl))) (SE.sb se_int))))
  (sss_cons (by exact (ss_asg (se_op op_mod ops_mod (SE.sb (se_intc T.b_int (sab_cons (SE.sb (se_op op_mul ops_mul (SE.sb (se_intc T.b_int (sab_cons (SE.sb (se_op opr_add ops_add (SE.sb (se_ix (sb_var (pv 0)) (SE.sb se_int) (fun _ _ => rfl))) (SE.sb (se_op op_mul ops_mul (SE.sb se_int) (SE.sb (se_ix (sb_var (pv 0)) (SE.sb se_int) (fun _ _ => rfl))))))) sab_nil))) (SE.sb se_int))) sab_nil))) (SE.sb se_int)) (sg_name (pg_name (i := 2) sc__law_draw.nd rfl (by first | exact Or.inl rfl | exact Or.inr rfl)))))
  (sss_cons (by exact (ss_asg (se_op op_mod ops_mod (SE.sb (se_intc T.b_int (sab_cons (SE.sb (se_op op_mul ops_mul (sb_var (pv 2)) (SE.sb (se_op opr_add ops_add (SE.sb (se_op op_fdivW ops_div (sb_var (pv 2)) (SE.sb se_int))) (SE.sb se_int))))) sab_nil))) (SE.sb se_int)) (sg_name (pg_name (i := 2) sc__law_draw.nd rfl (by first | exact Or.inl rfl | exact Or.inr rfl)))))
  (sss_cons (by exact (ss_asg (se_op op_mod ops_mod (SE.sb (se_intc T.b_int (sab_cons (SE.sb (se_op op_mul ops_mul (sb_var (pv 2)) (SE.sb (se_op opr_add ops_add (SE.sb (se_op op_fdivW ops_div (sb_var (pv 2)) (SE.sb se_int))) (SE.sb se_int))))) sab_nil))) (SE.sb se_int)) (sg_name (pg_name (i := 2) sc__law_draw.nd rfl (by first | exact Or.inl rfl | exact Or.inr rfl)))))
  (sss_one (by exact (ss_ret (se_op op_mod ops_mod (SE.sb (se_intc T.b_int (sab_cons (SE.sb (se_op op_fdivW ops_div (sb_var (pv 2)) (SE.sb se_int))) sab_nil))) (sb_var (pv 1))))))))))))
def b__law_river : SM := (sSeq (sAsg (gBin pAdd (gC (.int 2)) (gB m__law_draw (gCons (gVar 0) (gCons (gBin pSub (gVarB 1) (gC (.int 1))) gNil)))) (tgName 3))
  (sSeq (sAsg (gB pTuple (gCons (gLc (iRange (gCons (gVar 3) gNil)) (tgName 5) (gTB (gBin pEq (gB m__law_draw (gCons (gVar 0) (gCons (gC (.int 3)) gNil))) (gC (.int 0)))) (gVar 5) [5]) gNil)) (tgName 4))
  (sRet (gTup (gCons (gVar 3) (gCons (gVar 4) (gCons (gBin pAdd (gC (.int 1)) (gB m__law_draw (gCons (gVar 0) (gCons (gVar 2) gNil)))) (gCons (gBin pAdd (gC (.int 1)) (gB m__law_draw (gCons (gVar 0) (gCons (gC (.int 2)) gNil)))) gNil))))))))
def m__law_river : List PV → M PV := fnM 6 b__law_river
theorem u__law_river (a0 a1 a2 : PV) : m__law_river [a0, a1, a2] = (b__law_river [.fz a0, .fz a1, .fz a2, .un, .un, .un] >>= fin) := fn_u
theorem k__law_river (T : Tp K mg) : Known P w K mg base "_law_river" 3 2 m__law_river := by
  obtain ⟨f, fd, hm, Fu, b⟩ := T.f__law_river
  exact known (k := 1) hm Fu b sc__law_river rfl fun cdv A outer s H E hr =>
  (sss_cons (by exact (ss_asg (se_op opr_add ops_add (SE.sb se_int) (SE.sb (se_call (k__law_draw T) (hr.mono (by decide)) (sa_cons (se_var (pv 0)) (sa_cons (se_op op_sub ops_sub (sb_var (pv 1)) (SE.sb se_int)) sa_nil)) (rows_cons (rows_cons rows_nil))))) (sg_name (pg_name (i := 3) sc__law_river.nd rfl (by first | exact Or.inl rfl | exact Or.inr rfl)))))
  (sss_cons (by exact (ss_asg (se_tuplec T.b_tuple (sab_cons (SE.sb (SF.se (sf_lc (own := [("place", 5)]) (is := [5]) sc__law_river.nd (blkOk_by (N := n__law_river) (sc := (defScope s__law_river)) (by decide +kernel)) (si_range1 T.b_range (sa_cons (se_var (pv 3)) sa_nil) (hn := (rows_cons rows_nil))) (fun _ _ _ _ _ => (sg_name (pg_name (i := 5) sc__law_river.nd rfl (by first | exact Or.inl rfl | exact Or.inr rfl)))) (fun _ _ _ _ _ => (sts_one (st_cmp (opr_eq hr.units) ops_eq (SE.sb (se_call (k__law_draw T) (hr.mono (by decide)) (sa_cons (se_var (pv 0)) (sa_cons se_int sa_nil)) (rows_cons (rows_cons rows_nil)))) (SE.sb se_int) (nomark _)))) (fun _ _ _ _ _ => (se_var (pv 5)))))) sab_nil)) (sg_name (pg_name (i := 4) sc__law_river.nd rfl (by first | exact Or.inl rfl | exact Or.inr rfl)))))
  (sss_one (by exact (ss_ret (se_tup (sa_cons (se_var (pv 3)) (sa_cons (se_var (pv 4)) (sa_cons (se_op opr_add ops_add (SE.sb se_int) (SE.sb (se_call (k__law_draw T) (hr.mono (by decide)) (sa_cons (se_var (pv 0)) (sa_cons (se_var (pv 2)) sa_nil)) (rows_cons (rows_cons rows_nil))))) (sa_cons (se_op opr_add ops_add (SE.sb se_int) (SE.sb (se_call (k__law_draw T) (hr.mono (by decide)) (sa_cons (se_var (pv 0)) (sa_cons se_int sa_nil)) (rows_cons (rows_cons rows_nil))))) sa_nil))))))))))
def b__law_end : SM := (sSeq (sAsg (gVar 0) (tgTup 4 (tgCons (tgName 2) (tgCons (tgName 3) (tgCons (tgName 4) (tgCons (tgName 5) tgNil))))))
  (sSeq (sAsg (gVar 1) (tgTup 4 (tgCons (tgName 6) (tgCons (tgName 7) (tgCons (tgName 8) (tgCons (tgName 9) tgNil))))))
  (sSeq (sIf (gAndT (gTB (gBin pEq (gVarB 7) (gVarB 8))) (gTB (gBin pNotIn (gVarB 7) (gVarB 3)))) (sRet (gC (.str "caught"))) sNx)
  (sSeq (sIf (gTB (gBin pEq (gVarB 6) (gVarB 4))) (sRet (gC (.str "over"))) sNx)
  (sRet (gIf (gAndT (gTB (gBin pEq (gVarB 7) (gBin pSub (gVarB 2) (gC (.int 1))))) (gTB (gBin pNe (gVarB 8) (gVarB 7)))) (gC (.str "through")) (gC .non)))))))
def m__law_end : List PV → M PV := fnM 10 b__law_end
theorem u__law_end (a0 a1 : PV) : m__law_end [a0, a1] = (b__law_end [.fz a0, .fz a1, .un, .un, .un, .un, .un, .un, .un, .un] >>= fin) := fn_u
theorem k__law_end (T : Tp K mg) : Known P w K mg base "_law_end" 2 1 m__law_end := by
  obtain ⟨f, fd, hm, Fu, b⟩ := T.f__law_end
  exact known (k := 0) hm Fu b sc__law_end rfl fun cdv A outer s H E hr =>
  (sss_cons (by exact (ss_asg (se_var (pv 0)) (sg_tup rfl (sgs_cons (sg_name (pg_name (i := 2) sc__law_end.nd rfl (by first | exact Or.inl rfl | exact Or.inr rfl))) (sgs_cons (sg_name (pg_name (i := 3) sc__law_end.nd rfl (by first | exact Or.inl rfl | exact Or.inr rfl))) (sgs_cons (sg_name (pg_name (i := 4) sc__law_end.nd rfl (by first | exact Or.inl rfl | exact Or.inr rfl))) (sgs_cons (sg_name (pg_name (i := 5) sc__law_end.nd rfl (by first | exact Or.inl rfl | exact Or.inr rfl))) sgs_nil)))))))
  (sss_cons (by exact (ss_asg (se_var (pv 1)) (sg_tup rfl (sgs_cons (sg_name (pg_name (i := 6) sc__law_end.nd rfl (by first | exact Or.inl rfl | exact Or.inr rfl))) (sgs_cons (sg_name (pg_name (i := 7) sc__law_end.nd rfl (by first | exact Or.inl rfl | exact Or.inr rfl))) (sgs_cons (sg_name (pg_name (i := 8) sc__law_end.nd rfl (by first | exact Or.inl rfl | exact Or.inr rfl))) (sgs_cons (sg_name (pg_name (i := 9) sc__law_end.nd rfl (by first | exact Or.inl rfl | exact Or.inr rfl))) sgs_nil)))))))
  (sss_cons (by exact (ss_if (st_w (sw_and (st_cmp (opr_eq hr.units) ops_eq (sb_var (pv 7)) (sb_var (pv 8)) (nomark _)) (sw_and1 (st_cmp op_notIn_seq (ops_in true) (sb_var (pv 7)) (sb_var (pv 3)) (by rfl))))) (sss_one (by exact (ss_ret se_str))) sss_nil))
  (sss_cons (by exact (ss_if (st_cmp (opr_eq hr.units) ops_eq (sb_var (pv 6)) (sb_var (pv 4)) (nomark _)) (sss_one (by exact (ss_ret se_str))) sss_nil))
  (sss_one (by exact (ss_ret (se_if (st_w (sw_and (st_cmp (opr_eq hr.units) ops_eq (sb_var (pv 7)) (SE.sb (se_op op_sub ops_sub (sb_var (pv 2)) (SE.sb se_int))) (nomark _)) (sw_and1 (st_cmp (opr_ne hr.units) ops_ne (sb_var (pv 8)) (sb_var (pv 7)) (nomark _))))) se_str se_non))))))))
def b__law_moves : SM := (sSeq (sIf (gTB (gBin (pIsN true) (gB m__law_end (gCons (gVar 0) (gCons (gVar 1) gNil))) (gC .non))) (sRet (gLst gNil)) sNx)
  (sSeq (sAsg (gVar 0) (tgTup 4 (tgCons (tgName 2) (tgCons (tgName 3) (tgCons (tgName 4) (tgCons (tgName 5) tgNil))))))
  (sSeq (sAsg (gIf (gTB (gBin pEq (gBin pIx (gVarB 1) (gC (.int 3))) (gC (.str "boat")))) (gTup (gCons (gBin pIx (gVarB 1) (gC (.int 1))) (gCons (gC (.int 1)) gNil))) (gTup (gCons (gBin pIx (gVarB 1) (gC (.int 2))) (gCons (gVar 5) gNil)))) (tgTup 2 (tgCons (tgName 6) (tgCons (tgName 7) tgNil))))
  (sRet (gLc (iRange (gCons (gVar 2) gNil)) (tgName 8) (gTB (gBin pLe (gB pAbs (gCons (gBin pSub (gVarB 8) (gVarB 6)) gNil)) (gVarB 7))) (gVar 8) [8])))))
def m__law_moves : List PV → M PV := fnM 9 b__law_moves
theorem u__law_moves (a0 a1 : PV) : m__law_moves [a0, a1] = (b__law_moves [.fz a0, .fz a1, .un, .un, .un, .un, .un, .un, .un] >>= fin) := fn_u
theorem k__law_moves (T : Tp K mg) : Known P w K mg base "_law_moves" 2 2 m__law_moves := by
  obtain ⟨f, fd, hm, Fu, b⟩ := T.f__law_moves
  exact known (k := 1) hm Fu b sc__law_moves rfl fun cdv A outer s H E hr =>
  (sss_cons (by exact (ss_if (st_cmp op_notN ops_notN (SE.sb (se_call (k__law_end T) (hr.mono (by decide)) (sa_cons (se_var (pv 0)) (sa_cons (se_var (pv 1)) sa_nil)) (rows_cons (rows_cons rows_nil)))) (SE.sb se_non) (nomark _)) (sss_one (by exact (ss_ret (SF.se (sf_lst sa_nil))))) sss_nil))
  (sss_cons (by exact (ss_asg (se_var (pv 0)) (sg_tup rfl (sgs_cons (sg_name (pg_name (i := 2) sc__law_moves.nd rfl (by first | exact Or.inl rfl | exact Or.inr rfl))) (sgs_cons (sg_name (pg_name (i := 3) sc__law_moves.nd rfl (by first | exact Or.inl rfl | exact Or.inr rfl))) (sgs_cons (sg_name (pg_name (i := 4) sc__law_moves.nd rfl (by first | exact Or.inl rfl | exact Or.inr rfl))) (sgs_cons (sg_name (pg_name (i := 5) sc__law_moves.nd rfl (by first | exact Or.inl rfl | exact Or.inr rfl))) sgs_nil)))))))
  (sss_cons (by exact (ss_asg (se_if (st_cmp (opr_eq hr.units) ops_eq (SE.sb (se_ix (sb_var (pv 1)) (SE.sb se_int) (fun _ _ => rfl))) (SE.sb se_str) (nomark _)) (se_tup (sa_cons (se_ix (sb_var (pv 1)) (SE.sb se_int) (fun _ _ => rfl)) (sa_cons se_int sa_nil))) (se_tup (sa_cons (se_ix (sb_var (pv 1)) (SE.sb se_int) (fun _ _ => rfl)) (sa_cons (se_var (pv 5)) sa_nil)))) (sg_tup rfl (sgs_cons (sg_name (pg_name (i := 6) sc__law_moves.nd rfl (by first | exact Or.inl rfl | exact Or.inr rfl))) (sgs_cons (sg_name (pg_name (i := 7) sc__law_moves.nd rfl (by first | exact Or.inl rfl | exact Or.inr rfl))) sgs_nil)))))
  (sss_one (by exact (ss_ret (SF.se (sf_lc (own := [("place", 8)]) (is := [8]) sc__law_moves.nd (blkOk_by (N := n__law_moves) (sc := (defScope s__law_moves)) (by decide +kernel)) (si_range1 T.b_range (sa_cons (se_var (pv 2)) sa_nil) (hn := (rows_cons rows_nil))) (fun _ _ _ _ _ => (sg_name (pg_name (i := 8) sc__law_moves.nd rfl (by first | exact Or.inl rfl | exact Or.inr rfl)))) (fun _ _ _ _ _ => (sts_one (st_cmp op_le ops_le (SE.sb (se_abs T.b_abs (sab_cons (SE.sb (se_op op_sub ops_sub (sb_var (pv 8)) (sb_var (pv 6)))) sab_nil))) (sb_var (pv 7)) (nomark _)))) (fun _ _ _ _ _ => (se_var (pv 8)))))))))))
def b__law_next : SM := (sSeq (sAsg (gVar 0) (tgTup 4 (tgCons (tgName 2) (tgCons (tgName 3) (tgCons (tgName 4) (tgCons (tgName 5) tgNil))))))
  (sRet (gIf (gTB (gBin pEq (gVarB 5) (gC (.str "boat")))) (gTup (gCons (gVar 2) (gCons (gVar 1) (gCons (gVar 4) (gCons (gC (.str "watch")) gNil))))) (gTup (gCons (gBin pAdd (gVarB 2) (gC (.int 1))) (gCons (gVar 3) (gCons (gVar 1) (gCons (gC (.str "boat")) gNil))))))))
def m__law_next : List PV → M PV := fnM 6 b__law_next
theorem u__law_next (a0 a1 : PV) : m__law_next [a0, a1] = (b__law_next [.fz a0, .fz a1, .un, .un, .un, .un] >>= fin) := fn_u
theorem k__law_next (T : Tp K mg) : Known P w K mg base "_law_next" 2 1 m__law_next := by
  obtain ⟨f, fd, hm, Fu, b⟩ := T.f__law_next
  exact known (k := 0) hm Fu b sc__law_next rfl fun cdv A outer s H E hr =>
  (sss_cons (by exact (ss_asg (se_var (pv 0)) (sg_tup rfl (sgs_cons (sg_name (pg_name (i := 2) sc__law_next.nd rfl (by first | exact Or.inl rfl | exact Or.inr rfl))) (sgs_cons (sg_name (pg_name (i := 3) sc__law_next.nd rfl (by first | exact Or.inl rfl | exact Or.inr rfl))) (sgs_cons (sg_name (pg_name (i := 4) sc__law_next.nd rfl (by first | exact Or.inl rfl | exact Or.inr rfl))) (sgs_cons (sg_name (pg_name (i := 5) sc__law_next.nd rfl (by first | exact Or.inl rfl | exact Or.inr rfl))) sgs_nil)))))))
  (sss_one (by exact (ss_ret (se_if (st_cmp (opr_eq hr.units) ops_eq (sb_var (pv 5)) (SE.sb se_str) (nomark _)) (se_tup (sa_cons (se_var (pv 2)) (sa_cons (se_var (pv 1)) (sa_cons (se_var (pv 4)) (sa_cons se_str sa_nil))))) (se_tup (sa_cons (se_op opr_add ops_add (sb_var (pv 2)) (SE.sb se_int)) (sa_cons (se_var (pv 3)) (sa_cons (se_var (pv 1)) (sa_cons se_str sa_nil))))))))))
def b__law_wins : SM := (sSeq (sAsg (gVar 0) (tgTup 4 (tgCons (tgName 3) (tgCons (tgName 4) (tgCons (tgName 5) (tgCons (tgName 6) tgNil))))))
  (sSeq (sOwn gNewT 1)
  (sSeq (sFor (iDown (gCons (gVar 5) (gCons (gNeg (gC (.int 1))) (gCons (gNeg (gC (.int 1))) gNil)))) (tgName 2) (sFor (iSeq (gTup (gCons (gC (.str "watch")) (gCons (gC (.str "boat")) gNil)))) (tgName 7) (sFor (iRange (gCons (gVar 3) gNil)) (tgName 8) (sFor (iRange (gCons (gVar 3) gNil)) (tgName 9) (sSeq (sAsg (gTup (gCons (gVar 2) (gCons (gVar 8) (gCons (gVar 9) (gCons (gVar 7) gNil))))) (tgName 10))
  (sSeq (sAsg (gLc (iSeq (gB m__law_moves (gCons (gVar 0) (gCons (gVar 10) gNil)))) (tgName 12) gYes (gBin pIxD (gVarB 1) (gB m__law_next (gCons (gVar 10) (gCons (gVar 12) gNil)))) [12]) (tgName 11))
  (sIf (gTB (gBin pEq (gB pLen (gCons (gVarB 11) gNil)) (gC (.int 0)))) (sSetD 1 (gVar 10) (gBin pEq (gB m__law_end (gCons (gVar 0) (gCons (gVar 10) gNil))) (gC (.str "through")))) (sSetD 1 (gVar 10) (gIf (gTB (gBin pEq (gVarB 7) (gC (.str "boat")))) (gB pAny (gCons (gVarB 11) gNil)) (gB pAll (gCons (gVarB 11) gNil)))))))))))
  (sFrz 1 (sRet (gVar 1))))))
def m__law_wins : List PV → M PV := fnM 13 b__law_wins
theorem u__law_wins (a0 : PV) : m__law_wins [a0] = (b__law_wins [.fz a0, .un, .un, .un, .un, .un, .un, .un, .un, .un, .un, .un, .un] >>= fin) := fn_u
theorem k__law_wins (T : Tp K mg) : Known P w K mg base "_law_wins" 1 3 m__law_wins := by
  obtain ⟨f, fd, hm, Fu, b⟩ := T.f__law_wins
  exact known (k := 2) hm Fu b sc__law_wins rfl fun cdv A outer s H E hr =>
  (sss_cons (by exact (ss_asg (se_var (pv 0)) (sg_tup rfl (sgs_cons (sg_name (pg_name (i := 3) sc__law_wins.nd rfl (by first | exact Or.inl rfl | exact Or.inr rfl))) (sgs_cons (sg_name (pg_name (i := 4) sc__law_wins.nd rfl (by first | exact Or.inl rfl | exact Or.inr rfl))) (sgs_cons (sg_name (pg_name (i := 5) sc__law_wins.nd rfl (by first | exact Or.inl rfl | exact Or.inr rfl))) (sgs_cons (sg_name (pg_name (i := 6) sc__law_wins.nd rfl (by first | exact Or.inl rfl | exact Or.inr rfl))) sgs_nil)))))))
  (sss_cons (by exact (ss_own (i := 1) sf_newT (pg_name (i := 1) sc__law_wins.nd rfl (by first | exact Or.inl rfl | exact Or.inr rfl))))
  (sss_cons (by exact (ss_for PassesOwn.never (si_down T.b_range (sa_cons (se_var (pv 5)) (sa_cons (se_neg se_int) (sa_cons (se_neg se_int) sa_nil))) (hn := (rows_cons (rows_cons (rows_cons rows_nil))))) (sg_name (pg_name (i := 2) sc__law_wins.nd rfl (by first | exact Or.inl rfl | exact Or.inr rfl))) (sss_one (by exact (ss_for PassesOwn.never (si_seq (se_tup (sa_cons se_str (sa_cons se_str sa_nil)))) (sg_name (pg_name (i := 7) sc__law_wins.nd rfl (by first | exact Or.inl rfl | exact Or.inr rfl))) (sss_one (by exact (ss_for PassesOwn.never (si_range1 T.b_range (sa_cons (se_var (pv 3)) sa_nil) (hn := (rows_cons rows_nil))) (sg_name (pg_name (i := 8) sc__law_wins.nd rfl (by first | exact Or.inl rfl | exact Or.inr rfl))) (sss_one (by exact (ss_for PassesOwn.never (si_range1 T.b_range (sa_cons (se_var (pv 3)) sa_nil) (hn := (rows_cons rows_nil))) (sg_name (pg_name (i := 9) sc__law_wins.nd rfl (by first | exact Or.inl rfl | exact Or.inr rfl))) (sss_cons (by exact (ss_asg (se_tup (sa_cons (se_var (pv 2)) (sa_cons (se_var (pv 8)) (sa_cons (se_var (pv 9)) (sa_cons (se_var (pv 7)) sa_nil))))) (sg_name (pg_name (i := 10) sc__law_wins.nd rfl (by first | exact Or.inl rfl | exact Or.inr rfl)))))
  (sss_cons (by exact (ss_asgLc (i := 11) (own := [("place", 12)]) (is := [12]) sc__law_wins.nd (blkOk_by (N := n__law_wins) (sc := (defScope s__law_wins)) (by decide +kernel)) (si_seq (se_call (k__law_moves T) (hr.mono (by decide)) (sa_cons (se_var (pv 0)) (sa_cons (se_var (pv 10)) sa_nil)) (rows_cons (rows_cons rows_nil)))) (fun _ _ _ _ _ => (sg_name (pg_name (i := 12) sc__law_wins.nd rfl (by first | exact Or.inl rfl | exact Or.inr rfl)))) (fun _ _ _ _ _ => sts_nil) (fun _ _ _ _ _ => (se_ixD (hu1 hr.units) (sb_var (pv 1)) (SE.sb (se_call (k__law_next T) (hr.mono (by decide)) (sa_cons (se_var (pv 10)) (sa_cons (se_var (pv 12)) sa_nil)) (rows_cons (rows_cons rows_nil)))) (fun _ _ => rfl))) rfl rfl (sw_true rfl rfl rfl (by decide +kernel))))
  (sss_one (by exact (ss_if (st_cmp (opr_eq hr.units) ops_eq (SE.sb (se_len T.b_len (sab_cons (sb_var (pv 11)) sab_nil))) (SE.sb se_int) (nomark _)) (sss_one (by exact (ss_setD (i := 1) (hu1 hr.units) (pv 1) (se_var (pv 10)) (se_cmp (opr_eq hr.units) ops_eq (SE.sb (se_call (k__law_end T) (hr.mono (by decide)) (sa_cons (se_var (pv 0)) (sa_cons (se_var (pv 10)) sa_nil)) (rows_cons (rows_cons rows_nil)))) (SE.sb se_str) (nomark _))))) (sss_one (by exact (ss_setD (i := 1) (hu1 hr.units) (pv 1) (se_var (pv 10)) (se_if (st_cmp (opr_eq hr.units) ops_eq (sb_var (pv 7)) (SE.sb se_str) (nomark _)) (se_any T.b_any (sab_cons (sb_var (pv 11)) sab_nil)) (se_all T.b_all (sab_cons (sb_var (pv 11)) sab_nil))))))))))))))))))))))
  (sss_frz 1 (sss_one (by exact (ss_ret (se_var (pv 1)))))))))
def b__law_is (m : List PV → M PV) : SM := (sSeq (sIf (gTru (gIsi [.tuple, .list] (gVarB 1))) (sSeq (sIf (gOrT (gTB (gBin pNe (gIsi [.tuple] (gVarB 0)) (gIsi [.tuple] (gVarB 1)))) (gNotT (gTru (gIsi [.tuple, .list] (gVarB 0))))) (sRet (gC (.bl false))) sNx)
  (sRet (gAnd (gBin pEq (gB pLen (gCons (gVarB 0) gNil)) (gB pLen (gCons (gVarB 1) gNil))) (gB pAll (gCons (gLc (iZip2 (gVar 0) (gVar 1)) (tgTup 2 (tgCons (tgName 3) (tgCons (tgName 4) tgNil))) gYes (gB m (gCons (gVar 3) (gCons (gVar 4) gNil))) [3, 4]) gNil))))) sNx)
  (sSeq (sIf (gTru (gIsi [.dict] (gVarB 1))) (sSeq (sIf (gOrT (gNotT (gTru (gIsi [.dict] (gVarB 0)))) (gTB (gBin pNe (gB pLen (gCons (gVarB 0) gNil)) (gB pLen (gCons (gVarB 1) gNil))))) (sRet (gC (.bl false))) sNx)
  (sRet (gB pAll (gCons (gLc (iSeq (gVar 1)) (tgName 2) gYes (gAnd (gBin pIn (gVarB 2) (gVarB 0)) (gB m (gCons (gBin pIx (gVarB 0) (gVarB 2)) (gCons (gBin pIx (gVarB 1) (gVarB 2)) gNil)))) [2]) gNil)))) sNx)
  (sSeq (sIf (gOrT (gTru (gIsi [.str] (gVarB 1))) (gTB (gBin (pIsN false) (gVarB 1) (gC .non)))) (sRet (gAnd (gBin pEq (gIsi [.str] (gVarB 0)) (gIsi [.str] (gVarB 1))) (gBin pEq (gVarB 0) (gVarB 1)))) sNx)
  (sRet (gAnd (gIsi [.int] (gVarB 0)) (gAnd (gBin pEq (gIsi [.bool] (gVarB 0)) (gIsi [.bool] (gVarB 1))) (gBin pEq (gVarB 0) (gVarB 1))))))))
def m__law_is : Nat → List PV → M PV
  | 0 => fnM 5 sNever
  | d + 1 => fnM 5 (b__law_is (m__law_is d))
theorem u__law_is (d : Nat) (a0 a1 : PV) : m__law_is (d + 1) [a0, a1] = (b__law_is (m__law_is d) [.fz a0, .fz a1, .un, .un, .un] >>= fin) := fn_u
theorem k__law_is (T : Tp K mg) : ∀ d : Nat, Known P w K mg base "_law_is" 2 (d + 1) (m__law_is d)
  | 0 => by
    obtain ⟨f, fd, hm, Fu, b⟩ := T.f__law_is
    exact known (k := 0) hm Fu b sc__law_is rfl fun cdv A outer s H E hr => sss_never
  | d + 1 => by
    obtain ⟨f, fd, hm, Fu, b⟩ := T.f__law_is
    have ih := k__law_is T d
    exact known (k := d + 1) hm Fu b sc__law_is rfl fun cdv A outer s H E hr =>
    (sss_cons (by exact (ss_if (st_tru (SE.sb (se_isi2 (c1 := .tuple) (c2 := .list) (sb_var (pv 1)) (cl_tuple T.b_tuple) (cl_list T.b_list) T.b_isinstance))) (sss_cons (by exact (ss_if (st_w (sw_or (st_cmp (opr_ne hr.units) ops_ne (SE.sb (se_isi (c := .tuple) (sb_var (pv 0)) (cl_tuple T.b_tuple) T.b_isinstance)) (SE.sb (se_isi (c := .tuple) (sb_var (pv 1)) (cl_tuple T.b_tuple) T.b_isinstance)) (nomark _)) (sw_or1 (st_not (st_tru (SE.sb (se_isi2 (c1 := .tuple) (c2 := .list) (sb_var (pv 0)) (cl_tuple T.b_tuple) (cl_list T.b_list) T.b_isinstance))))))) (sss_one (by exact (ss_ret se_bl))) sss_nil))
  (sss_one (by exact (ss_ret (se_and (se_cmp (opr_eq hr.units) ops_eq (SE.sb (se_len T.b_len (sab_cons (sb_var (pv 0)) sab_nil))) (SE.sb (se_len T.b_len (sab_cons (sb_var (pv 1)) sab_nil))) (nomark _)) (se_one (se_all T.b_all (sab_cons (SE.sb (SF.se (sf_lc (own := [("one", 3), ("two", 4)]) (is := [3, 4]) sc__law_is.nd (blkOk_by (N := n__law_is) (sc := (defScope s__law_is)) (by decide +kernel)) (si_zip T.b_zip (se_var (pv 0)) (se_var (pv 1))) (fun _ _ _ _ _ => (sg_tup rfl (sgs_cons (sg_name (pg_name (i := 3) sc__law_is.nd rfl (by first | exact Or.inl rfl | exact Or.inr rfl))) (sgs_cons (sg_name (pg_name (i := 4) sc__law_is.nd rfl (by first | exact Or.inl rfl | exact Or.inr rfl))) sgs_nil)))) (fun _ _ _ _ _ => sts_nil) (fun _ _ _ _ _ => (se_call ih (hr.mono (by omega)) (sa_cons (se_var (pv 3)) (sa_cons (se_var (pv 4)) sa_nil)) (rows_cons (rows_cons rows_nil))))))) sab_nil)))))))) sss_nil))
  (sss_cons (by exact (ss_if (st_tru (SE.sb (se_isi (c := .dict) (sb_var (pv 1)) (cl_dict T.b_dict) T.b_isinstance))) (sss_cons (by exact (ss_if (st_w (sw_or (st_not (st_tru (SE.sb (se_isi (c := .dict) (sb_var (pv 0)) (cl_dict T.b_dict) T.b_isinstance)))) (sw_or1 (st_cmp (opr_ne hr.units) ops_ne (SE.sb (se_len T.b_len (sab_cons (sb_var (pv 0)) sab_nil))) (SE.sb (se_len T.b_len (sab_cons (sb_var (pv 1)) sab_nil))) (nomark _))))) (sss_one (by exact (ss_ret se_bl))) sss_nil))
  (sss_one (by exact (ss_ret (se_all T.b_all (sab_cons (SE.sb (SF.se (sf_lc (own := [("key", 2)]) (is := [2]) sc__law_is.nd (blkOk_by (N := n__law_is) (sc := (defScope s__law_is)) (by decide +kernel)) (si_seq (se_var (pv 1))) (fun _ _ _ _ _ => (sg_name (pg_name (i := 2) sc__law_is.nd rfl (by first | exact Or.inl rfl | exact Or.inr rfl)))) (fun _ _ _ _ _ => sts_nil) (fun _ _ _ _ _ => (se_and (se_cmp op_in_seq (ops_in false) (sb_var (pv 2)) (sb_var (pv 0)) (by rfl)) (se_one (se_call ih (hr.mono (by omega)) (sa_cons (se_ix (sb_var (pv 0)) (sb_var (pv 2)) (fun _ _ => rfl)) (sa_cons (se_ix (sb_var (pv 1)) (sb_var (pv 2)) (fun _ _ => rfl)) sa_nil)) (rows_cons (rows_cons rows_nil))))))))) sab_nil)))))) sss_nil))
  (sss_cons (by exact (ss_if (st_w (sw_or (st_tru (SE.sb (se_isi (c := .str) (sb_var (pv 1)) (cl_str T.b_str) T.b_isinstance))) (sw_or1 (st_cmp op_isN ops_isN (sb_var (pv 1)) (SE.sb se_non) (nomark _))))) (sss_one (by exact (ss_ret (se_and (se_cmp (opr_eq hr.units) ops_eq (SE.sb (se_isi (c := .str) (sb_var (pv 0)) (cl_str T.b_str) T.b_isinstance)) (SE.sb (se_isi (c := .str) (sb_var (pv 1)) (cl_str T.b_str) T.b_isinstance)) (nomark _)) (se_one (se_cmp (opr_eq hr.units) ops_eq (sb_var (pv 0)) (sb_var (pv 1)) (nomark _))))))) sss_nil))
  (sss_one (by exact (ss_ret (se_and (se_isi (c := .int) (sb_var (pv 0)) (cl_int T.b_int) T.b_isinstance) (se_and (se_cmp (opr_eq hr.units) ops_eq (SE.sb (se_isi (c := .bool) (sb_var (pv 0)) (cl_bool T.b_bool) T.b_isinstance)) (SE.sb (se_isi (c := .bool) (sb_var (pv 1)) (cl_bool T.b_bool) T.b_isinstance)) (nomark _)) (se_one (se_cmp (opr_eq hr.units) ops_eq (sb_var (pv 0)) (sb_var (pv 1)) (nomark _)))))))))))
def b__law_barring : SM := (sSeq (sAsg (gB m__law_wins (gCons (gVar 0) gNil)) (tgName 1))
  (sRet (gB pTuple (gCons (gLc (iRange (gCons (gBin pIx (gVarB 0) (gC (.int 0))) gNil)) (tgName 2) (gNotT (gTru (gBin pIxD (gVarB 1) (gTup (gCons (gC (.int 0)) (gCons (gC (.int 0)) (gCons (gVar 2) (gCons (gC (.str "boat")) gNil)))))))) (gVar 2) [2]) gNil))))
def m__law_barring : List PV → M PV := fnM 3 b__law_barring
theorem u__law_barring (a0 : PV) : m__law_barring [a0] = (b__law_barring [.fz a0, .un, .un] >>= fin) := fn_u
theorem k__law_barring (T : Tp K mg) : Known P w K mg base "_law_barring" 1 4 m__law_barring := by
  obtain ⟨f, fd, hm, Fu, b⟩ := T.f__law_barring
  exact known (k := 3) hm Fu b sc__law_barring rfl fun cdv A outer s H E hr =>
  (sss_cons (by exact (ss_asg (se_call (k__law_wins T) (hr.mono (by decide)) (sa_cons (se_var (pv 0)) sa_nil) (rows_cons rows_nil)) (sg_name (pg_name (i := 1) sc__law_barring.nd rfl (by first | exact Or.inl rfl | exact Or.inr rfl)))))
  (sss_one (by exact (ss_ret (se_tuplec T.b_tuple (sab_cons (SE.sb (SF.se (sf_lc (own := [("watch", 2)]) (is := [2]) sc__law_barring.nd (blkOk_by (N := n__law_barring) (sc := (defScope s__law_barring)) (by decide +kernel)) (si_range1 T.b_range (sa_cons (se_ix (sb_var (pv 0)) (SE.sb se_int) (fun _ _ => rfl)) sa_nil) (hn := (rows_cons rows_nil))) (fun _ _ _ _ _ => (sg_name (pg_name (i := 2) sc__law_barring.nd rfl (by first | exact Or.inl rfl | exact Or.inr rfl)))) (fun _ _ _ _ _ => (sts_one (st_not (st_tru (SE.sb (se_ixD (hu1 hr.units) (sb_var (pv 1)) (SE.sb (se_tup (sa_cons se_int (sa_cons se_int (sa_cons (se_var (pv 2)) (sa_cons se_str sa_nil)))))) (fun _ _ => rfl))))))) (fun _ _ _ _ _ => (se_var (pv 2)))))) sab_nil))))))
def b__law_lots : SM := (sSeq (sAsg (gLst (gCons (gTup gNil) gNil)) (tgName 1))
  (sSeq (sFor (iSeq (gVar 0)) (tgName 2) (sAsg (gBin pAdd (gVarB 1) (gLc (iSeq (gVar 1)) (tgName 4) gYes (gBin pAdd (gVarB 4) (gTup (gCons (gVar 2) gNil))) [4])) (tgName 1)))
  (sRet (gLc (iSeq (gB pSorted (gCons (gLc (iSeq (gVar 1)) (tgName 4) gYes (gTup (gCons (gB pLen (gCons (gVarB 4) gNil)) (gCons (gVar 4) gNil))) [4]) gNil))) (tgTup 2 (tgCons (tgName 3) (tgCons (tgName 4) tgNil))) gYes (gVar 4) [3, 4]))))
def m__law_lots : List PV → M PV := fnM 5 b__law_lots
theorem u__law_lots (a0 : PV) : m__law_lots [a0] = (b__law_lots [.fz a0, .un, .un, .un, .un] >>= fin) := fn_u
theorem k__law_lots (T : Tp K mg) : Known P w K mg base "_law_lots" 1 1 m__law_lots := by
  obtain ⟨f, fd, hm, Fu, b⟩ := T.f__law_lots
  exact known (k := 0) hm Fu b sc__law_lots rfl fun cdv A outer s H E hr =>
  (sss_cons (by exact (ss_asg (SF.se (sf_lst (sa_cons (se_tup sa_nil) sa_nil))) (sg_name (pg_name (i := 1) sc__law_lots.nd rfl (by first | exact Or.inl rfl | exact Or.inr rfl)))))
  (sss_cons (by exact (ss_for PassesOwn.never (si_seq (se_var (pv 0))) (sg_name (pg_name (i := 2) sc__law_lots.nd rfl (by first | exact Or.inl rfl | exact Or.inr rfl))) (sss_one (by exact (ss_asg (se_op opr_add ops_add (sb_var (pv 1)) (SE.sb (SF.se (sf_lc (own := [("lot", 4)]) (is := [4]) sc__law_lots.nd (blkOk_by (N := n__law_lots) (sc := (defScope s__law_lots)) (by decide +kernel)) (si_seq (se_var (pv 1))) (fun _ _ _ _ _ => (sg_name (pg_name (i := 4) sc__law_lots.nd rfl (by first | exact Or.inl rfl | exact Or.inr rfl)))) (fun _ _ _ _ _ => sts_nil) (fun _ _ _ _ _ => (se_op opr_add ops_add (sb_var (pv 4)) (SE.sb (se_tup (sa_cons (se_var (pv 2)) sa_nil))))))))) (sg_name (pg_name (i := 1) sc__law_lots.nd rfl (by first | exact Or.inl rfl | exact Or.inr rfl))))))))
  (sss_one (by exact (ss_ret (SF.se (sf_lc (own := [("size", 3), ("lot", 4)]) (is := [3, 4]) sc__law_lots.nd (blkOk_by (N := n__law_lots) (sc := (defScope s__law_lots)) (by decide +kernel)) (si_seq (SF.se (sf_sorted hr.units T.b_sorted (sab_cons (SE.sb (SF.se (sf_lc (own := [("lot", 4)]) (is := [4]) sc__law_lots.nd (blkOk_by (N := n__law_lots) (sc := (defScope s__law_lots)) (by decide +kernel)) (si_seq (se_var (pv 1))) (fun _ _ _ _ _ => (sg_name (pg_name (i := 4) sc__law_lots.nd rfl (by first | exact Or.inl rfl | exact Or.inr rfl)))) (fun _ _ _ _ _ => sts_nil) (fun _ _ _ _ _ => (se_tup (sa_cons (se_len T.b_len (sab_cons (sb_var (pv 4)) sab_nil)) (sa_cons (se_var (pv 4)) sa_nil))))))) sab_nil)))) (fun _ _ _ _ _ => (sg_tup rfl (sgs_cons (sg_name (pg_name (i := 3) sc__law_lots.nd rfl (by first | exact Or.inl rfl | exact Or.inr rfl))) (sgs_cons (sg_name (pg_name (i := 4) sc__law_lots.nd rfl (by first | exact Or.inl rfl | exact Or.inr rfl))) sgs_nil)))) (fun _ _ _ _ _ => sts_nil) (fun _ _ _ _ _ => (se_var (pv 4))))))))))
def b0_law : SM := (sOwn (gB m__law_hand (gCons (gVar 0) gNil)) 1)
def b_law : SM := (sSeq (sFor (iRange (gCons (gC (.int 3)) gNil)) (tgName 2) (sSeq (sAsg (gB m__law_river (gCons (gVar 1) (gCons (gC (.int 4)) (gCons (gC (.int 5)) gNil)))) (tgName 3))
  (sSeq (sAsg (gVar 3) (tgTup 4 (tgCons (tgName 9) (tgCons (tgName 10) (tgCons (tgName 11) (tgCons (tgName 12) tgNil))))))
  (sSeq (sPar 13 14 (gCons (gB m__law_draw (gCons (gVar 1) (gCons (gVar 9) gNil))) (gCons (gC .non) gNil)))
  (sSeq (sFor (iDown (gCons (gVar 11) (gCons (gC (.int 0)) (gCons (gNeg (gC (.int 1))) gNil)))) (tgName 4) (sAsg (gIf (gTru (gBin pIxD (gB m__law_wins (gCons (gTup (gCons (gVar 9) (gCons (gVar 10) (gCons (gVar 4) (gCons (gVar 12) gNil))))) gNil)) (gTup (gCons (gC (.int 0)) (gCons (gC (.int 0)) (gCons (gVar 13) (gCons (gC (.str "boat")) gNil))))))) (gVar 4) (gVar 14)) (tgName 14)))
  (sSeq (sIf (gNotT (gTru (gB (m__law_is 4) (gCons (gB m_least_hours_for (gCons (gVar 3) (gCons (gVar 13) gNil))) (gCons (gVar 14) gNil))))) (sRet (gC (.bl false))) sNx)
  (sSeq (sAsg (gB m__law_barring (gCons (gVar 3) gNil)) (tgName 5))
  (sSeq (sIf (gNotT (gTru (gB (m__law_is 4) (gCons (gB m_barring_places (gCons (gVar 3) gNil)) (gCons (gVar 5) gNil))))) (sRet (gC (.bl false))) sNx)
  (sSeq (sAsg (gC .non) (tgName 6))
  (sSeq (sFor (iSeq (gB m__law_lots (gCons (gLc (iRange (gCons (gVar 9) gNil)) (tgName 16) (gTB (gBin pNotIn (gVarB 16) (gVarB 10))) (gVar 16) [16]) gNil))) (tgName 7) (sSeq (sAsg (gTup (gCons (gVar 9) (gCons (gB pTuple (gCons (gB pSorted (gCons (gBin pAdd (gVarB 10) (gVarB 7)) gNil)) gNil)) (gCons (gVar 11) (gCons (gVar 12) gNil))))) (tgName 15))
  (sIf (gAndT (gTB (gBin (pIsN false) (gVarB 6) (gC .non))) (gTB (gBin pEq (gB pLen (gCons (gB m__law_barring (gCons (gVar 15) gNil)) gNil)) (gC (.int 0))))) (sAsg (gTup (gCons (gB pLen (gCons (gVarB 7) gNil)) (gCons (gVar 7) gNil))) (tgName 6)) sNx)))
  (sSeq (sIf (gNotT (gTru (gB (m__law_is 4) (gCons (gB m_most_hides (gCons (gVar 3) gNil)) (gCons (gVar 6) gNil))))) (sRet (gC (.bl false))) sNx)
  (sSeq (sAsg (gB pTuple (gCons (gLc (iRange (gCons (gVar 9) gNil)) (tgName 16) (gOrT (gTB (gBin pIn (gVarB 16) (gVarB 10))) (gTB (gBin pEq (gB m__law_draw (gCons (gVar 1) (gCons (gC (.int 2)) gNil))) (gC (.int 0))))) (gVar 16) [16]) gNil)) (tgName 8))
  (sSeq (sIf (gNotT (gTru (gB (m__law_is 4) (gCons (gB m_with_hides (gCons (gVar 3) (gCons (gVar 8) gNil))) (gCons (gTup (gCons (gVar 9) (gCons (gVar 8) (gCons (gVar 11) (gCons (gVar 12) gNil))))) gNil))))) (sRet (gC (.bl false))) sNx)
  (sIf (gNotT (gTru (gB pAll (gCons (gLc (iSeq (gB m_barring_places (gCons (gB m_with_hides (gCons (gVar 3) (gCons (gVar 8) gNil))) gNil))) (tgName 16) gYes (gBin pIn (gVarB 16) (gVarB 5)) [16]) gNil)))) (sRet (gC (.bl false))) sNx))))))))))))))
  (sRet (gC (.bl true))))
def m_law : List PV → M PV := fnM 17 (sSeq b0_law (sHand 1 b_law))
abbrev law0 : Stmt := (defBody s_law).headD (.Pass ⟨0, 0, 0, 0⟩)
abbrev lawR : List Stmt := (defBody s_law).tail
theorem w_law (T : Tp K mg) {f : Addr} (cdv : Value) (A : Around) (outer : List Env) (s : Shared) (H : Hp) (E : XK) (hr : Room 7 (A.deeper (envOfC "law" (defScope s_law) s.heap.objs.size f cdv))) : SSs (cxOf CX0 P w K mg base n_law "law" (defScope s_law) f cdv A outer s H E).nox lawR b_law :=
  (sss_cons (by exact (ss_for PassesOwn.never (si_range1 T.b_range (sa_cons se_int sa_nil) (hn := (rows_cons rows_nil))) (sg_name (pg_name (i := 2) sc_law.nd rfl (by first | exact Or.inl rfl | exact Or.inr rfl))) (sss_cons (by exact (ss_asg (se_call (k__law_river T) (hr.mono (by decide)) (sa_cons (se_var (pv 1)) (sa_cons se_int (sa_cons se_int sa_nil))) (rows_cons (rows_cons (rows_cons rows_nil)))) (sg_name (pg_name (i := 3) sc_law.nd rfl (by first | exact Or.inl rfl | exact Or.inr rfl)))))
  (sss_cons (by exact (ss_asg (se_var (pv 3)) (sg_tup rfl (sgs_cons (sg_name (pg_name (i := 9) sc_law.nd rfl (by first | exact Or.inl rfl | exact Or.inr rfl))) (sgs_cons (sg_name (pg_name (i := 10) sc_law.nd rfl (by first | exact Or.inl rfl | exact Or.inr rfl))) (sgs_cons (sg_name (pg_name (i := 11) sc_law.nd rfl (by first | exact Or.inl rfl | exact Or.inr rfl))) (sgs_cons (sg_name (pg_name (i := 12) sc_law.nd rfl (by first | exact Or.inl rfl | exact Or.inr rfl))) sgs_nil)))))))
  (sss_cons (by exact (ss_par (i := 13) (j := 14) sc_law.nd rfl rfl (by decide) rfl rfl (sa_cons (se_call (k__law_draw T) (hr.mono (by decide)) (sa_cons (se_var (pv 1)) (sa_cons (se_var (pv 9)) sa_nil)) (rows_cons (rows_cons rows_nil))) (sa_cons se_non sa_nil)) (rows_cons (rows_cons rows_nil)) (by rfl)))
  (sss_cons (by exact (ss_for PassesOwn.never (si_down T.b_range (sa_cons (se_var (pv 11)) (sa_cons se_int (sa_cons (se_neg se_int) sa_nil))) (hn := (rows_cons (rows_cons (rows_cons rows_nil))))) (sg_name (pg_name (i := 4) sc_law.nd rfl (by first | exact Or.inl rfl | exact Or.inr rfl))) (sss_one (by exact (ss_asg (se_if (st_tru (SE.sb (se_ixD (hu1 hr.units) (SE.sb (se_call (k__law_wins T) (hr.mono (by decide)) (sa_cons (se_tup (sa_cons (se_var (pv 9)) (sa_cons (se_var (pv 10)) (sa_cons (se_var (pv 4)) (sa_cons (se_var (pv 12)) sa_nil))))) sa_nil) (rows_cons rows_nil))) (SE.sb (se_tup (sa_cons se_int (sa_cons se_int (sa_cons (se_var (pv 13)) (sa_cons se_str sa_nil)))))) (fun _ _ => rfl)))) (se_var (pv 4)) (se_var (pv 14))) (sg_name (pg_name (i := 14) sc_law.nd rfl (by first | exact Or.inl rfl | exact Or.inr rfl))))))))
  (sss_cons (by exact (ss_if (st_not (st_tru (SE.sb (se_call (k__law_is T 4) (hr.mono (by decide)) (sa_cons (se_call (k_least_hours_for T) (hr.mono (by decide)) (sa_cons (se_var (pv 3)) (sa_cons (se_var (pv 13)) sa_nil)) (rows_cons (rows_cons rows_nil))) (sa_cons (se_var (pv 14)) sa_nil)) (rows_cons (rows_cons rows_nil)))))) (sss_one (by exact (ss_ret se_bl))) sss_nil))
  (sss_cons (by exact (ss_asg (se_call (k__law_barring T) (hr.mono (by decide)) (sa_cons (se_var (pv 3)) sa_nil) (rows_cons rows_nil)) (sg_name (pg_name (i := 5) sc_law.nd rfl (by first | exact Or.inl rfl | exact Or.inr rfl)))))
  (sss_cons (by exact (ss_if (st_not (st_tru (SE.sb (se_call (k__law_is T 4) (hr.mono (by decide)) (sa_cons (se_call (k_barring_places T) (hr.mono (by decide)) (sa_cons (se_var (pv 3)) sa_nil) (rows_cons rows_nil)) (sa_cons (se_var (pv 5)) sa_nil)) (rows_cons (rows_cons rows_nil)))))) (sss_one (by exact (ss_ret se_bl))) sss_nil))
  (sss_cons (by exact (ss_asg se_non (sg_name (pg_name (i := 6) sc_law.nd rfl (by first | exact Or.inl rfl | exact Or.inr rfl)))))
  (sss_cons (by exact (ss_for PassesOwn.never (si_seq (se_call (k__law_lots T) (hr.mono (by decide)) (sa_cons (SF.se (sf_lc (own := [("place", 16)]) (is := [16]) sc_law.nd (blkOk_by (N := n_law) (sc := (defScope s_law)) (by decide +kernel)) (si_range1 T.b_range (sa_cons (se_var (pv 9)) sa_nil) (hn := (rows_cons rows_nil))) (fun _ _ _ _ _ => (sg_name (pg_name (i := 16) sc_law.nd rfl (by first | exact Or.inl rfl | exact Or.inr rfl)))) (fun _ _ _ _ _ => (sts_one (st_cmp op_notIn_seq (ops_in true) (sb_var (pv 16)) (sb_var (pv 10)) (by rfl)))) (fun _ _ _ _ _ => (se_var (pv 16))))) sa_nil) (rows_cons rows_nil))) (sg_name (pg_name (i := 7) sc_law.nd rfl (by first | exact Or.inl rfl | exact Or.inr rfl))) (sss_cons (by exact (ss_asg (se_tup (sa_cons (se_var (pv 9)) (sa_cons (se_tuplec T.b_tuple (sab_cons (SE.sb (SF.se (sf_sorted hr.units T.b_sorted (sab_cons (SE.sb (se_op opr_add ops_add (sb_var (pv 10)) (sb_var (pv 7)))) sab_nil)))) sab_nil)) (sa_cons (se_var (pv 11)) (sa_cons (se_var (pv 12)) sa_nil))))) (sg_name (pg_name (i := 15) sc_law.nd rfl (by first | exact Or.inl rfl | exact Or.inr rfl)))))
  (sss_one (by exact (ss_if (st_w (sw_and (st_cmp op_isN ops_isN (sb_var (pv 6)) (SE.sb se_non) (nomark _)) (sw_and1 (st_cmp (opr_eq hr.units) ops_eq (SE.sb (se_len T.b_len (sab_cons (SE.sb (se_call (k__law_barring T) (hr.mono (by decide)) (sa_cons (se_var (pv 15)) sa_nil) (rows_cons rows_nil))) sab_nil))) (SE.sb se_int) (nomark _))))) (sss_one (by exact (ss_asg (se_tup (sa_cons (se_len T.b_len (sab_cons (sb_var (pv 7)) sab_nil)) (sa_cons (se_var (pv 7)) sa_nil))) (sg_name (pg_name (i := 6) sc_law.nd rfl (by first | exact Or.inl rfl | exact Or.inr rfl)))))) sss_nil))))))
  (sss_cons (by exact (ss_if (st_not (st_tru (SE.sb (se_call (k__law_is T 4) (hr.mono (by decide)) (sa_cons (se_call (k_most_hides T) (hr.mono (by decide)) (sa_cons (se_var (pv 3)) sa_nil) (rows_cons rows_nil)) (sa_cons (se_var (pv 6)) sa_nil)) (rows_cons (rows_cons rows_nil)))))) (sss_one (by exact (ss_ret se_bl))) sss_nil))
  (sss_cons (by exact (ss_asg (se_tuplec T.b_tuple (sab_cons (SE.sb (SF.se (sf_lc (own := [("place", 16)]) (is := [16]) sc_law.nd (blkOk_by (N := n_law) (sc := (defScope s_law)) (by decide +kernel)) (si_range1 T.b_range (sa_cons (se_var (pv 9)) sa_nil) (hn := (rows_cons rows_nil))) (fun _ _ _ _ _ => (sg_name (pg_name (i := 16) sc_law.nd rfl (by first | exact Or.inl rfl | exact Or.inr rfl)))) (fun _ _ _ _ _ => (sts_one (st_w (sw_or (st_cmp op_in_seq (ops_in false) (sb_var (pv 16)) (sb_var (pv 10)) (by rfl)) (sw_or1 (st_cmp (opr_eq hr.units) ops_eq (SE.sb (se_call (k__law_draw T) (hr.mono (by decide)) (sa_cons (se_var (pv 1)) (sa_cons se_int sa_nil)) (rows_cons (rows_cons rows_nil)))) (SE.sb se_int) (nomark _))))))) (fun _ _ _ _ _ => (se_var (pv 16)))))) sab_nil)) (sg_name (pg_name (i := 8) sc_law.nd rfl (by first | exact Or.inl rfl | exact Or.inr rfl)))))
  (sss_cons (by exact (ss_if (st_not (st_tru (SE.sb (se_call (k__law_is T 4) (hr.mono (by decide)) (sa_cons (se_call (k_with_hides T) (hr.mono (by decide)) (sa_cons (se_var (pv 3)) (sa_cons (se_var (pv 8)) sa_nil)) (rows_cons (rows_cons rows_nil))) (sa_cons (se_tup (sa_cons (se_var (pv 9)) (sa_cons (se_var (pv 8)) (sa_cons (se_var (pv 11)) (sa_cons (se_var (pv 12)) sa_nil))))) sa_nil)) (rows_cons (rows_cons rows_nil)))))) (sss_one (by exact (ss_ret se_bl))) sss_nil))
  (sss_one (by exact (ss_if (st_not (st_tru (SE.sb (se_all T.b_all (sab_cons (SE.sb (SF.se (sf_lc (own := [("place", 16)]) (is := [16]) sc_law.nd (blkOk_by (N := n_law) (sc := (defScope s_law)) (by decide +kernel)) (si_seq (se_call (k_barring_places T) (hr.mono (by decide)) (sa_cons (se_call (k_with_hides T) (hr.mono (by decide)) (sa_cons (se_var (pv 3)) (sa_cons (se_var (pv 8)) sa_nil)) (rows_cons (rows_cons rows_nil))) sa_nil) (rows_cons rows_nil))) (fun _ _ _ _ _ => (sg_name (pg_name (i := 16) sc_law.nd rfl (by first | exact Or.inl rfl | exact Or.inr rfl)))) (fun _ _ _ _ _ => sts_nil) (fun _ _ _ _ _ => (se_cmp op_in_seq (ops_in false) (sb_var (pv 16)) (sb_var (pv 5)) (by rfl)))))) sab_nil))))) (sss_one (by exact (ss_ret se_bl))) sss_nil)))))))))))))))))
  (sss_one (by exact (ss_ret se_bl))))
theorem k_law (T : Tp K mg) {f : Addr} {fd : FuncData} (Fu : Fun K "law" "law" s_law f fd) : FnOk P w K mg base CX0 8 f fd ["script"] (spN K m_law) :=
  ok_law (k := 7) (g := b0_law) (s2 := b_law) (Ns := n_law) (s0 := law0) (sts := lawR) 1 Fu sc_law rfl (fun cdv A outer s H E hr => (ss_own (i := 1) (sf_call (k__law_hand T) (hr.mono (by decide)) (sa_cons (se_var (pv 0)) sa_nil) (rows_cons rows_nil)) (pg_name (i := 1) sc_law.nd rfl (by first | exact Or.inl rfl | exact Or.inr rfl)))) fun cdv A outer s H E hr => w_law T cdv A outer s H E hr
end
theorem all_mk {l : PySem.W.OpenLaw} {w : World} {K : PySem.W.Frag} {h : Heap} {mg : Str → Option Value} {fa : Addr} (X : K.In h) (G : h.Ns mainGlobals mg) (hfa : mg "law" = some (.ref fa))
  {tMOST_PLACES : Tok}
  {tLEAST_PLACES : Tok}
  {tMOST_HOURS : Tok}
  {tMOST_REACH : Tok}
  {tBOAT : Tok}
  {tWATCH : Tok}
  {fis_integer : Addr} {ocis_integer kVis_integer dcis_integer pmis_integer cdis_integer ctis_integer : Value} {odis_integer anis_integer : Option Addr} {slis_integer : Array (Option Value)}
  {fis_within : Addr} {ocis_within kVis_within dcis_within pmis_within cdis_within ctis_within : Value} {odis_within anis_within : Option Addr} {slis_within : Array (Option Value)}
  {fis_sized : Addr} {ocis_sized kVis_sized dcis_sized pmis_sized cdis_sized ctis_sized : Value} {odis_sized anis_sized : Option Addr} {slis_sized : Array (Option Value)}
  {fis_lot : Addr} {ocis_lot kVis_lot dcis_lot pmis_lot cdis_lot ctis_lot : Value} {odis_lot anis_lot : Option Addr} {slis_lot : Array (Option Value)}
  {fall_lots : Addr} {ocall_lots kVall_lots dcall_lots pmall_lots cdall_lots ctall_lots : Value} {odall_lots anall_lots : Option Addr} {slall_lots : Array (Option Value)}
  {fis_river : Addr} {ocis_river kVis_river dcis_river pmis_river cdis_river ctis_river : Value} {odis_river anis_river : Option Addr} {slis_river : Array (Option Value)}
  {fcheck_river : Addr} {occheck_river kVcheck_river dccheck_river pmcheck_river cdcheck_river ctcheck_river : Value} {odcheck_river ancheck_river : Option Addr} {slcheck_river : Array (Option Value)}
  {fis_through : Addr} {ocis_through kVis_through dcis_through pmis_through cdis_through ctis_through : Value} {odis_through anis_through : Option Addr} {slis_through : Array (Option Value)}
  {fis_over : Addr} {ocis_over kVis_over dcis_over pmis_over cdis_over ctis_over : Value} {odis_over anis_over : Option Addr} {slis_over : Array (Option Value)}
  {fraw_moves : Addr} {ocraw_moves kVraw_moves dcraw_moves pmraw_moves cdraw_moves ctraw_moves : Value} {odraw_moves anraw_moves : Option Addr} {slraw_moves : Array (Option Value)}
  {fraw_behind : Addr} {ocraw_behind kVraw_behind dcraw_behind pmraw_behind cdraw_behind ctraw_behind : Value} {odraw_behind anraw_behind : Option Addr} {slraw_behind : Array (Option Value)}
  {fthrough_stands : Addr} {octhrough_stands kVthrough_stands dcthrough_stands pmthrough_stands cdthrough_stands ctthrough_stands : Value} {odthrough_stands anthrough_stands : Option Addr} {slthrough_stands : Array (Option Value)}
  {fcheck_place : Addr} {occheck_place kVcheck_place dccheck_place pmcheck_place cdcheck_place ctcheck_place : Value} {odcheck_place ancheck_place : Option Addr} {slcheck_place : Array (Option Value)}
  {fleast_hours_for : Addr} {ocleast_hours_for kVleast_hours_for dcleast_hours_for pmleast_hours_for cdleast_hours_for ctleast_hours_for : Value} {odleast_hours_for anleast_hours_for : Option Addr} {slleast_hours_for : Array (Option Value)}
  {fraw_barring : Addr} {ocraw_barring kVraw_barring dcraw_barring pmraw_barring cdraw_barring ctraw_barring : Value} {odraw_barring anraw_barring : Option Addr} {slraw_barring : Array (Option Value)}
  {fbarring_places : Addr} {ocbarring_places kVbarring_places dcbarring_places pmbarring_places cdbarring_places ctbarring_places : Value} {odbarring_places anbarring_places : Option Addr} {slbarring_places : Array (Option Value)}
  {fraw_hides : Addr} {ocraw_hides kVraw_hides dcraw_hides pmraw_hides cdraw_hides ctraw_hides : Value} {odraw_hides anraw_hides : Option Addr} {slraw_hides : Array (Option Value)}
  {fmost_hides : Addr} {ocmost_hides kVmost_hides dcmost_hides pmmost_hides cdmost_hides ctmost_hides : Value} {odmost_hides anmost_hides : Option Addr} {slmost_hides : Array (Option Value)}
  {fwith_hides : Addr} {ocwith_hides kVwith_hides dcwith_hides pmwith_hides cdwith_hides ctwith_hides : Value} {odwith_hides anwith_hides : Option Addr} {slwith_hides : Array (Option Value)}
  {f_law_hand : Addr} {oc_law_hand kV_law_hand dc_law_hand pm_law_hand cd_law_hand ct_law_hand : Value} {od_law_hand an_law_hand : Option Addr} {sl_law_hand : Array (Option Value)}
  {f_law_draw : Addr} {oc_law_draw kV_law_draw dc_law_draw pm_law_draw cd_law_draw ct_law_draw : Value} {od_law_draw an_law_draw : Option Addr} {sl_law_draw : Array (Option Value)}
  {f_law_river : Addr} {oc_law_river kV_law_river dc_law_river pm_law_river cd_law_river ct_law_river : Value} {od_law_river an_law_river : Option Addr} {sl_law_river : Array (Option Value)}
  {f_law_end : Addr} {oc_law_end kV_law_end dc_law_end pm_law_end cd_law_end ct_law_end : Value} {od_law_end an_law_end : Option Addr} {sl_law_end : Array (Option Value)}
  {f_law_moves : Addr} {oc_law_moves kV_law_moves dc_law_moves pm_law_moves cd_law_moves ct_law_moves : Value} {od_law_moves an_law_moves : Option Addr} {sl_law_moves : Array (Option Value)}
  {f_law_next : Addr} {oc_law_next kV_law_next dc_law_next pm_law_next cd_law_next ct_law_next : Value} {od_law_next an_law_next : Option Addr} {sl_law_next : Array (Option Value)}
  {f_law_wins : Addr} {oc_law_wins kV_law_wins dc_law_wins pm_law_wins cd_law_wins ct_law_wins : Value} {od_law_wins an_law_wins : Option Addr} {sl_law_wins : Array (Option Value)}
  {f_law_is : Addr} {oc_law_is kV_law_is dc_law_is pm_law_is cd_law_is ct_law_is : Value} {od_law_is an_law_is : Option Addr} {sl_law_is : Array (Option Value)}
  {f_law_barring : Addr} {oc_law_barring kV_law_barring dc_law_barring pm_law_barring cd_law_barring ct_law_barring : Value} {od_law_barring an_law_barring : Option Addr} {sl_law_barring : Array (Option Value)}
  {f_law_lots : Addr} {oc_law_lots kV_law_lots dc_law_lots pm_law_lots cd_law_lots ct_law_lots : Value} {od_law_lots an_law_lots : Option Addr} {sl_law_lots : Array (Option Value)}
  {flaw : Addr} {oclaw kVlaw dclaw pmlaw cdlaw ctlaw : Value} {odlaw anlaw : Option Addr} {sllaw : Array (Option Value)}
  (babs : PySem.W.nsIn K mainGlobals "abs" = some none)
  (ball : PySem.W.nsIn K mainGlobals "all" = some none)
  (bany : PySem.W.nsIn K mainGlobals "any" = some none)
  (bbool : PySem.W.nsIn K mainGlobals "bool" = some none)
  (bdict : PySem.W.nsIn K mainGlobals "dict" = some none)
  (bint : PySem.W.nsIn K mainGlobals "int" = some none)
  (bisinstance : PySem.W.nsIn K mainGlobals "isinstance" = some none)
  (blen : PySem.W.nsIn K mainGlobals "len" = some none)
  (blist : PySem.W.nsIn K mainGlobals "list" = some none)
  (brange : PySem.W.nsIn K mainGlobals "range" = some none)
  (bsorted : PySem.W.nsIn K mainGlobals "sorted" = some none)
  (bstr : PySem.W.nsIn K mainGlobals "str" = some none)
  (btuple : PySem.W.nsIn K mainGlobals "tuple" = some none)
  (bzip : PySem.W.nsIn K mainGlobals "zip" = some none)
  (cMOST_PLACES : PySem.W.nsIn K mainGlobals "MOST_PLACES" = some (some (.int 7 tMOST_PLACES)))
  (cLEAST_PLACES : PySem.W.nsIn K mainGlobals "LEAST_PLACES" = some (some (.int 2 tLEAST_PLACES)))
  (cMOST_HOURS : PySem.W.nsIn K mainGlobals "MOST_HOURS" = some (some (.int 12 tMOST_HOURS)))
  (cMOST_REACH : PySem.W.nsIn K mainGlobals "MOST_REACH" = some (some (.int 2 tMOST_REACH)))
  (cBOAT : PySem.W.nsIn K mainGlobals "BOAT" = some (some (.str "boat" tBOAT)))
  (cWATCH : PySem.W.nsIn K mainGlobals "WATCH" = some (some (.str "watch" tWATCH)))
  (ais_integer : PySem.W.nsIn K mainGlobals "is_integer" = some (some (.ref fis_integer)))
  (lis_integer : K.lookup fis_integer = some ⟨ocis_integer, odis_integer, .func (PySem.W.fnOf "is_integer" "is_integer" (defArgs s_is_integer) (defBody s_is_integer) (defScope s_is_integer) .none kVis_integer dcis_integer pmis_integer anis_integer cdis_integer ctis_integer), slis_integer⟩)
  (dis_integer : PySem.W.codeIn K cdis_integer "is_integer" = true)
  (eis_integer : PySem.W.keepIn K (.ref fis_integer) = true)
  (ais_within : PySem.W.nsIn K mainGlobals "is_within" = some (some (.ref fis_within)))
  (lis_within : K.lookup fis_within = some ⟨ocis_within, odis_within, .func (PySem.W.fnOf "is_within" "is_within" (defArgs s_is_within) (defBody s_is_within) (defScope s_is_within) .none kVis_within dcis_within pmis_within anis_within cdis_within ctis_within), slis_within⟩)
  (dis_within : PySem.W.codeIn K cdis_within "is_within" = true)
  (eis_within : PySem.W.keepIn K (.ref fis_within) = true)
  (ais_sized : PySem.W.nsIn K mainGlobals "is_sized" = some (some (.ref fis_sized)))
  (lis_sized : K.lookup fis_sized = some ⟨ocis_sized, odis_sized, .func (PySem.W.fnOf "is_sized" "is_sized" (defArgs s_is_sized) (defBody s_is_sized) (defScope s_is_sized) .none kVis_sized dcis_sized pmis_sized anis_sized cdis_sized ctis_sized), slis_sized⟩)
  (dis_sized : PySem.W.codeIn K cdis_sized "is_sized" = true)
  (eis_sized : PySem.W.keepIn K (.ref fis_sized) = true)
  (ais_lot : PySem.W.nsIn K mainGlobals "is_lot" = some (some (.ref fis_lot)))
  (lis_lot : K.lookup fis_lot = some ⟨ocis_lot, odis_lot, .func (PySem.W.fnOf "is_lot" "is_lot" (defArgs s_is_lot) (defBody s_is_lot) (defScope s_is_lot) .none kVis_lot dcis_lot pmis_lot anis_lot cdis_lot ctis_lot), slis_lot⟩)
  (dis_lot : PySem.W.codeIn K cdis_lot "is_lot" = true)
  (eis_lot : PySem.W.keepIn K (.ref fis_lot) = true)
  (aall_lots : PySem.W.nsIn K mainGlobals "all_lots" = some (some (.ref fall_lots)))
  (lall_lots : K.lookup fall_lots = some ⟨ocall_lots, odall_lots, .func (PySem.W.fnOf "all_lots" "all_lots" (defArgs s_all_lots) (defBody s_all_lots) (defScope s_all_lots) .none kVall_lots dcall_lots pmall_lots anall_lots cdall_lots ctall_lots), slall_lots⟩)
  (dall_lots : PySem.W.codeIn K cdall_lots "all_lots" = true)
  (eall_lots : PySem.W.keepIn K (.ref fall_lots) = true)
  (ais_river : PySem.W.nsIn K mainGlobals "is_river" = some (some (.ref fis_river)))
  (lis_river : K.lookup fis_river = some ⟨ocis_river, odis_river, .func (PySem.W.fnOf "is_river" "is_river" (defArgs s_is_river) (defBody s_is_river) (defScope s_is_river) .none kVis_river dcis_river pmis_river anis_river cdis_river ctis_river), slis_river⟩)
  (dis_river : PySem.W.codeIn K cdis_river "is_river" = true)
  (eis_river : PySem.W.keepIn K (.ref fis_river) = true)
  (acheck_river : PySem.W.nsIn K mainGlobals "check_river" = some (some (.ref fcheck_river)))
  (lcheck_river : K.lookup fcheck_river = some ⟨occheck_river, odcheck_river, .func (PySem.W.fnOf "check_river" "check_river" (defArgs s_check_river) (defBody s_check_river) (defScope s_check_river) .none kVcheck_river dccheck_river pmcheck_river ancheck_river cdcheck_river ctcheck_river), slcheck_river⟩)
  (dcheck_river : PySem.W.codeIn K cdcheck_river "check_river" = true)
  (echeck_river : PySem.W.keepIn K (.ref fcheck_river) = true)
  (ais_through : PySem.W.nsIn K mainGlobals "is_through" = some (some (.ref fis_through)))
  (lis_through : K.lookup fis_through = some ⟨ocis_through, odis_through, .func (PySem.W.fnOf "is_through" "is_through" (defArgs s_is_through) (defBody s_is_through) (defScope s_is_through) .none kVis_through dcis_through pmis_through anis_through cdis_through ctis_through), slis_through⟩)
  (dis_through : PySem.W.codeIn K cdis_through "is_through" = true)
  (eis_through : PySem.W.keepIn K (.ref fis_through) = true)
  (ais_over : PySem.W.nsIn K mainGlobals "is_over" = some (some (.ref fis_over)))
  (lis_over : K.lookup fis_over = some ⟨ocis_over, odis_over, .func (PySem.W.fnOf "is_over" "is_over" (defArgs s_is_over) (defBody s_is_over) (defScope s_is_over) .none kVis_over dcis_over pmis_over anis_over cdis_over ctis_over), slis_over⟩)
  (dis_over : PySem.W.codeIn K cdis_over "is_over" = true)
  (eis_over : PySem.W.keepIn K (.ref fis_over) = true)
  (araw_moves : PySem.W.nsIn K mainGlobals "raw_moves" = some (some (.ref fraw_moves)))
  (lraw_moves : K.lookup fraw_moves = some ⟨ocraw_moves, odraw_moves, .func (PySem.W.fnOf "raw_moves" "raw_moves" (defArgs s_raw_moves) (defBody s_raw_moves) (defScope s_raw_moves) .none kVraw_moves dcraw_moves pmraw_moves anraw_moves cdraw_moves ctraw_moves), slraw_moves⟩)
  (draw_moves : PySem.W.codeIn K cdraw_moves "raw_moves" = true)
  (eraw_moves : PySem.W.keepIn K (.ref fraw_moves) = true)
  (araw_behind : PySem.W.nsIn K mainGlobals "raw_behind" = some (some (.ref fraw_behind)))
  (lraw_behind : K.lookup fraw_behind = some ⟨ocraw_behind, odraw_behind, .func (PySem.W.fnOf "raw_behind" "raw_behind" (defArgs s_raw_behind) (defBody s_raw_behind) (defScope s_raw_behind) .none kVraw_behind dcraw_behind pmraw_behind anraw_behind cdraw_behind ctraw_behind), slraw_behind⟩)
  (draw_behind : PySem.W.codeIn K cdraw_behind "raw_behind" = true)
  (eraw_behind : PySem.W.keepIn K (.ref fraw_behind) = true)
  (athrough_stands : PySem.W.nsIn K mainGlobals "through_stands" = some (some (.ref fthrough_stands)))
  (lthrough_stands : K.lookup fthrough_stands = some ⟨octhrough_stands, odthrough_stands, .func (PySem.W.fnOf "through_stands" "through_stands" (defArgs s_through_stands) (defBody s_through_stands) (defScope s_through_stands) .none kVthrough_stands dcthrough_stands pmthrough_stands anthrough_stands cdthrough_stands ctthrough_stands), slthrough_stands⟩)
  (dthrough_stands : PySem.W.codeIn K cdthrough_stands "through_stands" = true)
  (ethrough_stands : PySem.W.keepIn K (.ref fthrough_stands) = true)
  (acheck_place : PySem.W.nsIn K mainGlobals "check_place" = some (some (.ref fcheck_place)))
  (lcheck_place : K.lookup fcheck_place = some ⟨occheck_place, odcheck_place, .func (PySem.W.fnOf "check_place" "check_place" (defArgs s_check_place) (defBody s_check_place) (defScope s_check_place) .none kVcheck_place dccheck_place pmcheck_place ancheck_place cdcheck_place ctcheck_place), slcheck_place⟩)
  (dcheck_place : PySem.W.codeIn K cdcheck_place "check_place" = true)
  (echeck_place : PySem.W.keepIn K (.ref fcheck_place) = true)
  (aleast_hours_for : PySem.W.nsIn K mainGlobals "least_hours_for" = some (some (.ref fleast_hours_for)))
  (lleast_hours_for : K.lookup fleast_hours_for = some ⟨ocleast_hours_for, odleast_hours_for, .func (PySem.W.fnOf "least_hours_for" "least_hours_for" (defArgs s_least_hours_for) (defBody s_least_hours_for) (defScope s_least_hours_for) .none kVleast_hours_for dcleast_hours_for pmleast_hours_for anleast_hours_for cdleast_hours_for ctleast_hours_for), slleast_hours_for⟩)
  (dleast_hours_for : PySem.W.codeIn K cdleast_hours_for "least_hours_for" = true)
  (eleast_hours_for : PySem.W.keepIn K (.ref fleast_hours_for) = true)
  (araw_barring : PySem.W.nsIn K mainGlobals "raw_barring" = some (some (.ref fraw_barring)))
  (lraw_barring : K.lookup fraw_barring = some ⟨ocraw_barring, odraw_barring, .func (PySem.W.fnOf "raw_barring" "raw_barring" (defArgs s_raw_barring) (defBody s_raw_barring) (defScope s_raw_barring) .none kVraw_barring dcraw_barring pmraw_barring anraw_barring cdraw_barring ctraw_barring), slraw_barring⟩)
  (draw_barring : PySem.W.codeIn K cdraw_barring "raw_barring" = true)
  (eraw_barring : PySem.W.keepIn K (.ref fraw_barring) = true)
  (abarring_places : PySem.W.nsIn K mainGlobals "barring_places" = some (some (.ref fbarring_places)))
  (lbarring_places : K.lookup fbarring_places = some ⟨ocbarring_places, odbarring_places, .func (PySem.W.fnOf "barring_places" "barring_places" (defArgs s_barring_places) (defBody s_barring_places) (defScope s_barring_places) .none kVbarring_places dcbarring_places pmbarring_places anbarring_places cdbarring_places ctbarring_places), slbarring_places⟩)
  (dbarring_places : PySem.W.codeIn K cdbarring_places "barring_places" = true)
  (ebarring_places : PySem.W.keepIn K (.ref fbarring_places) = true)
  (araw_hides : PySem.W.nsIn K mainGlobals "raw_hides" = some (some (.ref fraw_hides)))
  (lraw_hides : K.lookup fraw_hides = some ⟨ocraw_hides, odraw_hides, .func (PySem.W.fnOf "raw_hides" "raw_hides" (defArgs s_raw_hides) (defBody s_raw_hides) (defScope s_raw_hides) .none kVraw_hides dcraw_hides pmraw_hides anraw_hides cdraw_hides ctraw_hides), slraw_hides⟩)
  (draw_hides : PySem.W.codeIn K cdraw_hides "raw_hides" = true)
  (eraw_hides : PySem.W.keepIn K (.ref fraw_hides) = true)
  (amost_hides : PySem.W.nsIn K mainGlobals "most_hides" = some (some (.ref fmost_hides)))
  (lmost_hides : K.lookup fmost_hides = some ⟨ocmost_hides, odmost_hides, .func (PySem.W.fnOf "most_hides" "most_hides" (defArgs s_most_hides) (defBody s_most_hides) (defScope s_most_hides) .none kVmost_hides dcmost_hides pmmost_hides anmost_hides cdmost_hides ctmost_hides), slmost_hides⟩)
  (dmost_hides : PySem.W.codeIn K cdmost_hides "most_hides" = true)
  (emost_hides : PySem.W.keepIn K (.ref fmost_hides) = true)
  (awith_hides : PySem.W.nsIn K mainGlobals "with_hides" = some (some (.ref fwith_hides)))
  (lwith_hides : K.lookup fwith_hides = some ⟨ocwith_hides, odwith_hides, .func (PySem.W.fnOf "with_hides" "with_hides" (defArgs s_with_hides) (defBody s_with_hides) (defScope s_with_hides) .none kVwith_hides dcwith_hides pmwith_hides anwith_hides cdwith_hides ctwith_hides), slwith_hides⟩)
  (dwith_hides : PySem.W.codeIn K cdwith_hides "with_hides" = true)
  (ewith_hides : PySem.W.keepIn K (.ref fwith_hides) = true)
  (a_law_hand : PySem.W.nsIn K mainGlobals "_law_hand" = some (some (.ref f_law_hand)))
  (l_law_hand : K.lookup f_law_hand = some ⟨oc_law_hand, od_law_hand, .func (PySem.W.fnOf "_law_hand" "_law_hand" (defArgs s__law_hand) (defBody s__law_hand) (defScope s__law_hand) .none kV_law_hand dc_law_hand pm_law_hand an_law_hand cd_law_hand ct_law_hand), sl_law_hand⟩)
  (d_law_hand : PySem.W.codeIn K cd_law_hand "_law_hand" = true)
  (e_law_hand : PySem.W.keepIn K (.ref f_law_hand) = true)
  (a_law_draw : PySem.W.nsIn K mainGlobals "_law_draw" = some (some (.ref f_law_draw)))
  (l_law_draw : K.lookup f_law_draw = some ⟨oc_law_draw, od_law_draw, .func (PySem.W.fnOf "_law_draw" "_law_draw" (defArgs s__law_draw) (defBody s__law_draw) (defScope s__law_draw) .none kV_law_draw dc_law_draw pm_law_draw an_law_draw cd_law_draw ct_law_draw), sl_law_draw⟩)
  (d_law_draw : PySem.W.codeIn K cd_law_draw "_law_draw" = true)
  (e_law_draw : PySem.W.keepIn K (.ref f_law_draw) = true)
  (a_law_river : PySem.W.nsIn K mainGlobals "_law_river" = some (some (.ref f_law_river)))
  (l_law_river : K.lookup f_law_river = some ⟨oc_law_river, od_law_river, .func (PySem.W.fnOf "_law_river" "_law_river" (defArgs s__law_river) (defBody s__law_river) (defScope s__law_river) .none kV_law_river dc_law_river pm_law_river an_law_river cd_law_river ct_law_river), sl_law_river⟩)
  (d_law_river : PySem.W.codeIn K cd_law_river "_law_river" = true)
  (e_law_river : PySem.W.keepIn K (.ref f_law_river) = true)
  (a_law_end : PySem.W.nsIn K mainGlobals "_law_end" = some (some (.ref f_law_end)))
  (l_law_end : K.lookup f_law_end = some ⟨oc_law_end, od_law_end, .func (PySem.W.fnOf "_law_end" "_law_end" (defArgs s__law_end) (defBody s__law_end) (defScope s__law_end) .none kV_law_end dc_law_end pm_law_end an_law_end cd_law_end ct_law_end), sl_law_end⟩)
  (d_law_end : PySem.W.codeIn K cd_law_end "_law_end" = true)
  (e_law_end : PySem.W.keepIn K (.ref f_law_end) = true)
  (a_law_moves : PySem.W.nsIn K mainGlobals "_law_moves" = some (some (.ref f_law_moves)))
  (l_law_moves : K.lookup f_law_moves = some ⟨oc_law_moves, od_law_moves, .func (PySem.W.fnOf "_law_moves" "_law_moves" (defArgs s__law_moves) (defBody s__law_moves) (defScope s__law_moves) .none kV_law_moves dc_law_moves pm_law_moves an_law_moves cd_law_moves ct_law_moves), sl_law_moves⟩)
  (d_law_moves : PySem.W.codeIn K cd_law_moves "_law_moves" = true)
  (e_law_moves : PySem.W.keepIn K (.ref f_law_moves) = true)
  (a_law_next : PySem.W.nsIn K mainGlobals "_law_next" = some (some (.ref f_law_next)))
  (l_law_next : K.lookup f_law_next = some ⟨oc_law_next, od_law_next, .func (PySem.W.fnOf "_law_next" "_law_next" (defArgs s__law_next) (defBody s__law_next) (defScope s__law_next) .none kV_law_next dc_law_next pm_law_next an_law_next cd_law_next ct_law_next), sl_law_next⟩)
  (d_law_next : PySem.W.codeIn K cd_law_next "_law_next" = true)
  (e_law_next : PySem.W.keepIn K (.ref f_law_next) = true)
  (a_law_wins : PySem.W.nsIn K mainGlobals "_law_wins" = some (some (.ref f_law_wins)))
  (l_law_wins : K.lookup f_law_wins = some ⟨oc_law_wins, od_law_wins, .func (PySem.W.fnOf "_law_wins" "_law_wins" (defArgs s__law_wins) (defBody s__law_wins) (defScope s__law_wins) .none kV_law_wins dc_law_wins pm_law_wins an_law_wins cd_law_wins ct_law_wins), sl_law_wins⟩)
  (d_law_wins : PySem.W.codeIn K cd_law_wins "_law_wins" = true)
  (e_law_wins : PySem.W.keepIn K (.ref f_law_wins) = true)
  (a_law_is : PySem.W.nsIn K mainGlobals "_law_is" = some (some (.ref f_law_is)))
  (l_law_is : K.lookup f_law_is = some ⟨oc_law_is, od_law_is, .func (PySem.W.fnOf "_law_is" "_law_is" (defArgs s__law_is) (defBody s__law_is) (defScope s__law_is) .none kV_law_is dc_law_is pm_law_is an_law_is cd_law_is ct_law_is), sl_law_is⟩)
  (d_law_is : PySem.W.codeIn K cd_law_is "_law_is" = true)
  (e_law_is : PySem.W.keepIn K (.ref f_law_is) = true)
  (a_law_barring : PySem.W.nsIn K mainGlobals "_law_barring" = some (some (.ref f_law_barring)))
  (l_law_barring : K.lookup f_law_barring = some ⟨oc_law_barring, od_law_barring, .func (PySem.W.fnOf "_law_barring" "_law_barring" (defArgs s__law_barring) (defBody s__law_barring) (defScope s__law_barring) .none kV_law_barring dc_law_barring pm_law_barring an_law_barring cd_law_barring ct_law_barring), sl_law_barring⟩)
  (d_law_barring : PySem.W.codeIn K cd_law_barring "_law_barring" = true)
  (e_law_barring : PySem.W.keepIn K (.ref f_law_barring) = true)
  (a_law_lots : PySem.W.nsIn K mainGlobals "_law_lots" = some (some (.ref f_law_lots)))
  (l_law_lots : K.lookup f_law_lots = some ⟨oc_law_lots, od_law_lots, .func (PySem.W.fnOf "_law_lots" "_law_lots" (defArgs s__law_lots) (defBody s__law_lots) (defScope s__law_lots) .none kV_law_lots dc_law_lots pm_law_lots an_law_lots cd_law_lots ct_law_lots), sl_law_lots⟩)
  (d_law_lots : PySem.W.codeIn K cd_law_lots "_law_lots" = true)
  (e_law_lots : PySem.W.keepIn K (.ref f_law_lots) = true)
  (alaw : PySem.W.nsIn K mainGlobals "law" = some (some (.ref flaw)))
  (llaw : K.lookup flaw = some ⟨oclaw, odlaw, .func (PySem.W.fnOf "law" "law" (defArgs s_law) (defBody s_law) (defScope s_law) .none kVlaw dclaw pmlaw anlaw cdlaw ctlaw), sllaw⟩)
  (dlaw : PySem.W.codeIn K cdlaw "law" = true)
  (elaw : PySem.W.keepIn K (.ref flaw) = true) :
  ∃ fd : FuncData, (∀ (s : Shared) (v : Value), BindsTo s fd ⟨[v], []⟩ [("script", v)]) ∧ ∀ base : Heap, K.In base → base.Ns mainGlobals mg → FnOk l.prog w K mg base CX0 8 fa fd ["script"] (spN K m_law) := by
  have e := hfa.symm.trans (PySem.W.mg_of X G alaw)
  cases e
  have T : Tp K mg := Tp.mk (PySem.W.mg_none_of X G babs)
    (PySem.W.mg_none_of X G ball)
    (PySem.W.mg_none_of X G bany)
    (PySem.W.mg_none_of X G bbool)
    (PySem.W.mg_none_of X G bdict)
    (PySem.W.mg_none_of X G bint)
    (PySem.W.mg_none_of X G bisinstance)
    (PySem.W.mg_none_of X G blen)
    (PySem.W.mg_none_of X G blist)
    (PySem.W.mg_none_of X G brange)
    (PySem.W.mg_none_of X G bsorted)
    (PySem.W.mg_none_of X G bstr)
    (PySem.W.mg_none_of X G btuple)
    (PySem.W.mg_none_of X G bzip)
    (⟨_, PySem.W.mg_of X G cMOST_PLACES⟩)
    (⟨_, PySem.W.mg_of X G cLEAST_PLACES⟩)
    (⟨_, PySem.W.mg_of X G cMOST_HOURS⟩)
    (⟨_, PySem.W.mg_of X G cMOST_REACH⟩)
    (⟨_, PySem.W.mg_of X G cBOAT⟩)
    (⟨_, PySem.W.mg_of X G cWATCH⟩)
    (⟨_, _, PySem.W.mg_of X G ais_integer, fun_mk lis_integer dis_integer eis_integer, (fun_mk lis_integer dis_integer eis_integer).binds fun _ _ _ _ _ _ us hl => match us, hl with | [_], _ => rfl⟩)
    (⟨_, _, PySem.W.mg_of X G ais_within, fun_mk lis_within dis_within eis_within, (fun_mk lis_within dis_within eis_within).binds fun _ _ _ _ _ _ us hl => match us, hl with | [_, _, _], _ => rfl⟩)
    (⟨_, _, PySem.W.mg_of X G ais_sized, fun_mk lis_sized dis_sized eis_sized, (fun_mk lis_sized dis_sized eis_sized).binds fun _ _ _ _ _ _ us hl => match us, hl with | [_, _, _], _ => rfl⟩)
    (⟨_, _, PySem.W.mg_of X G ais_lot, fun_mk lis_lot dis_lot eis_lot, (fun_mk lis_lot dis_lot eis_lot).binds fun _ _ _ _ _ _ us hl => match us, hl with | [_, _], _ => rfl⟩)
    (⟨_, _, PySem.W.mg_of X G aall_lots, fun_mk lall_lots dall_lots eall_lots, (fun_mk lall_lots dall_lots eall_lots).binds fun _ _ _ _ _ _ us hl => match us, hl with | [_], _ => rfl⟩)
    (⟨_, _, PySem.W.mg_of X G ais_river, fun_mk lis_river dis_river eis_river, (fun_mk lis_river dis_river eis_river).binds fun _ _ _ _ _ _ us hl => match us, hl with | [_], _ => rfl⟩)
    (⟨_, _, PySem.W.mg_of X G acheck_river, fun_mk lcheck_river dcheck_river echeck_river, (fun_mk lcheck_river dcheck_river echeck_river).binds fun _ _ _ _ _ _ us hl => match us, hl with | [_], _ => rfl⟩)
    (⟨_, _, PySem.W.mg_of X G ais_through, fun_mk lis_through dis_through eis_through, (fun_mk lis_through dis_through eis_through).binds fun _ _ _ _ _ _ us hl => match us, hl with | [_, _], _ => rfl⟩)
    (⟨_, _, PySem.W.mg_of X G ais_over, fun_mk lis_over dis_over eis_over, (fun_mk lis_over dis_over eis_over).binds fun _ _ _ _ _ _ us hl => match us, hl with | [_, _], _ => rfl⟩)
    (⟨_, _, PySem.W.mg_of X G araw_moves, fun_mk lraw_moves draw_moves eraw_moves, (fun_mk lraw_moves draw_moves eraw_moves).binds fun _ _ _ _ _ _ us hl => match us, hl with | [_, _], _ => rfl⟩)
    (⟨_, _, PySem.W.mg_of X G araw_behind, fun_mk lraw_behind draw_behind eraw_behind, (fun_mk lraw_behind draw_behind eraw_behind).binds fun _ _ _ _ _ _ us hl => match us, hl with | [_, _], _ => rfl⟩)
    (⟨_, _, PySem.W.mg_of X G athrough_stands, fun_mk lthrough_stands dthrough_stands ethrough_stands, (fun_mk lthrough_stands dthrough_stands ethrough_stands).binds fun _ _ _ _ _ _ us hl => match us, hl with | [_], _ => rfl⟩)
    (⟨_, _, PySem.W.mg_of X G acheck_place, fun_mk lcheck_place dcheck_place echeck_place, (fun_mk lcheck_place dcheck_place echeck_place).binds fun _ _ _ _ _ _ us hl => match us, hl with | [_, _], _ => rfl⟩)
    (⟨_, _, PySem.W.mg_of X G aleast_hours_for, fun_mk lleast_hours_for dleast_hours_for eleast_hours_for, (fun_mk lleast_hours_for dleast_hours_for eleast_hours_for).binds fun _ _ _ _ _ _ us hl => match us, hl with | [_, _], _ => rfl⟩)
    (⟨_, _, PySem.W.mg_of X G araw_barring, fun_mk lraw_barring draw_barring eraw_barring, (fun_mk lraw_barring draw_barring eraw_barring).binds fun _ _ _ _ _ _ us hl => match us, hl with | [_], _ => rfl⟩)
    (⟨_, _, PySem.W.mg_of X G abarring_places, fun_mk lbarring_places dbarring_places ebarring_places, (fun_mk lbarring_places dbarring_places ebarring_places).binds fun _ _ _ _ _ _ us hl => match us, hl with | [_], _ => rfl⟩)
    (⟨_, _, PySem.W.mg_of X G araw_hides, fun_mk lraw_hides draw_hides eraw_hides, (fun_mk lraw_hides draw_hides eraw_hides).binds fun _ _ _ _ _ _ us hl => match us, hl with | [_, _], _ => rfl⟩)
    (⟨_, _, PySem.W.mg_of X G amost_hides, fun_mk lmost_hides dmost_hides emost_hides, (fun_mk lmost_hides dmost_hides emost_hides).binds fun _ _ _ _ _ _ us hl => match us, hl with | [_], _ => rfl⟩)
    (⟨_, _, PySem.W.mg_of X G awith_hides, fun_mk lwith_hides dwith_hides ewith_hides, (fun_mk lwith_hides dwith_hides ewith_hides).binds fun _ _ _ _ _ _ us hl => match us, hl with | [_, _], _ => rfl⟩)
    (⟨_, _, PySem.W.mg_of X G a_law_hand, fun_mk l_law_hand d_law_hand e_law_hand, (fun_mk l_law_hand d_law_hand e_law_hand).binds fun _ _ _ _ _ _ us hl => match us, hl with | [_], _ => rfl⟩)
    (⟨_, _, PySem.W.mg_of X G a_law_draw, fun_mk l_law_draw d_law_draw e_law_draw, (fun_mk l_law_draw d_law_draw e_law_draw).binds fun _ _ _ _ _ _ us hl => match us, hl with | [_, _], _ => rfl⟩)
    (⟨_, _, PySem.W.mg_of X G a_law_river, fun_mk l_law_river d_law_river e_law_river, (fun_mk l_law_river d_law_river e_law_river).binds fun _ _ _ _ _ _ us hl => match us, hl with | [_, _, _], _ => rfl⟩)
    (⟨_, _, PySem.W.mg_of X G a_law_end, fun_mk l_law_end d_law_end e_law_end, (fun_mk l_law_end d_law_end e_law_end).binds fun _ _ _ _ _ _ us hl => match us, hl with | [_, _], _ => rfl⟩)
    (⟨_, _, PySem.W.mg_of X G a_law_moves, fun_mk l_law_moves d_law_moves e_law_moves, (fun_mk l_law_moves d_law_moves e_law_moves).binds fun _ _ _ _ _ _ us hl => match us, hl with | [_, _], _ => rfl⟩)
    (⟨_, _, PySem.W.mg_of X G a_law_next, fun_mk l_law_next d_law_next e_law_next, (fun_mk l_law_next d_law_next e_law_next).binds fun _ _ _ _ _ _ us hl => match us, hl with | [_, _], _ => rfl⟩)
    (⟨_, _, PySem.W.mg_of X G a_law_wins, fun_mk l_law_wins d_law_wins e_law_wins, (fun_mk l_law_wins d_law_wins e_law_wins).binds fun _ _ _ _ _ _ us hl => match us, hl with | [_], _ => rfl⟩)
    (⟨_, _, PySem.W.mg_of X G a_law_is, fun_mk l_law_is d_law_is e_law_is, (fun_mk l_law_is d_law_is e_law_is).binds fun _ _ _ _ _ _ us hl => match us, hl with | [_, _], _ => rfl⟩)
    (⟨_, _, PySem.W.mg_of X G a_law_barring, fun_mk l_law_barring d_law_barring e_law_barring, (fun_mk l_law_barring d_law_barring e_law_barring).binds fun _ _ _ _ _ _ us hl => match us, hl with | [_], _ => rfl⟩)
    (⟨_, _, PySem.W.mg_of X G a_law_lots, fun_mk l_law_lots d_law_lots e_law_lots, (fun_mk l_law_lots d_law_lots e_law_lots).binds fun _ _ _ _ _ _ us hl => match us, hl with | [_], _ => rfl⟩)
  exact ⟨_, fun s v => .of_eq rfl, fun base _ _ => k_law T (fun_mk llaw dlaw elaw)⟩
end SLP

end
section
namespace SLP
open PySem L2 SL
/-! ### what the law draws -/
def HandOk (h : HS) : Prop := ∃ (cs : List Int) (i g m t : Int), h = [.lst (cs.map PV.int), .int i, .int g, .int m, .int t] ∧ 0 ≤ i ∧ 0 ≤ g ∧ ∀ c ∈ cs, 0 ≤ c
def drawT : SM := (sSeq (sIf (gTB (gBin pGt (gBin pIx (gVarB 0) (gC (.int 2))) (gC (.int 0)))) (sSeq (sAsg (gBin pMod (gB pInt (gCons (gBin pIx (gVarB 0) (gC (.int 2))) gNil)) (gVarB 1)) (tgName 4))
  (sSeq (sSetH (gVar 0) (gC (.int 2)) (gBin pDiv (gBin pIx (gVarB 0) (gC (.int 2))) (gVarB 1)))
  (sRet (gVar 4)))) sNx)
  (sSeq (sSetH (gVar 0) (gC (.int 4)) (gBin pAdd (gBin pIx (gVarB 0) (gC (.int 4))) (gC (.int 1))))
  (sSeq (sAsg (gBin pMod (gB pInt (gCons (gBin pMul (gB pInt (gCons (gBin pAdd (gBin pIx (gVarB 0) (gC (.int 3))) (gBin pMul (gC (.int 6151)) (gBin pIx (gVarB 0) (gC (.int 4))))) gNil)) (gC (.int 40692))) gNil)) (gC (.int 2147483399))) (tgName 2))
  (sSeq (sAsg (gBin pMod (gB pInt (gCons (gBin pMul (gVarB 2) (gBin pAdd (gBin pDiv (gVarB 2) (gC (.int 1223))) (gC (.int 52027)))) gNil)) (gC (.int 2147483629))) (tgName 2))
  (sSeq (sAsg (gBin pMod (gB pInt (gCons (gBin pMul (gVarB 2) (gBin pAdd (gBin pDiv (gVarB 2) (gC (.int 2671))) (gC (.int 69621)))) gNil)) (gC (.int 2147483647))) (tgName 2))
  (sRet (gBin pMod (gB pInt (gCons (gBin pDiv (gVarB 2) (gC (.int 32))) gNil)) (gVarB 1))))))))
def drawH : SM := (sIf (gAndT (gTB (gBin pEq (gBin pIx (gVarB 0) (gC (.int 2))) (gC (.int 0)))) (gTB (gBin pLt (gBin pIx (gVarB 0) (gC (.int 1))) (gB pLen (gCons (gBin pIx (gVarB 0) (gC (.int 0))) gNil))))) (sSeq (sAsg (gBin pIx (gBin pIx (gVarB 0) (gC (.int 0))) (gBin pIx (gVarB 0) (gC (.int 1)))) (tgName 3))
  (sSeq (sSetH (gVar 0) (gC (.int 1)) (gBin pAdd (gBin pIx (gVarB 0) (gC (.int 1))) (gC (.int 1))))
  (sSeq (sSetH (gVar 0) (gC (.int 3)) (gBin pMod (gB pInt (gCons (gBin pAdd (gBin pAdd (gBin pMul (gBin pIx (gVarB 0) (gC (.int 3))) (gC (.int 48271))) (gVarB 3)) (gC (.int 31))) gNil)) (gC (.int 2147483647))))
  (sIf (gTB (gBin pGe (gVarB 3) (gBin pPow (gC (.int 10)) (gC (.int 18))))) (sSetH (gVar 0) (gC (.int 2)) (gVar 3)) sNx)))) sNx)
theorem draw_is : b__law_draw = sSeq drawH drawT := rfl
theorem draw_tail {cs : List Int} {i g m t n : Int} (hg : 0 ≤ g) (hi : 0 ≤ i) (hc : ∀ c ∈ cs, 0 ≤ c) (h0 : 0 < n) (h1 : n < 2 ^ 64) {c : Slot} :
    Ok ((drawT [.fz .hand, .fz (.int n), .un, c, .un]) >>= fin)
    (fun p h' => ∃ r : Int, p = .int r ∧ 0 ≤ r ∧ r < n ∧ HandOk h') [.lst (cs.map PV.int), .int i, .int g, .int m, .int t] := by
  have e1 := fun x : Int => v_modP (n := x) h0
  have e2 := fun x : Int => v_divP (n := x) h0 h1
  unfold drawT
  by_cases hg0 : 0 < g
  · simp [hg0, e1, e2]
    exact ⟨Int.emod_nonneg _ (by omega), Int.emod_lt_of_pos _ h0, cs, i, g / n, m, t, rfl, hi, Int.ediv_nonneg hg (by omega), hc⟩
  · simp [hg0, e1]
    exact ⟨Int.emod_nonneg _ (by omega), Int.emod_lt_of_pos _ h0, cs, i, g, m, t + 1, rfl, hi, hg, hc⟩
theorem cell_at {cs : List Int} {i : Int} (h0 : 0 ≤ i) (h1 : i < cs.length) : ∃ c, c ∈ cs ∧ atI (cs.map PV.int) i = some (.int c) := by
  refine ⟨cs[i.toNat]'(by omega), List.getElem_mem _, ?_⟩
  rw [atI_map, atI_lt h0 h1]
  rfl
theorem draw_ok {h : HS} {n : Int} (hh : HandOk h) (h0 : 0 < n) (h1 : n < 2 ^ 64) : Ok (m__law_draw [.hand, .int n]) (fun p h' => ∃ r : Int, p = .int r ∧ 0 ≤ r ∧ r < n ∧ HandOk h') h := by
  obtain ⟨cs, i, g, m, t, rfl, hi, hg, hc⟩ := hh
  rw [u__law_draw]
  rw [draw_is, e_seq, bind_assoc]
  unfold drawH
  by_cases c1 : g = 0 ∧ i < cs.length
  · obtain ⟨rfl, c2⟩ := c1
    obtain ⟨c, hcm, ec⟩ := cell_at hi c2
    have hc0 := hc c hcm
    by_cases c3 : 1000000000000000000 ≤ c
    · simp [c2, ec, c3]
      exact draw_tail (by omega) (by omega) hc h0 h1
    · simp [c2, ec, c3]
      exact draw_tail (by omega) (by omega) hc h0 h1
  · have c2 : (g == 0) = true → ¬ i < cs.length := fun e z => c1 ⟨by simpa using e, z⟩
    by_cases c3 : g = 0
    · have c4 : ¬ i < cs.length := fun z => c1 ⟨c3, z⟩
      simp [c3, c4]
      exact draw_tail (by omega) (by omega) hc h0 h1
    · simp [c3]
      exact draw_tail (by omega) (by omega) hc h0 h1
end SLP

end
section
namespace SLP
open PySem L2 SL
/-! ### the hand, a thing drawn from a row -/
theorem hand_ok {ns : List Int} : ∃ cs : List Int, (∀ c ∈ cs, 0 ≤ c) ∧ m__law_hand [.scr ns] = pure (.lst [.lst (cs.map PV.int), .int 0, .int 0, .int (97 + 5 * cs.length), .int 0]) := by
  refine ⟨(cut ns none (some 63)).map fun x => if x < 0 then -x else x, fun c hc => ?_, ?_⟩
  · obtain ⟨x, _, rfl⟩ := List.mem_map.mp hc
    show (0:Int) ≤ if x < 0 then -x else x
    split <;> omega
  · rw [u__law_hand]
    unfold b__law_hand
    simp [pSl]
    rw [lc_all (ρ' := fun x => [.fz (.scr ns), .un, .fz (.int x)]) (e := fun x => PV.int (if x < 0 then -x else x)) (by intro x _; simp)]
    simp
    rfl
theorem hand_start (cs : List Int) (m : Int) (hc : ∀ c ∈ cs, 0 ≤ c) : HandOk [.lst (cs.map PV.int), .int 0, .int 0, .int m, .int 0] := ⟨cs, 0, 0, m, 0, rfl, by omega, by omega, hc⟩
/-! ### equal also in kind -/
def plainD : Nat → PV → Bool
  | _, .non => true
  | _, .int _ => true
  | _, .bl _ => true
  | _, .str x => SeqAt.shaped (.str x)
  | d + 1, .tup l => l.all (plainD d)
  | d + 1, .lst l => l.all (plainD d)
  | _, _ => false
theorem zip_self {α : Type} : ∀ l : List α, l.zip l = l.map fun x => (x, x)
  | [] => rfl
  | x :: l => by rw [List.zip_cons_cons, zip_self l]; rfl
theorem is_list {d : Nat} (ih : ∀ p, plainD d p = true → m__law_is (d + 1) [p, p] = pure (.bl true)) {l : List PV} (h : l.all (plainD d) = true) {ρ : Ev} {a b c e f : Slot} : 
    lcF (tgTup 2 (tgCons (tgName 3) (tgCons (tgName 4) tgNil))) gYes (gB (m__law_is (d + 1)) (gCons (gVar 3) (gCons (gVar 4) gNil))) [a, b, c, e, f] ((l.zip l).map fun t => .tup [t.1, t.2]) = pure (l.map fun _ => PV.bl true) := by
  rw [zip_self, List.map_map]
  have := lc_all (gt := tgTup 2 (tgCons (tgName 3) (tgCons (tgName 4) tgNil))) (ge := gB (m__law_is (d + 1)) (gCons (gVar 3) (gCons (gVar 4) gNil))) (ρ := [a, b, c, e, f]) (φ := fun x : PV => PV.tup [x, x]) (ρ' := fun x => [a, b, c, .fz x, .fz x]) (e := fun _ => PV.bl true) (l := l) (fun x hx => by
    have hp := ih x (by rw [List.all_eq_true] at h; exact h x hx)
    simp [guard_pos, hp])
  exact this
theorem is_refl : ∀ (d : Nat) (p : PV), plainD d p = true → m__law_is (d + 1) [p, p] = pure (.bl true)
  | _, .non, _ => by
    rw [u__law_is]; unfold b__law_is
    simp [isNon]
    rfl
  | _, .int i, _ => by
    rw [u__law_is]; unfold b__law_is
    simp [isNon]
  | _, .bl b, _ => by
    rw [u__law_is]; unfold b__law_is
    simp [isNon]
  | _, .str x, h => by
    rw [u__law_is]; unfold b__law_is
    simp [isNon]
  | 0, .tup l, h => by cases h
  | 0, .lst l, h => by cases h
  | d + 1, .tup l, h => by
    have h : l.all (plainD d) = true := h
    rw [u__law_is]; unfold b__law_is
    simp [is_list (is_refl d) h (ρ := []), v_all]
    rw [List.all_eq_true.mpr fun _ _ => rfl]
  | d + 1, .lst l, h => by
    have h : l.all (plainD d) = true := h
    rw [u__law_is]; unfold b__law_is
    simp [is_list (is_refl d) h (ρ := []), v_all]
    rw [List.all_eq_true.mpr fun _ _ => rfl]
  | d, .dK _, h => by cases d <;> cases h
  | d, .dT _, h => by cases d <;> cases h
  | d, .ty _, h => by cases d <;> cases h
  | d, .hand, h => by cases d <;> cases h
  | d, .scr _, h => by cases d <;> cases h
end SLP

end
section
namespace SLP
open PySem L2 SL
theorem within_int {x lo hi : Int} : m_is_within [.int x, .int lo, .int hi] = pure (.bl (decide (lo ≤ x) && decide (x ≤ hi))) := by
  rw [u_is_within]; unfold b_is_within
  have e : m_is_integer [.int x] = pure (.bl true) := by
    rw [u_is_integer]; unfold b_is_integer
    simp
  simp [e]
  by_cases h : lo ≤ x <;> simp [h]
theorem sized_tup {l : List PV} {lo hi : Int} : m_is_sized [.tup l, .int lo, .int hi] = pure (.bl (decide (lo ≤ l.length) && decide ((l.length : Int) ≤ hi))) := by
  rw [u_is_sized]; unfold b_is_sized
  simp
  by_cases h : lo ≤ (l.length : Int) <;> simp [h]
theorem lot_ok {n : Nat} {A : List Int} (h : LotOk n A) : m_is_lot [iT A, .int n] = pure (.bl true) := by
  rw [u_is_lot]; unfold b_is_lot
  simp [iT]
  rw [lc_all (ρ' := fun x => [.fz (iT A), .fz (.int n), .fz (.int x), .un]) (e := fun x => PV.bl (decide (0 ≤ x) && decide (x ≤ n - 1))) (by intro x _; simp [within_int, iT])]
  have hl : (A.all fun x => decide (0 ≤ x) && decide (x ≤ (n : Int) - 1)) = true := by
    rw [List.all_eq_true]
    intro x hx
    have := h.bd x hx
    simp
    omega
  simp [v_all, hl, cut1]
  rw [← List.drop_one, ← List.map_drop, List.zip_map, List.map_map]
  rw [lc_all (ρ' := fun t => [.fz (iT A), .fz (.int n), .fz (.int t.1), .fz (.int t.2)]) (e := fun t : Int × Int => PV.bl (decide (t.1 < t.2))) (by intro x _; simp [iT])]
  have hz : ((A.zip (A.drop 1)).all fun t => decide (t.1 < t.2)) = true := by
    rw [List.all_eq_true]
    intro t ht
    simpa using zip_next h.asc t ht
  rw [List.drop_one] at hz
  simp [v_all, hz]
end SLP

end
section
namespace SLP
open PySem L2 SL
/-! ### all_lots -/
def addOne (F : List (List Int)) (x : Int) : List (List Int) := F ++ F.map (· ++ [x])
def lotsF (free : List Int) : List (List Int) := free.foldl addOne [[]]
def sized (x : List Int) : PV := .tup [.int x.length, iT x]
def sizedD (x : List Int) : PyData := .tuple [.int x.length, .tuple (x.map .int)]
def lotLe (a b : List Int) : Bool := PySem.W.dataLe false (fun t : PV × PyData => t.2) (sized a, sizedD a) (sized b, sizedD b)
def lots (free : List Int) : List (List Int) := (lotsF free).mergeSort lotLe
theorem foldl_len : ∀ (l : List Int) (F : List (List Int)), (l.foldl addOne F).length = F.length * 2 ^ l.length
  | [], F => by simp
  | x :: l, F => by
    rw [List.foldl_cons, foldl_len l]
    unfold addOne
    rw [List.length_append, List.length_map, List.length_cons, Nat.pow_succ]
    rw [← Nat.mul_two, Nat.mul_assoc, Nat.mul_comm 2]
theorem foldl_sub : ∀ (l m : List Int) (F : List (List Int)), (∀ x ∈ F, x.Sublist m) → ∀ x ∈ l.foldl addOne F, x.Sublist (m ++ l)
  | [], m, F, h, x, hx => by rw [List.append_nil]; exact h x hx
  | y :: l, m, F, h, x, hx => by
    have := foldl_sub l (m ++ [y]) (addOne F y) (fun z hz => by
      unfold addOne at hz
      rcases List.mem_append.mp hz with hz | hz
      · exact (h z hz).trans (List.sublist_append_left _ _)
      · obtain ⟨u, hu, rfl⟩ := List.mem_map.mp hz
        exact (h u hu).append (.refl _)) x hx
    rw [List.append_assoc] at this
    exact this
theorem foldl_all : ∀ (l m : List Int) (F : List (List Int)), m ∈ F → m ++ l ∈ l.foldl addOne F
  | [], m, F, h => by rw [List.append_nil]; exact h
  | y :: l, m, F, h => by
    have := foldl_all l (m ++ [y]) (addOne F y) (List.mem_append_right _ (List.mem_map.mpr ⟨m, h, rfl⟩))
    rw [List.append_assoc] at this
    exact this
theorem lotsF_sub {free x : List Int} (h : x ∈ lotsF free) : x.Sublist free := by
  have := foldl_sub free [] [[]] (fun x hx => by rw [List.mem_singleton.mp hx]; exact .refl _) x h
  simpa using this
theorem lotsF_all (free : List Int) : free ∈ lotsF free := by
  have := foldl_all free [] [[]] List.mem_cons_self
  rw [List.nil_append] at this
  exact this
theorem lots_sub {free x : List Int} (h : x ∈ lots free) : x.Sublist free := lotsF_sub (List.mem_mergeSort.mp h)
theorem lots_all (free : List Int) : free ∈ lots free := List.mem_mergeSort.mpr (lotsF_all free)
theorem alike_ints : ∀ a b : List Int, PySem.W.alikeAll (a.map PyData.int) (b.map PyData.int) = true
  | [], _ => by cases ‹List Int› <;> rfl
  | _ :: _, [] => rfl
  | x :: a, y :: b => by
    show (PySem.W.alike (.int x) (.int y) && PySem.W.alikeAll (a.map PyData.int) (b.map PyData.int)) = true
    rw [alike_ints a b]; rfl
theorem sized_toD (x : List Int) : toD (sized x) = some (sizedD x) := by
  unfold sized iT
  rw [toD, toDs, toD, toDs, toD, toDs_ints]
  rfl
theorem toDs_map {α : Type} {f : α → PV} {d : α → PyData} (h : ∀ x, toD (f x) = some (d x)) : ∀ l : List α, toDs (l.map f) = some (l.map d)
  | [] => rfl
  | x :: l => by rw [List.map_cons, toDs, h x, toDs_map h l]; rfl
theorem zip_maps {α β γ : Type} (f : α → β) (g : α → γ) : ∀ l : List α, (l.map f).zip (l.map g) = l.map fun x => (f x, g x)
  | [] => rfl
  | x :: l => by rw [List.map_cons, List.map_cons, List.zip_cons_cons, zip_maps f g l, List.map_cons]
theorem sort_sized (F : List (List Int)) : sortP (F.map sized) = pure (.lst ((F.mergeSort lotLe).map sized)) := by
  unfold sortP
  rw [toDs_map sized_toD]
  show guardM _ _ = _
  rw [guard_pos]
  · unfold sorts
    rw [zip_maps, ← mergeSort_map' (fun x : List Int => (sized x, sizedD x)) (PySem.W.dataLe false (·.2)) F, List.map_map]
    rfl
  · refine ⟨List.all_eq_true.mpr fun d hd => List.all_eq_true.mpr fun e he => ?_, ?_, List.all_eq_true.mpr fun d hd => ?_⟩
    · obtain ⟨a, _, rfl⟩ := List.mem_map.mp hd
      obtain ⟨b, _, rfl⟩ := List.mem_map.mp he
      show (PySem.W.alike (.int a.length) (.int b.length) && (PySem.W.alikeAll (a.map PyData.int) (b.map PyData.int) && true)) = true
      rw [alike_ints]; rfl
    · unfold sortB
      rw [Bool.or_eq_true]
      refine .inl (List.all_eq_true.mpr fun d hd => ?_)
      obtain ⟨a, _, rfl⟩ := List.mem_map.mp hd
      rfl
    · obtain ⟨a, _, rfl⟩ := List.mem_map.mp hd
      refine decide_eq_true ?_
      have h := PySem.W.depth_ints a
      show PyData.depth (.tuple [.int a.length, .tuple (a.map .int)]) ≤ 32
      simp only [PyData.depth, PyData.depthAll, h]
      decide
theorem all_lots_ok {free : List Int} (h : free.length ≤ 12) : m_all_lots [iL free] = pure (.lst ((lots free).map iT)) := by
  rw [u_all_lots]; unfold b_all_lots
  rw [e_seq]
  simp only [e_asg, e_lst, e_cons, e_tup, e_nil, pure_bind, e_tname, List.length_nil, List.length_cons, List.length_singleton, bind_assoc]
  rw [guard_pos (by decide)]
  simp only [pure_bind]
  rw [guard_pos (by decide)]
  simp only [pure_bind]
  rw [e_seq, bind_assoc]
  simp only [e_sfor, e_seqT, e_var]
  show ((slF (some (.fz (iL free))) >>= _) >>= _) >>= _ = _
  simp only [e_slF, pure_bind, iL]
  obtain ⟨s', e⟩ := fold_loop (st := fun (F : List (List Int)) s => [.fz (iL free), .fz (.lst (F.map iT)), s, .un, .un]) (gt := tgName 2) (gb := (sAsg (gBin pAdd (gVarB 1) (gLc (iSeq (gVar 1)) (tgName 4) gYes (gBin pAdd (gVarB 4) (gTup (gCons (gVar 2) gNil))) [4])) (tgName 1))) (g := addOne) (φ := PV.int) (l := free) (a := [[]]) (fun pre x suf e s => by
    have hl : pre.length + 1 + suf.length = free.length := by rw [e]; simp; omega
    refine ⟨.fz (.int x), ?_⟩
    have hF : ((pre.foldl addOne [[]]).map iT).length ≤ 2 ^ 12 := by
      rw [List.length_map, foldl_len, List.length_singleton, Nat.one_mul]
      exact Nat.pow_le_pow_right (by decide) (by omega)
    have hS : ∀ y ∈ pre.foldl addOne [[]], y.length ≤ 12 := fun y hy => by
      have := (lotsF_sub hy).length_le
      omega
    generalize pre.foldl addOne [[]] = F at hF hS
    simp
    rw [lc_all (ρ' := fun y => [.fz (iL free), .fz (.lst (F.map iT)), .fz (.int x), .un, .fz (iT y)]) (e := fun y => iT (y ++ [x])) (by
      intro y hy
      have := hS y hy
      simp [iT]
      rw [guard_pos (by rw [List.length_map]; omega)])]
    have hm : (F.map fun y => iT (y ++ [x])).length = (F.map iT).length := by simp
    simp
    rw [guard_pos (by rw [hm]; simp at hF; simp; omega)]
    simp only [addOne, List.map_append, List.map_map]
    rfl
    ) .un
  have e' : forF (tgName 2) (sAsg (gBin pAdd (gVarB 1) (gLc (iSeq (gVar 1)) (tgName 4) gYes (gBin pAdd (gVarB 4) (gTup (gCons (gVar 2) gNil))) [4])) (tgName 1)) (free.map PV.int) [.fz (.lst (free.map PV.int)), .fz (.lst [.tup []]), .un, .un, .un] = _ := e
  show forF (tgName 2) (sAsg (gBin pAdd (gVarB 1) (gLc (iSeq (gVar 1)) (tgName 4) gYes (gBin pAdd (gVarB 4) (gTup (gCons (gVar 2) gNil))) [4])) (tgName 1)) (free.map PV.int) [.fz (.lst (free.map PV.int)), .fz (.lst [.tup []]), .un, .un, .un] >>= _ = _
  rw [e', pure_bind]
  show (sRet _ [.fz (iL free), .fz (.lst ((lotsF free).map iT)), s', .un, .un]) >>= fin = _
  simp
  rw [lc_all (ρ' := fun y => [.fz (iL free), .fz (.lst ((lotsF free).map iT)), s', .un, .fz (iT y)]) (e := sized) (by
    intro y _
    simp [iT, sized])]
  simp
  show (sortP _ >>= _) = _
  rw [sort_sized]
  simp
  show PV.lst <$> lcF _ _ _ _ ((lots free).map sized) = _
  rw [lc_all (ρ' := fun y => [.fz (iL free), .fz (.lst ((lotsF free).map iT)), s', .fz (.int y.length), .fz (iT y)]) (e := iT) (by
    intro y _
    simp [sized])]
  simp
theorem law_lots_is : m__law_lots = m_all_lots := rfl
end SLP

end
section
namespace SLP
open PySem L2 SL
def freeOf (n : Nat) (A : List Int) : List Int := ((List.range n).filter fun i : Nat => !decide ((i : Int) ∈ A)).map fun (i : Nat) => (i : Int)
theorem free_lc {n : Nat} {A : List Int} {j : Nat} {ρ : Ev} {ga : EM} (h : ∀ i : Nat, (gTB (gBin pNotIn (gVarB j) ga)) (ρ.set j (.fz (.int i))) = pure (!decide ((i : Int) ∈ A)) ∧ gVar j (ρ.set j (.fz (.int i))) = pure (.int i)) :
    lcF (tgName j) (gTB (gBin pNotIn (gVarB j) ga)) (gVar j) ρ (rng 0 n) = pure ((freeOf n A).map PV.int) := by
  rw [rng0, lc_map (ρ' := fun i : Nat => ρ.set j (.fz (.int i))) (c := fun i : Nat => !decide ((i : Int) ∈ A)) (e := fun i : Nat => PV.int i) (fun i _ => ⟨rfl, (h i).1, fun _ => (h i).2⟩)]
  unfold freeOf
  rw [List.map_map]; rfl
theorem free_len {n : Nat} {A : List Int} : (freeOf n A).length ≤ n := by
  unfold freeOf
  rw [List.length_map]
  have := List.length_filter_le (fun i : Nat => !decide ((i : Int) ∈ A)) (List.range n)
  simpa using this
def ans : Option (List Int) → PV
  | some x => .tup [.int x.length, iT x]
  | none => .non
def srt (A : List Int) : List Int := A.mergeSort fun a b => decide (a ≤ b)
theorem srt_self {A : List Int} (h : A.Pairwise (· < ·)) : srt A = A := by
  unfold srt
  refine List.mergeSort_of_pairwise (h.imp fun {a b} h => ?_)
  exact decide_eq_true (by omega)
/-- a comprehension whose test draws; some are kept in any case -/
theorem ok_lcM {α : Type} {gt : GM} {tt : TM} {ge : EM} {ρ : Ev} {I : HS → Prop} {must : α → Prop} {φ e : α → PV} : ∀ {l : List α} {h : HS}, I h → (∀ x ∈ l, ∀ h, I h → ∃ ρ', gt (φ x) ρ = pure ρ' ∧ Ok (tt ρ') (fun b h' => (must x → b = true) ∧ I h') h ∧ ge ρ' = pure (e x)) →
    Ok (lcF gt tt ge ρ (l.map φ)) (fun ys h' => ∃ m : List α, m.Sublist l ∧ (∀ x ∈ l, must x → x ∈ m) ∧ ys = m.map e ∧ I h') h
  | [], h, hI, _ => Ok.pure ⟨[], .refl _, fun _ h => (by cases h), rfl, hI⟩
  | x :: l, h, hI, k => by
    obtain ⟨ρ', e1, ok, e2⟩ := k x List.mem_cons_self h hI
    rw [List.map_cons, lcF, e1, pure_bind]
    refine ok.bind' fun b h1 ⟨hb, h1I⟩ => ?_
    have ih := ok_lcM h1I fun q hq => k q (List.mem_cons_of_mem _ hq)
    cases b with
    | false =>
      rw [if_neg Bool.false_ne_true]
      refine ih.mono fun ys h2 ⟨m, hm, hc, e, hI⟩ => ⟨m, hm.cons _, fun y hy my => ?_, e, hI⟩
      rcases List.mem_cons.mp hy with rfl | hy
      · exact absurd (hb my) Bool.false_ne_true
      · exact hc y hy my
    | true =>
      rw [if_pos rfl, e2, pure_bind]
      refine ih.bind' fun ys h2 ⟨m, hm, hc, e, hI⟩ => ?_
      refine Ok.pure ⟨x :: m, hm.cons₂ _, fun y hy my => ?_, by rw [e]; rfl, hI⟩
      rcases List.mem_cons.mp hy with rfl | hy
      · exact List.mem_cons_self
      · exact List.mem_cons_of_mem _ (hc y hy my)
end SLP

end
section
namespace SLP
open PySem L2 SL
theorem hwb : (("watch" : Str) == "boat") = false := by decide +kernel
theorem hbb : (("boat" : Str) == "boat") = true := by decide +kernel
/-- a river: places, hides, hours, reach -/
structure Rv (n : Nat) (A : List Int) (H r : Nat) : Prop where
  n2 : 2 ≤ n
  n7 : n ≤ 7
  h1 : 1 ≤ H
  h12 : H ≤ 12
  r1 : 1 ≤ r
  r2 : r ≤ 2
def rv (n : Nat) (A : List Int) (H r : Nat) : PV := .tup [.int n, iT A, .int H, .int r]
def xs (x : Bool) : Str := if x then "boat" else "watch"
def st4 (H t : Nat) (x : Bool) (b w : Nat) : PV := .tup [.int ((H : Int) - t), .int b, .int w, .str (xs x)]
def key4 (H t : Nat) (x : Bool) (b w : Nat) : List Key := [.inl ((H : Int) - t), .inl b, .inl w, .inr (xs x)]
section
variable (n : Nat) (A : List Int) (r : Nat)
def thr (t b w : Nat) : Bool := decide (0 < t) && (decide (b + 1 = n) && decide (w ≠ b))
def ovr (t b w : Nat) : Bool := thr n t b w || ((decide (b = w) && !decide ((b : Int) ∈ A)) || decide (t = 0))
def near (p far : Nat) : List Nat := (List.range n).filter fun q => decide ((if (q : Int) - p < 0 then -((q : Int) - p) else (q : Int) - p) ≤ far)
def stepA (t : Nat) (prev : Nat → Nat → Bool) (b w : Nat) : Bool := if ovr n A t b w = true then thr n t b w else (near n w r).all fun p => prev b p
def stepB (t : Nat) (wA : Nat → Nat → Bool) (b w : Nat) : Bool := if ovr n A t b w = true then thr n t b w else (near n b 1).any fun p => wA p w
def wb : Nat → Nat → Nat → Bool
  | 0 => stepB n A 0 (stepA n A r 0 fun _ _ => false)
  | t + 1 => stepB n A (t + 1) (stepA n A r (t + 1) (wb t))
def wa : Nat → Nat → Nat → Bool
  | 0 => stepA n A r 0 fun _ _ => false
  | t + 1 => stepA n A r (t + 1) (wb n A r t)
theorem wb_is (t : Nat) : wb n A r t = stepB n A t (wa n A r t) := by cases t <;> rfl
def W (t : Nat) (x : Bool) : Nat → Nat → Bool := if x then wb n A r t else wa n A r t
end
section
variable {n : Nat} {A : List Int} {H r t b w : Nat} {x : Bool}
theorem through_ok (R : Rv n A H r) (ht : t ≤ H) (hb : b < n) (hw : w < n) : m_is_through [rv n A H r, st4 H t x b w] = pure (.bl (thr n t b w)) := by
  rw [u_is_through]; unfold b_is_through
  have n2 := R.n2
  have e1 : ((H : Int) - t < H) ↔ 0 < t := by omega
  have e2 : ((b : Int) == (n : Int) - 1) = decide (b + 1 = n) := by
    rw [Bool.eq_iff_iff]; simp; omega
  have e3 : (!((w : Int) == (b : Int))) = decide (w ≠ b) := by
    rw [Bool.eq_iff_iff]; simp; omega
  simp [rv, st4, e1, e2, e3, thr]
  by_cases h : 0 < t
  · by_cases h2 : b + 1 = n
    · simp [h, h2]
    · simp [h, h2]
  · simp [h]
theorem over_ok (R : Rv n A H r) (ht : t ≤ H) (hb : b < n) (hw : w < n) : m_is_over [rv n A H r, st4 H t x b w] = pure (.bl (ovr n A t b w)) := by
  rw [u_is_over]; unfold b_is_over
  have e0 := through_ok (x := x) R ht hb hw
  simp only [rv, st4] at e0
  have e1 : ((b : Int) == (w : Int)) = decide (b = w) := by rw [Bool.eq_iff_iff]; simp; omega
  have e2 : ((H : Int) - t == H) = decide (t = 0) := by rw [Bool.eq_iff_iff]; simp; omega
  simp [rv, st4, e0]
  unfold ovr
  cases thr n t b w with
  | true => simp
  | false =>
    simp [e1, e2, iT, v_ninI]
    by_cases h : b = w
    · subst h
      by_cases h2 : (b : Int) ∈ A <;> simp [h2]
    · simp [h]
def movesOf (n : Nat) (A : List Int) (r t : Nat) (x : Bool) (b w : Nat) : List Nat := if ovr n A t b w = true then [] else if x then near n b 1 else near n w r
theorem moves_ok (R : Rv n A H r) (ht : t ≤ H) (hb : b < n) (hw : w < n) : m_raw_moves [rv n A H r, st4 H t x b w] = pure (.lst ((movesOf n A r t x b w).map fun q : Nat => PV.int q)) := by
  rw [u_raw_moves]; unfold b_raw_moves
  have e0 := over_ok (x := x) R ht hb hw
  simp only [rv, st4] at e0
  have n7 := R.n7
  have g : -4611686018427387904 ≤ (n : Int) ∧ (n : Int) ≤ 16777216 := by omega
  simp [rv, st4, e0, g]
  unfold movesOf
  by_cases ho : ovr n A t b w = true
  · simp [ho]
  · cases x with
    | true =>
      simp [ho, xs, hbb, rng0, g]
      rw [lc_map (ρ' := fun q : Nat => [.fz (rv n A H r), .fz (st4 H t true b w), .fz (.int b), .fz (.int 1), .fz (.int q)]) (c := fun q => decide ((if (q : Int) - b < 0 then -((q : Int) - b) else (q : Int) - b) ≤ (1 : Nat))) (e := fun q : Nat => PV.int q) (by
        intro q _
        exact ⟨rfl, by simp, by simp⟩)]
      simp [near]
    | false =>
      simp [ho, xs, hwb, rng0, g]
      rw [lc_map (ρ' := fun q : Nat => [.fz (rv n A H r), .fz (st4 H t false b w), .fz (.int w), .fz (.int r), .fz (.int q)]) (c := fun q => decide ((if (q : Int) - w < 0 then -((q : Int) - w) else (q : Int) - w) ≤ (r : Nat))) (e := fun q : Nat => PV.int q) (by
        intro q _
        exact ⟨rfl, by simp, by simp⟩)]
      simp [near]
theorem behind_boat {p : Nat} : m_raw_behind [st4 H t true b w, .int p] = pure (st4 H t false p w) := by
  rw [u_raw_behind]; unfold b_raw_behind
  simp [st4, xs, hbb]
theorem behind_watch {p : Nat} : m_raw_behind [st4 H (t + 1) false b w, .int p] = pure (st4 H t true b p) := by
  rw [u_raw_behind]; unfold b_raw_behind
  have e : (H : Int) - (t + 1 : Nat) + 1 = H - t := by omega
  have e' : (H : Int) - ((t : Int) + 1) + 1 = H - t := by omega
  simp [st4, xs, hwb, e, e']
theorem key_st4 : keysP [.int ((H : Int) - t), .int b, .int w, .str (xs x)] = some (key4 H t x b w) := rfl
theorem key_inj {t' b' w' : Nat} {x' : Bool} (ht : t ≤ H) (ht' : t' ≤ H) (e : key4 H t x b w = key4 H t' x' b' w') : t = t' ∧ x = x' ∧ b = b' ∧ w = w' := by
  unfold key4 at e
  simp at e
  obtain ⟨e1, e2, e3, e4⟩ := e
  refine ⟨by omega, ?_, by omega, by omega⟩
  cases x <;> cases x' <;> first | rfl | (exfalso; revert e4; decide +kernel)
end
/-! the dict -/
section
variable {κ : Type} [DecidableEq κ]
theorem dGet_put (l : List (κ × PV)) (k k' : κ) (v : PV) : dGet (dPut l k v) k' = if k = k' then some v else dGet l k' := by
  unfold dPut
  by_cases h : (l.any fun kv => decide (kv.1 = k)) = true
  · rw [if_pos h]
    induction l with
    | nil => cases h
    | cons p l ih =>
      rw [List.map_cons]
      by_cases hp : p.1 = k
      · rw [if_pos hp]
        by_cases hk : k = k'
        · have e : p.1 = k' := hp.trans hk
          simp [dGet, List.find?_cons, hk, e]
        · have e : ¬ p.1 = k' := fun z => hk (hp.symm.trans z)
          rw [if_neg hk]
          have e2 : dGet (p :: l) k' = dGet l k' := by simp [dGet, List.find?_cons, e]
          have e3 : dGet ((p.1, v) :: List.map (fun kv => if kv.1 = k then (kv.1, v) else kv) l) k' = dGet (List.map (fun kv => if kv.1 = k then (kv.1, v) else kv) l) k' := by simp [dGet, List.find?_cons, e]
          rw [e2, e3]
          by_cases hl : (l.any fun kv => decide (kv.1 = k)) = true
          · rw [ih hl, if_neg hk]
          · have : List.map (fun kv => if kv.1 = k then (kv.1, v) else kv) l = l := by
              have h1 : ∀ q ∈ l, (if q.1 = k then (q.1, v) else q) = q := fun q hq => if_neg (fun z => hl (List.any_eq_true.mpr ⟨q, hq, decide_eq_true z⟩))
              exact (List.map_congr_left h1).trans (List.map_id _)
            rw [this]
      · rw [if_neg hp]
        have hl : (l.any fun kv => decide (kv.1 = k)) = true := by
          rw [List.any_cons] at h
          simpa [hp] using h
        by_cases hk : p.1 = k'
        · have e : ¬ k = k' := fun z => hp (hk.trans z.symm)
          rw [if_neg e]
          simp [dGet, List.find?_cons, hk]
        · have e2 : dGet (p :: l) k' = dGet l k' := by simp [dGet, List.find?_cons, hk]
          have e3 : dGet (p :: List.map (fun kv => if kv.1 = k then (kv.1, v) else kv) l) k' = dGet (List.map (fun kv => if kv.1 = k then (kv.1, v) else kv) l) k' := by simp [dGet, List.find?_cons, hk]
          rw [e2, e3]
          exact ih hl
  · rw [if_neg h]
    unfold dGet
    rw [List.find?_append]
    by_cases hk : k = k'
    · subst hk
      have : l.find? (fun kv => decide (kv.1 = k)) = none := by
        rw [List.find?_eq_none]
        intro q hq z
        exact h (List.any_eq_true.mpr ⟨q, hq, z⟩)
      rw [this, if_pos rfl]
      simp
    · rw [if_neg hk]
      have : ([(k, v)] : List (κ × PV)).find? (fun kv => decide (kv.1 = k')) = none := by simp [hk]
      rw [this, Option.or_none]
theorem len_put (l : List (κ × PV)) (k : κ) (v : PV) : (dPut l k v).length ≤ l.length + 1 := by
  unfold dPut
  split
  · rw [List.length_map]; omega
  · rw [List.length_append]; exact Nat.le_refl _
end
end SLP

end
section
namespace SLP
open PySem L2 SL
theorem idx_loop {gt : GM} {gb : SM} {J : Nat → Ev → Prop} : ∀ {ps : List PV} {k0 : Nat} {ρ : Ev}, (∀ k p ρ, ps[k]? = some p → J (k0 + k) ρ → ∃ ρ', (gt p ρ >>= gb) = pure (.nx ρ') ∧ J (k0 + k + 1) ρ') → J k0 ρ → ∃ ρ', forF gt gb ps ρ = pure (.nx ρ') ∧ J (k0 + ps.length) ρ'
  | [], k0, ρ, _, j => ⟨ρ, rfl, j⟩
  | p :: ps, k0, ρ, h, j => by
    obtain ⟨ρ1, e1, j1⟩ := h 0 p ρ rfl j
    obtain ⟨ρ', e2, j2⟩ := idx_loop (ps := ps) (k0 := k0 + 1) (fun k q ρ hq jq => by
      have := h (k + 1) q ρ (by simpa using hq) (by rw [show k0 + (k + 1) = k0 + 1 + k by omega]; exact jq)
      rw [show k0 + 1 + k + 1 = k0 + (k + 1) + 1 by omega]
      exact this) j1
    refine ⟨ρ', ?_, by rw [List.length_cons, show k0 + (ps.length + 1) = k0 + 1 + ps.length by omega]; exact j2⟩
    rw [forF, ← bind_assoc, e1, pure_bind]
    exact e2
abbrev DT := List (List Key × PV)
structure Quad where
  t : Nat
  x : Bool
  b : Nat
  w : Nat
section
variable (n : Nat) (A : List Int) (H r : Nat)
def Fact (l : DT) (q : Quad) : Prop := dGet l (key4 H q.t q.x q.b q.w) = some (.bl (W n A r q.t q.x q.b q.w))
def Known (l : DT) (S : Quad → Prop) : Prop := ∀ q, S q → q.t ≤ H → q.b < n → q.w < n → Fact n A H r l q
def put (l : DT) (q : Quad) : DT := dPut l (key4 H q.t q.x q.b q.w) (.bl (W n A r q.t q.x q.b q.w))
theorem known_put {l : DT} {S : Quad → Prop} {q : Quad} (hq : q.t ≤ H) (h : Known n A H r l S) : Known n A H r (put n A H r l q) fun p => S p ∨ p = q := by
  intro p hp h1 h2 h3
  unfold Fact put
  rw [dGet_put]
  by_cases e : key4 H q.t q.x q.b q.w = key4 H p.t p.x p.b p.w
  · rw [if_pos e]
    obtain ⟨e1, e2, e3, e4⟩ := key_inj hq h1 e
    rw [e1, e2, e3, e4]
  · rw [if_neg e]
    rcases hp with hp | hp
    · exact h p hp h1 h2 h3
    · exact absurd (by rw [hp]) e
def E (l : DT) (sh sx sb sw s10 s11 s12 : Slot) : Ev := [.fz (rv n A H r), .ow (.dT l), sh, .fz (.int n), .fz (iT A), .fz (.int H), .fz (.int r), sx, sb, sw, s10, s11, s12]
/-- one stand's turn -/
def Inner (inner : SM) : Prop := ∀ (l : DT) (t : Nat) (x : Bool) (b w : Nat) (s10 s11 s12 : Slot), t ≤ H → b < n → w < n → l.length < 2000 → (x = true → ∀ p, p < n → Fact n A H r l ⟨t, false, p, w⟩) → (x = false → ∀ t' p, t = t' + 1 → p < n → Fact n A H r l ⟨t', true, b, p⟩) →
  ∃ s10' s11' s12', inner (E n A H r l (.fz (.int ((H : Int) - t))) (.fz (.str (xs x))) (.fz (.int b)) (.fz (.int w)) s10 s11 s12) = pure (.nx (E n A H r (put n A H r l ⟨t, x, b, w⟩) (.fz (.int ((H : Int) - t))) (.fz (.str (xs x))) (.fz (.int b)) (.fz (.int w)) s10' s11' s12'))
end
section
variable {n : Nat} {A : List Int} {H r : Nat} {inner : SM}
theorem getR {n k : Nat} {p : PV} (h : (rng 0 n)[k]? = some p) : k < n ∧ p = .int k := by
  rw [rng0, List.getElem?_map] at h
  by_cases hk : k < n
  · rw [List.getElem?_range hk] at h
    cases h
    exact ⟨hk, rfl⟩
  · rw [List.getElem?_eq_none (by simpa using hk)] at h
    cases h
def before (t : Nat) (x : Bool) (S : Quad → Prop) : Prop := (x = true → ∀ p w, S ⟨t, false, p, w⟩) ∧ (x = false → ∀ t' p q, t = t' + 1 → S ⟨t', true, p, q⟩)
theorem before.mono {t : Nat} {x : Bool} {S S' : Quad → Prop} (h : before t x S) (m : ∀ q, S q → S' q) : before t x S' := ⟨fun e p w => m _ (h.1 e p w), fun e t' p q et => m _ (h.2 e t' p q et)⟩
def stage (N : Nat) (sh sx sb : Slot) (S : Quad → Prop) (ρ : Ev) : Prop := ∃ l sw s10 s11 s12, ρ = E n A H r l sh sx sb sw s10 s11 s12 ∧ l.length ≤ N ∧ Known n A H r l S
theorem loop_w (R : Rv n A H r) (hI : Inner n A H r inner) {t b N : Nat} {x : Bool} {S : Quad → Prop} (ht : t ≤ H) (hb : b < n) (hN : N + 7 < 2000) (hS : before t x S) {ρ : Ev}
    (j : stage (n := n) (A := A) (H := H) (r := r) N (.fz (.int ((H : Int) - t))) (.fz (.str (xs x))) (.fz (.int b)) S ρ) :
    ∃ ρ', sFor (iRange (gCons (gVar 3) gNil)) (tgName 9) inner ρ = pure (.nx ρ') ∧ stage (n := n) (A := A) (H := H) (r := r) (N + n) (.fz (.int ((H : Int) - t))) (.fz (.str (xs x))) (.fz (.int b)) (fun q => S q ∨ ∃ w, w < n ∧ q = ⟨t, x, b, w⟩) ρ' := by
  have n7 := R.n7
  obtain ⟨l, sw, s10, s11, s12, rfl, hl, hK⟩ := j
  have e0 : sFor (iRange (gCons (gVar 3) gNil)) (tgName 9) inner (E n A H r l (.fz (.int ((H : Int) - t))) (.fz (.str (xs x))) (.fz (.int b)) sw s10 s11 s12) = forF (tgName 9) inner (rng 0 n) (E n A H r l (.fz (.int ((H : Int) - t))) (.fz (.str (xs x))) (.fz (.int b)) sw s10 s11 s12) := by
    have g : -4611686018427387904 ≤ (n : Int) ∧ (n : Int) ≤ 16777216 := by omega
    simp [E, g]
  rw [e0]
  have hlen : (rng 0 n).length = n := by simp [rng]
  have := idx_loop (gt := tgName 9) (gb := inner) (ps := rng 0 n) (k0 := 0) (J := fun k ρ => stage (n := n) (A := A) (H := H) (r := r) (N + k) (.fz (.int ((H : Int) - t))) (.fz (.str (xs x))) (.fz (.int b)) (fun q => S q ∨ ∃ w, w < k ∧ q = ⟨t, x, b, w⟩) ρ) (ρ := E n A H r l (.fz (.int ((H : Int) - t))) (.fz (.str (xs x))) (.fz (.int b)) sw s10 s11 s12)
    (fun k p ρ hp j => by
      rw [Nat.zero_add] at j ⊢
      obtain ⟨l, sw, s10, s11, s12, rfl, hl, hK⟩ := j
      obtain ⟨hk, rfl⟩ := getR hp
      obtain ⟨a1, a2, a3, e⟩ := hI l t x b k s10 s11 s12 ht hb hk (by omega) (fun ex p hp => hK _ (.inl (hS.1 ex p k)) ht hp hk) (fun ex t' p et hp => hK _ (.inl (hS.2 ex t' b p et)) (by show t' ≤ H; omega) hb hp)
      refine ⟨_, e, _, _, a1, a2, a3, rfl, ?_, ?_⟩
      · have : (put n A H r l ⟨t, x, b, k⟩).length ≤ l.length + 1 := len_put l _ _
        omega
      · intro q hq h1 h2 h3
        refine known_put n A H r ht hK q ?_ h1 h2 h3
        rcases hq with hq | ⟨w, hw, hq⟩
        · exact .inl (.inl hq)
        · by_cases hwk : w < k
          · exact .inl (.inr ⟨w, hwk, hq⟩)
          · have : w = k := by omega
            subst this
            exact .inr hq)
    ⟨l, sw, s10, s11, s12, rfl, hl, fun q hq => hK q (by
      rcases hq with hq | ⟨w, hw, _⟩
      · exact hq
      · omega)⟩
  rw [hlen, Nat.zero_add] at this
  exact this
theorem loop_b (R : Rv n A H r) (hI : Inner n A H r inner) {t N : Nat} {x : Bool} {S : Quad → Prop} (ht : t ≤ H) (hN : N + 60 < 2000) (hS : before t x S) {sb : Slot} {ρ : Ev}
    (j : stage (n := n) (A := A) (H := H) (r := r) N (.fz (.int ((H : Int) - t))) (.fz (.str (xs x))) sb S ρ) :
    ∃ ρ' sb', sFor (iRange (gCons (gVar 3) gNil)) (tgName 8) (sFor (iRange (gCons (gVar 3) gNil)) (tgName 9) inner) ρ = pure (.nx ρ') ∧ stage (n := n) (A := A) (H := H) (r := r) (N + n * n) (.fz (.int ((H : Int) - t))) (.fz (.str (xs x))) sb' (fun q => S q ∨ ∃ b w, q = ⟨t, x, b, w⟩) ρ' := by
  have n7 := R.n7
  obtain ⟨l, sw, s10, s11, s12, rfl, hl, hK⟩ := j
  have e0 : sFor (iRange (gCons (gVar 3) gNil)) (tgName 8) (sFor (iRange (gCons (gVar 3) gNil)) (tgName 9) inner) (E n A H r l (.fz (.int ((H : Int) - t))) (.fz (.str (xs x))) sb sw s10 s11 s12) = forF (tgName 8) (sFor (iRange (gCons (gVar 3) gNil)) (tgName 9) inner) (rng 0 n) (E n A H r l (.fz (.int ((H : Int) - t))) (.fz (.str (xs x))) sb sw s10 s11 s12) := by
    have g : -4611686018427387904 ≤ (n : Int) ∧ (n : Int) ≤ 16777216 := by omega
    simp [E, g, -e_sfor]
    rw [e_sfor]
    simp [g]
  rw [e0]
  have hlen : (rng 0 n).length = n := by simp [rng]
  have hnn : ∀ k, k < n → k * n + n ≤ 49 := fun k hk => by
    have : (k + 1) * n ≤ 7 * 7 := Nat.mul_le_mul (by omega) n7
    rw [Nat.add_mul, Nat.one_mul] at this
    exact this
  have := idx_loop (gt := tgName 8) (gb := sFor (iRange (gCons (gVar 3) gNil)) (tgName 9) inner) (ps := rng 0 n) (k0 := 0) (J := fun k ρ => ∃ sb, stage (n := n) (A := A) (H := H) (r := r) (N + k * n) (.fz (.int ((H : Int) - t))) (.fz (.str (xs x))) sb (fun q => S q ∨ ∃ b w, b < k ∧ w < n ∧ q = ⟨t, x, b, w⟩) ρ) (ρ := E n A H r l (.fz (.int ((H : Int) - t))) (.fz (.str (xs x))) sb sw s10 s11 s12)
    (fun k p ρ hp j => by
      rw [Nat.zero_add] at j ⊢
      obtain ⟨sb, l, sw, s10, s11, s12, rfl, hl, hK⟩ := j
      obtain ⟨hk, rfl⟩ := getR hp
      have hb := hnn k hk
      obtain ⟨ρ', e, j'⟩ := loop_w (inner := inner) (x := x) R hI ht hk (N := N + k * n) (by omega) (hS.mono (S' := fun q => S q ∨ ∃ b w, b < k ∧ w < n ∧ q = ⟨t, x, b, w⟩) fun q h => .inl h) ⟨l, sw, s10, s11, s12, rfl, hl, hK⟩
      obtain ⟨l', sw', a1, a2, a3, rfl, hl', hK'⟩ := j'
      refine ⟨_, e, _, l', sw', a1, a2, a3, rfl, by rw [Nat.add_mul, Nat.one_mul, ← Nat.add_assoc]; exact hl', fun q hq => hK' q ?_⟩
      rcases hq with hq | ⟨b, w, hb, hw, hq⟩
      · exact .inl (.inl hq)
      · by_cases hbk : b < k
        · exact .inl (.inr ⟨b, w, hbk, hw, hq⟩)
        · have : b = k := by omega
          subst this
          exact .inr ⟨w, hw, hq⟩)
    ⟨sb, l, sw, s10, s11, s12, rfl, by omega, fun q hq => hK q (by
      rcases hq with hq | ⟨b, w, hb, _⟩
      · exact hq
      · omega)⟩
  rw [hlen, Nat.zero_add] at this
  obtain ⟨ρ', e, sb', l', sw', a1, a2, a3, e2, hl', hK'⟩ := this
  refine ⟨ρ', sb', e, l', sw', a1, a2, a3, e2, hl', fun q hq h1 h2 h3 => hK' q ?_ h1 h2 h3⟩
  rcases hq with hq | ⟨b, w, hq⟩
  · exact .inl hq
  · subst hq
    exact .inr ⟨b, w, h2, h3, rfl⟩
theorem loop_x (R : Rv n A H r) (hI : Inner n A H r inner) {t N : Nat} {S : Quad → Prop} (ht : t ≤ H) (hN : N + 160 < 2000) (hS : ∀ t' x p q, t' < t → S ⟨t', x, p, q⟩) {sx sb : Slot} {ρ : Ev}
    (j : stage (n := n) (A := A) (H := H) (r := r) N (.fz (.int ((H : Int) - t))) sx sb S ρ) :
    ∃ ρ' sx' sb', sFor (iSeq (gTup (gCons (gC (.str "watch")) (gCons (gC (.str "boat")) gNil)))) (tgName 7) (sFor (iRange (gCons (gVar 3) gNil)) (tgName 8) (sFor (iRange (gCons (gVar 3) gNil)) (tgName 9) inner)) ρ = pure (.nx ρ') ∧ stage (n := n) (A := A) (H := H) (r := r) (N + 2 * (n * n)) (.fz (.int ((H : Int) - t))) sx' sb' (fun q => S q ∨ ∃ x b w, q = ⟨t, x, b, w⟩) ρ' := by
  have n7 := R.n7
  have hnn : n * n ≤ 7 * 7 := Nat.mul_le_mul n7 n7
  obtain ⟨l, sw, s10, s11, s12, rfl, hl, hK⟩ := j
  obtain ⟨ρ1, sb1, e1, l1, sw1, a1, a2, a3, rfl, hl1, hK1⟩ := loop_b (inner := inner) (x := false) (t := t) (S := S) (N := N) R hI ht (by omega) ⟨fun e => (by cases e), fun _ t' p q e => hS t' true p q (by omega)⟩ (ρ := E n A H r l (.fz (.int ((H : Int) - t))) (.fz (.str (xs false))) sb sw s10 s11 s12) ⟨l, sw, s10, s11, s12, rfl, hl, hK⟩
  obtain ⟨ρ2, sb2, e2, l2, sw2, b1, b2, b3, rfl, hl2, hK2⟩ := loop_b (inner := inner) (x := true) (t := t) (S := fun q => S q ∨ ∃ b w, q = ⟨t, false, b, w⟩) (N := N + n * n) R hI ht (by omega) ⟨fun _ p w => .inr ⟨p, w, rfl⟩, fun e => (by cases e)⟩ (ρ := E n A H r l1 (.fz (.int ((H : Int) - t))) (.fz (.str (xs true))) sb1 sw1 a1 a2 a3) ⟨l1, sw1, a1, a2, a3, rfl, hl1, hK1⟩
  refine ⟨_, .fz (.str (xs true)), sb2, ?_, l2, sw2, b1, b2, b3, rfl, by omega, fun q hq => hK2 q ?_⟩
  · have c1 : (sFor (iRange (gCons (gVar 3) gNil)) (tgName 8) (sFor (iRange (gCons (gVar 3) gNil)) (tgName 9) inner)) ((E n A H r l (.fz (.int ((H : Int) - t))) sx sb sw s10 s11 s12).set 7 (.fz (.str "watch"))) = _ := e1
    have c2 : (sFor (iRange (gCons (gVar 3) gNil)) (tgName 8) (sFor (iRange (gCons (gVar 3) gNil)) (tgName 9) inner)) ((E n A H r l1 (.fz (.int ((H : Int) - t))) (.fz (.str (xs false))) sb1 sw1 a1 a2 a3).set 7 (.fz (.str "boat"))) = _ := e2
    generalize sFor (iRange (gCons (gVar 3) gNil)) (tgName 8) (sFor (iRange (gCons (gVar 3) gNil)) (tgName 9) inner) = body at c1 c2
    simp [forF_cons, forF_nil, c1, c2]
  · rcases hq with hq | ⟨x, b, w, hq⟩
    · exact .inl (.inl hq)
    · cases x with
      | false => exact .inl (.inr ⟨b, w, hq⟩)
      | true => exact .inr ⟨b, w, hq⟩
theorem getD' {lo : Int} {n k : Nat} {p : PV} (h : (down lo n)[k]? = some p) : k < n ∧ p = .int (lo - k) := by
  unfold down at h
  rw [List.getElem?_map] at h
  by_cases hk : k < n
  · rw [List.getElem?_range hk] at h
    cases h
    exact ⟨hk, rfl⟩
  · rw [List.getElem?_eq_none (by simpa using hk)] at h
    cases h
def hoursLoop (inner : SM) : SM := sFor (iDown (gCons (gVar 5) (gCons (gNeg (gC (.int 1))) (gCons (gNeg (gC (.int 1))) gNil)))) (tgName 2) (sFor (iSeq (gTup (gCons (gC (.str "watch")) (gCons (gC (.str "boat")) gNil)))) (tgName 7) (sFor (iRange (gCons (gVar 3) gNil)) (tgName 8) (sFor (iRange (gCons (gVar 3) gNil)) (tgName 9) inner)))
theorem loop_h (R : Rv n A H r) (hI : Inner n A H r inner) {sh sx sb sw s10 s11 s12 : Slot} :
    ∃ ρ' sh' sx' sb', hoursLoop inner (E n A H r [] sh sx sb sw s10 s11 s12) = pure (.nx ρ') ∧ stage (n := n) (A := A) (H := H) (r := r) 1800 sh' sx' sb' (fun _ => True) ρ' := by
  have h12 := R.h12
  have n7 := R.n7
  have hnn : n * n ≤ 7 * 7 := Nat.mul_le_mul n7 n7
  have e0 : ∀ body, sFor (iDown (gCons (gVar 5) (gCons (gNeg (gC (.int 1))) (gCons (gNeg (gC (.int 1))) gNil)))) (tgName 2) body (E n A H r [] sh sx sb sw s10 s11 s12) = forF (tgName 2) body (down H (H + 1)) (E n A H r [] sh sx sb sw s10 s11 s12) := fun body => by
    have e1 : ((H : Int) - -1).toNat = H + 1 := by omega
    rw [e_sfor]
    unfold iDown
    simp [E]
    rw [guard_pos (by omega), pure_bind]
  unfold hoursLoop
  rw [e0]
  have hlen : (down (H : Int) (H + 1)).length = H + 1 := by simp [down]
  have := idx_loop (gt := tgName 2) (gb := sFor (iSeq (gTup (gCons (gC (.str "watch")) (gCons (gC (.str "boat")) gNil)))) (tgName 7) (sFor (iRange (gCons (gVar 3) gNil)) (tgName 8) (sFor (iRange (gCons (gVar 3) gNil)) (tgName 9) inner))) (ps := down H (H + 1)) (k0 := 0) (J := fun k ρ => ∃ sh sx sb, stage (n := n) (A := A) (H := H) (r := r) (k * 98) sh sx sb (fun q => q.t < k) ρ) (ρ := E n A H r [] sh sx sb sw s10 s11 s12)
    (fun k p ρ hp j => by
      rw [Nat.zero_add] at j ⊢
      obtain ⟨sh, sx, sb, l, sw, s10, s11, s12, rfl, hl, hK⟩ := j
      obtain ⟨hk, rfl⟩ := getD' hp
      obtain ⟨ρ', sx', sb', e, l', sw', a1, a2, a3, rfl, hl', hK'⟩ := loop_x (inner := inner) (t := k) (S := fun q => q.t < k) (N := k * 98) R hI (by omega) (by omega) (fun t' x p q h => h) (sx := sx) (sb := sb) (ρ := E n A H r l (.fz (.int ((H : Int) - k))) sx sb sw s10 s11 s12) ⟨l, sw, s10, s11, s12, rfl, hl, hK⟩
      refine ⟨_, e, _, _, _, l', sw', a1, a2, a3, rfl, by omega, fun q hq => hK' q ?_⟩
      by_cases h : q.t < k
      · exact .inl h
      · have hq : q.t < k + 1 := hq
        obtain ⟨t', x, b, w⟩ := q
        have : t' = k := by
          have h : ¬ t' < k := h
          have hq : t' < k + 1 := hq
          omega
        subst this
        exact .inr ⟨x, b, w, rfl⟩)
    ⟨sh, sx, sb, [], sw, s10, s11, s12, rfl, Nat.zero_le _, fun q hq => absurd hq (Nat.not_lt_zero _)⟩
  rw [hlen, Nat.zero_add] at this
  obtain ⟨ρ', e, sh', sx', sb', l', sw', a1, a2, a3, e2, hl', hK'⟩ := this
  exact ⟨ρ', sh', sx', sb', e, l', sw', a1, a2, a3, e2, by omega, fun q _ h1 h2 h3 => hK' q (by show q.t < H + 1; omega) h1 h2 h3⟩
end
end SLP

end
section
namespace SLP
open PySem L2 SL
section
variable {n : Nat} {A : List Int} {H r t b w : Nat} {x : Bool}
theorem hwb2 : ¬ (("watch" : Str) = "boat") := by decide +kernel
theorem near_self {p far : Nat} (h : p < n) : p ∈ near n p far := List.mem_filter.mpr ⟨List.mem_range.mpr h, by simp⟩
theorem near_lt {p far q : Nat} (h : q ∈ near n p far) : q < n := List.mem_range.mp (List.mem_filter.mp h).1
/-- what a stand's row holds -/
def rowOf (n : Nat) (A : List Int) (r t : Nat) (x : Bool) (b w : Nat) : List Bool := (movesOf n A r t x b w).map fun p => if x then wa n A r t p w else wb n A r (t - 1) b p
theorem row_empty (hb : b < n) (hw : w < n) : (rowOf n A r t x b w).isEmpty = ovr n A t b w := by
  unfold rowOf movesOf
  by_cases h : ovr n A t b w = true
  · simp [h]
  · have h' : ovr n A t b w = false := by simpa using h
    cases x with
    | true =>
      have := near_self (far := 1) hb
      rw [h']
      simp
      intro e
      rw [e] at this
      cases this
    | false =>
      have := near_self (far := r) hw
      rw [h']
      simp
      intro e
      rw [e] at this
      cases this
theorem row_val : W n A r t x b w = if ovr n A t b w = true then thr n t b w else if x then (rowOf n A r t x b w).any id else (rowOf n A r t x b w).all id := by
  unfold W rowOf movesOf
  cases x with
  | true =>
    simp [wb_is, stepB]
    by_cases h : ovr n A t b w = true
    · simp [h]
    · simp [h]
  | false =>
    by_cases h : ovr n A t b w = true
    · cases t <;> simp [wa, stepA, h]
    · have ht : t ≠ 0 := fun z => h (by unfold ovr; simp [z])
      obtain ⟨t', rfl⟩ : ∃ t', t = t' + 1 := ⟨t - 1, by omega⟩
      simp [wa, stepA, h]
theorem there_ok {l : DT} {m : List PV → M PV} (hm : ∀ p : Nat, m [st4 H t x b w, .int p] = m_raw_behind [st4 H t x b w, .int p]) (R : Rv n A H r) (ht : t ≤ H) (hb : b < n) (hw : w < n) (k1 : x = true → ∀ p, p < n → Fact n A H r l ⟨t, false, p, w⟩) (k2 : x = false → ∀ t' p, t = t' + 1 → p < n → Fact n A H r l ⟨t', true, b, p⟩) {sh sx sb sw s11 : Slot} :
    lcF (tgName 12) gYes (gBin pIxD (gVarB 1) (gB m (gCons (gVar 10) (gCons (gVar 12) gNil)))) (E n A H r l sh sx sb sw (.fz (st4 H t x b w)) s11 .un) ((movesOf n A r t x b w).map fun q : Nat => PV.int q) = pure ((rowOf n A r t x b w).map PV.bl) := by
  rw [lc_all (ρ' := fun q : Nat => E n A H r l sh sx sb sw (.fz (st4 H t x b w)) s11 (.fz (.int q))) (e := fun p => PV.bl (if x then wa n A r t p w else wb n A r (t - 1) b p)) (by
    intro q hq
    refine ⟨rfl, ?_⟩
    have ho : ¬ ovr n A t b w = true := fun z => by
      unfold movesOf at hq
      rw [if_pos z] at hq
      cases hq
    have hqn : q < n := by
      unfold movesOf at hq
      rw [if_neg ho] at hq
      cases x
      · exact near_lt hq
      · exact near_lt hq
    cases x with
    | true =>
      have f := k1 rfl q hqn
      unfold Fact at f
      have e := behind_boat (H := H) (t := t) (b := b) (w := w) (p := q)
      simp only [E, e_bin, e_B, e_cons, e_nil, e_var, e_varB]
      show ((slB (some (.ow (.dT l))) >>= fun x => (slF (some (.fz (st4 H t true b w))) >>= fun a => (slF (some (.fz (.int q))) >>= fun c => pure [c]) >>= fun cs => pure (a :: cs)) >>= m >>= fun y => pIxD x y)) = _
      simp only [e_slF, e_slBo, pure_bind, hm, e]
      simp [pIxD, st4, key_st4, f, W]
    | false =>
      have h0 : t ≠ 0 := fun z => ho (by unfold ovr; simp [z])
      obtain ⟨t', rfl⟩ : ∃ t', t = t' + 1 := ⟨t - 1, by omega⟩
      have f := k2 rfl t' q rfl hqn
      unfold Fact at f
      have e := behind_watch (H := H) (t := t') (b := b) (w := w) (p := q)
      simp only [E, e_bin, e_B, e_cons, e_nil, e_var, e_varB]
      show ((slB (some (.ow (.dT l))) >>= fun x => (slF (some (.fz (st4 H (t' + 1) false b w))) >>= fun a => (slF (some (.fz (.int q))) >>= fun c => pure [c]) >>= fun cs => pure (a :: cs)) >>= m >>= fun y => pIxD x y)) = _
      simp only [e_slF, e_slBo, pure_bind, hm, e]
      simp [pIxD, st4, key_st4, f, W])]
  rw [rowOf, List.map_map]; rfl
theorem bls_id : ∀ l : List Bool, bls? (l.map PV.bl) = some l
  | [] => rfl
  | x :: l => by
    show (bls? (l.map PV.bl)).map (x :: ·) = _
    rw [bls_id l]; rfl
theorem any_row (l : List Bool) : pAny [.lst (l.map PV.bl)] = pure (.bl (l.any id)) := by
  show (liftO (bls? _) >>= fun bs => pure (PV.bl (bs.any id))) = _
  rw [bls_id, lift_some, pure_bind]
theorem all_row (l : List Bool) : pAll [.lst (l.map PV.bl)] = pure (.bl (l.all id)) := by
  show (liftO (bls? _) >>= fun bs => pure (PV.bl (bs.all id))) = _
  rw [bls_id, lift_some, pure_bind]
def innerP : SM := (sSeq (sAsg (gTup (gCons (gVar 2) (gCons (gVar 8) (gCons (gVar 9) (gCons (gVar 7) gNil))))) (tgName 10))
  (sSeq (sAsg (gLc (iSeq (gB m_raw_moves (gCons (gVar 0) (gCons (gVar 10) gNil)))) (tgName 12) gYes (gBin pIxD (gVarB 1) (gB m_raw_behind (gCons (gVar 10) (gCons (gVar 12) gNil)))) [12]) (tgName 11))
  (sIf (gNotT (gTru (gVarB 11))) (sSetD 1 (gVar 10) (gB m_is_through (gCons (gVar 0) (gCons (gVar 10) gNil)))) (sSetD 1 (gVar 10) (gIf (gTB (gBin pEq (gVarB 7) (gC (.str "boat")))) (gB pAny (gCons (gVarB 11) gNil)) (gB pAll (gCons (gVarB 11) gNil)))))))
theorem through_is : b_through_stands = sSeq (sAsg (gVar 0) (tgTup 4 (tgCons (tgName 3) (tgCons (tgName 4) (tgCons (tgName 5) (tgCons (tgName 6) tgNil))))))
  (sSeq (sOwn gNewT 1) (sSeq (hoursLoop innerP) (sFrz 1 (sRet (gVar 1))))) := rfl
@[simp] theorem e_setD {i : Nat} {gi g : EM} {ρ : Ev} : sSetD i gi g ρ = (g ρ >>= fun p => gi ρ >>= fun y => putP ρ[i]? y p >>= fun q => pure (.nx (ρ.set i (.ow q)))) := rfl
theorem putP_T {l : DT} {y p : PV} {ks : List PV} {k : List Key} (e : y = .tup ks) (hk : keysP ks = some k) (hl : l.length < SZ) : putP (some (.ow (.dT l))) y p = pure (.dT (dPut l k p)) := by
  subst e
  show (liftO (keysP ks) >>= fun k => guardM (l.length < SZ) (pure (PV.dT (dPut l k p)))) = _
  rw [hk, lift_some, pure_bind, guard_pos hl]
theorem inner_ok (R : Rv n A H r) : Inner n A H r innerP := by
  intro l t x b w s10 s11 s12 ht hb hw hl k1 k2
  refine ⟨.fz (st4 H t x b w), .fz (.lst ((rowOf n A r t x b w).map PV.bl)), s12, ?_⟩
  have eT := fun {sh sx sb sw : Slot} => there_ok (m := m_raw_behind) (fun _ => rfl) R ht hb hw k1 k2 (sh := sh) (sx := sx) (sb := sb) (sw := sw) (s11 := s11)
  have eM := moves_ok (x := x) R ht hb hw
  have eI := through_ok (x := x) R ht hb hw
  have h1 : (E n A H r l (.fz (.int ((H : Int) - t))) (.fz (.str (xs x))) (.fz (.int b)) (.fz (.int w)) s10 s11 s12) = [.fz (rv n A H r), .ow (.dT l), .fz (.int ((H : Int) - t)), .fz (.int n), .fz (iT A), .fz (.int H), .fz (.int r), .fz (.str (xs x)), .fz (.int b), .fz (.int w), s10, s11, s12] := rfl
  rw [h1]
  unfold innerP
  have hst : PV.tup [.int ((H : Int) - t), .int b, .int w, .str (xs x)] = st4 H t x b w := rfl
  have eT' := eT (sh := .fz (.int ((H : Int) - t))) (sx := .fz (.str (xs x))) (sb := .fz (.int b)) (sw := .fz (.int w))
  unfold E at eT'
  have hrow := row_empty (x := x) (A := A) (r := r) (t := t) hb hw
  have hval := row_val (n := n) (A := A) (r := r) (t := t) (x := x) (b := b) (w := w)
  have hput := fun p => putP_T (l := l) (y := st4 H t x b w) (p := p) rfl (key_st4 (H := H) (t := t) (b := b) (w := w) (x := x)) (by simp; omega)
  simp only [e_seq, e_asg, e_tup, e_cons, e_nil, e_var, bind_assoc]
  simp [hst, eM, eT']
  cases ho : ovr n A t b w with
  | true =>
    rw [ho] at hrow hval
    have hr : rowOf n A r t x b w = [] := by simpa using hrow
    simp [hr, eI, hput]
    simp [E, put, hval]
  | false =>
    rw [ho] at hrow hval
    have hr : rowOf n A r t x b w ≠ [] := by simpa using hrow
    simp [hr, any_row, all_row, hput]
    cases x with
    | true => simp [E, put, hval, xs, hbb, any_row, hput]
    | false => simp [E, put, hval, xs, hwb2, all_row, hput]
theorem rv_get : ∀ {f : PV → M Out}, True := trivial
theorem wins_ok (R : Rv n A H r) : ∃ l : DT, m_through_stands [rv n A H r] = pure (.dT l) ∧ ∀ w, w < n → dGet l [.inl 0, .inl 0, .inl w, .inr "boat"] = some (.bl (wb n A r H 0 w)) := by
  obtain ⟨ρ', sh, sx, sb, e, l, sw, a1, a2, a3, rfl, hl, hK⟩ := loop_h R (inner_ok R) (sh := .un) (sx := .un) (sb := .un) (sw := .un) (s10 := .un) (s11 := .un) (s12 := .un)
  have n2 := R.n2
  refine ⟨l, ?_, fun w hw => ?_⟩
  · rw [u_through_stands, through_is]
    unfold E at e
    generalize hoursLoop innerP = body at e
    simp [rv, gNewT]
    simp only [rv] at e
    simp [e, E, frz1]
  · have := hK ⟨H, true, 0, w⟩ trivial (Nat.le_refl _) (by show 0 < n; omega) hw
    unfold Fact key4 at this
    simpa [xs, W] using this
end
section
variable {n : Nat} {A : List Int} {H r t b w : Nat} {x : Bool}
def cgt (A : List Int) (b w : Nat) : Bool := decide (b = w) && !decide ((b : Int) ∈ A)
def endV (n : Nat) (A : List Int) (t b w : Nat) : PV := if cgt A b w = true then .str "caught" else if t = 0 then .str "over" else if thr n t b w = true then .str "through" else .non
theorem end_ok (R : Rv n A H r) (ht : t ≤ H) (hb : b < n) (hw : w < n) : m__law_end [rv n A H r, st4 H t x b w] = pure (endV n A t b w) := by
  rw [u__law_end]; unfold b__law_end
  have n2 := R.n2
  have e1 : ((b : Int) == (w : Int)) = decide (b = w) := by rw [Bool.eq_iff_iff]; simp; omega
  have e2 : ((H : Int) - t = H) ↔ t = 0 := by omega
  have e3 : ((b : Int) = (n : Int) - 1) ↔ b + 1 = n := by omega
  have e4 : ((w : Int) = (b : Int)) ↔ w = b := by omega
  have e5 : ((b : Int) = (w : Int)) ↔ b = w := by omega
  simp [rv, st4, iT, v_ninI, e2, e3, e4, e5]
  unfold endV cgt thr
  by_cases h1 : b = w
  · subst h1
    by_cases h2 : (b : Int) ∈ A
    · by_cases h3 : t = 0
      · simp [h2, h3]
      · by_cases h4 : b + 1 = n <;> simp [h2, h3, h4, e2]
    · simp [h2]
  · have h1' : ¬ w = b := fun z => h1 z.symm
    by_cases h3 : t = 0
    · simp [h1, h1', h3, e2]
    · have h3' : 0 < t := by omega
      have e6 : ((w : Int) == (b : Int)) = false := by rw [beq_eq_false_iff_ne]; omega
      by_cases h4 : b + 1 = n
      · have e7 : (b : Int) = (n : Int) - 1 := by omega
        have e7' : ((b : Int) = (n : Int) - 1) = True := eq_true e7
        have e8 : ¬ (H : Int) - t = H := by omega
        simp [h1, h1', h3, h3', h4, e8, e7', e6]
      · have e7 : ¬ (b : Int) = (n : Int) - 1 := by omega
        have e8 : ¬ (H : Int) - t = H := by omega
        simp [h1, h1', h3, h3', h4, e8, e7, e6]
theorem end_non : isNon (endV n A t b w) = !ovr n A t b w := by
  unfold endV ovr
  have : (decide (b = w) && !decide ((b : Int) ∈ A)) = cgt A b w := rfl
  rw [this]
  by_cases h1 : cgt A b w = true
  · simp [h1, isNon]
  · by_cases h2 : t = 0
    · simp [h1, h2, isNon]
    · by_cases h3 : thr n t b w = true
      · simp [h1, h2, h3, isNon]
      · simp [h1, h2, h3, isNon]
theorem sh1 : SeqAt.shaped (.str "caught") = true := by decide +kernel
theorem end_thr (ho : ovr n A t b w = true) : pEq (endV n A t b w) (.str "through") = pure (.bl (thr n t b w)) := by
  have k1 : (("caught" : Str) == "through") = false := by decide +kernel
  have k2 : (("over" : Str) == "through") = false := by decide +kernel
  unfold endV
  by_cases h1 : cgt A b w = true
  · rw [if_pos h1, v_eqS, k1]
    unfold cgt at h1
    simp at h1
    unfold thr
    simp [h1.1]
  · rw [if_neg h1]
    by_cases h2 : t = 0
    · rw [if_pos h2, v_eqS, k2]
      unfold thr
      simp [h2]
    · rw [if_neg h2]
      by_cases h3 : thr n t b w = true
      · rw [if_pos h3, v_eqS, h3]
        simp
      · exfalso
        have : (decide (b = w) && !decide ((b : Int) ∈ A)) = cgt A b w := rfl
        unfold ovr at ho
        rw [this] at ho
        simp [h1, h2, h3] at ho
theorem lmoves_ok (R : Rv n A H r) (ht : t ≤ H) (hb : b < n) (hw : w < n) : m__law_moves [rv n A H r, st4 H t x b w] = pure (.lst ((movesOf n A r t x b w).map fun q : Nat => PV.int q)) := by
  rw [u__law_moves]; unfold b__law_moves
  have e0 := end_ok (x := x) R ht hb hw
  simp only [rv, st4] at e0
  have n7 := R.n7
  have g : -4611686018427387904 ≤ (n : Int) ∧ (n : Int) ≤ 16777216 := by omega
  simp [rv, st4, e0, end_non]
  unfold movesOf
  by_cases ho : ovr n A t b w = true
  · simp [ho]
  · cases x with
    | true =>
      simp [ho, xs, hbb, rng0, g]
      rw [lc_map (ρ' := fun q : Nat => [.fz (rv n A H r), .fz (st4 H t true b w), .fz (.int n), .fz (iT A), .fz (.int H), .fz (.int r), .fz (.int b), .fz (.int 1), .fz (.int q)]) (c := fun q => decide ((if (q : Int) - b < 0 then -((q : Int) - b) else (q : Int) - b) ≤ (1 : Nat))) (e := fun q : Nat => PV.int q) (by
        intro q _
        exact ⟨rfl, by simp, by simp⟩)]
      simp [near]
    | false =>
      simp [ho, xs, hwb2, rng0, g]
      rw [lc_map (ρ' := fun q : Nat => [.fz (rv n A H r), .fz (st4 H t false b w), .fz (.int n), .fz (iT A), .fz (.int H), .fz (.int r), .fz (.int w), .fz (.int r), .fz (.int q)]) (c := fun q => decide ((if (q : Int) - w < 0 then -((q : Int) - w) else (q : Int) - w) ≤ (r : Nat))) (e := fun q : Nat => PV.int q) (by
        intro q _
        exact ⟨rfl, by simp, by simp⟩)]
      simp [near]
def innerL : SM := (sSeq (sAsg (gTup (gCons (gVar 2) (gCons (gVar 8) (gCons (gVar 9) (gCons (gVar 7) gNil))))) (tgName 10))
  (sSeq (sAsg (gLc (iSeq (gB m__law_moves (gCons (gVar 0) (gCons (gVar 10) gNil)))) (tgName 12) gYes (gBin pIxD (gVarB 1) (gB m__law_next (gCons (gVar 10) (gCons (gVar 12) gNil)))) [12]) (tgName 11))
  (sIf (gTB (gBin pEq (gB pLen (gCons (gVarB 11) gNil)) (gC (.int 0)))) (sSetD 1 (gVar 10) (gBin pEq (gB m__law_end (gCons (gVar 0) (gCons (gVar 10) gNil))) (gC (.str "through")))) (sSetD 1 (gVar 10) (gIf (gTB (gBin pEq (gVarB 7) (gC (.str "boat")))) (gB pAny (gCons (gVarB 11) gNil)) (gB pAll (gCons (gVarB 11) gNil)))))))
theorem lwins_is : b__law_wins = sSeq (sAsg (gVar 0) (tgTup 4 (tgCons (tgName 3) (tgCons (tgName 4) (tgCons (tgName 5) (tgCons (tgName 6) tgNil))))))
  (sSeq (sOwn gNewT 1) (sSeq (hoursLoop innerL) (sFrz 1 (sRet (gVar 1))))) := rfl
theorem next_is : m__law_next = m_raw_behind := rfl
theorem innerL_ok (R : Rv n A H r) : Inner n A H r innerL := by
  intro l t x b w s10 s11 s12 ht hb hw hl k1 k2
  refine ⟨.fz (st4 H t x b w), .fz (.lst ((rowOf n A r t x b w).map PV.bl)), s12, ?_⟩
  have eT := fun {sh sx sb sw : Slot} => there_ok (m := m__law_next) (fun _ => rfl) R ht hb hw k1 k2 (sh := sh) (sx := sx) (sb := sb) (sw := sw) (s11 := s11)
  have eM := lmoves_ok (x := x) R ht hb hw
  have eI := end_ok (x := x) R ht hb hw
  have h1 : (E n A H r l (.fz (.int ((H : Int) - t))) (.fz (.str (xs x))) (.fz (.int b)) (.fz (.int w)) s10 s11 s12) = [.fz (rv n A H r), .ow (.dT l), .fz (.int ((H : Int) - t)), .fz (.int n), .fz (iT A), .fz (.int H), .fz (.int r), .fz (.str (xs x)), .fz (.int b), .fz (.int w), s10, s11, s12] := rfl
  rw [h1]
  unfold innerL
  have hst : PV.tup [.int ((H : Int) - t), .int b, .int w, .str (xs x)] = st4 H t x b w := rfl
  have eT' := eT (sh := .fz (.int ((H : Int) - t))) (sx := .fz (.str (xs x))) (sb := .fz (.int b)) (sw := .fz (.int w))
  unfold E at eT'
  have hrow := row_empty (x := x) (A := A) (r := r) (t := t) hb hw
  have hval := row_val (n := n) (A := A) (r := r) (t := t) (x := x) (b := b) (w := w)
  have hput := fun p => putP_T (l := l) (y := st4 H t x b w) (p := p) rfl (key_st4 (H := H) (t := t) (b := b) (w := w) (x := x)) (by simp; omega)
  simp only [e_seq, e_asg, e_tup, e_cons, e_nil, e_var, bind_assoc]
  simp [hst, eM, eT']
  cases ho : ovr n A t b w with
  | true =>
    rw [ho] at hrow hval
    have hr : rowOf n A r t x b w = [] := by simpa using hrow
    simp [hr, eI, end_thr ho, hput]
    simp [E, put, hval]
  | false =>
    rw [ho] at hrow hval
    have hr : rowOf n A r t x b w ≠ [] := by simpa using hrow
    simp [hr, any_row, all_row, hput]
    cases x with
    | true => simp [E, put, hval, xs, hbb, any_row, hput]
    | false => simp [E, put, hval, xs, hwb2, all_row, hput]
theorem lwins_ok (R : Rv n A H r) : ∃ l : DT, m__law_wins [rv n A H r] = pure (.dT l) ∧ ∀ w, w < n → dGet l [.inl 0, .inl 0, .inl w, .inr "boat"] = some (.bl (wb n A r H 0 w)) := by
  obtain ⟨ρ', sh, sx, sb, e, l, sw, a1, a2, a3, rfl, hl, hK⟩ := loop_h R (innerL_ok R) (sh := .un) (sx := .un) (sb := .un) (sw := .un) (s10 := .un) (s11 := .un) (s12 := .un)
  have n2 := R.n2
  refine ⟨l, ?_, fun w hw => ?_⟩
  · rw [u__law_wins, lwins_is]
    unfold E at e
    generalize hoursLoop innerL = body at e
    simp [rv, gNewT]
    simp only [rv] at e
    simp [e, E, frz1]
  · have := hK ⟨H, true, 0, w⟩ trivial (Nat.le_refl _) (by show 0 < n; omega) hw
    unfold Fact key4 at this
    simpa [xs, W] using this
end
end SLP

end
section
namespace SLP
open PySem L2 SL
/-- a loop that leaves at the first -/
theorem find_any {α : Type} {I : Ev → Prop} {gt : GM} {gb : SM} {c : α → Bool} {φ e : α → PV} : ∀ {l : List α}, (∀ x ∈ l, ∀ ρ, I ρ → ∃ ρ', I ρ' ∧ (gt (φ x) ρ >>= gb) = pure (if c x = true then .rt (e x) else .nx ρ')) → ∀ ρ, I ρ → ∃ ρ', I ρ' ∧ forF gt gb (l.map φ) ρ = pure (match l.find? c with | some x => .rt (e x) | none => .nx ρ')
  | [], _, ρ, i => ⟨ρ, i, rfl⟩
  | x :: l, h, ρ, i => by
    obtain ⟨ρ1, i1, e1⟩ := h x List.mem_cons_self ρ i
    rw [List.map_cons, forF, ← bind_assoc, e1, pure_bind]
    cases hc : c x with
    | true => exact ⟨ρ, i, by simp [hc]⟩
    | false =>
      obtain ⟨ρ', i', e⟩ := find_any (l := l) (fun y hy => h y (List.mem_cons_of_mem _ hy)) ρ1 i1
      exact ⟨ρ', i', by simp [hc, e]⟩
theorem foldr_find {α : Type} (c : α → Bool) : ∀ l : List α, l.foldr (fun x acc => if c x = true then some x else acc) none = l.find? c
  | [] => rfl
  | x :: l => by
    rw [List.foldr_cons, foldr_find c l, List.find?_cons]
    cases c x <;> simp
def first {α : Type} (c : α → Bool) (acc : Option α) (x : α) : Option α := match acc with
  | none => if c x = true then some x else none
  | some y => some y
theorem foldl_some {α : Type} (c : α → Bool) (y : α) : ∀ l : List α, l.foldl (first c) (some y) = some y
  | [] => rfl
  | x :: l => by rw [List.foldl_cons]; exact foldl_some c y l
theorem foldl_first {α : Type} (c : α → Bool) : ∀ l : List α, l.foldl (first c) none = l.find? c
  | [] => rfl
  | x :: l => by
    rw [List.foldl_cons, List.find?_cons]
    show l.foldl (first c) (if c x = true then some x else none) = _
    cases c x with
    | true => rw [if_pos rfl, foldl_some]
    | false => rw [if_neg Bool.false_ne_true, foldl_first c l]
section
variable {n : Nat} {A : List Int} {H r : Nat}
def bars (n : Nat) (A : List Int) (H r : Nat) : List Int := ((List.range n).filter fun w => !wb n A r H 0 w).map fun (w : Nat) => (w : Int)
theorem check_river (R : Rv n A H r) (h : LotOk n A) : m_check_river [rv n A H r] = pure .non := by
  rw [u_check_river]; unfold b_check_river
  have e : m_is_river [rv n A H r] = pure (.bl true) := by
    rw [u_is_river]; unfold b_is_river
    have := R.n2
    have := R.n7
    have := R.h1
    have := R.h12
    have := R.r1
    have := R.r2
    have g1 : (2 : Int) ≤ n := by omega
    have g2 : (n : Int) ≤ 7 := by omega
    have g3 : (1 : Int) ≤ H := by omega
    have g4 : (H : Int) ≤ 12 := by omega
    have g5 : (1 : Int) ≤ r := by omega
    have g6 : (r : Int) ≤ 2 := by omega
    simp [rv, sized_tup, within_int, lot_ok h, g1, g2, g3, g4, g5, g6]
  simp [e]
theorem raw_barring (R : Rv n A H r) : m_raw_barring [rv n A H r] = pure (iL (bars n A H r)) := by
  obtain ⟨l, e, hl⟩ := wins_ok R
  rw [u_raw_barring]; unfold b_raw_barring
  have := R.n7
  have g : -4611686018427387904 ≤ (n : Int) ∧ (n : Int) ≤ 16777216 := by omega
  simp only [rv] at e
  simp [rv, e, g, rng0]
  rw [lc_map (ρ' := fun w : Nat => [.fz (rv n A H r), .fz (.dT l), .fz (.int w)]) (c := fun w => !wb n A r H 0 w) (e := fun w : Nat => PV.int w) (by
    intro w hw
    refine ⟨rfl, ?_, by simp⟩
    have h := hl w (List.mem_range.mp hw)
    simp [pIxD, keysP, keyP, h])]
  simp [iL, bars]
  rfl
theorem barring (R : Rv n A H r) (h : LotOk n A) : m_barring_places [rv n A H r] = pure (iT (bars n A H r)) := by
  rw [u_barring_places]; unfold b_barring_places
  simp [check_river R h, raw_barring R, iL, iT]
theorem lbarring (R : Rv n A H r) : m__law_barring [rv n A H r] = pure (iT (bars n A H r)) := by
  obtain ⟨l, e, hl⟩ := lwins_ok R
  rw [u__law_barring]; unfold b__law_barring
  have := R.n7
  have g : -4611686018427387904 ≤ (n : Int) ∧ (n : Int) ≤ 16777216 := by omega
  simp only [rv] at e
  simp [rv, e, g, rng0]
  rw [lc_map (ρ' := fun w : Nat => [.fz (rv n A H r), .fz (.dT l), .fz (.int w)]) (c := fun w => !wb n A r H 0 w) (e := fun w : Nat => PV.int w) (by
    intro w hw
    refine ⟨rfl, ?_, by simp⟩
    have h := hl w (List.mem_range.mp hw)
    simp [pIxD, keysP, keyP, h])]
  simp [iT, bars]
  rfl
def leastP : Option Nat → PV
  | some i => .int (1 + (i : Nat) : Int)
  | none => .non
theorem least_ok (R : Rv n A H r) (h : LotOk n A) {w : Nat} (hw : w < n) : m_least_hours_for [rv n A H r, .int w] = pure (leastP ((List.range H).find? fun i => wb n A r (i + 1) 0 w)) := by
  rw [u_least_hours_for]; unfold b_least_hours_for
  have := R.n7
  have h12 := R.h12
  have hc : m_check_place [rv n A H r, .int w] = pure .non := by
    rw [u_check_place]; unfold b_check_place
    have := check_river R h
    simp only [rv] at this
    have g : (w : Int) ≤ (n : Int) - 1 := by omega
    simp [rv, this, within_int, g]
  have e2 : iRange (gCons (gC (.int 1)) (gCons (gBin pAdd (gBin pIx (gVarB 0) (gC (.int 2))) (gC (.int 1))) gNil)) [.fz (rv n A H r), .fz (.int w), .un, .un] = pure ((List.range H).map fun i : Nat => PV.int (1 + (i : Nat) : Int)) := by
    simp [rv]
    rw [guard_pos (by omega)]
    rfl
  obtain ⟨ρ', ⟨s2, s3, eρ⟩, e⟩ := find_any (I := fun ρ => ∃ s2 s3, ρ = [.fz (rv n A H r), .fz (.int w), s2, s3]) (gt := tgName 2) (gb := (sSeq (sAsg (gTup (gCons (gBin pIx (gVarB 0) (gC (.int 0))) (gCons (gBin pIx (gVarB 0) (gC (.int 1))) (gCons (gVar 2) (gCons (gBin pIx (gVarB 0) (gC (.int 3))) gNil))))) (tgName 3))
  (sIf (gTru (gBin pIxD (gB m_through_stands (gCons (gVar 3) gNil)) (gTup (gCons (gC (.int 0)) (gCons (gC (.int 0)) (gCons (gVar 1) (gCons (gC (.str "boat")) gNil))))))) (sRet (gVar 2)) sNx)))
    (c := fun i => wb n A r (i + 1) 0 w) (φ := fun i : Nat => PV.int (1 + (i : Nat) : Int)) (e := fun i : Nat => PV.int (1 + (i : Nat) : Int)) (l := List.range H) (by
      rintro i hi ρ ⟨s2, s3, rfl⟩
      have hi := List.mem_range.mp hi
      obtain ⟨l, e, hl⟩ := wins_ok (n := n) (A := A) (H := i + 1) (r := r) ⟨R.n2, R.n7, by omega, by omega, R.r1, R.r2⟩
      have hg := hl w hw
      have ei : ((i + 1 : Nat) : Int) = 1 + (i : Int) := by omega
      simp only [rv, ei] at e
      refine ⟨_, ⟨.fz (.int (1 + (i : Nat) : Int)), .fz (.tup [.int n, iT A, .int (1 + (i : Nat) : Int), .int r]), rfl⟩, ?_⟩
      simp [rv, e, pIxD, keysP, keyP, hg]
      split <;> simp) [.fz (rv n A H r), .fz (.int w), .un, .un] ⟨_, _, rfl⟩
  subst eρ
  have h1 : sExpr (gB m_check_place (gCons (gVar 0) (gCons (gVar 1) gNil))) [.fz (rv n A H r), .fz (.int w), .un, .un] = pure (.nx [.fz (rv n A H r), .fz (.int w), .un, .un]) := by simp [hc]
  rw [e_seq, h1, pure_bind]
  show (sSeq _ _ _ >>= fin) = _
  rw [e_seq, e_sfor, e2, pure_bind, e]
  cases (List.range H).find? fun i => wb n A r (i + 1) 0 w <;> simp [leastP]
theorem raw_hides_ok {B : List Int} : m_raw_hides [rv n A H r, iT B] = pure (rv n (B.mergeSort fun a b => decide (a ≤ b)) H r) := by
  rw [u_raw_hides]; unfold b_raw_hides
  have : pSorted [iT B] = pure (iL (B.mergeSort fun a b => decide (a ≤ b))) := sortP_ints B
  have e2 : cut [PV.int n, iT A, .int H, .int r] (some 2) none = [.int H, .int r] := rfl
  simp [rv, this, iL, e2]
  rfl
end
end SLP

end
section
namespace SLP
open PySem L2 SL
section
variable {n : Nat} {A : List Int} {H r : Nat}
theorem hides_ok {B : List Int} : m_raw_hides [rv n A H r, iT B] = pure (rv n (srt B) H r) := raw_hides_ok
def good (n : Nat) (A : List Int) (H r : Nat) (x : List Int) : Bool := (bars n (srt (A ++ x)) H r).isEmpty
theorem add_lot {x : List Int} (hA : A.length ≤ n) (hn : n ≤ 7) (hx : x ∈ lots (freeOf n A)) : pAdd (iT A) (iT x) = pure (iT (A ++ x)) := by
  have hxl : x.length ≤ 8 := by
    have := (lots_sub hx).length_le
    have := free_len (n := n) (A := A)
    omega
  show guardM _ _ = _
  rw [guard_pos (by simp; omega)]
  simp [iT]
theorem most_ok (R : Rv n A H r) (h : LotOk n A) (hA : A.length ≤ n) : m_most_hides [rv n A H r] = pure (ans ((lots (freeOf n A)).find? (good n A H r))) := by
  rw [u_most_hides]; unfold b_most_hides
  have n7 := R.n7
  have g : -4611686018427387904 ≤ (n : Int) ∧ (n : Int) ≤ 16777216 := by omega
  have hc := check_river R h
  simp only [rv] at hc
  simp [rv, hc, g]
  rw [free_lc (A := A) (fun i => by simp [iT, v_ninI])]
  have hl := all_lots_ok (free := freeOf n A) (by have := free_len (n := n) (A := A); omega)
  simp only [iL] at hl
  simp [hl]
  obtain ⟨s', e⟩ := find_loop (f := fun s => [.fz (rv n A H r), .fz (iL (freeOf n A)), s, .un]) (i := 2) (fun _ _ => rfl) (t := gNotT (gTru (gB m_raw_barring (gCons (gB m_raw_hides (gCons (gVar 0) (gCons (gBin pAdd (gBin pIx (gVarB 0) (gC (.int 1))) (gVarB 2)) gNil))) gNil)))) (g := gTup (gCons (gB pLen (gCons (gVarB 2) gNil)) (gCons (gVar 2) gNil)))
    (c := good n A H r) (φ := iT) (e := fun x => .tup [.int x.length, iT x]) (l := lots (freeOf n A)) (by
    intro x hx
    have ha := add_lot hA n7 hx
    have hh := hides_ok (n := n) (A := A) (H := H) (r := r) (B := A ++ x)
    have hb := raw_barring (n := n) (A := srt (A ++ x)) (H := H) (r := r) ⟨R.n2, R.n7, R.h1, R.h12, R.r1, R.r2⟩
    simp only [rv] at hh hb
    constructor
    · simp [rv, ha, hh, hb, iL, good]
    · intro _
      simp [iT]) .un
  simp only [rv, iL] at e
  rw [e]
  cases (lots (freeOf n A)).find? (good n A H r) <;> simp [ans]
theorem with_ok (R : Rv n A H r) (h : LotOk n A) {B : List Int} (hB : LotOk n B) : m_with_hides [rv n A H r, iT B] = pure (rv n B H r) := by
  rw [u_with_hides]; unfold b_with_hides
  have hc := check_river R h
  have hh := hides_ok (n := n) (A := A) (H := H) (r := r) (B := B)
  rw [srt_self hB.asc] at hh
  have hl := lot_ok hB
  simp only [rv] at hc hh
  simp [rv, hc, hl, hh]
/-! more hides: never fewer ways through -/
theorem mono_t {B : List Int} (hAB : ∀ b ∈ A, b ∈ B) : ∀ t, (∀ b w, wa n A r t b w = true → wa n B r t b w = true) ∧ (∀ b w, wb n A r t b w = true → wb n B r t b w = true) := by
  have ov : ∀ t b w, ovr n B t b w = true → ovr n A t b w = true := fun t b w h => by
    unfold ovr at h ⊢
    by_cases h1 : thr n t b w = true
    · simp [h1]
    · by_cases h2 : t = 0
      · simp [h2]
      · simp [h1, h2] at h ⊢
        exact ⟨h.1, fun z => h.2 (hAB _ z)⟩
  have cg : ∀ t b w, ovr n A t b w = true → ovr n B t b w = false → thr n t b w = true → False := fun t b w h1 h2 h3 => by
    unfold ovr at h2
    rw [h3] at h2
    simp at h2
  have sA : ∀ t (p q : Nat → Nat → Bool), (∀ b w, p b w = true → q b w = true) → ∀ b w, stepA n A r t p b w = true → stepA n B r t q b w = true := fun t p q hpq b w h => by
    unfold stepA at h ⊢
    by_cases hB : ovr n B t b w = true
    · rw [if_pos hB]
      rw [if_pos (ov t b w hB)] at h
      exact h
    · rw [if_neg hB]
      by_cases hA : ovr n A t b w = true
      · rw [if_pos hA] at h
        exact (cg t b w hA (by simpa using hB) h).elim
      · rw [if_neg hA] at h
        rw [List.all_eq_true] at h ⊢
        exact fun x hx => hpq _ _ (h x hx)
  have sB : ∀ t (p q : Nat → Nat → Bool), (∀ b w, p b w = true → q b w = true) → ∀ b w, stepB n A t p b w = true → stepB n B t q b w = true := fun t p q hpq b w h => by
    unfold stepB at h ⊢
    by_cases hB : ovr n B t b w = true
    · rw [if_pos hB]
      rw [if_pos (ov t b w hB)] at h
      exact h
    · rw [if_neg hB]
      by_cases hA : ovr n A t b w = true
      · rw [if_pos hA] at h
        exact (cg t b w hA (by simpa using hB) h).elim
      · rw [if_neg hA] at h
        rw [List.any_eq_true] at h ⊢
        obtain ⟨x, hx, h⟩ := h
        exact ⟨x, hx, hpq _ _ h⟩
  intro t
  induction t with
  | zero =>
    have a := sA 0 (fun _ _ => false) (fun _ _ => false) (fun _ _ h => h)
    exact ⟨a, sB 0 _ _ a⟩
  | succ t ih =>
    have a := sA (t + 1) (wb n A r t) (wb n B r t) ih.2
    exact ⟨a, sB (t + 1) _ _ a⟩
theorem bars_mono {B : List Int} (hAB : ∀ b ∈ A, b ∈ B) : ∀ p ∈ bars n B H r, p ∈ bars n A H r := fun p hp => by
  obtain ⟨w, hw, rfl⟩ := List.mem_map.mp hp
  obtain ⟨h1, h2⟩ := List.mem_filter.mp hw
  refine List.mem_map.mpr ⟨w, List.mem_filter.mpr ⟨h1, ?_⟩, rfl⟩
  cases h : wb n A r H 0 w with
  | false => rfl
  | true =>
    rw [(mono_t hAB H).2 0 w h] at h2
    cases h2
end
end SLP

end
section
namespace SLP
open PySem L2 SL
def lap : SM := (sSeq (sAsg (gB m__law_river (gCons (gVar 1) (gCons (gC (.int 4)) (gCons (gC (.int 5)) gNil)))) (tgName 3))
  (sSeq (sAsg (gVar 3) (tgTup 4 (tgCons (tgName 9) (tgCons (tgName 10) (tgCons (tgName 11) (tgCons (tgName 12) tgNil))))))
  (sSeq (sPar 13 14 (gCons (gB m__law_draw (gCons (gVar 1) (gCons (gVar 9) gNil))) (gCons (gC .non) gNil)))
  (sSeq (sFor (iDown (gCons (gVar 11) (gCons (gC (.int 0)) (gCons (gNeg (gC (.int 1))) gNil)))) (tgName 4) (sAsg (gIf (gTru (gBin pIxD (gB m__law_wins (gCons (gTup (gCons (gVar 9) (gCons (gVar 10) (gCons (gVar 4) (gCons (gVar 12) gNil))))) gNil)) (gTup (gCons (gC (.int 0)) (gCons (gC (.int 0)) (gCons (gVar 13) (gCons (gC (.str "boat")) gNil))))))) (gVar 4) (gVar 14)) (tgName 14)))
  (sSeq (sIf (gNotT (gTru (gB (m__law_is 4) (gCons (gB m_least_hours_for (gCons (gVar 3) (gCons (gVar 13) gNil))) (gCons (gVar 14) gNil))))) (sRet (gC (.bl false))) sNx)
  (sSeq (sAsg (gB m__law_barring (gCons (gVar 3) gNil)) (tgName 5))
  (sSeq (sIf (gNotT (gTru (gB (m__law_is 4) (gCons (gB m_barring_places (gCons (gVar 3) gNil)) (gCons (gVar 5) gNil))))) (sRet (gC (.bl false))) sNx)
  (sSeq (sAsg (gC .non) (tgName 6))
  (sSeq (sFor (iSeq (gB m__law_lots (gCons (gLc (iRange (gCons (gVar 9) gNil)) (tgName 16) (gTB (gBin pNotIn (gVarB 16) (gVarB 10))) (gVar 16) [16]) gNil))) (tgName 7) (sSeq (sAsg (gTup (gCons (gVar 9) (gCons (gB pTuple (gCons (gB pSorted (gCons (gBin pAdd (gVarB 10) (gVarB 7)) gNil)) gNil)) (gCons (gVar 11) (gCons (gVar 12) gNil))))) (tgName 15))
  (sIf (gAndT (gTB (gBin (pIsN false) (gVarB 6) (gC .non))) (gTB (gBin pEq (gB pLen (gCons (gB m__law_barring (gCons (gVar 15) gNil)) gNil)) (gC (.int 0))))) (sAsg (gTup (gCons (gB pLen (gCons (gVarB 7) gNil)) (gCons (gVar 7) gNil))) (tgName 6)) sNx)))
  (sSeq (sIf (gNotT (gTru (gB (m__law_is 4) (gCons (gB m_most_hides (gCons (gVar 3) gNil)) (gCons (gVar 6) gNil))))) (sRet (gC (.bl false))) sNx)
  (sSeq (sAsg (gB pTuple (gCons (gLc (iRange (gCons (gVar 9) gNil)) (tgName 16) (gOrT (gTB (gBin pIn (gVarB 16) (gVarB 10))) (gTB (gBin pEq (gB m__law_draw (gCons (gVar 1) (gCons (gC (.int 2)) gNil))) (gC (.int 0))))) (gVar 16) [16]) gNil)) (tgName 8))
  (sSeq (sIf (gNotT (gTru (gB (m__law_is 4) (gCons (gB m_with_hides (gCons (gVar 3) (gCons (gVar 8) gNil))) (gCons (gTup (gCons (gVar 9) (gCons (gVar 8) (gCons (gVar 11) (gCons (gVar 12) gNil))))) gNil))))) (sRet (gC (.bl false))) sNx)
  (sIf (gNotT (gTru (gB pAll (gCons (gLc (iSeq (gB m_barring_places (gCons (gB m_with_hides (gCons (gVar 3) (gCons (gVar 8) gNil))) gNil))) (tgName 16) gYes (gBin pIn (gVarB 16) (gVarB 5)) [16]) gNil)))) (sRet (gC (.bl false))) sNx)))))))))))))
theorem b_law_is : b_law = sSeq (sFor (iRange (gCons (gC (.int 3)) gNil)) (tgName 2) lap) (sRet (gC (.bl true))) := rfl
theorem river_ok {h : HS} (hh : HandOk h) : Ok (m__law_river [.hand, .int 4, .int 5]) (fun p h' => ∃ (n : Nat) (A : List Int) (H r : Nat), p = rv n A H r ∧ Rv n A H r ∧ LotOk n A ∧ A.length ≤ n ∧ HandOk h') h := by
  rw [u__law_river]; unfold b__law_river
  simp
  refine (draw_ok hh (by decide) (by decide)).bind' fun p h1 ⟨q, e, q0, q2, hh1⟩ => ?_
  subst e
  obtain ⟨n, hn⟩ : ∃ n : Nat, 2 + q = n := ⟨(2 + q).toNat, by omega⟩
  have g : -4611686018427387904 ≤ (n : Int) ∧ (n : Int) ≤ 16777216 := by omega
  simp [hn, g, rng0]
  refine (ok_lcT (I := HandOk) (φ := fun i : Nat => PV.int i) (e := fun i : Nat => PV.int i) hh1 fun i _ h hI => ?_).bind' fun ys h3 ⟨m, hm, e, hh3⟩ => ?_
  · refine ⟨_, rfl, ?_, rfl⟩
    simp
    refine (draw_ok hI (by decide) (by decide)).bind' fun p h4 ⟨r, e, r0, r2, hh4⟩ => ?_
    subst e
    simp [hh4]
  · subst e
    refine (draw_ok hh3 (by decide) (by decide)).bind' fun p h4 ⟨a, e, a0, a5, hh4⟩ => ?_
    subst e
    simp
    refine (draw_ok hh4 (by decide) (by decide)).bind' fun p h5 ⟨c, e, c0, c2, hh5⟩ => ?_
    subst e
    rw [v_add, map_pure, ok_pure]
    refine ⟨n, m.map fun (i : Nat) => (i : Int), (1 + a).toNat, (1 + c).toNat, ?_, ⟨by omega, by omega, by omega, by omega, by omega, by omega⟩, LotOk.of_sub hm, by have := LotOk.len hm; simpa using this, hh5⟩
    have e1 : ((1 + a).toNat : Int) = 1 + a := by omega
    have e2 : ((1 + c).toNat : Int) = 1 + c := by omega
    simp only [rv, iT, e1, e2, List.map_map]
    rfl
theorem fold_any {α β : Type} {I : β → Ev → Prop} {gt : GM} {gb : SM} {g : β → α → β} {φ : α → PV} : ∀ {l : List α}, (∀ x ∈ l, ∀ a ρ, I a ρ → ∃ ρ', (gt (φ x) ρ >>= gb) = pure (.nx ρ') ∧ I (g a x) ρ') → ∀ a ρ, I a ρ → ∃ ρ', forF gt gb (l.map φ) ρ = pure (.nx ρ') ∧ I (l.foldl g a) ρ'
  | [], _, a, ρ, i => ⟨ρ, rfl, i⟩
  | x :: l, h, a, ρ, i => by
    obtain ⟨ρ1, e1, i1⟩ := h x List.mem_cons_self a ρ i
    obtain ⟨ρ', e, i'⟩ := fold_any (l := l) (fun y hy => h y (List.mem_cons_of_mem _ hy)) (g a x) ρ1 i1
    refine ⟨ρ', ?_, i'⟩
    rw [List.map_cons, forF, ← bind_assoc, e1, pure_bind]
    exact e
section
variable {n : Nat} {A : List Int} {H r w : Nat}
def G (n : Nat) (A : List Int) (H r : Nat) (s0 s2 s4 s5 s6 s7 s8 s13 s14 s15 s16 : Slot) : Ev := [s0, .fz .hand, s2, .fz (rv n A H r), s4, s5, s6, s7, s8, .fz (.int n), .fz (iT A), .fz (.int H), .fz (.int r), s13, s14, s15, s16]
theorem down_is (H : Nat) : down H H = ((List.range H).reverse).map fun i : Nat => PV.int (1 + (i : Nat) : Int) := by
  unfold down
  apply List.ext_getElem
  · simp
  · intro i h1 h2
    simp at h1
    simp
    omega
theorem loop1 (R : Rv n A H r) (hw : w < n) {s0 s2 s4 s5 s6 s7 s8 s15 s16 : Slot} : ∃ s4', sFor (iDown (gCons (gVar 11) (gCons (gC (.int 0)) (gCons (gNeg (gC (.int 1))) gNil)))) (tgName 4) (sAsg (gIf (gTru (gBin pIxD (gB m__law_wins (gCons (gTup (gCons (gVar 9) (gCons (gVar 10) (gCons (gVar 4) (gCons (gVar 12) gNil))))) gNil)) (gTup (gCons (gC (.int 0)) (gCons (gC (.int 0)) (gCons (gVar 13) (gCons (gC (.str "boat")) gNil))))))) (gVar 4) (gVar 14)) (tgName 14)) (G n A H r s0 s2 s4 s5 s6 s7 s8 (.fz (.int w)) (.fz .non) s15 s16) =
    pure (.nx (G n A H r s0 s2 s4' s5 s6 s7 s8 (.fz (.int w)) (.fz (leastP ((List.range H).find? fun i => wb n A r (i + 1) 0 w))) s15 s16)) := by
  have h12 := R.h12
  have e0 : iDown (gCons (gVar 11) (gCons (gC (.int 0)) (gCons (gNeg (gC (.int 1))) gNil))) (G n A H r s0 s2 s4 s5 s6 s7 s8 (.fz (.int w)) (.fz .non) s15 s16) = pure (((List.range H).reverse).map fun i : Nat => PV.int (1 + (i : Nat) : Int)) := by
    rw [← down_is]
    unfold iDown
    simp [G]
    rw [guard_pos (by omega)]
  obtain ⟨ρ', e, s4', eρ⟩ := fold_any (I := fun (acc : Option Nat) ρ => ∃ s4, ρ = G n A H r s0 s2 s4 s5 s6 s7 s8 (.fz (.int w)) (.fz (leastP acc)) s15 s16) (gt := tgName 4)
    (gb := (sAsg (gIf (gTru (gBin pIxD (gB m__law_wins (gCons (gTup (gCons (gVar 9) (gCons (gVar 10) (gCons (gVar 4) (gCons (gVar 12) gNil))))) gNil)) (gTup (gCons (gC (.int 0)) (gCons (gC (.int 0)) (gCons (gVar 13) (gCons (gC (.str "boat")) gNil))))))) (gVar 4) (gVar 14)) (tgName 14)))
    (g := fun acc i => if wb n A r (i + 1) 0 w = true then some i else acc) (φ := fun i : Nat => PV.int (1 + (i : Nat) : Int)) (l := (List.range H).reverse) (by
      rintro i hi acc ρ ⟨s4, rfl⟩
      have hi : i < H := by simpa using hi
      obtain ⟨l, e, hl⟩ := lwins_ok (n := n) (A := A) (H := i + 1) (r := r) ⟨R.n2, R.n7, by omega, by omega, R.r1, R.r2⟩
      have hg := hl w hw
      have ei : ((i + 1 : Nat) : Int) = 1 + (i : Int) := by omega
      simp only [rv, ei] at e
      cases hc : wb n A r (i + 1) 0 w with
      | true =>
        rw [hc] at hg
        exact ⟨_, by simp [G, e, pIxD, keysP, keyP, hg]; rfl, _, rfl⟩
      | false =>
        rw [hc] at hg
        exact ⟨_, by simp [G, e, pIxD, keysP, keyP, hg]; rfl, _, rfl⟩) none _ ⟨s4, rfl⟩
  subst eρ
  refine ⟨s4', ?_⟩
  have e0' := e0
  rw [e_sfor, e0, pure_bind]
  rw [List.foldl_reverse, foldr_find] at e
  exact e
theorem loop2 (R : Rv n A H r) (hA : A.length ≤ n) {s0 s2 s4 s5 s7 s8 s13 s14 s15 s16 : Slot} : ∃ s7' s15', sFor (iSeq (gB m__law_lots (gCons (gLc (iRange (gCons (gVar 9) gNil)) (tgName 16) (gTB (gBin pNotIn (gVarB 16) (gVarB 10))) (gVar 16) [16]) gNil))) (tgName 7) (sSeq (sAsg (gTup (gCons (gVar 9) (gCons (gB pTuple (gCons (gB pSorted (gCons (gBin pAdd (gVarB 10) (gVarB 7)) gNil)) gNil)) (gCons (gVar 11) (gCons (gVar 12) gNil))))) (tgName 15))
  (sIf (gAndT (gTB (gBin (pIsN false) (gVarB 6) (gC .non))) (gTB (gBin pEq (gB pLen (gCons (gB m__law_barring (gCons (gVar 15) gNil)) gNil)) (gC (.int 0))))) (sAsg (gTup (gCons (gB pLen (gCons (gVarB 7) gNil)) (gCons (gVar 7) gNil))) (tgName 6)) sNx)) (G n A H r s0 s2 s4 s5 (.fz .non) s7 s8 s13 s14 s15 s16) =
    pure (.nx (G n A H r s0 s2 s4 s5 (.fz (ans ((lots (freeOf n A)).find? (good n A H r)))) s7' s8 s13 s14 s15' s16)) := by
  have n7 := R.n7
  have e0 : iSeq (gB m__law_lots (gCons (gLc (iRange (gCons (gVar 9) gNil)) (tgName 16) (gTB (gBin pNotIn (gVarB 16) (gVarB 10))) (gVar 16) [16]) gNil)) (G n A H r s0 s2 s4 s5 (.fz .non) s7 s8 s13 s14 s15 s16) = pure ((lots (freeOf n A)).map iT) := by
    have g : -4611686018427387904 ≤ (n : Int) ∧ (n : Int) ≤ 16777216 := by omega
    have hl := all_lots_ok (free := freeOf n A) (by have := free_len (n := n) (A := A); omega)
    rw [← law_lots_is] at hl
    simp only [iL] at hl
    simp [G, g]
    rw [free_lc (A := A) (fun i => by simp [iT, v_ninI])]
    simp [hl]
  obtain ⟨ρ', e, s7', s15', eρ⟩ := fold_any (I := fun (acc : Option (List Int)) ρ => ∃ s7 s15, ρ = G n A H r s0 s2 s4 s5 (.fz (ans acc)) s7 s8 s13 s14 s15 s16) (gt := tgName 7)
    (gb := (sSeq (sAsg (gTup (gCons (gVar 9) (gCons (gB pTuple (gCons (gB pSorted (gCons (gBin pAdd (gVarB 10) (gVarB 7)) gNil)) gNil)) (gCons (gVar 11) (gCons (gVar 12) gNil))))) (tgName 15))
  (sIf (gAndT (gTB (gBin (pIsN false) (gVarB 6) (gC .non))) (gTB (gBin pEq (gB pLen (gCons (gB m__law_barring (gCons (gVar 15) gNil)) gNil)) (gC (.int 0))))) (sAsg (gTup (gCons (gB pLen (gCons (gVarB 7) gNil)) (gCons (gVar 7) gNil))) (tgName 6)) sNx)))
    (g := first (good n A H r)) (φ := iT) (l := lots (freeOf n A)) (by
      rintro x hx acc ρ ⟨s7, s15, rfl⟩
      have ha := add_lot hA n7 hx
      have hs : pSorted [iT (A ++ x)] = pure (iL (srt (A ++ x))) := sortP_ints (A ++ x)
      have hb := lbarring (n := n) (A := srt (A ++ x)) (H := H) (r := r) ⟨R.n2, R.n7, R.h1, R.h12, R.r1, R.r2⟩
      have ht : pTuple [iL (srt (A ++ x))] = pure (iT (srt (A ++ x))) := rfl
      have hlen : pLen [iT (bars n (srt (A ++ x)) H r)] = pure (.int (bars n (srt (A ++ x)) H r).length) := by simp [iT]
      have hlen2 : pLen [iT x] = pure (.int x.length) := by simp [iT]
      simp only [rv] at hb
      refine ⟨G n A H r s0 s2 s4 s5 (.fz (ans (first (good n A H r) acc x))) (.fz (iT x)) s8 s13 s14 (.fz (rv n (srt (A ++ x)) H r)) s16, ?_, _, _, rfl⟩
      cases acc with
      | some y => simp [G, ha, hs, ht, hb, ans, isNon, first, rv]
      | none =>
        cases hg : (bars n (srt (A ++ x)) H r) with
        | nil =>
          rw [hg] at hlen hb
          simp [G, ha, hs, ht, hb, ans, isNon, first, rv, good, hg, hlen, hlen2]
        | cons a m =>
          rw [hg] at hlen hb
          have g0 : ¬ ((m.length : Int) + 1 = 0) := by omega
          simp [G, ha, hs, ht, hb, ans, isNon, first, rv, good, hg, hlen, hlen2, g0]) none _ ⟨s7, s15, rfl⟩
  subst eρ
  refine ⟨s7', s15', ?_⟩
  rw [e_sfor, e0, pure_bind]
  rw [foldl_first] at e
  exact e
theorem ok_step {a b : SM} {ρ ρ' : Ev} {Q : Out → HS → Prop} {h : HS} (e : a ρ = pure (.nx ρ')) (k : Ok (b ρ') Q h) : Ok (sSeq a b ρ) Q h := by
  rw [e_seq, e, pure_bind]
  exact k
end
def Inv (ρ : Ev) (h : HS) : Prop := ∃ s0 s2 s3 s4 s5 s6 s7 s8 s9 s10 s11 s12 s13 s14 s15 s16, ρ = [s0, .fz .hand, s2, s3, s4, s5, s6, s7, s8, s9, s10, s11, s12, s13, s14, s15, s16] ∧ HandOk h
theorem plain_ints (A : List Int) : (A.map PV.int).all (plainD 2) = true := by
  rw [List.all_map]
  exact List.all_eq_true.mpr fun _ _ => rfl
theorem plain_iT (A : List Int) : plainD 3 (iT A) = true := plain_ints A
theorem is_same {p : PV} (h : plainD 3 p = true) : m__law_is 4 [p, p] = pure (.bl true) := is_refl 3 _ h
theorem lap_ok {p : PV} {ρ : Ev} {h : HS} (hI : Inv ρ h) : Ok (tgName 2 p ρ >>= lap) (fun o h' => ∃ ρ', (o = .nx ρ' ∨ o = .ct ρ') ∧ Inv ρ' h') h := by
  obtain ⟨s0, s2, s3, s4, s5, s6, s7, s8, s9, s10, s11, s12, s13, s14, s15, s16, rfl, hh⟩ := hI
  rw [e_tname, pure_bind]
  unfold lap
  refine ok_set_seq (fun p h' => ∃ (n : Nat) (A : List Int) (H r : Nat), p = rv n A H r ∧ Rv n A H r ∧ LotOk n A ∧ A.length ≤ n ∧ HandOk h') (by simpa using river_ok hh) ?_
  rintro _ h1 ⟨n, A, H, r, rfl, R, hL, hA, hh1⟩
  have n2 := R.n2
  have n7 := R.n7
  refine ok_step (ρ' := G n A H r s0 (.fz p) s4 s5 s6 s7 s8 s13 s14 s15 s16) (by simp [G, rv]) ?_
  rw [e_seq]
  refine Ok.bind' (P := fun o h' => ∃ w : Nat, w < n ∧ o = .nx (G n A H r s0 (.fz p) s4 s5 s6 s7 s8 (.fz (.int w)) (.fz .non) s15 s16) ∧ HandOk h') ?_ ?_
  · simp [G]
    refine (draw_ok hh1 (by omega) (by omega)).mono fun p h2 ⟨q, e, q0, q1, hh2⟩ => ?_
    subst e
    obtain ⟨w, rfl⟩ : ∃ w : Nat, q = w := ⟨q.toNat, by omega⟩
    exact ⟨w, by omega, rfl, hh2⟩
  rintro _ h2 ⟨w, hw, rfl, hh2⟩
  obtain ⟨s4', e1⟩ := loop1 (A := A) (s0 := s0) (s2 := .fz p) (s4 := s4) (s5 := s5) (s6 := s6) (s7 := s7) (s8 := s8) (s15 := s15) (s16 := s16) R hw
  refine ok_step e1 ?_
  have t1 : m__law_is 4 [leastP ((List.range H).find? fun i => wb n A r (i + 1) 0 w), leastP ((List.range H).find? fun i => wb n A r (i + 1) 0 w)] = pure (.bl true) := is_same (by
    cases (List.range H).find? fun i => wb n A r (i + 1) 0 w <;> rfl)
  generalize hlst : leastP ((List.range H).find? fun i => wb n A r (i + 1) 0 w) = lst at t1
  have q1 := least_ok R hL hw
  rw [hlst] at q1
  refine ok_step (ρ' := G n A H r s0 (.fz p) s4' s5 s6 s7 s8 (.fz (.int w)) (.fz lst) s15 s16) (by simp [G, q1, t1]) ?_
  refine ok_step (ρ' := G n A H r s0 (.fz p) s4' (.fz (iT (bars n A H r))) s6 s7 s8 (.fz (.int w)) (.fz lst) s15 s16) (by simp [G, lbarring R]) ?_
  have t2 := is_same (plain_iT (bars n A H r))
  refine ok_step (ρ' := G n A H r s0 (.fz p) s4' (.fz (iT (bars n A H r))) s6 s7 s8 (.fz (.int w)) (.fz lst) s15 s16) (by simp [G, barring R hL, t2]) ?_
  refine ok_step (ρ' := G n A H r s0 (.fz p) s4' (.fz (iT (bars n A H r))) (.fz .non) s7 s8 (.fz (.int w)) (.fz lst) s15 s16) (by simp [G]) ?_
  obtain ⟨s7', s15', e2⟩ := loop2 (A := A) (s0 := s0) (s2 := .fz p) (s4 := s4') (s5 := .fz (iT (bars n A H r))) (s7 := s7) (s8 := s8) (s13 := .fz (.int w)) (s14 := .fz lst) (s15 := s15) (s16 := s16) R hA
  refine ok_step e2 ?_
  have q3 := most_ok R hL hA
  generalize (lots (freeOf n A)).find? (good n A H r) = best at q3
  have t3 : m__law_is 4 [ans best, ans best] = pure (.bl true) := is_same (by
    cases best with
    | none => rfl
    | some x =>
      show ([PV.int x.length, iT x].all (plainD 2)) = true
      have := plain_ints x
      simp [plainD, iT])
  refine ok_step (ρ' := G n A H r s0 (.fz p) s4' (.fz (iT (bars n A H r))) (.fz (ans best)) s7' s8 (.fz (.int w)) (.fz lst) s15' s16) (by simp [G, q3, t3]) ?_
  refine ok_set_seq (fun p h' => ∃ B : List Int, p = iT B ∧ LotOk n B ∧ (∀ b ∈ A, b ∈ B) ∧ HandOk h') ?_ ?_
  · have g : -4611686018427387904 ≤ (n : Int) ∧ (n : Int) ≤ 16777216 := by omega
    simp [G, g, rng0]
    refine (ok_lcM (I := HandOk) (must := fun i : Nat => (i : Int) ∈ A) (φ := fun i : Nat => PV.int i) (e := fun i : Nat => PV.int i) hh2 fun i _ h hI => ?_).mono fun ys h3 ⟨m, hm, hc, e, hh3⟩ => ?_
    · refine ⟨_, rfl, ?_, rfl⟩
      by_cases hi : (i : Int) ∈ A
      · simp [iT, v_inI, hi, hI]
      · simp [iT, v_inI, hi]
        refine (draw_ok hI (by decide) (by decide)).bind' fun p h4 ⟨r, e, r0, r2, hh4⟩ => ?_
        subst e
        simp [hh4]
    · subst e
      refine ⟨m.map fun (i : Nat) => (i : Int), ?_, LotOk.of_sub hm, fun b hb => ?_, hh3⟩
      · simp [iT]
      · obtain ⟨b0, b1⟩ := hL.bd b hb
        have e : ((b.toNat : Nat) : Int) = b := by omega
        exact List.mem_map.mpr ⟨b.toNat, hc _ (List.mem_range.mpr (by omega)) (by rw [e]; exact hb), e⟩
  rintro _ h3 ⟨B, rfl, hB, hAB, hh3⟩
  have q4 := with_ok R hL hB
  have t4 : m__law_is 4 [rv n B H r, rv n B H r] = pure (.bl true) := is_same (by
    show ([PV.int n, iT B, .int H, .int r].all (plainD 2)) = true
    simp [plainD, iT])
  have t4' : m__law_is 4 [rv n B H r, .tup [.int n, iT B, .int H, .int r]] = pure (.bl true) := t4
  refine ok_step (ρ' := (G n A H r s0 (.fz p) s4' (.fz (iT (bars n A H r))) (.fz (ans best)) s7' (.fz (iT B)) (.fz (.int w)) (.fz lst) s15' s16)) (by simp [G, q4, t4']) ?_
  have q5 := barring (A := B) ⟨R.n2, R.n7, R.h1, R.h12, R.r1, R.r2⟩ hB
  have e5 : ∀ s16, lcF (tgName 16) gYes (gBin pIn (gVarB 16) (gVarB 5)) (G n A H r s0 (.fz p) s4' (.fz (iT (bars n A H r))) (.fz (ans best)) s7' (.fz (iT B)) (.fz (.int w)) (.fz lst) s15' s16) ((bars n B H r).map PV.int) = pure ((bars n B H r).map fun _ => PV.bl true) := fun s16 => by
    rw [lc_all (ρ' := fun q : Int => G n A H r s0 (.fz p) s4' (.fz (iT (bars n A H r))) (.fz (ans best)) s7' (.fz (iT B)) (.fz (.int w)) (.fz lst) s15' (.fz (.int q))) (e := fun _ => PV.bl true) (by
      intro q hq
      refine ⟨rfl, ?_⟩
      have := bars_mono (n := n) (H := H) (r := r) hAB q hq
      simp [G, iT, v_inI, this])]
  have hall : ((bars n B H r).all fun _ => true) = true := List.all_eq_true.mpr fun _ _ => rfl
  have fin5 : (sIf (gNotT (gTru (gB pAll (gCons (gLc (iSeq (gB m_barring_places (gCons (gB m_with_hides (gCons (gVar 3) (gCons (gVar 8) gNil))) gNil))) (tgName 16) gYes (gBin pIn (gVarB 16) (gVarB 5)) [16]) gNil)))) (sRet (gC (.bl false))) sNx) (G n A H r s0 (.fz p) s4' (.fz (iT (bars n A H r))) (.fz (ans best)) s7' (.fz (iT B)) (.fz (.int w)) (.fz lst) s15' s16) = pure (.nx (G n A H r s0 (.fz p) s4' (.fz (iT (bars n A H r))) (.fz (ans best)) s7' (.fz (iT B)) (.fz (.int w)) (.fz lst) s15' s16)) := by
    have e5' := e5 .un
    unfold G at e5'
    simp [G, q4, q5]
    simp only [iT] at e5' ⊢
    simp [e5', v_all, hall]
  rw [fin5]
  exact Ok.pure ⟨_, .inl rfl, _, _, _, _, _, _, _, _, _, _, _, _, _, _, _, _, rfl, hh3⟩
theorem law_true (ns : List Int) (h : ns.length ≤ 63) : ∃ hs', m_law [.scr ns] [] = .ok (.bl true, hs') := by
  obtain ⟨cs, hc, e⟩ := hand_ok (ns := ns)
  have h0 : b0_law (ev0 17 [.scr ns]) = pure (.nx [.fz (.scr ns), .ow (.lst [.lst (cs.map PV.int), .int 0, .int 0, .int (97 + 5 * cs.length), .int 0]), .un, .un, .un, .un, .un, .un, .un, .un, .un, .un, .un, .un, .un, .un, .un]) := by
    unfold b0_law
    show sOwn _ 1 [.fz (.scr ns), .un, .un, .un, .un, .un, .un, .un, .un, .un, .un, .un, .un, .un, .un, .un, .un] = _
    simp [e]
  refine law_run (b := b_law) h0 rfl rfl ?_
  rw [b_law_is]
  refine ok_seq (P := Inv) ?_ ?_
  · simp only [e_sfor, e_range, e_cons, e_C, e_nil, pure_bind]
    rw [guard_pos (by decide), pure_bind]
    refine (ok_for (I := Inv) ⟨_, _, _, _, _, _, _, _, _, _, _, _, _, _, _, _, rfl, hand_start cs _ hc⟩ fun p _ ρ h hI => lap_ok hI).mono fun o h k => k
  · intro ρ h _
    simp
end SLP

end
open PySem PySem.W PyProof.Rows
set_option maxHeartbeats 0 in
theorem PySem.Challenge.cw_siegeworks_k82_whole_hours_and_hides_holds : PySem.Challenge.rw_siegeworks_k82_whole_hours_and_hides.Holds := by
  w_on; o_law; k_head; (case hw => w_witness2)
  k_fill
  refine L2.walk_of (l := PySem.Challenge.rw_siegeworks_k82_whole_hours_and_hides) (n := 63) (k := 8) (x := "script") (CX := fun _ => L2.CX0) (sp := fun w => SL.spN _ SLP.m_law) rfl (by decide) rfl ⟨rfl, by decide, by decide⟩ (fun w h Y => PySem.W.kIn_of Y) ?F (fun _ _ a ns hl hO hS => SL.law_sp hl hO hS (SLP.law_true ns hl)) (fun _ _ _ _ _ h => h)
  case F =>
    intro w mg fa h KX G hmg
    refine' SLP.all_mk KX G hmg ?babs ?ball ?bany ?bbool ?bdict ?bint ?bisinstance ?blen ?blist ?brange ?bsorted ?bstr ?btuple ?bzip ?cMOST_PLACES ?cLEAST_PLACES ?cMOST_HOURS ?cMOST_REACH ?cBOAT ?cWATCH ?ais_integer ?lis_integer ?dis_integer ?eis_integer ?ais_within ?lis_within ?dis_within ?eis_within ?ais_sized ?lis_sized ?dis_sized ?eis_sized ?ais_lot ?lis_lot ?dis_lot ?eis_lot ?aall_lots ?lall_lots ?dall_lots ?eall_lots ?ais_river ?lis_river ?dis_river ?eis_river ?acheck_river ?lcheck_river ?dcheck_river ?echeck_river ?ais_through ?lis_through ?dis_through ?eis_through ?ais_over ?lis_over ?dis_over ?eis_over ?araw_moves ?lraw_moves ?draw_moves ?eraw_moves ?araw_behind ?lraw_behind ?draw_behind ?eraw_behind ?athrough_stands ?lthrough_stands ?dthrough_stands ?ethrough_stands ?acheck_place ?lcheck_place ?dcheck_place ?echeck_place ?aleast_hours_for ?lleast_hours_for ?dleast_hours_for ?eleast_hours_for ?araw_barring ?lraw_barring ?draw_barring ?eraw_barring ?abarring_places ?lbarring_places ?dbarring_places ?ebarring_places ?araw_hides ?lraw_hides ?draw_hides ?eraw_hides ?amost_hides ?lmost_hides ?dmost_hides ?emost_hides ?awith_hides ?lwith_hides ?dwith_hides ?ewith_hides ?a_law_hand ?l_law_hand ?d_law_hand ?e_law_hand ?a_law_draw ?l_law_draw ?d_law_draw ?e_law_draw ?a_law_river ?l_law_river ?d_law_river ?e_law_river ?a_law_end ?l_law_end ?d_law_end ?e_law_end ?a_law_moves ?l_law_moves ?d_law_moves ?e_law_moves ?a_law_next ?l_law_next ?d_law_next ?e_law_next ?a_law_wins ?l_law_wins ?d_law_wins ?e_law_wins ?a_law_is ?l_law_is ?d_law_is ?e_law_is ?a_law_barring ?l_law_barring ?d_law_barring ?e_law_barring ?a_law_lots ?l_law_lots ?d_law_lots ?e_law_lots ?alaw ?llaw ?dlaw ?elaw
    (case babs => k_is)
    (case ball => k_is)
    (case bany => k_is)
    (case bbool => k_is)
    (case bdict => k_is)
    (case bint => k_is)
    (case bisinstance => k_is)
    (case blen => k_is)
    (case blist => k_is)
    (case brange => k_is)
    (case bsorted => k_is)
    (case bstr => k_is)
    (case btuple => k_is)
    (case bzip => k_is)
    (case cMOST_PLACES => k_is)
    (case cLEAST_PLACES => k_is)
    (case cMOST_HOURS => k_is)
    (case cMOST_REACH => k_is)
    (case cBOAT => k_is)
    (case cWATCH => k_is)
    (case ais_integer => k_is)
    (case lis_integer => k_is)
    (case dis_integer => k_is)
    (case eis_integer => k_is)
    (case ais_within => k_is)
    (case lis_within => k_is)
    (case dis_within => k_is)
    (case eis_within => k_is)
    (case ais_sized => k_is)
    (case lis_sized => k_is)
    (case dis_sized => k_is)
    (case eis_sized => k_is)
    (case ais_lot => k_is)
    (case lis_lot => k_is)
    (case dis_lot => k_is)
    (case eis_lot => k_is)
    (case aall_lots => k_is)
    (case lall_lots => k_is)
    (case dall_lots => k_is)
    (case eall_lots => k_is)
    (case ais_river => k_is)
    (case lis_river => k_is)
    (case dis_river => k_is)
    (case eis_river => k_is)
    (case acheck_river => k_is)
    (case lcheck_river => k_is)
    (case dcheck_river => k_is)
    (case echeck_river => k_is)
    (case ais_through => k_is)
    (case lis_through => k_is)
    (case dis_through => k_is)
    (case eis_through => k_is)
    (case ais_over => k_is)
    (case lis_over => k_is)
    (case dis_over => k_is)
    (case eis_over => k_is)
    (case araw_moves => k_is)
    (case lraw_moves => k_is)
    (case draw_moves => k_is)
    (case eraw_moves => k_is)
    (case araw_behind => k_is)
    (case lraw_behind => k_is)
    (case draw_behind => k_is)
    (case eraw_behind => k_is)
    (case athrough_stands => k_is)
    (case lthrough_stands => k_is)
    (case dthrough_stands => k_is)
    (case ethrough_stands => k_is)
    (case acheck_place => k_is)
    (case lcheck_place => k_is)
    (case dcheck_place => k_is)
    (case echeck_place => k_is)
    (case aleast_hours_for => k_is)
    (case lleast_hours_for => k_is)
    (case dleast_hours_for => k_is)
    (case eleast_hours_for => k_is)
    (case araw_barring => k_is)
    (case lraw_barring => k_is)
    (case draw_barring => k_is)
    (case eraw_barring => k_is)
    (case abarring_places => k_is)
    (case lbarring_places => k_is)
    (case dbarring_places => k_is)
    (case ebarring_places => k_is)
    (case araw_hides => k_is)
    (case lraw_hides => k_is)
    (case draw_hides => k_is)
    (case eraw_hides => k_is)
    (case amost_hides => k_is)
    (case lmost_hides => k_is)
    (case dmost_hides => k_is)
    (case emost_hides => k_is)
    (case awith_hides => k_is)
    (case lwith_hides => k_is)
    (case dwith_hides => k_is)
    (case ewith_hides => k_is)
    (case a_law_hand => k_is)
    (case l_law_hand => k_is)
    (case d_law_hand => k_is)
    (case e_law_hand => k_is)
    (case a_law_draw => k_is)
    (case l_law_draw => k_is)
    (case d_law_draw => k_is)
    (case e_law_draw => k_is)
    (case a_law_river => k_is)
    (case l_law_river => k_is)
    (case d_law_river => k_is)
    (case e_law_river => k_is)
    (case a_law_end => k_is)
    (case l_law_end => k_is)
    (case d_law_end => k_is)
    (case e_law_end => k_is)
    (case a_law_moves => k_is)
    (case l_law_moves => k_is)
    (case d_law_moves => k_is)
    (case e_law_moves => k_is)
    (case a_law_next => k_is)
    (case l_law_next => k_is)
    (case d_law_next => k_is)
    (case e_law_next => k_is)
    (case a_law_wins => k_is)
    (case l_law_wins => k_is)
    (case d_law_wins => k_is)
    (case e_law_wins => k_is)
    (case a_law_is => k_is)
    (case l_law_is => k_is)
    (case d_law_is => k_is)
    (case e_law_is => k_is)
    (case a_law_barring => k_is)
    (case l_law_barring => k_is)
    (case d_law_barring => k_is)
    (case e_law_barring => k_is)
    (case a_law_lots => k_is)
    (case l_law_lots => k_is)
    (case d_law_lots => k_is)
    (case e_law_lots => k_is)
    (case alaw => k_is)
    (case llaw => k_is)
    (case dlaw => k_is)
    (case elaw => k_is)

